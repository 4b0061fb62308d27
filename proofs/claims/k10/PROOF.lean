import PyProof.Rows.All
import KE.LtData
import KE.DataMinMax
import KE.SortKeyed
import KE.DataEq
import PyProof.ReprRoads
import HandS.ForMost
import HandS.Exc
import HandS.ExcOwn
import HandS.DictComp
import HandS.Conv
import HandS.Flow
import HandS.TupAny
import HandS.TupMul
import HandS.TupLen
import HandS.Style
import HandS.Star
import HandS.IsInst
import HandS.WordsDict
import KE.DataCmp
import HandS.RevTup
import HandS.Iter
import HandS.More
import HandS.Walk
import HandS.SetKeys
import HandS.Defaults
import HandS.HeadEnd
import HandS.HotCalls
import HandS.ExcIs
import HandS.Head0
import HandS.Head1
import HandS.Head2
import HandS.HeadHook1
import HandS.HeadHook2
import PyProof.StrLawsRepr
import PyProof.FitsInt
import PySem.Challenge.RW_relayward_k10_whole_faults_of_events
set_option autoImplicit false
set_option linter.all false
set_option maxRecDepth 100000
/-! PL1: a small language of pure data and its evaluator (own work). -/
namespace PI
open PySem

/-- data, with the containers that one name alone holds told apart -/
inductive OD where
  | frz (d : PyData)
  | lst (xs : List OD)
  | dct (kvs : List (PyData × OD))
  deriving Inhabited
mutual
def OD.er : OD → PyData
  | .frz d => d
  | .lst xs => .list (ers xs)
  | .dct kvs => .dict (erk kvs)
def ers : List OD → List PyData
  | [] => []
  | x :: xs => x.er :: ers xs
def erk : List (PyData × OD) → List (PyData × PyData)
  | [] => []
  | (k, x) :: r => (k, x.er) :: erk r
end
/-- all children are frozen -/
def OD.isFrz : OD → Bool
  | .frz _ => true
  | _ => false
def OD.flat : OD → Bool
  | .frz _ => true
  | .lst xs => xs.all OD.isFrz
  | .dct kvs => kvs.all fun q => q.2.isFrz
def fl (xs : List PyData) : OD := .lst (xs.map OD.frz)
def fd (kvs : List (PyData × PyData)) : OD := .dct (kvs.map fun q => (q.1, OD.frz q.2))

/-- a slot -/
inductive SV where
  | unset
  | val (d : PyData)
  | own (o : OD)
  | bor (k : Nat) (o : OD)
  | lck (k : Nat) (o : OD)
  | exn (c : Nat) (a : Option PyData)
  | scr (ns : List Int)
  deriving Inhabited
abbrev Env := List SV
inductive Res (α : Type) where
  | ok (a : α) (ρ : Env)
  | exc (c : Nat) (a : Option PyData) (ρ : Env)
  | stuck
abbrev M (α : Type) := Env → Res α
@[inline] def ret {α : Type} (a : α) : M α := fun ρ => .ok a ρ
@[inline] def bnd {α β : Type} (x : M α) (f : α → M β) : M β := fun ρ => match x ρ with
  | .ok a ρ' => f a ρ'
  | .exc c a ρ' => .exc c a ρ'
  | .stuck => .stuck
@[inline] def lif {α : Type} (x : Option α) : M α := fun ρ => match x with
  | some a => .ok a ρ
  | none => .stuck
instance : Monad M where
  pure := ret
  bind := bnd

def lim : Nat := 16777216

/-! ### operations of data -/
inductive T where
  | int | bool | str | list | tuple | dict
  deriving DecidableEq
def isT : T → PyData → Bool
  | .int, .int _ => true
  | .int, .bool _ => true
  | .bool, .bool _ => true
  | .str, .str _ => true
  | .list, .list _ => true
  | .tuple, .tuple _ => true
  | .dict, .dict _ => true
  | _, _ => false
@[simp] def lenD : PyData → Option Int
  | .str x => if x.cps.size ≤ lim then some x.cps.size else none
  | .list xs => some xs.length
  | .tuple xs => some xs.length
  | .dict xs => some xs.length
  | _ => none
/-- keys of dicts -/
def atomK : PyData → Bool
  | .int _ => true
  | .str _ => true
  | _ => false
def isK : PyData → Bool
  | .int _ => true
  | .str _ => true
  | .tuple xs => xs.all atomK
  | _ => false
mutual
def eqS : PyData → PyData → Bool
  | .none, .none => true
  | .bool a, .bool b => a == b
  | .int a, .int b => a == b
  | .str a, .str b => a == b
  | .list a, .list b => eqSs a b
  | .tuple a, .tuple b => eqSs a b
  | .dict a, .dict b => eqSk a b
  | _, _ => false
def eqSs : List PyData → List PyData → Bool
  | [], [] => true
  | x :: xs, y :: ys => eqS x y && eqSs xs ys
  | _, _ => false
def eqSk : List (PyData × PyData) → List (PyData × PyData) → Bool
  | [], [] => true
  | (a, b) :: xs, (c, d) :: ys => eqS a c && (eqS b d && eqSk xs ys)
  | _, _ => false
end
def look {α : Type} (kvs : List (PyData × α)) (k : PyData) : Option α := (kvs.find? fun q => eqS q.1 k).map (·.2)
def put {α : Type} (kvs : List (PyData × α)) (k : PyData) (v : α) : List (PyData × α) :=
  if kvs.any fun q => eqS q.1 k then kvs.map fun q => if eqS q.1 k then (q.1, v) else q else kvs ++ [(k, v)]
def drop {α : Type} (kvs : List (PyData × α)) (k : PyData) : List (PyData × α) := kvs.filter fun q => !eqS q.1 k
/-- a key that may be asked of these keys: one kind in a dict -/
def kfit {α : Type} (kvs : List (PyData × α)) (k : PyData) : Bool := isK k && kvs.all fun q => atomK q.1 == atomK k

def plainD : PyData → Bool := PyData.plain
def eqD (a b : PyData) : Option Bool := if a.plain && (b.plain && (decide (a.depth ≤ 100) || decide (b.depth ≤ 100))) then some (PyData.eqv a b) else none
def ltD (a b : PyData) : Option Bool := if a.plain && (b.plain && (PySem.W.alike a b && (!(eqS a .none) && (decide (a.depth ≤ 100) || decide (b.depth ≤ 100))))) then some (PySem.W.dataLt a b) else none
def subAt (a b : List Nat) : Bool := (List.range (b.length + 1)).any fun i => a.isPrefixOf (b.drop i)
/-- one sign in a text -/
def inD (x c : PyData) : Option Bool := match c with
  | .list xs => if x.plain && (xs.all PyData.plain && decide (x.depth ≤ 100)) then some (xs.any fun y => PyData.eqv y x) else none
  | .tuple xs => if x.plain && (xs.all PyData.plain && decide (x.depth ≤ 100)) then some (xs.any fun y => PyData.eqv y x) else none
  | .dict kvs => if kfit kvs x then some (look kvs x).isSome else none
  | .str z => (match x with
    | .str y => if y.cps.size = 1 then some (z.cps.toList.any fun c => [c] == y.cps.toList) else none
    | _ => none)
  | _ => none
def ix (n : Nat) (i : Int) : Option Nat := if 0 ≤ i then (if i < n then some i.toNat else none) else if -(n : Int) ≤ i then some (i + n).toNat else none
def smallI (i : Int) : Bool := decide (-(2 ^ 62) ≤ i) && decide (i < 2 ^ 62)
def idxD (c i : PyData) : Option PyData := match c with
  | .list xs => (match i with
    | .int i => if smallI i then (ix xs.length i).bind (xs[·]?) else none
    | _ => none)
  | .tuple xs => (match i with
    | .int i => if smallI i then (ix xs.length i).bind (xs[·]?) else none
    | _ => none)
  | .str x => (match i with
    | .int i => if smallI i && decide (x.cps.size ≤ lim) then (ix x.cps.size i).bind fun j => (x.cps[j]?).map fun c => .str ⟨#[c]⟩ else none
    | _ => none)
  | .dict kvs => if kfit kvs i then look kvs i else none
  | _ => none
def sx (n d : Nat) : Option Int → Nat
  | none => d
  | some v => if v < 0 then (v + (n : Int)).toNat else min v.toNat n
def cutL {α : Type} (xs : List α) (lo hi : Option Int) : List α := (xs.drop (sx xs.length 0 lo)).take (sx xs.length xs.length hi - sx xs.length 0 lo)
def sliD (c : PyData) (lo hi : Option Int) : Option OD := match c with
  | .list xs => some (fl (cutL xs lo hi))
  | .tuple xs => some (.frz (.tuple (cutL xs lo hi)))
  | .str x => if x.cps.size ≤ lim then some (.frz (.str ⟨(cutL x.cps.toList lo hi).toArray⟩)) else none
  | _ => none

inductive B2 where
  | add | sub | mul | fdiv | mod | pow | eq | ne | lt | le | gt | ge | isin | notin
  deriving DecidableEq
def b64 (i : Int) : Bool := decide (-(2 ^ 64) < i) && decide (i < 2 ^ 64)
@[simp] def b2 (o : B2) (a b : PyData) : Option OD := match o with
  | .add => (match a, b with
    | .int i, .int j => some (.frz (.int (i + j)))
    | .str x, .str y => if x.cps.size + y.cps.size ≤ lim then some (.frz (.str (x ++ y))) else none
    | .list xs, .list ys => if xs.length + ys.length ≤ lim then some (fl (xs ++ ys)) else none
    | .tuple xs, .tuple ys => if xs.length + ys.length ≤ lim then some (.frz (.tuple (xs ++ ys))) else none
    | _, _ => none)
  | .sub => (match a, b with
    | .int i, .int j => some (.frz (.int (i - j)))
    | _, _ => none)
  | .mul => (match a, b with
    | .int i, .int j => if b64 i || b64 j then some (.frz (.int (i * j))) else none
    | .list xs, .int k => if smallI k && decide (xs.length * k.toNat ≤ lim) then some (fl (List.replicate k.toNat xs).flatten) else none
    | .tuple xs, .int k => if decide (2 ≤ k) && (decide (k ≤ 1000) && (decide (xs.length ≤ 1000) && decide (0 < xs.length))) then some (.frz (.tuple (List.replicate k.toNat xs).flatten)) else none
    | .str x, .int k => if smallI k && decide (x.cps.size * k.toNat ≤ lim) then some (.frz (.str ⟨(List.replicate k.toNat x.cps.toList).flatten.toArray⟩)) else none
    | _, _ => none)
  | .fdiv => (match a, b with
    | .int i, .int j => if 0 < j ∧ j < 1073741824 then some (.frz (.int (i / j))) else none
    | _, _ => none)
  | .mod => (match a, b with
    | .int i, .int j => if 0 < j then some (.frz (.int (i % j))) else none
    | _, _ => none)
  | .pow => (match a, b with
    | .int i, .int j => if 0 ≤ j ∧ j ≤ 1000000 ∧ i.natAbs < 2 ^ 64 then some (.frz (.int (i ^ j.toNat))) else none
    | _, _ => none)
  | .eq => (eqD a b).map fun r => .frz (.bool r)
  | .ne => (eqD a b).map fun r => .frz (.bool (!r))
  | .lt => (ltD a b).map fun r => .frz (.bool r)
  | .gt => (ltD b a).map fun r => .frz (.bool r)
  | .le => (ltD b a).map fun r => .frz (.bool (!r))
  | .ge => (ltD a b).map fun r => .frz (.bool (!r))
  | .isin => (inD a b).map fun r => .frz (.bool r)
  | .notin => (inD a b).map fun r => .frz (.bool (!r))

@[simp] def boolsD : List PyData → Option (List Bool)
  | [] => some []
  | .bool b :: r => (boolsD r).map (b :: ·)
  | _ :: _ => none
def intsD : List PyData → Option (List Int)
  | [] => some []
  | .int b :: r => (intsD r).map (b :: ·)
  | _ :: _ => none
@[simp] def seqD : PyData → Option (List PyData)
  | .list xs => some xs
  | .tuple xs => some xs
  | _ => none

@[simp] def lstD : PyData → Option (List PyData)
  | .list xs => some xs
  | _ => none
inductive B1 where
  | len | int | abs | not | neg | isn | notn | is (t : T) | tuple | list | all | any | sum | repr | rev
  deriving DecidableEq
@[simp] def b1 (o : B1) (a : PyData) : Option OD := match o with
  | .len => (lenD a).map fun n => .frz (.int n)
  | .int => (match a with
    | .int i => some (.frz (.int i))
    | .bool b => some (.frz (.int (if b then 1 else 0)))
    | _ => none)
  | .abs => (match a with
    | .int i => some (.frz (.int (if i < 0 then -i else i)))
    | _ => none)
  | .not => (match a with
    | .bool b => some (.frz (.bool (!b)))
    | _ => none)
  | .neg => (match a with
    | .int i => some (.frz (.int (-i)))
    | _ => none)
  | .isn => some (.frz (.bool (eqS a .none)))
  | .notn => some (.frz (.bool (!eqS a .none)))
  | .is t => some (.frz (.bool (isT t a)))
  | .tuple => (seqD a).map fun xs => .frz (.tuple xs)
  | .list => (match a with
    | .list xs => some (fl xs)
    | .tuple xs => some (fl xs)
    | .dict kvs => if kvs.all fun q => atomK q.1 then some (fl (kvs.map (·.1))) else none
    | _ => none)
  | .all => (match a with
    | .list xs => (boolsD xs).map fun bs => .frz (.bool (bs.all id))
    | _ => none)
  | .any => (match a with
    | .list xs => (boolsD xs).map fun bs => .frz (.bool (bs.any id))
    | _ => none)
  | .sum => (match a with
    | .list xs => (intsD xs).map fun bs => .frz (.int bs.sum)
    | _ => none)
  | .repr => match a with
    | .none | .bool _ | .int _ | .str _ | .dict _ => none
    | a => if a.showable && (a.plain && (!a.hasDict && (decide (a.depth ≤ 100) && decide (a.shown.length ≤ lim)))) then some (.frz (.str a.shown)) else none
  | .rev => (match a with
    | .list xs => some (fl xs.reverse)
    | _ => none)


/-! ### the parts of a body's meaning -/
/-- a call's meaning: by the def's number, from its parameters' slots, the answer and the slots behind -/
abbrev Cl := Nat → List SV → Res OD
def fz (x : M OD) : M PyData := fun ρ => match x ρ with
  | .ok a ρ' => .ok a.er ρ'
  | .exc c a ρ' => .exc c a ρ'
  | .stuck => .stuck
/-- a name, frozen -/
def dv (i : Nat) : M OD := fun ρ => match ρ[i]? with
  | some (.val d) => .ok (.frz d) ρ
  | _ => .stuck
def svD : SV → Option PyData
  | .val d => some d
  | .own o => if o.flat then some o.er else none
  | .bor _ o => if o.flat then some o.er else none
  | .lck _ o => if o.flat then some o.er else none
  | _ => none
/-- a name, read and not kept -/
def cv (i : Nat) : M PyData := fun ρ => match (ρ[i]?).bind svD with
  | some d => .ok d ρ
  | none => .stuck
/-- a name that is walked: nothing of it is changed meanwhile -/
def rv (i : Nat) : M PyData := fun ρ => match ρ[i]? with
  | some (.val d) => .ok d ρ
  | some (.lck _ o) => if o.flat then .ok o.er ρ else .stuck
  | _ => .stuck
def dc (d : PyData) : M OD := ret (.frz d)
def d1 (o : B1) (x : M PyData) : M OD := bnd x fun a => lif (b1 o a)
def d2 (o : B2) (x y : M PyData) : M OD := bnd x fun a => bnd y fun b => lif (b2 o a b)
/-- the left one a name that is read behind the right one -/
def dL (i : Nat) (y : M PyData) (g : PyData → PyData → M OD) : M OD := bnd (cv i) fun _ => bnd y fun b => bnd (cv i) fun a => g a b
def d2L (o : B2) (i : Nat) (y : M PyData) : M OD := dL i y fun a b => lif (b2 o a b)
def asB (x : M PyData) : M Bool := bnd x fun a => match a with
  | .bool b => ret b
  | _ => fun _ => .stuck
def qof (x : M OD) : M Bool := asB (fz x)
def dand (x y : M OD) : M OD := bnd (qof x) fun b => if b then y else ret (.frz (.bool false))
def dor (x y : M OD) : M OD := bnd (qof x) fun b => if b then ret (.frz (.bool true)) else y
def dite (c : M Bool) (x y : M OD) : M OD := bnd c fun b => if b then x else y
def dnot (x : M OD) : M OD := bnd (qof x) fun b => ret (.frz (.bool (!b)))
def qand (x y : M Bool) : M Bool := bnd x fun b => if b then y else ret false
def qor (x y : M Bool) : M Bool := bnd x fun b => if b then ret true else y
def qnot (x : M Bool) : M Bool := bnd x fun b => ret (!b)
/-- a op b op' c -/
def dch (o p : B2) (x y z : M PyData) : M OD := bnd x fun a => bnd y fun b => bnd (qof (lif (b2 o a b))) fun k => if k then bnd z fun c => lif (b2 p b c) else ret (.frz (.bool false))
def didx (x y : M PyData) : M OD := bnd x fun a => bnd y fun b => bnd (lif (idxD a b)) fun r => ret (.frz r)
def didxL (i : Nat) (y : M PyData) : M OD := dL i y fun a b => bnd (lif (idxD a b)) fun r => ret (.frz r)
def dpart (x : Option (M PyData)) : M (Option Int) := match x with
  | none => ret none
  | some m => bnd m fun a => match a with
    | .int i => if smallI i then ret (some i) else fun _ => .stuck
    | _ => fun _ => .stuck
def dsli (x : M PyData) (lo hi : Option (M PyData)) : M OD := bnd x fun a => bnd (dpart lo) fun l => bnd (dpart hi) fun h => lif (sliD a l h)
/-- displays: (is it starred, the part) -/
def dseq : List (Bool × M PyData) → M (List PyData)
  | [] => ret []
  | (s, x) :: r => bnd x fun a => bnd (if s then lif (seqD a) else ret [a]) fun l => bnd (dseq r) fun t => ret (l ++ t)
def chk (b : Bool) : M Unit := fun ρ => if b then .ok () ρ else .stuck
def dtup (l : List (Bool × M PyData)) : M OD := bnd (dseq l) fun xs => bnd (chk (decide (xs.length ≤ lim))) fun _ => ret (.frz (.tuple xs))
def dlst (l : List (Bool × M PyData)) : M OD := bnd (dseq l) fun xs => bnd (chk (decide (xs.length ≤ lim))) fun _ => ret (fl xs)
def dd0 : M OD := ret (fd [])
/-! targets -/
def okset (ρ : Env) (i : Nat) : Bool := match ρ[i]? with
  | some (.bor _ _) => false
  | some (.lck _ _) => false
  | some _ => true
  | none => false
inductive Tg where
  | nm (i : Nat)
  | tp (ts : List Tg)
mutual
def Tg.sl : Tg → List Nat
  | .nm i => [i]
  | .tp ts => slTs ts
def slTs : List Tg → List Nat
  | [] => []
  | t :: ts => t.sl ++ slTs ts
end
mutual
def bindT : Tg → PyData → Env → Option Env
  | .nm i, d, ρ => if okset ρ i then some (ρ.set i (.val d)) else none
  | .tp ts, .tuple ds, ρ => bindTs ts ds ρ
  | .tp _, _, _ => none
def bindTs : List Tg → List PyData → Env → Option Env
  | [], [], ρ => some ρ
  | t :: ts, d :: ds, ρ => (bindT t d ρ).bind fun ρ' => bindTs ts ds ρ'
  | _, _, _ => none
end
def gT (t : Tg) (d : PyData) : M Unit := fun ρ => match bindT t d ρ with
  | some ρ' => .ok () ρ'
  | none => .stuck
/-! what is walked -/
@[simp] def itemsD : PyData → Option (List PyData)
  | .list xs => some xs
  | .tuple xs => some xs
  | .str x => if x.cps.size ≤ lim then some (x.cps.toList.map fun c => .str ⟨#[c]⟩) else none
  | _ => none
inductive Src where
  | of (x : M PyData)
  | rng1 (x : M PyData)
  | rng2 (x y : M PyData)
  | enm (x : M PyData)
  | zp (x y : M PyData)
  | itm (x : M PyData)
  | vls (x : M PyData)
  | scr (i : Nat)
def upto (lo hi : Int) : List PyData := (List.range (hi - lo).toNat).map fun i : Nat => .int (lo + (i : Int))
def enumD (k : Nat) : List PyData → List PyData
  | [] => []
  | x :: r => .tuple [.int k, x] :: enumD (k + 1) r
def zipD : List PyData → List PyData → List PyData
  | x :: xs, y :: ys => .tuple [x, y] :: zipD xs ys
  | _, _ => []
def kvsD : PyData → Option (List (PyData × PyData))
  | .dict kvs => some kvs
  | _ => none
def evS : Src → M (List PyData)
  | .of x => bnd x fun a => lif (itemsD a)
  | .rng1 x => bnd x fun a => match a with
    | .int n => if smallI n && decide (n ≤ lim) then ret (upto 0 n) else fun _ => .stuck
    | _ => fun _ => .stuck
  | .rng2 x y => bnd x fun a => bnd y fun b => match a, b with
    | .int m, .int n => if smallI m && (smallI n && decide (n - m ≤ lim)) then ret (upto m n) else fun _ => .stuck
    | _, _ => fun _ => .stuck
  | .enm x => bnd x fun a => bnd (lif (lstD a)) fun l => ret (enumD 0 l)
  | .zp x y => bnd x fun a => bnd y fun b => bnd (lif (lstD a)) fun l => bnd (lif (lstD b)) fun m => ret (zipD l m)
  | .itm x => bnd x fun a => bnd (lif (kvsD a)) fun kvs => ret (kvs.map fun q => .tuple [q.1, q.2])
  | .scr i => fun ρ => (match ρ[i]? with
    | some (.scr ns) => .ok (ns.map .int) ρ
    | _ => .stuck)
  | .vls x => bnd x fun a => bnd (lif (kvsD a)) fun kvs => ret (kvs.map (·.2))
/-! comprehensions -/
/-- the slots of a block's own names: nothing is lost of them -/
def plainS (ρ : Env) (vs : List Nat) : Bool := decide vs.Nodup && vs.all fun i => match ρ[i]? with
  | some .unset => true
  | some (.val _) => true
  | _ => false
def wipeS (ρ : Env) : List Nat → Env
  | [] => ρ
  | v :: vs => (wipeS ρ vs).set v .unset
/-- the slots vs as in ρ, the others as in ρ' -/
def backS (ρ ρ' : Env) : List Nat → Env
  | [] => ρ'
  | v :: vs => backS ρ (ρ'.set v (ρ.getD v .unset)) vs
def cM (c : Option (M Bool)) : M Bool := match c with
  | none => ret true
  | some c => c
def lcT (g : PyData → M Unit) (c : Option (M Bool)) (x : M OD) (vs : List Nat) : List PyData → M (List OD)
  | [] => ret []
  | d :: r => bnd (g d) fun _ => bnd (cM c) fun b => bnd (if b then bnd x fun o => ret [o] else ret []) fun o => fun ρ => match lcT g c x vs r (wipeS ρ vs) with
      | .ok os ρ' => .ok (o ++ os) ρ'
      | .exc c a ρ' => .exc c a ρ'
      | .stuck => .stuck
def lcB (l : List PyData) (t : Tg) (c : Option (M Bool)) (x : M OD) (vs : List Nat) : M (List OD) := fun ρ =>
  if plainS ρ vs then match lcT (gT t) c x vs l (wipeS ρ vs) with
    | .ok os ρ' => .ok os (backS ρ ρ' vs)
    | _ => .stuck
  else .stuck
def dlc (s : Src) (t : Tg) (c : Option (M Bool)) (x : M OD) (vs : List Nat) : M OD := bnd (evS s) fun l => bnd (lcB l t c x vs) fun os => if os.length ≤ lim then ret (.lst os) else fun _ => .stuck
/-- the answer frozen -/
def fzo (x : M OD) : M OD := bnd (fz x) fun a => ret (.frz a)
/-! calls -/
inductive Ag where
  | v (x : M OD)
  | r (i : Nat)
  | l (i : Nat)
def Ag.rs : Ag → List Nat
  | .r i => [i]
  | _ => []
def Ag.ls : Ag → List Nat
  | .l i => [i]
  | _ => []
/-- one thing at most is lent to be changed, and it is lent once -/
def agOk (as : List Ag) : Bool := decide ((as.flatMap Ag.rs).length ≤ 1) && (as.flatMap Ag.rs).all fun i => !(as.flatMap Ag.ls).contains i
def isCtr : OD → Bool
  | .frz _ => false
  | _ => true
@[simp] def svB (k : Nat) : SV → Option SV
  | .own o => if isCtr o then some (.bor k o) else none
  | .bor _ o => if isCtr o then some (.bor k o) else none
  | _ => none
@[simp] def svL (k : Nat) : SV → Option SV
  | .own o => some (.lck k o)
  | .bor _ o => some (.lck k o)
  | .lck _ o => some (.lck k o)
  | .val d => some (.val d)
  | .scr ns => some (.scr ns)
  | _ => none
@[simp] def SV.isLck : SV → Bool
  | .lck _ _ => true
  | _ => false
def hasS (i : Nat) : M Unit := fun ρ => match ρ[i]? with
  | some (.unset) => .stuck
  | some (.exn _ _) => .stuck
  | some _ => .ok () ρ
  | none => .stuck
/-- the arguments by value, from the left -/
def agV : List Ag → M (List (Option PyData))
  | [] => ret []
  | .v x :: r => bnd (fz x) fun a => bnd (agV r) fun l => ret (some a :: l)
  | .r i :: r => bnd (hasS i) fun _ => bnd (agV r) fun l => ret (none :: l)
  | .l i :: r => bnd (hasS i) fun _ => bnd (agV r) fun l => ret (none :: l)
/-- the parameters' slots -/
@[simp] def agP (ρ : Env) : Nat → Nat → List Ag → List (Option PyData) → Option (List SV)
  | _, _, [], [] => some []
  | k, j, .v _ :: r, some d :: l => (agP ρ k j r l).map (.val d :: ·)
  | k, j, .r i :: r, none :: l => (match (ρ[i]?).bind (svB k) with
    | some s => (agP ρ (k + 1) j r l).map (s :: ·)
    | none => none)
  | k, j, .l i :: r, none :: l => (match (ρ[i]?).bind (svL j) with
    | some s => (agP ρ k (if s.isLck then j + 1 else j) r l).map (s :: ·)
    | none => none)
  | _, _, _, _ => none
/-- what was lent comes back -/
@[simp] def agB : List Ag → List SV → Env → Option Env
  | [], [], ρ => some ρ
  | .v _ :: r, _ :: l, ρ => agB r l ρ
  | .l _ :: r, _ :: l, ρ => agB r l ρ
  | .r i :: r, .bor _ o :: l, ρ => (match ρ[i]? with
    | some (.own _) => agB r l (ρ.set i (.own o))
    | some (.bor k _) => agB r l (ρ.set i (.bor k o))
    | _ => none)
  | _, _, _ => none
def dcall (cl : Cl) (f : Nat) (as : List Ag) : M OD := bnd (agV as) fun l => fun ρ => if agOk as = false then .stuck else match agP ρ 0 0 as l with
  | none => .stuck
  | some ps => (match cl f ps with
    | .ok o ps' => (match agB as ps' ρ with
      | some ρ' => .ok o ρ'
      | none => .stuck)
    | .exc c a ps' => (match agB as ps' ρ with
      | some ρ' => .exc c a ρ'
      | none => .stuck)
    | .stuck => .stuck)
/-! statements -/
inductive Fl where
  | nx
  | rt (o : OD)
  | bk
  | ct
def seqM (x y : M Fl) : M Fl := bnd x fun f => match f with
  | .nx => y
  | f => ret f
def blk : List (M Fl) → M Fl
  | [] => ret .nx
  | [x] => x
  | x :: r => seqM x (blk r)
def putS (i : Nat) (s : SV) : M Unit := fun ρ => if okset ρ i then .ok () (ρ.set i s) else .stuck
def odS (own : Bool) (o : OD) : SV := if own then (match o with
  | .frz d => .val d
  | o => .own o) else .val o.er
def sasg (i : Nat) (own : Bool) (x : M OD) : M Fl := bnd x fun o => bnd (putS i (odS own o)) fun _ => ret .nx
def sasgT (t : Tg) (x : M PyData) : M Fl := bnd x fun d => bnd (gT t d) fun _ => ret .nx
def sex (x : M OD) : M Fl := bnd x fun _ => ret .nx
def sret (x : M OD) : M Fl := bnd x fun o => ret (.rt o)
/-- return x, x a name whose containers go with it -/
def sretv (i : Nat) : M Fl := fun ρ => match ρ[i]? with
  | some (.val d) => .ok (.rt (.frz d)) ρ
  | some (.own o) => .ok (.rt o) (ρ.set i .unset)
  | _ => .stuck
def sretN : M Fl := ret (.rt (.frz .none))
def sife (c : M Bool) (x y : M Fl) : M Fl := bnd c fun b => if b then x else y
def sraise (c : Nat) : M Fl := fun ρ => .exc c none ρ
/-- a name's containers may be shared from here on -/
def sfrz (i : Nat) : M Fl := fun ρ => match ρ[i]? with
  | some (.own o) => .ok .nx (ρ.set i (.val o.er))
  | some (.val _) => .ok .nx ρ
  | some .unset => .ok .nx ρ
  | _ => .stuck
/-- behind a turn -/
def ctl (k : M Fl) : Fl → M Fl
  | .nx => k
  | .ct => k
  | .bk => ret .nx
  | .rt o => ret (.rt o)
def forT (g : PyData → M Unit) (b : M Fl) : List PyData → M Fl
  | [] => ret .nx
  | d :: r => bnd (g d) fun _ => bnd b (ctl (forT g b r))
def sfor (s : Src) (t : Tg) (b : M Fl) : M Fl := bnd (evS s) fun l => forT (gT t) b l
/-- changes of a name's own container -/
@[simp] def svMod (f : OD → Option OD) : SV → Option SV
  | .own o => (f o).map .own
  | .bor k o => (f o).map (.bor k)
  | _ => none
def modS (i : Nat) (f : OD → Option OD) : M Unit := fun ρ => match (ρ[i]?).bind (svMod f) with
  | some s => .ok () (ρ.set i s)
  | none => .stuck
def isC (i : Nat) (f : OD → Bool) : M Unit := fun ρ => match ρ[i]? with
  | some (.own o) => if f o then .ok () ρ else .stuck
  | some (.bor _ o) => if f o then .ok () ρ else .stuck
  | _ => .stuck
def isLst : OD → Bool
  | .lst _ => true
  | _ => false
def isDct : OD → Bool
  | .dct _ => true
  | _ => false
def appO (d : PyData) : OD → Option OD
  | .lst xs => if xs.length < lim then some (.lst (xs ++ [.frz d])) else none
  | _ => none
def setO (k d : PyData) : OD → Option OD
  | .dct kvs => if kfit kvs k && decide (kvs.length < lim) then some (.dct (put kvs k (.frz d))) else none
  | .lst xs => (match k with
    | .int j => if smallI j then (ix xs.length j).map fun j => .lst (xs.set j (.frz d)) else none
    | _ => none)
  | _ => none
def dfltO (k d : PyData) : OD → Option OD
  | .dct kvs => if kfit kvs k && (atomK k && decide (kvs.length < lim)) then some (.dct (if (look kvs k).isSome then kvs else put kvs k (.frz d))) else none
  | _ => none
def sapp (i : Nat) (x : M PyData) : M Fl := bnd (isC i isLst) fun _ => bnd x fun d => bnd (modS i (appO d)) fun _ => ret .nx
def sseti (i : Nat) (k x : M PyData) : M Fl := bnd x fun d => bnd (isC i isCtr) fun _ => bnd k fun k => bnd (modS i (setO k d)) fun _ => ret .nx
/-- x.setdefault(k, d), as a statement -/
def sdflt (i : Nat) (k x : M PyData) : M Fl := bnd (isC i isDct) fun _ => bnd k fun k => bnd x fun d => bnd (modS i (dfltO k d)) fun _ => ret .nx
/-- x.pop() of a list of ints and the like: the item goes out -/
def dpop (i : Nat) : M OD := fun ρ => match ρ[i]? with
  | some (.own (.lst xs)) => (match xs.getLast? with
    | some (.frz d) => .ok (.frz d) (ρ.set i (.own (.lst xs.dropLast)))
    | _ => .stuck)
  | some (.bor k (.lst xs)) => (match xs.getLast? with
    | some (.frz d) => .ok (.frz d) (ρ.set i (.bor k (.lst xs.dropLast)))
    | _ => .stuck)
  | _ => .stuck
/-- a, b = x, y -/
def dsq : List (M OD) → M (List OD)
  | [] => ret []
  | x :: r => bnd x fun o => bnd (dsq r) fun os => ret (o :: os)
def putL : List (Nat × Bool) → List OD → M Unit
  | [], [] => ret ()
  | t :: ts, o :: os => bnd (putS t.1 (odS t.2 o)) fun _ => putL ts os
  | _, _ => fun _ => .stuck
def spar (ts : List (Nat × Bool)) (ms : List (M OD)) : M Fl := bnd (dsq ms) fun os => bnd (putL ts os) fun _ => ret .nx
/-- x op= y -/
def saug (o : B2) (i : Nat) (y : M PyData) : M Fl := sasg i false (d2 o (fz (dv i)) y)
def whileT (c : M Bool) (b : M Fl) : Nat → M Fl
  | 0 => fun _ => .stuck
  | n + 1 => bnd c fun k => if k then bnd b (ctl (whileT c b n)) else ret .nx
def swhile (c : M Bool) (b : M Fl) : M Fl := whileT c b lim
/-- try: b; except RelayError as e: return flags(e) -/
def stry (i : Nat) (fl : Nat → Option (List Bool)) (b : M Fl) : M Fl := fun ρ => match b ρ with
  | .exc c a ρ' => if i < ρ'.length then (match fl c with
    | some bs => .ok (.rt (PI.fl (bs.map .bool))) ρ'
    | none => .stuck) else .stuck
  | r => r
/-! defs -/
/-- what was lent, as it is at the end -/
@[simp] def backP : List SV → Env → Option (List SV)
  | [], _ => some []
  | .bor k _ :: r, .bor j o :: ρ => if j = k then (backP r ρ).map (.bor k o :: ·) else none
  | .val d :: r, _ :: ρ => (backP r ρ).map (.val d :: ·)
  | .lck k o :: r, _ :: ρ => (backP r ρ).map (.lck k o :: ·)
  | .scr ns :: r, _ :: ρ => (backP r ρ).map (.scr ns :: ·)
  | _, _ => none
def runF (n : Nat) (b : M Fl) (ps : List SV) : Res OD := match b (ps ++ List.replicate (n - ps.length) .unset) with
  | .ok .nx ρ => (match backP ps ρ with
    | some ps' => .ok (.frz .none) ps'
    | none => .stuck)
  | .ok (.rt o) ρ => (match backP ps ρ with
    | some ps' => .ok o ps'
    | none => .stuck)
  | .exc c a ρ => (match backP ps ρ with
    | some ps' => .exc c a ps'
    | none => .stuck)
  | _ => .stuck
end PI

set_option Elab.async false
set_option maxHeartbeats 1000000
/-! PL2: what a slot holds, over the abstract heap (own work). -/
namespace PI
open PySem PySem.Spec PyProof.Rows L2

def kD : Key → PyData
  | .inl i => .int i
  | .inr x => .str x
def tD (k : List Key) : PyData := .tuple (k.map kD)
abbrev nil : Hp := fun _ => none
/-- a list, a tuple, read: out of O -/
def LsR (H : Hp) (O : List Addr) (a : Addr) (xs : List V) : Prop := a ∉ O ∧ H a = some (.lst xs)
def TpR (H : Hp) (O : List Addr) (a : Addr) (xs : List V) : Prop := a ∉ O ∧ H a = some (.tup xs)

mutual
/-- v stands for the data d, over objects out of O -/
def Is (K : PySem.W.Frag) (H : Hp) (O : List Addr) : PyData → V → Prop
  | .none, v => v = .non
  | .bool b, v => v = .bl b
  | .int i, v => v = .int i
  | .str x, v => v = .str x
  | .list ds, v => ∃ a xs, v = .ref a ∧ LsR H O a xs ∧ IsA K H O ds xs
  | .tuple ds, v => ∃ a xs, v = .ref a ∧ TpR H O a xs ∧ IsA K H O ds xs
  | .dict kvs, v => ∃ a, v = .ref a ∧ a ∉ O ∧ ((∃ ks : List (Key × V), Rd H a (.dK ks) ∧ kvs.map (·.1) = ks.map (fun q => kD q.1) ∧ IsV K H O kvs (ks.map (·.2))) ∨
      ∃ ks : List (List Key × V), Rd H a (.dT ks) ∧ ks ≠ [] ∧ kvs.map (·.1) = ks.map (fun q => tD q.1) ∧ IsV K H O kvs (ks.map (·.2)))
def IsA (K : PySem.W.Frag) (H : Hp) (O : List Addr) : List PyData → List V → Prop
  | [], vs => vs = []
  | d :: ds, vs => ∃ w ws, vs = w :: ws ∧ Is K H O d w ∧ IsA K H O ds ws
def IsV (K : PySem.W.Frag) (H : Hp) (O : List Addr) : List (PyData × PyData) → List V → Prop
  | [], vs => vs = []
  | (_, d) :: ds, vs => ∃ w ws, vs = w :: ws ∧ Is K H O d w ∧ IsV K H O ds ws
end
def Sq : HO → Prop
  | .lst _ => True
  | .tup _ => True
  | _ => False
def Dc : HO → Prop
  | .dK _ => True
  | .dT _ => True
  | _ => False
/-- what is read out of O stays so -/
structure Keeps (O : List Addr) (H H' : Hp) : Prop where
  s : ∀ b u, b ∉ O → Sq u → H b = some u → H' b = some u
  d : ∀ b u, b ∉ O → Dc u → Rd H b u → Rd H' b u
  z : ∀ b o xs, b ∉ O → H b = some (.frz o (.lst xs)) → H' b = some (.frz o (.lst xs))
theorem Keeps.all {O : List Addr} {H H' : Hp} (k : ∀ b u, b ∉ O → H b = some u → H' b = some u) : Keeps O H H' :=
  ⟨fun b u n _ e => k b u n e, fun b u n _ r => r.imp (k b u n) fun ⟨o, e⟩ => ⟨o, k b _ n e⟩, fun b o xs n e => k b _ n e⟩
theorem Keeps.refl {O : List Addr} {H : Hp} : Keeps O H H := .all fun _ _ _ e => e
theorem rdT {H : Hp} {a : Addr} {u : HO} (h : Rd H a u) : H a ≠ none := by
  rcases h with h | ⟨o, h⟩ <;> rw [h] <;> exact fun z => nomatch z
theorem smT {H : Hp} {a : Addr} {u : HO} (h : H a = some u) : H a ≠ none := rdT (.inl h)
section
variable {K : PySem.W.Frag} {H H' : Hp} {O O' : List Addr}
theorem LsR.mono {a : Addr} {xs : List V} (k : Keeps O H H') (s : ∀ b, b ∈ O' → b ∈ O ∨ H b = none) (h : LsR H O a xs) : LsR H' O' a xs :=
  ⟨fun z => (s a z).elim h.1 (smT h.2), k.s a _ h.1 trivial h.2⟩
theorem TpR.mono {a : Addr} {xs : List V} (k : Keeps O H H') (s : ∀ b, b ∈ O' → b ∈ O ∨ H b = none) (h : TpR H O a xs) : TpR H' O' a xs :=
  ⟨fun z => (s a z).elim h.1 (smT h.2), k.s a _ h.1 trivial h.2⟩
mutual
theorem Is.mono (k : Keeps O H H') (s : ∀ b, b ∈ O' → b ∈ O ∨ H b = none) : ∀ (d : PyData) (v : V), Is K H O d v → Is K H' O' d v
  | .none, v, h => by simpa only [Is] using h
  | .bool b, v, h => by simpa only [Is] using h
  | .int i, v, h => by simpa only [Is] using h
  | .str x, v, h => by simpa only [Is] using h
  | .list ds, v, h => by
    simp only [Is] at h ⊢
    obtain ⟨a, xs, e, h1, h2⟩ := h
    exact ⟨a, xs, e, h1.mono k s, IsA.mono k s ds xs h2⟩
  | .tuple ds, v, h => by
    simp only [Is] at h ⊢
    obtain ⟨a, xs, e, h1, h2⟩ := h
    exact ⟨a, xs, e, h1.mono k s, IsA.mono k s ds xs h2⟩
  | .dict kvs, v, h => by
    simp only [Is] at h ⊢
    obtain ⟨a, e, n, h⟩ := h
    rcases h with ⟨ks, h1, h2, h3⟩ | ⟨ks, h1, hn, h2, h3⟩
    · exact ⟨a, e, fun z => (s a z).elim n (rdT h1), .inl ⟨ks, k.d a _ n trivial h1, h2, IsV.mono k s kvs _ h3⟩⟩
    · exact ⟨a, e, fun z => (s a z).elim n (rdT h1), .inr ⟨ks, k.d a _ n trivial h1, hn, h2, IsV.mono k s kvs _ h3⟩⟩
theorem IsA.mono (k : Keeps O H H') (s : ∀ b, b ∈ O' → b ∈ O ∨ H b = none) : ∀ (d : List PyData) (v : List V), IsA K H O d v → IsA K H' O' d v
  | [], v, h => by simpa only [IsA] using h
  | d :: ds, v, h => by
    simp only [IsA] at h ⊢
    obtain ⟨w, ws, e, h1, h2⟩ := h
    exact ⟨w, ws, e, Is.mono k s d w h1, IsA.mono k s ds ws h2⟩
theorem IsV.mono (k : Keeps O H H') (s : ∀ b, b ∈ O' → b ∈ O ∨ H b = none) : ∀ (d : List (PyData × PyData)) (v : List V), IsV K H O d v → IsV K H' O' d v
  | [], v, h => by simpa only [IsV] using h
  | (_, d) :: ds, v, h => by
    simp only [IsV] at h ⊢
    obtain ⟨w, ws, e, h1, h2⟩ := h
    exact ⟨w, ws, e, Is.mono k s d w h1, IsV.mono k s ds ws h2⟩
end
theorem IsA.length : ∀ {ds : List PyData} {vs : List V}, IsA K H O ds vs → ds.length = vs.length
  | [], vs, h => by simp only [IsA] at h; subst h; rfl
  | d :: ds, vs, h => by
    simp only [IsA] at h
    obtain ⟨w, ws, e, _, h2⟩ := h
    subst e
    simp [h2.length]
theorem IsA.get : ∀ {ds : List PyData} {vs : List V} {i : Nat} {d : PyData}, IsA K H O ds vs → ds[i]? = some d → ∃ v, vs[i]? = some v ∧ Is K H O d v
  | [], vs, i, d, h, e => by simp at e
  | d :: ds, vs, 0, d', h, e => by
    simp only [IsA] at h
    obtain ⟨w, ws, rfl, h1, h2⟩ := h
    simp at e
    subst e
    exact ⟨w, rfl, h1⟩
  | d :: ds, vs, i + 1, d', h, e => by
    simp only [IsA] at h
    obtain ⟨w, ws, rfl, h1, h2⟩ := h
    simp only [List.getElem?_cons_succ] at e ⊢
    exact h2.get e
theorem IsA.append : ∀ {ds es : List PyData} {vs ws : List V}, IsA K H O ds vs → IsA K H O es ws → IsA K H O (ds ++ es) (vs ++ ws)
  | [], es, vs, ws, h, g => by simp only [IsA] at h; subst h; exact g
  | d :: ds, es, vs, ws, h, g => by
    simp only [IsA] at h
    obtain ⟨w, us, rfl, h1, h2⟩ := h
    simp only [List.cons_append, IsA]
    exact ⟨w, us ++ ws, rfl, h1, h2.append g⟩
theorem IsA.one {d : PyData} {v : V} (h : Is K H O d v) : IsA K H O [d] [v] := by simp only [IsA]; exact ⟨v, [], rfl, h, rfl⟩
theorem IsA.take : ∀ {ds : List PyData} {vs : List V} (n : Nat), IsA K H O ds vs → IsA K H O (ds.take n) (vs.take n)
  | ds, vs, 0, h => by simp [IsA]
  | [], vs, n + 1, h => by simp only [IsA] at h; subst h; simp [IsA]
  | d :: ds, vs, n + 1, h => by
    simp only [IsA] at h
    obtain ⟨w, us, rfl, h1, h2⟩ := h
    simp only [List.take_succ_cons, IsA]
    exact ⟨w, _, rfl, h1, h2.take n⟩
theorem IsA.drop : ∀ {ds : List PyData} {vs : List V} (n : Nat), IsA K H O ds vs → IsA K H O (ds.drop n) (vs.drop n)
  | ds, vs, 0, h => by simpa using h
  | [], vs, n + 1, h => by simp only [IsA] at h; subst h; simp [IsA]
  | d :: ds, vs, n + 1, h => by
    simp only [IsA] at h
    obtain ⟨w, us, rfl, h1, h2⟩ := h
    simp only [List.drop_succ_cons]
    exact h2.drop n
theorem IsA.reverse : ∀ {ds : List PyData} {vs : List V}, IsA K H O ds vs → IsA K H O ds.reverse vs.reverse
  | [], vs, h => by simp only [IsA] at h; subst h; simp [IsA]
  | d :: ds, vs, h => by
    simp only [IsA] at h
    obtain ⟨w, us, rfl, h1, h2⟩ := h
    simp only [List.reverse_cons]
    exact h2.reverse.append (.one h1)
theorem IsV.length : ∀ {ds : List (PyData × PyData)} {vs : List V}, IsV K H O ds vs → ds.length = vs.length
  | [], vs, h => by simp only [IsV] at h; subst h; rfl
  | (_, d) :: ds, vs, h => by
    simp only [IsV] at h
    obtain ⟨w, ws, e, _, h2⟩ := h
    subst e
    simp [h2.length]
end

/-! ### own containers -/
mutual
/-- v stands for o; the containers at A are o's own -/
def Own (K : PySem.W.Frag) (H : Hp) (O : List Addr) : OD → V → List Addr → Prop
  | .frz d, v, A => A = [] ∧ Is K H O d v
  | .lst os, v, A => ∃ a xs As, v = .ref a ∧ H a = some (.lst xs) ∧ A = a :: As ∧ OwnA K H O os xs As
  | .dct kvs, v, A => ∃ a As, v = .ref a ∧ A = a :: As ∧ ((∃ ks : List (Key × V), H a = some (.dK ks) ∧ kvs.map (·.1) = ks.map (fun q => kD q.1) ∧ OwnV K H O kvs (ks.map (·.2)) As) ∨
      ∃ ks : List (List Key × V), H a = some (.dT ks) ∧ ks ≠ [] ∧ kvs.map (·.1) = ks.map (fun q => tD q.1) ∧ OwnV K H O kvs (ks.map (·.2)) As)
def OwnA (K : PySem.W.Frag) (H : Hp) (O : List Addr) : List OD → List V → List Addr → Prop
  | [], vs, A => vs = [] ∧ A = []
  | o :: os, vs, A => ∃ w ws A1 A2, vs = w :: ws ∧ A = A1 ++ A2 ∧ Own K H O o w A1 ∧ OwnA K H O os ws A2
def OwnV (K : PySem.W.Frag) (H : Hp) (O : List Addr) : List (PyData × OD) → List V → List Addr → Prop
  | [], vs, A => vs = [] ∧ A = []
  | (_, o) :: os, vs, A => ∃ w ws A1 A2, vs = w :: ws ∧ A = A1 ++ A2 ∧ Own K H O o w A1 ∧ OwnV K H O os ws A2
end
section
variable {K : PySem.W.Frag} {H H' : Hp} {O O' : List Addr}
mutual
/-- the own containers stand as they stood, the rest is kept -/
theorem Own.mono (k : Keeps O H H') (s : ∀ b, b ∈ O' → b ∈ O ∨ H b = none) : ∀ (o : OD) (v : V) (A : List Addr), (∀ b ∈ A, ∀ u, H b = some u → H' b = some u) → Own K H O o v A → Own K H' O' o v A
  | .frz d, v, A, _, h => by
    simp only [Own] at h ⊢
    exact ⟨h.1, Is.mono k s d v h.2⟩
  | .lst os, v, A, g, h => by
    simp only [Own] at h ⊢
    obtain ⟨a, xs, As, rfl, h1, rfl, h2⟩ := h
    exact ⟨a, xs, As, rfl, g a (by simp) _ h1, rfl, OwnA.mono k s os xs As (fun b hb => g b (by simp [hb])) h2⟩
  | .dct kvs, v, A, g, h => by
    simp only [Own] at h ⊢
    obtain ⟨a, As, rfl, rfl, h⟩ := h
    rcases h with ⟨ks, h1, h2, h3⟩ | ⟨ks, h1, hn, h2, h3⟩
    · exact ⟨a, As, rfl, rfl, .inl ⟨ks, g a (by simp) _ h1, h2, OwnV.mono k s kvs _ As (fun b hb => g b (by simp [hb])) h3⟩⟩
    · exact ⟨a, As, rfl, rfl, .inr ⟨ks, g a (by simp) _ h1, hn, h2, OwnV.mono k s kvs _ As (fun b hb => g b (by simp [hb])) h3⟩⟩
theorem OwnA.mono (k : Keeps O H H') (s : ∀ b, b ∈ O' → b ∈ O ∨ H b = none) : ∀ (o : List OD) (v : List V) (A : List Addr), (∀ b ∈ A, ∀ u, H b = some u → H' b = some u) → OwnA K H O o v A → OwnA K H' O' o v A
  | [], v, A, _, h => by simpa only [OwnA] using h
  | o :: os, v, A, g, h => by
    simp only [OwnA] at h ⊢
    obtain ⟨w, ws, A1, A2, rfl, rfl, h1, h2⟩ := h
    exact ⟨w, ws, A1, A2, rfl, rfl, Own.mono k s o w A1 (fun b hb => g b (by simp [hb])) h1, OwnA.mono k s os ws A2 (fun b hb => g b (by simp [hb])) h2⟩
theorem OwnV.mono (k : Keeps O H H') (s : ∀ b, b ∈ O' → b ∈ O ∨ H b = none) : ∀ (o : List (PyData × OD)) (v : List V) (A : List Addr), (∀ b ∈ A, ∀ u, H b = some u → H' b = some u) → OwnV K H O o v A → OwnV K H' O' o v A
  | [], v, A, _, h => by simpa only [OwnV] using h
  | (_, o) :: os, v, A, g, h => by
    simp only [OwnV] at h ⊢
    obtain ⟨w, ws, A1, A2, rfl, rfl, h1, h2⟩ := h
    exact ⟨w, ws, A1, A2, rfl, rfl, Own.mono k s o w A1 (fun b hb => g b (by simp [hb])) h1, OwnV.mono k s os ws A2 (fun b hb => g b (by simp [hb])) h2⟩
end
theorem Is.less {d : PyData} {v : V} (h : Is K H O d v) (s : ∀ b, b ∈ O' → b ∈ O) : Is K H O' d v := Is.mono .refl (fun b hb => .inl (s b hb)) d v h
theorem erk_keys : ∀ kvs : List (PyData × OD), (erk kvs).map (·.1) = kvs.map (·.1)
  | [] => rfl
  | (k, o) :: r => by simp [erk, erk_keys r]
mutual
/-- .. shared from here on -/
theorem Own.er (s : ∀ b, b ∈ O' → b ∈ O) : ∀ (o : OD) (v : V) (A : List Addr), Own K H O o v A → (∀ b ∈ A, b ∉ O') → Is K H O' o.er v
  | .frz d, v, A, h, n => by
    simp only [Own] at h
    simp only [OD.er]
    exact h.2.less s
  | .lst os, v, A, h, n => by
    simp only [Own] at h
    obtain ⟨a, xs, As, rfl, h1, rfl, h2⟩ := h
    simp only [OD.er, Is]
    exact ⟨a, xs, rfl, ⟨n a (by simp), h1⟩, OwnA.er s os xs As h2 fun b hb => n b (by simp [hb])⟩
  | .dct kvs, v, A, h, n => by
    simp only [Own] at h
    obtain ⟨a, As, rfl, rfl, h⟩ := h
    simp only [OD.er, Is, erk_keys]
    rcases h with ⟨ks, h1, h2, h3⟩ | ⟨ks, h1, hn, h2, h3⟩
    · exact ⟨a, rfl, n a (by simp), .inl ⟨ks, .inl h1, h2, OwnV.er s kvs _ As h3 fun b hb => n b (by simp [hb])⟩⟩
    · exact ⟨a, rfl, n a (by simp), .inr ⟨ks, .inl h1, hn, h2, OwnV.er s kvs _ As h3 fun b hb => n b (by simp [hb])⟩⟩
theorem OwnA.er (s : ∀ b, b ∈ O' → b ∈ O) : ∀ (o : List OD) (v : List V) (A : List Addr), OwnA K H O o v A → (∀ b ∈ A, b ∉ O') → IsA K H O' (ers o) v
  | [], v, A, h, n => by
    simp only [OwnA] at h
    simp only [ers, IsA]
    exact h.1
  | o :: os, v, A, h, n => by
    simp only [OwnA] at h
    obtain ⟨w, ws, A1, A2, rfl, rfl, h1, h2⟩ := h
    simp only [ers, IsA]
    exact ⟨w, ws, rfl, Own.er s o w A1 h1 (fun b hb => n b (by simp [hb])), OwnA.er s os ws A2 h2 fun b hb => n b (by simp [hb])⟩
theorem OwnV.er (s : ∀ b, b ∈ O' → b ∈ O) : ∀ (o : List (PyData × OD)) (v : List V) (A : List Addr), OwnV K H O o v A → (∀ b ∈ A, b ∉ O') → IsV K H O' (erk o) v
  | [], v, A, h, n => by
    simp only [OwnV] at h
    simp only [erk, IsV]
    exact h.1
  | (_, o) :: os, v, A, h, n => by
    simp only [OwnV] at h
    obtain ⟨w, ws, A1, A2, rfl, rfl, h1, h2⟩ := h
    simp only [erk, IsV]
    exact ⟨w, ws, rfl, Own.er s o w A1 h1 (fun b hb => n b (by simp [hb])), OwnV.er s os ws A2 h2 fun b hb => n b (by simp [hb])⟩
end
/-- the children of a flat container -/
theorem OwnA.flat : ∀ (o : List OD) (v : List V) (A : List Addr), o.all OD.isFrz = true → OwnA K H O o v A → A = [] ∧ IsA K H O (ers o) v
  | [], v, A, _, h => by
    simp only [OwnA] at h
    simp only [ers, IsA]
    exact ⟨h.2, h.1⟩
  | o :: os, v, A, f, h => by
    simp only [OwnA] at h
    obtain ⟨w, ws, A1, A2, rfl, rfl, h1, h2⟩ := h
    simp only [List.all_cons, Bool.and_eq_true] at f
    obtain ⟨e2, h2⟩ := OwnA.flat os ws A2 f.2 h2
    cases o with
    | frz d =>
      simp only [Own] at h1
      simp only [ers, IsA, OD.er]
      exact ⟨by rw [h1.1, e2]; rfl, w, ws, rfl, h1.2, h2⟩
    | lst _ => exact absurd f.1 (by simp [OD.isFrz])
    | dct _ => exact absurd f.1 (by simp [OD.isFrz])
theorem OwnV.flat : ∀ (o : List (PyData × OD)) (v : List V) (A : List Addr), (o.all fun q => q.2.isFrz) = true → OwnV K H O o v A → A = [] ∧ IsV K H O (erk o) v
  | [], v, A, _, h => by
    simp only [OwnV] at h
    simp only [erk, IsV]
    exact ⟨h.2, h.1⟩
  | (k, o) :: os, v, A, f, h => by
    simp only [OwnV] at h
    obtain ⟨w, ws, A1, A2, rfl, rfl, h1, h2⟩ := h
    simp only [List.all_cons, Bool.and_eq_true] at f
    obtain ⟨e2, h2⟩ := OwnV.flat os ws A2 f.2 h2
    cases o with
    | frz d =>
      simp only [Own] at h1
      simp only [erk, IsV, OD.er]
      exact ⟨by rw [h1.1, e2]; rfl, w, ws, rfl, h1.2, h2⟩
    | lst _ => exact absurd f.1 (by simp [OD.isFrz])
    | dct _ => exact absurd f.1 (by simp [OD.isFrz])
theorem ers_frz : ∀ xs : List PyData, ers (xs.map OD.frz) = xs
  | [] => rfl
  | x :: r => by simp [ers, OD.er, ers_frz r]
theorem erk_frz : ∀ xs : List (PyData × PyData), erk (xs.map fun q => (q.1, OD.frz q.2)) = xs
  | [] => rfl
  | x :: r => by simp [erk, OD.er, erk_frz r]
theorem er_fl (xs : List PyData) : (fl xs).er = .list xs := by simp only [fl, OD.er, ers_frz]
theorem er_fd (xs : List (PyData × PyData)) : (fd xs).er = .dict xs := by simp only [fd, OD.er, erk_frz]
theorem OwnA.of : ∀ {ds : List PyData} {vs : List V}, IsA K H O ds vs → OwnA K H O (ds.map OD.frz) vs []
  | [], vs, h => by simp only [IsA] at h; simpa [OwnA] using h
  | d :: ds, vs, h => by
    simp only [IsA] at h
    obtain ⟨w, ws, e, h1, h2⟩ := h
    simp only [List.map_cons, OwnA, Own]
    exact ⟨w, ws, [], [], e, rfl, ⟨rfl, h1⟩, OwnA.of h2⟩
theorem OwnV.of : ∀ {ds : List (PyData × PyData)} {vs : List V}, IsV K H O ds vs → OwnV K H O (ds.map fun q => (q.1, OD.frz q.2)) vs []
  | [], vs, h => by simp only [IsV] at h; simpa [OwnV] using h
  | (_, d) :: ds, vs, h => by
    simp only [IsV] at h
    obtain ⟨w, ws, e, h1, h2⟩ := h
    simp only [List.map_cons, OwnV, Own]
    exact ⟨w, ws, [], [], e, rfl, ⟨rfl, h1⟩, OwnV.of h2⟩
/-- a new flat list -/
theorem Own.fl {ds : List PyData} {vs : List V} {p : Addr} (e : H p = some (.lst vs)) (h : IsA K H O ds vs) : Own K H O (fl ds) (.ref p) [p] := by
  simp only [PI.fl, Own]
  exact ⟨p, vs, [], rfl, e, rfl, OwnA.of h⟩
end

/-- v stands for d, a list or dict whose items are out of O -/
def Con (K : PySem.W.Frag) (H : Hp) (O : List Addr) : PyData → V → Prop
  | .list ds, v => ∃ a xs, v = .ref a ∧ H a = some (.lst xs) ∧ IsA K H O ds xs
  | .dict kvs, v => ∃ a, v = .ref a ∧ ((∃ ks : List (Key × V), Rd H a (.dK ks) ∧ kvs.map (·.1) = ks.map (fun q => kD q.1) ∧ IsV K H O kvs (ks.map (·.2))) ∨
      ∃ ks : List (List Key × V), Rd H a (.dT ks) ∧ ks ≠ [] ∧ kvs.map (·.1) = ks.map (fun q => tD q.1) ∧ IsV K H O kvs (ks.map (·.2)))
  | d, v => Is K H O d v
section
variable {K : PySem.W.Frag} {H H' : Hp} {O O' : List Addr}
theorem TpR.sq {a : Addr} {xs : List V} (h : TpR H O a xs) : SqT K H a xs := .inl (.inl h.2)
theorem Is.con {d : PyData} {v : V} (h : Is K H O d v) : Con K H O d v := by
  cases d with
  | list ds =>
    simp only [Is] at h
    obtain ⟨a, xs, e, h1, h2⟩ := h
    exact ⟨a, xs, e, h1.2, h2⟩
  | dict kvs =>
    simp only [Is] at h
    obtain ⟨a, e, _, h⟩ := h
    exact ⟨a, e, h⟩
  | tuple ds => exact h
  | none => exact h
  | bool _ => exact h
  | int _ => exact h
  | str _ => exact h
theorem Own.con {o : OD} {v : V} {A : List Addr} (f : o.flat = true) (h : Own K H O o v A) : Con K H O o.er v := by
  cases o with
  | frz d => simp only [Own] at h; simp only [OD.er]; exact h.2.con
  | lst os =>
    simp only [Own] at h
    obtain ⟨a, xs, As, rfl, h1, rfl, h2⟩ := h
    simp only [OD.er]
    exact ⟨a, xs, rfl, h1, (OwnA.flat os xs As f h2).2⟩
  | dct kvs =>
    simp only [Own] at h
    obtain ⟨a, As, rfl, rfl, h⟩ := h
    simp only [OD.er, Con, erk_keys]
    rcases h with ⟨ks, h1, h2, h3⟩ | ⟨ks, h1, hn, h2, h3⟩
    · exact ⟨a, rfl, .inl ⟨ks, .inl h1, h2, (OwnV.flat kvs _ As f h3).2⟩⟩
    · exact ⟨a, rfl, .inr ⟨ks, .inl h1, hn, h2, (OwnV.flat kvs _ As f h3).2⟩⟩
end

/-! ### slots -/
/-- of a frame: what was lent to it, to be changed; what is locked while it runs -/
structure Bx where
  rf : List Addr
  lk : List (V × List Addr)
def SlR (K : PySem.W.Frag) (H : Hp) (O : List Addr) (B : Bx) : SV → Option V → List Addr → Prop
  | .unset, _, A => A = []
  | .val d, v, A => A = [] ∧ ∃ w, v = some w ∧ Is K H O d w
  | .own o, v, A => ∃ w, v = some w ∧ Own K H O o w A
  | .bor k o, v, A => ∃ a, v = some (.ref a) ∧ B.rf[k]? = some a ∧ Own K H O o (.ref a) A
  | .scr ns, v, A => A = [] ∧ ∃ a, v = some (.ref a) ∧ ((a ∉ O ∧ ∃ o, H a = some (.frz o (.lst (ns.map V.int)))) ∨ SqL K nil a (ns.map V.int))
  | .lck k o, v, A => A = [] ∧ ∃ w A', v = some w ∧ B.lk[k]? = some (w, A') ∧ Own K H O o w A'
  | .exn _ _, _, _ => False
def Sls (K : PySem.W.Frag) (H : Hp) (O : List Addr) (B : Bx) : Env → L2.St → List Addr → Prop
  | [], σ, A => σ = [] ∧ A = []
  | s :: ρ, σ, A => ∃ v σ' A1 A2, σ = v :: σ' ∧ A = A1 ++ A2 ∧ SlR K H O B s v A1 ∧ Sls K H O B ρ σ' A2
section
variable {K : PySem.W.Frag} {H H' : Hp} {O O' : List Addr} {B : Bx}
/-- what is locked stays -/
def LkK (B : Bx) (H H' : Hp) : Prop := ∀ q ∈ B.lk, ∀ b ∈ q.2, ∀ u, H b = some u → H' b = some u
theorem SlR.mono (k : Keeps O H H') (s : ∀ b, b ∈ O' → b ∈ O ∨ H b = none) (l : LkK B H H') {x : SV} {v : Option V} {A : List Addr} (g : ∀ b ∈ A, ∀ u, H b = some u → H' b = some u) (h : SlR K H O B x v A) : SlR K H' O' B x v A := by
  cases x with
  | unset => exact h
  | val d => obtain ⟨e, w, ew, h⟩ := h; exact ⟨e, w, ew, Is.mono k s d w h⟩
  | own o => obtain ⟨w, ew, h⟩ := h; exact ⟨w, ew, Own.mono k s o w A g h⟩
  | bor j o => obtain ⟨a, ew, eb, h⟩ := h; exact ⟨a, ew, eb, Own.mono k s o _ A g h⟩
  | lck _ o =>
    obtain ⟨e, w, A', ew, eb, h⟩ := h
    exact ⟨e, w, A', ew, eb, Own.mono k s o w A' (l _ (List.mem_of_getElem? eb)) h⟩
  | exn _ _ => exact h
  | scr ns =>
    obtain ⟨e, a, ea, h⟩ := h
    refine ⟨e, a, ea, h.imp (fun ⟨n, o, z⟩ => ⟨fun q => (s a q).elim n (smT z), o, k.z a o _ n z⟩) id⟩
theorem Sls.mono (k : Keeps O H H') (s : ∀ b, b ∈ O' → b ∈ O ∨ H b = none) (l : LkK B H H') : ∀ {ρ : Env} {σ : L2.St} {A : List Addr}, (∀ b ∈ A, ∀ u, H b = some u → H' b = some u) → Sls K H O B ρ σ A → Sls K H' O' B ρ σ A
  | [], σ, A, _, h => h
  | x :: ρ, σ, A, g, h => by
    obtain ⟨v, σ', A1, A2, e1, e2, h1, h2⟩ := h
    exact ⟨v, σ', A1, A2, e1, e2, h1.mono k s l (fun b hb => g b (by simp [e2, hb])), h2.mono k s l fun b hb => g b (by simp [e2, hb])⟩
theorem Sls.length : ∀ {ρ : Env} {σ : L2.St} {A : List Addr}, Sls K H O B ρ σ A → ρ.length = σ.length
  | [], σ, A, h => by obtain ⟨rfl, _⟩ := h; rfl
  | x :: ρ, σ, A, h => by
    obtain ⟨v, σ', A1, A2, rfl, _, _, h2⟩ := h
    simp [h2.length]
/-- one slot taken out -/
theorem Sls.at : ∀ {ρ : Env} {σ : L2.St} {A : List Addr} {i : Nat} {s : SV}, Sls K H O B ρ σ A → ρ[i]? = some s →
    ∃ (v : Option V) (L A1 R : List Addr), σ[i]? = some v ∧ A = L ++ (A1 ++ R) ∧ SlR K H O B s v A1 ∧
      ∀ (H' : Hp) (O' : List Addr) (s' : SV) (v' : Option V) (A' : List Addr), Keeps O H H' → (∀ b, b ∈ O' → b ∈ O ∨ H b = none) → LkK B H H' → (∀ b ∈ L ++ R, ∀ u, H b = some u → H' b = some u) → SlR K H' O' B s' v' A' →
        Sls K H' O' B (ρ.set i s') (σ.set i v') (L ++ (A' ++ R))
  | [], σ, A, i, s, h, e => by simp at e
  | x :: ρ, σ, A, 0, s, h, e => by
    obtain ⟨v, σ', A1, A2, rfl, rfl, h1, h2⟩ := h
    simp at e
    subst e
    refine ⟨v, [], A1, A2, rfl, rfl, h1, fun H' O' s' v' A' k q l g r => ?_⟩
    exact ⟨v', σ', A', A2, rfl, rfl, r, h2.mono k q l fun b hb => g b (by simpa using hb)⟩
  | x :: ρ, σ, A, i + 1, s, h, e => by
    obtain ⟨v, σ', A1, A2, rfl, rfl, h1, h2⟩ := h
    simp only [List.getElem?_cons_succ] at e
    obtain ⟨w, L, B1, R, e1, rfl, h3, h4⟩ := h2.at e
    refine ⟨w, A1 ++ L, B1, R, by simpa using e1, by simp, h3, fun H' O' s' v' A' k q l g r => ?_⟩
    refine ⟨v, σ'.set i v', A1, L ++ (A' ++ R), rfl, by simp, h1.mono k q l (fun b hb => g b (by simp [hb])), h4 H' O' s' v' A' k q l (fun b hb => g b (by
      rcases List.mem_append.mp hb with z | z <;> simp [z])) r⟩
end

/-- the state: slots, the frame's own containers Ow, others Ox that nothing shared reaches -/
structure St1 (K : PySem.W.Frag) (B : Bx) (Ox : List Addr) (ρ : Env) (σ : L2.St) (H : Hp) (Ow : List Addr) : Prop where
  sl : Sls K H (Ow ++ Ox) B ρ σ Ow
  nd : Ow.Nodup
  ap : ∀ b ∈ Ow, b ∉ Ox
  tr : ∀ b ∈ Ow ++ Ox, H b ≠ none
  lk : ∀ q ∈ B.lk, ∀ b ∈ q.2, b ∈ Ox
/-- what a part of a body does to the heap -/
structure Stp (Ow : List Addr) (H : Hp) (Ow' : List Addr) (H' : Hp) : Prop where
  keep : ∀ b o, b ∉ Ow → H b = some o → H' b = some o
  sub : ∀ b, b ∈ Ow' → b ∈ Ow ∨ H b = none
  live : ∀ b, H b ≠ none → H' b ≠ none
section
variable {K : PySem.W.Frag} {H H' H'' : Hp} {Ow Ow' Ow'' Ox A : List Addr} {B : Bx} {ρ : Env} {σ : L2.St}
theorem Stp.refl : Stp Ow H Ow H := ⟨fun _ _ _ e => e, fun _ h => .inl h, fun _ h => h⟩
theorem Stp.trans (x : Stp Ow H Ow' H') (y : Stp Ow' H' Ow'' H'') : Stp Ow H Ow'' H'' := by
  refine ⟨fun b o n e => y.keep b o (fun z => ?_) (x.keep b o n e), fun b h => ?_, fun b h => y.live b (x.live b h)⟩
  · rcases x.sub b z with q | q
    · exact n q
    · rw [q] at e; exact nomatch e
  · rcases y.sub b h with q | q
    · exact x.sub b q
    · by_cases e : H b = none
      · exact .inr e
      · exact absurd q (x.live b e)
theorem Stp.less (x : Stp Ow H Ow' H') (s : ∀ b, b ∈ Ow'' → b ∈ Ow') : Stp Ow H Ow'' H' := ⟨x.keep, fun b h => x.sub b (s b h), x.live⟩
theorem Stp.keeps (x : Stp Ow H Ow' H') : Keeps (Ow ++ Ox) H H' := .all fun b u n e => x.keep b u (fun z => n (by simp [z])) e
theorem Stp.avoid (x : Stp Ow H Ow' H') : ∀ b, b ∈ Ow' ++ Ox → b ∈ Ow ++ Ox ∨ H b = none := fun b h => by
  rcases List.mem_append.mp h with z | z
  · exact (x.sub b z).imp (fun q => by simp [q]) id
  · exact .inl (by simp [z])
theorem Stp.is (x : Stp Ow H Ow' H') {d : PyData} {v : V} (h : Is K H (Ow ++ Ox) d v) : Is K H' (Ow' ++ Ox) d v := Is.mono x.keeps x.avoid d v h
theorem Stp.isA (x : Stp Ow H Ow' H') {d : List PyData} {v : List V} (h : IsA K H (Ow ++ Ox) d v) : IsA K H' (Ow' ++ Ox) d v := IsA.mono x.keeps x.avoid d v h
/-- all that stood stands -/
theorem Stp.of (k : ∀ b o, H b = some o → H' b = some o) : Stp Ow H Ow H' := ⟨fun b o _ e => k b o e, fun _ h => .inl h, fun b h => by
  cases e : H b with
  | none => exact absurd e h
  | some o => rw [k b o e]; exact fun z => nomatch z⟩
theorem Stp.new {p : Addr} {o : HO} (n : H p = none) : Stp Ow H (p :: Ow) (upd H p o) := ⟨fun b u _ e => by rw [upd_ne (ne_of_none e n)]; exact e, fun b h => by
  rcases List.mem_cons.mp h with rfl | h
  · exact .inr n
  · exact .inl h, fun b h => by
  cases e : H b with
  | none => exact absurd e h
  | some u => rw [upd_ne (ne_of_none e n), e]; exact fun z => nomatch z⟩
/-- what is locked is not the frame's own -/
theorem St1.lkk (s : St1 K B Ox ρ σ H Ow) (x : Stp Ow H Ow' H') : LkK B H H' := fun q hq b hb u e => x.keep b u (fun z => s.ap b z (s.lk q hq b hb)) e
theorem St1.grow (s : St1 K B Ox ρ σ H Ow) (k : ∀ b o, H b = some o → H' b = some o) : St1 K B Ox ρ σ H' Ow := by
  have x : Stp Ow H Ow H' := .of k
  exact ⟨s.sl.mono x.keeps x.avoid (s.lkk x) fun b _ u e => k b u e, s.nd, s.ap, fun b h => x.live b (s.tr b h), s.lk⟩
/-- .. with a new thing that is held aside -/
theorem St1.aside {p : Addr} {o : HO} (s : St1 K B Ox ρ σ H Ow) (n : H p = none) : St1 K B (p :: Ox) ρ σ (upd H p o) Ow := by
  have k : ∀ b u, H b = some u → upd H p o b = some u := fun b u e => by rw [upd_ne (ne_of_none e n)]; exact e
  have x : Stp Ow H Ow (upd H p o) := .of k
  refine ⟨s.sl.mono x.keeps (fun b h => ?_) (s.lkk x) fun b _ u e => k b u e, s.nd, fun b h z => ?_, fun b h => ?_, fun q hq b hb => List.mem_cons_of_mem _ (s.lk q hq b hb)⟩
  · rcases List.mem_append.mp h with z | z
    · exact .inl (by simp [z])
    · rcases List.mem_cons.mp z with rfl | z
      · exact .inr n
      · exact .inl (by simp [z])
  · rcases List.mem_cons.mp z with rfl | z
    · exact s.tr b (by simp [h]) n
    · exact s.ap b h z
  · rcases List.mem_append.mp h with z | z
    · exact x.live b (s.tr b (by simp [z]))
    · rcases List.mem_cons.mp z with rfl | z
      · rw [upd_same]; exact fun z => nomatch z
      · exact x.live b (s.tr b (by simp [z]))
/-- less is held aside -/
theorem St1.unaside (s : St1 K B Ox ρ σ H Ow) {Oy : List Addr} (h : ∀ b, b ∈ Oy → b ∈ Ox) (l : ∀ q ∈ B.lk, ∀ b ∈ q.2, b ∈ Oy) : St1 K B Oy ρ σ H Ow := by
  refine ⟨s.sl.mono .refl (fun b hb => .inl ?_) (fun _ _ _ _ _ e => e) (fun _ _ _ e => e), s.nd, fun b hb z => s.ap b hb (h b z), fun b hb => s.tr b ?_, l⟩
  · rcases List.mem_append.mp hb with z | z
    · simp [z]
    · simp [h b z]
  · rcases List.mem_append.mp hb with z | z
    · simp [z]
    · simp [h b z]
end
end PI

/-! PL3: what an expression's meaning promises over the abstract heap; names, constants, operators (own work). -/
namespace PI
open PySem PySem.Spec PyProof.Rows L2

/-- the classes of errors by number, as values -/
structure Th where
  K : PySem.W.Frag
  xc : Nat → Value
/-- an error as data tells it -/
def Xn (T : Th) (c : Nat) (a : Option PyData) (cls : Value) (d : Option Addr) : Prop := cls = T.xc c ∧ a = none ∧ d = none

section
variable (T : Th) (W : WX)
def exE (B : Bx) (Ox : List Addr) (σ : L2.St) (H : Hp) (Ow : List Addr) (c : Nat) (a : Option PyData) (ρ' : Env) : Prop :=
  ∀ H' Ow', St1 T.K B Ox ρ' σ H' Ow' → Stp Ow H Ow' H' → ∀ cls d, Xn T c a cls d → W cls d σ H'
/-- what follows an expression: own containers go out with the answer -/
def Pst (B : Bx) (Ox : List Addr) (σ : L2.St) (H : Hp) (Ow : List Addr) (r : Res OD) (Q : VK) : Prop := match r with
  | .ok o ρ' => ∀ v H' Ow' A, St1 T.K B (A ++ Ox) ρ' σ H' Ow' → Stp Ow H (A ++ Ow') H' → Own T.K H' (Ow' ++ (A ++ Ox)) o v A → A.Nodup → (∀ b ∈ A, b ∉ Ox) → Q v H'
  | .exc c a ρ' => exE T W B Ox σ H Ow c a ρ'
  | .stuck => False
/-- .. nothing own goes out -/
def Psf (B : Bx) (Ox : List Addr) (σ : L2.St) (H : Hp) (Ow : List Addr) (r : Res PyData) (Q : VK) : Prop := match r with
  | .ok d ρ' => ∀ v H' Ow', St1 T.K B Ox ρ' σ H' Ow' → Stp Ow H Ow' H' → Is T.K H' (Ow' ++ Ox) d v → Q v H'
  | .exc c a ρ' => exE T W B Ox σ H Ow c a ρ'
  | .stuck => False
/-- .. read only -/
def Psc (B : Bx) (Ox : List Addr) (σ : L2.St) (H : Hp) (Ow : List Addr) (r : Res PyData) (Q : VK) : Prop := match r with
  | .ok d ρ' => ∀ v H' Ow', St1 T.K B Ox ρ' σ H' Ow' → Stp Ow H Ow' H' → Con T.K H' (Ow' ++ Ox) d v → Q v H'
  | .exc c a ρ' => exE T W B Ox σ H Ow c a ρ'
  | .stuck => False
def Psb (B : Bx) (Ox : List Addr) (σ : L2.St) (H : Hp) (Ow : List Addr) (r : Res Bool) (Q : Bool → Hp → Prop) : Prop := match r with
  | .ok d ρ' => ∀ H' Ow', St1 T.K B Ox ρ' σ H' Ow' → Stp Ow H Ow' H' → Q d H'
  | .exc c a ρ' => exE T W B Ox σ H Ow c a ρ'
  | .stuck => False
def tX (m : M OD) : TE := fun σ H Q => ∃ B Ox Ow ρ, St1 T.K B Ox ρ σ H Ow ∧ Pst T W B Ox σ H Ow (m ρ) Q
def tF (m : M PyData) : TE := fun σ H Q => ∃ B Ox Ow ρ, St1 T.K B Ox ρ σ H Ow ∧ Psf T W B Ox σ H Ow (m ρ) Q
def tK (m : M PyData) : TE := fun σ H Q => ∃ B Ox Ow ρ, St1 T.K B Ox ρ σ H Ow ∧ Psc T W B Ox σ H Ow (m ρ) Q
def tQ (m : M Bool) : TT := fun σ H Q => ∃ B Ox Ow ρ, St1 T.K B Ox ρ σ H Ow ∧ Psb T W B Ox σ H Ow (m ρ) Q
end
section
variable {T : Th} {W : WX} {B : Bx} {Ox Ow Ow1 : List Addr} {σ : L2.St} {H H1 : Hp} {ρ : Env} {X : Cx}
theorem exE.step {c : Nat} {a : Option PyData} {ρ' : Env} (x : Stp Ow H Ow1 H1) (h : exE T W B Ox σ H Ow c a ρ') : exE T W B Ox σ H1 Ow1 c a ρ' := fun H' Ow' s y => h H' Ow' s (x.trans y)
theorem Pst.step {r : Res OD} {Q : VK} (x : Stp Ow H Ow1 H1) (h : Pst T W B Ox σ H Ow r Q) : Pst T W B Ox σ H1 Ow1 r Q := by
  cases r with
  | ok o ρ' => exact fun v H' Ow' A s y => h v H' Ow' A s (x.trans y)
  | exc c a ρ' => exact exE.step x h
  | stuck => exact h
theorem Psf.step {r : Res PyData} {Q : VK} (x : Stp Ow H Ow1 H1) (h : Psf T W B Ox σ H Ow r Q) : Psf T W B Ox σ H1 Ow1 r Q := by
  cases r with
  | ok o ρ' => exact fun v H' Ow' s y => h v H' Ow' s (x.trans y)
  | exc c a ρ' => exact exE.step x h
  | stuck => exact h
theorem Psb.step {r : Res Bool} {Q : Bool → Hp → Prop} (x : Stp Ow H Ow1 H1) (h : Psb T W B Ox σ H Ow r Q) : Psb T W B Ox σ H1 Ow1 r Q := by
  cases r with
  | ok o ρ' => exact fun H' Ow' s y => h H' Ow' s (x.trans y)
  | exc c a ρ' => exact exE.step x h
  | stuck => exact h
theorem imp {e : Expr} {t t' : TE} (h : PE X e t) (k : ∀ σ H Q, t' σ H Q → t σ H Q) : PE X e t' := ⟨fun pins s σ H Q I q => h.run pins s σ H Q I (k _ _ _ q)⟩
theorem impT {e : Expr} {t t' : TT} (h : PT X e t) (k : ∀ σ H Q, t' σ H Q → t σ H Q) : PT X e t' := ⟨fun pins s σ H Q I q => h.run pins s σ H Q I (k _ _ _ q)⟩
theorem impW {e : Expr} {t t' : TT} (h : PW X e t) (k : ∀ σ H Q, t' σ H Q → t σ H Q) : PW X e t' := ⟨fun w pins s σ H Q I q => h.run w pins s σ H Q I (k _ _ _ q)⟩
/-- the answer is frozen -/
theorem pf_of {e : Expr} {m : M OD} (h : PE X e (tX T W m)) : PE X e (tF T W (fz m)) := imp h fun σ H Q ⟨B, Ox, Ow, ρ, s, q⟩ => by
  refine ⟨B, Ox, Ow, ρ, s, ?_⟩
  have e : fz m ρ = match m ρ with
    | .ok a ρ' => .ok a.er ρ'
    | .exc c a ρ' => .exc c a ρ'
    | .stuck => .stuck := rfl
  rw [e] at q
  cases r : m ρ with
  | ok o ρ' =>
    rw [r] at q
    intro v H' Ow' A s' x own nd ap
    refine q v H' Ow' (s'.unaside (fun b hb => by simp [hb]) s.lk) (x.less fun b hb => by simp [hb]) (Own.er (fun b hb => ?_) o v A own fun b hb hz => ?_)
    · rcases List.mem_append.mp hb with z | z <;> simp [z]
    · rcases List.mem_append.mp hz with z | z
      · exact s'.ap b z (by simp [hb])
      · exact ap b hb z
  | exc c a ρ' => rw [r] at q; exact q
  | stuck => rw [r] at q; exact q
theorem pk_of {e : Expr} {m : M PyData} (h : PE X e (tF T W m)) : PE X e (tK T W m) := imp h fun σ H Q ⟨B, Ox, Ow, ρ, s, q⟩ => by
  refine ⟨B, Ox, Ow, ρ, s, ?_⟩
  cases r : m ρ with
  | ok o ρ' => rw [r] at q; exact fun v H' Ow' s' x own => q v H' Ow' s' x own.con
  | exc c a ρ' => rw [r] at q; exact q
  | stuck => rw [r] at q; exact q

/-! ### ends -/
theorem Pst.frz {d : PyData} {v : V} {Q : VK} (s : St1 T.K B Ox ρ σ H Ow) (h : Pst T W B Ox σ H Ow (.ok (.frz d) ρ) Q) (i : Is T.K H (Ow ++ Ox) d v) : Q v H :=
  h v H Ow [] s .refl (by simp only [Own]; exact ⟨trivial, i⟩) List.nodup_nil (fun _ z => nomatch z)
theorem keeps_new {p : Addr} {o : HO} {O : List Addr} (n : H p = none) : Keeps O H (upd H p o) := .all fun b u _ e => by rw [upd_ne (ne_of_none e n)]; exact e
theorem isA_new {ds : List PyData} {vs : List V} {p : Addr} {o : HO} {O : List Addr} (i : IsA T.K H O ds vs) (n : H p = none) : IsA T.K (upd H p o) O ds vs :=
  IsA.mono (keeps_new n) (fun b hb => .inl hb) ds vs i
theorem is_new {d : PyData} {v : V} {p : Addr} {o : HO} {O : List Addr} (i : Is T.K H O d v) (n : H p = none) : Is T.K (upd H p o) O d v :=
  Is.mono (keeps_new n) (fun b hb => .inl hb) d v i
theorem Pst.newL {ds : List PyData} {vs : List V} {p : Addr} {Q : VK} (s : St1 T.K B Ox ρ σ H Ow) (h : Pst T W B Ox σ H Ow (.ok (fl ds) ρ) Q) (i : IsA T.K H (Ow ++ Ox) ds vs) (n : H p = none) : Q (.ref p) (upd H p (.lst vs)) := by
  refine h (.ref p) _ Ow [p] (s.aside n) (.new n) (.fl upd_same (isA_new (IsA.mono .refl (fun b hb => ?_) ds vs i) n)) (by simp) (fun b hb z => ?_)
  · rcases List.mem_append.mp hb with z | z
    · exact .inl (by simp [z])
    · simp only [List.singleton_append, List.mem_cons] at z
      rcases z with z | z
      · exact .inr (by rw [z]; exact n)
      · exact .inl (by simp [z])
  · simp only [List.mem_singleton] at hb
    subst hb
    exact s.tr b (by simp [z]) n
theorem Pst.newT {ds : List PyData} {vs : List V} {p : Addr} {Q : VK} (s : St1 T.K B Ox ρ σ H Ow) (h : Pst T W B Ox σ H Ow (.ok (.frz (.tuple ds)) ρ) Q) (i : IsA T.K H (Ow ++ Ox) ds vs) (n : H p = none) : Q (.ref p) (upd H p (.tup vs)) := by
  have k : ∀ b u, H b = some u → upd H p (.tup vs) b = some u := fun b u e => by rw [upd_ne (ne_of_none e n)]; exact e
  refine h (.ref p) _ Ow [] (s.grow k) (.of k) ?_ List.nodup_nil (fun _ z => nomatch z)
  simp only [Own, Is, List.nil_append]
  exact ⟨trivial, p, vs, rfl, ⟨fun z => s.tr p z n, upd_same⟩, isA_new i n⟩
end
end PI

/-! PL4: operators of data, over the abstract heap (own work). -/
namespace PI
open PySem PySem.Spec PyProof.Rows L2

/-! ### data that are read -/
section
variable {X : Cx} {pins : List (Addr × Obj)} {σ : L2.St} {H : Hp} {s : Shared} {O : List Addr}
mutual
theorem Is.reads (I : Inv X pins σ H s) : ∀ (d : PyData) (v : V) (u : Value), d.plain = true → Is X.K H O d v → RelV v u → ∃ as, Reads s.heap u d as
  | .none, _, _, _, h, r => by
    simp only [Is] at h; subst h; cases r
    exact ⟨_, Reads.none⟩
  | .bool b, _, _, _, h, r => by
    simp only [Is] at h; subst h; cases r
    exact ⟨_, Reads.bool b⟩
  | .int i, _, _, _, h, r => by
    simp only [Is] at h; subst h; obtain ⟨t, rfl⟩ := r
    exact ⟨_, Reads.int i t⟩
  | .str x, _, _, _, h, r => by
    simp only [Is] at h; subst h; obtain ⟨t, rfl⟩ := r
    exact ⟨_, Reads.str x t⟩
  | .list ds, _, _, p, h, r => by
    simp only [Is] at h
    obtain ⟨a, xs, rfl, h1, h2⟩ := h
    cases r
    obtain ⟨its, rv, ⟨o, n, ho, hc, _, hd⟩, _⟩ := I.list (.of h1.2)
    obtain ⟨as, hr⟩ := IsA.reads I ds _ its (by simpa [PyData.plain] using p) h2 rv
    exact ⟨_, Reads.list ho hc hd hr⟩
  | .tuple ds, _, _, p, h, r => by
    simp only [Is] at h
    obtain ⟨a, xs, rfl, h1, h2⟩ := h
    cases r
    obtain ⟨its, rv, ⟨o, ho, hc, n, hd⟩, _⟩ := I.tuple h1.sq
    obtain ⟨as, hr⟩ := IsA.reads I ds _ its (by simpa [PyData.plain] using p) h2 rv
    exact ⟨_, Reads.tuple ho hc hd hr⟩
  | .dict _, _, _, p, _, _ => nomatch p
theorem IsA.reads (I : Inv X pins σ H s) : ∀ (ds : List PyData) (vs : List V) (us : List Value), PyData.plainAll ds = true → IsA X.K H O ds vs → Vals vs us → ∃ as, ReadsAll s.heap us ds as
  | [], _, _, _, h, r => by
    simp only [IsA] at h; subst h; cases r
    exact ⟨_, ReadsAll.nil⟩
  | d :: ds, _, _, p, h, r => by
    simp only [IsA] at h
    obtain ⟨w, ws, rfl, h1, h2⟩ := h
    have p' : d.plain = true ∧ PyData.plainAll ds = true := by simpa [PyData.plainAll] using p
    cases r with
    | cons r1 r2 =>
      obtain ⟨as, q1⟩ := Is.reads I d _ _ p'.1 h1 r1
      obtain ⟨bs, q2⟩ := IsA.reads I ds _ _ p'.2 h2 r2
      exact ⟨_, ReadsAll.cons q1 q2⟩
end
theorem Con.reads (I : Inv X pins σ H s) {d : PyData} {v : V} {u : Value} (p : d.plain = true) (h : Con X.K H O d v) (r : RelV v u) : ∃ as, Reads s.heap u d as := by
  cases d with
  | list ds =>
    obtain ⟨a, xs, rfl, h1, h2⟩ := h
    cases r
    obtain ⟨its, rv, ⟨o, n, ho, hc, _, hd⟩, _⟩ := I.list (.of h1)
    obtain ⟨as, hr⟩ := IsA.reads I ds _ its (by simpa [PyData.plain] using p) h2 rv
    exact ⟨_, Reads.list ho hc hd hr⟩
  | dict _ => exact nomatch p
  | none => exact Is.reads (O := O) I _ v u p h r
  | bool _ => exact Is.reads (O := O) I _ v u p h r
  | int _ => exact Is.reads (O := O) I _ v u p h r
  | str _ => exact Is.reads (O := O) I _ v u p h r
  | tuple _ => exact Is.reads (O := O) I _ v u p h r
end

section
variable (T : Th) (W : WX)
/-- an operator of two values that were read -/
def rB (f : PyData → PyData → Option OD) : R2 := fun u w H Q => ∃ B Ox Ow σ ρ a b, St1 T.K B Ox ρ σ H Ow ∧ Con T.K H (Ow ++ Ox) a u ∧ Con T.K H (Ow ++ Ox) b w ∧ Pst T W B Ox σ H Ow (lif (f a b) ρ) Q
end
theorem lif_none {α : Type} {ρ : Env} : (lif (none : Option α)) ρ = .stuck := rfl
theorem lif_some {α : Type} {a : α} {ρ : Env} : (lif (some a)) ρ = .ok a ρ := rfl
section
variable {T : Th} {W : WX} {X : Cx} {B : Bx} {Ox Ow : List Addr} {σ : L2.St} {ρ : Env} {H : Hp} {O : List Addr}
theorem con_int {i : Int} {u : V} (h : Con T.K H O (.int i) u) : u = .int i := by simpa only [Con, Is] using h
theorem con_str {i : Str} {u : V} (h : Con T.K H O (.str i) u) : u = .str i := by simpa only [Con, Is] using h
theorem con_bool {i : Bool} {u : V} (h : Con T.K H O (.bool i) u) : u = .bl i := by simpa only [Con, Is] using h
theorem con_tup {ds : List PyData} {u : V} (h : Con T.K H O (.tuple ds) u) : ∃ a xs, u = .ref a ∧ TpR H O a xs ∧ IsA T.K H O ds xs := by simpa only [Con, Is] using h
theorem Pst.stk {Q : VK} (h : Pst T W B Ox σ H Ow .stuck Q) {C : Prop} : C := False.elim h
/-- a scalar answer -/
theorem Pst.int {i : Int} {Q : VK} (s : St1 T.K B Ox ρ σ H Ow) (h : Pst T W B Ox σ H Ow (.ok (.frz (.int i)) ρ) Q) : Q (.int i) H := h.frz s (by simp only [Is])
theorem Pst.bl {i : Bool} {Q : VK} (s : St1 T.K B Ox ρ σ H Ow) (h : Pst T W B Ox σ H Ow (.ok (.frz (.bool i)) ρ) Q) : Q (.bl i) H := h.frz s (by simp only [Is])
theorem Pst.str {i : Str} {Q : VK} (s : St1 T.K B Ox ρ σ H Ow) (h : Pst T W B Ox σ H Ow (.ok (.frz (.str i)) ρ) Q) : Q (.str i) H := h.frz s (by simp only [Is])

theorem opx_add : OpR X (binaryOp .Add) (rB T W (b2 .add)) := by
  rintro pins s σ' H x y v u Q I rx ry ⟨B, Ox, Ow, σ, ρ, a, b, S, ca, cb, h⟩
  cases a <;> cases b <;> first | exact h.stk | skip
  · obtain rfl := con_int ca
    obtain rfl := con_int cb
    exact op_add pins s σ' H _ _ v u Q I rx ry ⟨_, _, rfl, rfl, h.int S⟩
  · obtain rfl := con_str ca
    obtain rfl := con_str cb
    rename_i x y
    by_cases hl : x.cps.size + y.cps.size ≤ lim
    · simp only [b2, if_pos hl] at h
      exact op_add_str pins s σ' H _ _ v u Q I rx ry ⟨_, _, rfl, rfl, hl, h.str S⟩
    · simp only [b2, if_neg hl] at h; exact h.stk
  · obtain ⟨a, xs, rfl, h1, h2⟩ := ca
    obtain ⟨b, ys, rfl, g1, g2⟩ := cb
    rename_i ds es
    by_cases hl : ds.length + es.length ≤ lim
    · simp only [b2, if_pos hl] at h
      refine op_cat pins s σ' H _ _ v u Q I rx ry ⟨a, b, xs, ys, rfl, rfl, h1, g1, by rw [← h2.length, ← g2.length]; exact hl, fun p hp => ?_⟩
      exact h.newL S (h2.append g2) hp
    · simp only [b2, if_neg hl] at h; exact h.stk
  · obtain ⟨a, xs, rfl, h1, h2⟩ := con_tup ca
    obtain ⟨b, ys, rfl, g1, g2⟩ := con_tup cb
    rename_i ds es
    by_cases hl : ds.length + es.length ≤ lim
    · simp only [b2, if_pos hl] at h
      refine op_catA pins s σ' H _ _ v u Q I rx ry ⟨a, b, xs, ys, rfl, rfl, h1.sq, g1.sq, by rw [← h2.length, ← g2.length]; exact hl, fun e => ?_, fun _ e => ?_, fun _ _ p hp => ?_⟩
      · subst e
        have e2 : ds = [] := List.eq_nil_of_length_eq_zero (by simpa using h2.length)
        subst e2
        exact h.frz S (by simp only [Is]; exact ⟨b, ys, rfl, g1, by simpa using g2⟩)
      · subst e
        have e2 : es = [] := List.eq_nil_of_length_eq_zero (by simpa using g2.length)
        subst e2
        exact h.frz S (by simp only [Is]; exact ⟨a, xs, rfl, h1, by simpa using h2⟩)
      · exact h.newT S (h2.append g2) hp
    · simp only [b2, if_neg hl] at h; exact h.stk
theorem opx_sub : OpR X (binaryOp .Sub) (rB T W (b2 .sub)) := by
  rintro pins s σ' H x y v u Q I rx ry ⟨B, Ox, Ow, σ, ρ, a, b, S, ca, cb, h⟩
  cases a <;> cases b <;> first | exact h.stk | skip
  obtain rfl := con_int ca
  obtain rfl := con_int cb
  exact op_sub pins s σ' H _ _ v u Q I rx ry ⟨_, _, rfl, rfl, h.int S⟩
theorem opx_fdiv : OpR X (binaryOp .FloorDiv) (rB T W (b2 .fdiv)) := by
  rintro pins s σ' H x y v u Q I rx ry ⟨B, Ox, Ow, σ, ρ, a, b, S, ca, cb, h⟩
  cases a <;> cases b <;> first | exact h.stk | skip
  obtain rfl := con_int ca
  obtain rfl := con_int cb
  rename_i i j
  by_cases hl : 0 < j ∧ j < 1073741824
  · simp only [b2, if_pos hl] at h
    exact op_fdiv pins s σ' H _ _ v u Q I rx ry ⟨_, _, rfl, rfl, hl, h.int S⟩
  · simp only [b2, if_neg hl] at h; exact h.stk
theorem opx_mod : OpR X (binaryOp .Mod) (rB T W (b2 .mod)) := by
  rintro pins s σ' H x y v u Q I rx ry ⟨B, Ox, Ow, σ, ρ, a, b, S, ca, cb, h⟩
  cases a <;> cases b <;> first | exact h.stk | skip
  obtain rfl := con_int ca
  obtain rfl := con_int cb
  rename_i i j
  by_cases hl : 0 < j
  · simp only [b2, if_pos hl] at h
    exact op_mod pins s σ' H _ _ v u Q I rx ry ⟨_, _, rfl, rfl, hl, h.int S⟩
  · simp only [b2, if_neg hl] at h; exact h.stk
theorem opx_pow : OpR X (binaryOp .Pow) (rB T W (b2 .pow)) := by
  rintro pins s σ' H x y v u Q I rx ry ⟨B, Ox, Ow, σ, ρ, a, b, S, ca, cb, h⟩
  cases a <;> cases b <;> first | exact h.stk | skip
  obtain rfl := con_int ca
  obtain rfl := con_int cb
  rename_i i j
  by_cases hl : 0 ≤ j ∧ j ≤ 1000000 ∧ i.natAbs < 2 ^ 64
  · simp only [b2, if_pos hl] at h
    exact op_pow pins s σ' H _ _ v u Q I rx ry ⟨_, _, rfl, rfl, hl, h.int S⟩
  · simp only [b2, if_neg hl] at h; exact h.stk
theorem isA_rep {ds : List PyData} {vs : List V} (h : IsA T.K H O ds vs) : ∀ n : Nat, IsA T.K H O (List.replicate n ds).flatten (List.replicate n vs).flatten
  | 0 => by simp [IsA]
  | n + 1 => by
    simp only [List.replicate_succ, List.flatten_cons]
    exact h.append (isA_rep h n)
theorem foldl_app (x : Array Nat) : ∀ (n : Nat) (l : List Nat), (List.replicate n x).foldl (· ++ ·) l.toArray = (l ++ (List.replicate n x.toList).flatten).toArray
  | 0, l => by simp
  | n + 1, l => by
    have e : l.toArray ++ x = (l ++ x.toList).toArray := by simp
    simp only [List.replicate_succ, List.foldl_cons, List.flatten_cons]
    rw [e, foldl_app x n (l ++ x.toList), List.append_assoc]
theorem op_str_mul {X : Cx} : OpR X (binaryOp .Mult) (fun x y H Q => ∃ (z : Str) (k : Int), x = .str z ∧ y = .int k ∧ -(2 ^ 62) ≤ k ∧ k < 2 ^ 62 ∧ z.cps.size * k.toNat ≤ 16777216 ∧ Q (.str ⟨(List.replicate k.toNat z.cps.toList).flatten.toArray⟩) H) := by
  rintro pins s σ H x y v u Q I rx ry ⟨z, k, rfl, rfl, h1, h2, h3, q⟩
  obtain ⟨t, rfl⟩ := rx
  obtain ⟨t', rfl⟩ := ry
  have nat : ¬ k < 1 → ((k.toNat : Nat) : Int) = k := fun h => by omega
  have le : ¬ k < 1 → z.length ≤ z.length * k.toNat := fun h => Nat.le_mul_of_pos_right _ (by omega)
  refine PySem.P.mul_str (by rw [decide_eq_false (by omega), decide_eq_false (by omega)]; rfl) (fun h _ => ?_) (fun h _ => ?_) ?_
  · have hk : (0 : Int) < k := by omega
    have e : (z.length : Int) * k ≤ 16777216 := by
      rw [← nat h, ← Int.natCast_mul]
      exact Int.ofNat_le.mpr h3
    have := Int.le_ediv_of_mul_le (a := (z.length : Int)) (b := (2 ^ 63 - 1)) hk (by omega)
    omega
  · refine decide_eq_false (p := z.cps.size * k.toNat > sizeLine) ?_
    rw [sizeLine_eq]
    omega
  · have fin : ∀ (y : Str) (tk : Tok), y = ⟨(List.replicate k.toNat z.cps.toList).flatten.toArray⟩ → ∀ tk', EP X pins σ Q (.str y tk) { s with toks := tk' } := fun y tk e tk' => ⟨.str y, H, I.tok _, ⟨_, rfl⟩, by rw [e]; exact q⟩
    by_cases hk : k < 1
    · rw [if_pos hk]
      have e0 : k.toNat = 0 := by omega
      exact ⟨by decide, fin _ _ (by rw [e0]; rfl) _⟩
    · rw [if_neg hk]
      by_cases h1 : (k == 1 || z.length == 0) = true
      · rw [if_pos h1]
        refine fin z t ?_ s.toks
        simp only [Bool.or_eq_true, beq_iff_eq] at h1
        rcases h1 with rfl | h1
        · simp
        · have : z.cps = #[] := Array.eq_empty_of_size_eq_zero h1
          cases z
          simp only at this
          subst this
          simp
      · rw [if_neg h1]
        refine ⟨?_, fin _ _ ?_ _⟩
        · simp only [Str.length]
          rw [foldl_app z.cps k.toNat []]
          simp only [List.nil_append, List.size_toArray, List.length_flatten, List.map_replicate, List.sum_replicate_nat, Array.length_toList]
          rw [Nat.mul_comm, sizeLine_eq]; exact h3
        · exact congrArg Str.mk (foldl_app z.cps k.toNat [])
theorem opx_mul : OpR X (binaryOp .Mult) (rB T W (b2 .mul)) := by
  rintro pins s σ' H x y v u Q I rx ry ⟨B, Ox, Ow, σ, ρ, a, b, S, ca, cb, h⟩
  cases a <;> cases b <;> first | exact h.stk | skip
  · obtain rfl := con_int ca
    obtain rfl := con_int cb
    rename_i i j
    by_cases hl : (b64 i || b64 j) = true
    · simp only [b2, if_pos hl] at h
      refine op_mul pins s σ' H _ _ v u Q I rx ry ⟨_, _, rfl, rfl, ?_, h.int S⟩
      simp only [b64, Bool.or_eq_true, Bool.and_eq_true, decide_eq_true_eq] at hl
      exact hl
    · simp only [b2, if_neg hl] at h; exact h.stk
  · obtain rfl := con_str ca
    obtain rfl := con_int cb
    rename_i x k
    by_cases hl : (smallI k && decide (x.cps.size * k.toNat ≤ lim)) = true
    · simp only [b2, if_pos hl] at h
      simp only [smallI, lim, Bool.and_eq_true, decide_eq_true_eq] at hl
      exact op_str_mul pins s σ' H _ _ v u Q I rx ry ⟨x, k, rfl, rfl, hl.1.1, hl.1.2, of_decide_eq_true hl.2, h.str S⟩
    · simp only [b2, if_neg hl] at h; exact h.stk
  · obtain ⟨a, xs, rfl, h1, h2⟩ := ca
    obtain rfl := con_int cb
    rename_i ds k
    by_cases hl : (smallI k && decide (ds.length * k.toNat ≤ lim)) = true
    · simp only [b2, if_pos hl] at h
      simp only [smallI, Bool.and_eq_true, decide_eq_true_eq] at hl
      refine op_rep pins s σ' H _ _ v u Q I rx ry ⟨a, k, xs, rfl, rfl, h1, by omega, by omega, by rw [← h2.length]; exact hl.2, fun p hp => ?_⟩
      exact h.newL S (isA_rep h2 _) hp
    · simp only [b2, if_neg hl] at h; exact h.stk
  · obtain ⟨a, xs, rfl, h1, h2⟩ := con_tup ca
    obtain rfl := con_int cb
    rename_i ds k
    by_cases hl : (decide (2 ≤ k) && (decide (k ≤ 1000) && (decide (ds.length ≤ 1000) && decide (0 < ds.length)))) = true
    · simp only [b2, if_pos hl] at h
      simp only [Bool.and_eq_true, decide_eq_true_eq, h2.length] at hl
      refine op_repT pins s σ' H _ _ v u Q I rx ry ⟨a, k, xs, rfl, rfl, h1.sq, fun e => by rw [e] at hl; exact absurd hl.2.2.2 (by simp), hl.1, hl.2.1, hl.2.2.1, fun p hp => ?_⟩
      exact h.newT S (isA_rep h2 _) hp
    · simp only [b2, if_neg hl] at h; exact h.stk

/-! ### keys -/
theorem eqS_kD (a b : Key) : eqS (kD a) (kD b) = decide (a = b) := by
  rcases a with a | a <;> rcases b with b | b
  · simp only [kD, eqS]; rw [key_ll]
  · simp only [kD, eqS]; rw [key_lr]
  · simp only [kD, eqS]; rw [key_rl]
  · simp only [kD, eqS]; rw [key_rr, Bool.beq_eq_decide_eq]
theorem eqSs_kD : ∀ a b : List Key, eqSs (a.map kD) (b.map kD) = decide (a = b)
  | [], [] => rfl
  | [], _ :: _ => rfl
  | _ :: _, [] => rfl
  | x :: a, y :: b => by
    simp only [List.map_cons, eqSs, eqS_kD, eqSs_kD a b, List.cons.injEq]
    by_cases h : x = y <;> by_cases g : a = b <;> simp [h, g]
theorem eqS_tD (a b : List Key) : eqS (tD a) (tD b) = decide (a = b) := by simp only [tD, eqS, eqSs_kD]
theorem kD_inj {a b : Key} (h : kD a = kD b) : a = b := by
  rcases a with a | a <;> rcases b with b | b <;> simp only [kD] at h <;> first | (cases h; rfl) | exact nomatch h
theorem atom_kD (k : Key) : atomK (kD k) = true := by rcases k with k | k <;> rfl
theorem atom_of {d : PyData} (h : atomK d = true) : ∃ k, d = kD k := by
  cases d <;> first | (simp [atomK] at h; done) | skip
  · exact ⟨.inl _, rfl⟩
  · exact ⟨.inr _, rfl⟩
theorem atoms_of : ∀ {ds : List PyData}, ds.all atomK = true → ∃ ks : List Key, ds = ks.map kD
  | [], _ => ⟨[], rfl⟩
  | d :: ds, h => by
    simp only [List.all_cons, Bool.and_eq_true] at h
    obtain ⟨k, rfl⟩ := atom_of h.1
    obtain ⟨ks, rfl⟩ := atoms_of h.2
    exact ⟨k :: ks, rfl⟩
/-- the two kinds of keys -/
theorem isK_of {d : PyData} (h : isK d = true) : (∃ k, d = kD k) ∨ ∃ ks, d = tD ks := by
  cases d <;> first | (simp [isK] at h; done) | skip
  · exact .inl ⟨.inl _, rfl⟩
  · exact .inl ⟨.inr _, rfl⟩
  · obtain ⟨ks, rfl⟩ := atoms_of (show _ = true from h)
    exact .inr ⟨ks, rfl⟩
theorem is_kD {K : PySem.W.Frag} {k : Key} {y : V} (h : Is K H O (kD k) y) : y = kV k := by
  rcases k with k | k <;> (simp only [kD, Is] at h; exact h)
theorem kD_is {K : PySem.W.Frag} (k : Key) : Is K H O (kD k) (kV k) := by rcases k with k | k <;> simp only [kD, Is, kV]
theorem isA_kD {K : PySem.W.Frag} : ∀ {ks : List Key} {ys : List V}, IsA K H O (ks.map kD) ys → ys = ks.map kV
  | [], ys, h => by simpa only [List.map_nil, IsA] using h
  | k :: ks, ys, h => by
    simp only [List.map_cons, IsA] at h
    obtain ⟨w, ws, rfl, h1, h2⟩ := h
    rw [is_kD h1, isA_kD h2, List.map_cons]
theorem kD_isA {K : PySem.W.Frag} : ∀ ks : List Key, IsA K H O (ks.map kD) (ks.map kV)
  | [] => by simp only [List.map_nil, IsA]
  | k :: ks => by
    simp only [List.map_cons, IsA]
    exact ⟨_, _, rfl, kD_is k, kD_isA ks⟩
theorem is_tD {K : PySem.W.Frag} {k : List Key} {y : V} (h : Is K H O (tD k) y) : ∃ b, y = .ref b ∧ b ∉ O ∧ H b = some (.tup (k.map kV)) := by
  simp only [tD, Is] at h
  obtain ⟨b, ys, rfl, h1, h2⟩ := h
  rw [isA_kD h2] at h1
  exact ⟨b, rfl, h1.1, h1.2⟩
theorem atom_tD (k : List Key) : atomK (tD k) = false := rfl

/-- a table of data and a table of values: what a key finds -/
theorem look_val {κ : Type} [DecidableEq κ] {K : PySem.W.Frag} {kd : κ → PyData} (hk : ∀ a b, eqS (kd a) (kd b) = decide (a = b)) (k : κ) :
    ∀ {kvs : List (PyData × PyData)} {ks : List (κ × V)}, kvs.map (·.1) = ks.map (fun q => kd q.1) → IsV K H O kvs (ks.map (·.2)) →
      (∀ d, look kvs (kd k) = some d → ∃ v, valV ks k = some v ∧ Is K H O d v) ∧ (look kvs (kd k) = none → valV ks k = none)
  | [], [], _, _ => ⟨fun d h => by simp [look] at h, fun _ => rfl⟩
  | [], _ :: _, h, _ => by simp at h
  | _ :: _, [], h, _ => by simp at h
  | (a, d) :: kvs, (j, v) :: ks, h, g => by
    simp only [List.map_cons, List.cons.injEq] at h
    obtain ⟨rfl, h⟩ := h
    simp only [List.map_cons, IsV] at g
    obtain ⟨w, ws, e, g1, g2⟩ := g
    injection e with e1 e2
    subst e1 e2
    have ih := look_val hk k h g2
    by_cases q : j = k
    · subst q
      have e : look ((kd j, d) :: kvs) (kd j) = some d := by simp [look, List.find?_cons, hk]
      rw [e, valV_pos rfl]
      exact ⟨fun d' z => ⟨v, rfl, by cases z; exact g1⟩, fun z => nomatch z⟩
    · have e : look ((kd j, d) :: kvs) (kd k) = look kvs (kd k) := by simp [look, List.find?_cons, hk, q]
      rw [e, valV_neg q]
      exact ih
end
section
variable {X : Cx} {pins : List (Addr × Obj)} {σ : L2.St} {H : Hp} {s : Shared} {O : List Addr} {a b : Addr}
/-- an empty dict of ints and texts is one of tuples, too -/
theorem dt_rd0 {P : Program} {w : World} {h : Heap} (ok : HOk P w H h) (e : Rd H a (.dK [])) : (a == sysModules) = false ∧ h.DictOfH (tupleKind (mixKind P w)) a [] := by
  obtain ⟨_, hd, vs, rel, o, es, ep, h1, h2, h3, h4⟩ := dk_rd ok e
  cases rel
  have he : es.toList = [] := by
    have := h4.2.1.length
    exact List.eq_nil_of_length_eq_zero (by simpa using this)
  exact ⟨hd, o, es, ep, h1, h2, h3, by rw [he]; rfl, (fun _ z => nomatch z), List.nodup_nil⟩
theorem dK0T {P : Program} {w : World} {h : Heap} {H' : Hp} (ok : HOk P w H h) (e : Rd H a (.dK [])) : ObjOk P w H' h a (.dT []) := by
  obtain ⟨_, hd, vs, rel, o, es, ep, h1, h2, h3, h4⟩ := dk_rd ok e
  cases rel
  have he : es.toList = [] := by
    have := h4.2.1.length
    exact List.eq_nil_of_length_eq_zero (by simpa using this)
  exact ⟨Nat.zero_le _, hd, [], .nil, o, es, ep, h1, h2, h3, he, List.nodup_nil⟩
end
end PI

/-! PL5: comparisons, keys looked up, subscripts, slices; the rules of expressions with operators (own work). -/
namespace PI
open PySem PySem.Spec PyProof.Rows L2
section
variable {T : Th} {W : WX} {X : Cx} {B : Bx} {Ox Ow : List Addr} {σ : L2.St} {ρ : Env} {H : Hp} {O : List Addr}
theorem eqD_some {a b : PyData} {r : Bool} (h : eqD a b = some r) : a.plain = true ∧ b.plain = true ∧ (a.depth ≤ 100 ∨ b.depth ≤ 100) ∧ r = PyData.eqv a b := by
  unfold eqD at h
  split at h
  · rename_i g
    simp only [Bool.and_eq_true, Bool.or_eq_true, decide_eq_true_eq] at g
    exact ⟨g.1, g.2.1, g.2.2, (Option.some.inj h).symm⟩
  · exact nomatch h
theorem ltD_some {a b : PyData} {r : Bool} (h : ltD a b = some r) : a.plain = true ∧ b.plain = true ∧ PySem.W.alike a b = true ∧ a ≠ .none ∧ (a.depth ≤ 100 ∨ b.depth ≤ 100) ∧ r = PySem.W.dataLt a b := by
  unfold ltD at h
  split at h
  · rename_i g
    simp only [Bool.and_eq_true, Bool.or_eq_true, decide_eq_true_eq, Bool.not_eq_true'] at g
    exact ⟨g.1, g.2.1, g.2.2.1, fun e => by rw [e] at g; exact absurd g.2.2.2.1 (by simp [eqS]), g.2.2.2.2, (Option.some.inj h).symm⟩
  · exact nomatch h
theorem depth_min {a b : PyData} {u : Nat} (hu : u + 150 < cLine) (h : a.depth ≤ 100 ∨ b.depth ≤ 100) : u + min a.depth b.depth < cLine := by
  rcases h with h | h <;> omega
theorem opx_eq (hK : X.K = T.K) (hu : X.A.units + 150 < cLine) : OpR X (compareOp .Eq) (rB T W (b2 .eq)) := by
  rintro pins s σ' H x y v u Q I rx ry ⟨B, Ox, Ow, σ, ρ, a, b, S, ca, cb, h⟩
  cases e : eqD a b with
  | none => rw [show b2 .eq a b = none from by simp [b2, e]] at h; exact h.stk
  | some r =>
    rw [show b2 .eq a b = some (.frz (.bool r)) from by simp [b2, e]] at h
    obtain ⟨p1, p2, dp, rfl⟩ := eqD_some e
    rw [← hK] at ca cb
    obtain ⟨as, ra⟩ := ca.reads I p1 rx
    obtain ⟨bs, rb⟩ := cb.reads I p2 ry
    exact SeqAt.eq_plain ra rb p1 p2 (depth_min hu dp) ⟨.bl _, H, I, rfl, h.bl S⟩
theorem opx_ne (hK : X.K = T.K) (hu : X.A.units + 150 < cLine) : OpR X (compareOp .NotEq) (rB T W (b2 .ne)) := by
  rintro pins s σ' H x y v u Q I rx ry ⟨B, Ox, Ow, σ, ρ, a, b, S, ca, cb, h⟩
  cases e : eqD a b with
  | none => rw [show b2 .ne a b = none from by simp [b2, e]] at h; exact h.stk
  | some r =>
    rw [show b2 .ne a b = some (.frz (.bool (!r))) from by simp [b2, e]] at h
    obtain ⟨p1, p2, dp, rfl⟩ := eqD_some e
    rw [← hK] at ca cb
    obtain ⟨as, ra⟩ := ca.reads I p1 rx
    obtain ⟨bs, rb⟩ := cb.reads I p2 ry
    exact SeqAt.ne_plain ra rb p1 p2 (depth_min hu dp) ⟨.bl _, H, I, rfl, h.bl S⟩
theorem ne_both {a b : PyData} (h : PySem.W.alike a b = true) (n : a ≠ .none) : b ≠ .none := fun e => by
  subst e
  cases a <;> first | exact n rfl | (simp [PySem.W.alike] at h; done)
theorem opx_lt (hK : X.K = T.K) (hu : X.A.units + 150 < cLine) : OpR X (compareOp .Lt) (rB T W (b2 .lt)) := by
  rintro pins s σ' H x y v u Q I rx ry ⟨B, Ox, Ow, σ, ρ, a, b, S, ca, cb, h⟩
  cases e : ltD a b with
  | none => rw [show b2 .lt a b = none from by simp [b2, e]] at h; exact h.stk
  | some r =>
    rw [show b2 .lt a b = some (.frz (.bool r)) from by simp [b2, e]] at h
    obtain ⟨p1, p2, al, hn, dp, rfl⟩ := ltD_some e
    rw [← hK] at ca cb
    obtain ⟨as, ra⟩ := ca.reads I p1 rx
    obtain ⟨bs, rb⟩ := cb.reads I p2 ry
    exact PySem.W.lt_data ra rb al hn (depth_min hu dp) ⟨.bl _, H, I, rfl, h.bl S⟩
theorem opx_ge (hK : X.K = T.K) (hu : X.A.units + 150 < cLine) : OpR X (compareOp .GtE) (rB T W (b2 .ge)) := by
  rintro pins s σ' H x y v u Q I rx ry ⟨B, Ox, Ow, σ, ρ, a, b, S, ca, cb, h⟩
  cases e : ltD a b with
  | none => rw [show b2 .ge a b = none from by simp [b2, e]] at h; exact h.stk
  | some r =>
    rw [show b2 .ge a b = some (.frz (.bool (!r))) from by simp [b2, e]] at h
    obtain ⟨p1, p2, al, hn, dp, rfl⟩ := ltD_some e
    rw [← hK] at ca cb
    obtain ⟨as, ra⟩ := ca.reads I p1 rx
    obtain ⟨bs, rb⟩ := cb.reads I p2 ry
    exact PySem.W.ge_data ra rb al hn (depth_min hu dp) ⟨.bl _, H, I, rfl, h.bl S⟩
theorem opx_gt (hK : X.K = T.K) (hu : X.A.units + 150 < cLine) : OpR X (compareOp .Gt) (rB T W (b2 .gt)) := by
  rintro pins s σ' H x y v u Q I rx ry ⟨B, Ox, Ow, σ, ρ, a, b, S, ca, cb, h⟩
  cases e : ltD b a with
  | none => rw [show b2 .gt a b = none from by simp [b2, e]] at h; exact h.stk
  | some r =>
    rw [show b2 .gt a b = some (.frz (.bool r)) from by simp [b2, e]] at h
    obtain ⟨p1, p2, al, hn, dp, rfl⟩ := ltD_some e
    rw [← hK] at ca cb
    obtain ⟨as, ra⟩ := ca.reads I p2 rx
    obtain ⟨bs, rb⟩ := cb.reads I p1 ry
    exact PySem.W.gt_data ra rb (by rw [PySem.W.alike_comm]; exact al) (ne_both al hn) (depth_min hu dp.symm) ⟨.bl _, H, I, rfl, h.bl S⟩
theorem opx_le (hK : X.K = T.K) (hu : X.A.units + 150 < cLine) : OpR X (compareOp .LtE) (rB T W (b2 .le)) := by
  rintro pins s σ' H x y v u Q I rx ry ⟨B, Ox, Ow, σ, ρ, a, b, S, ca, cb, h⟩
  cases e : ltD b a with
  | none => rw [show b2 .le a b = none from by simp [b2, e]] at h; exact h.stk
  | some r =>
    rw [show b2 .le a b = some (.frz (.bool (!r))) from by simp [b2, e]] at h
    obtain ⟨p1, p2, al, hn, dp, rfl⟩ := ltD_some e
    rw [← hK] at ca cb
    obtain ⟨as, ra⟩ := ca.reads I p2 rx
    obtain ⟨bs, rb⟩ := cb.reads I p1 ry
    exact PySem.W.le_data ra rb (by rw [PySem.W.alike_comm]; exact al) (ne_both al hn) (depth_min hu dp.symm) ⟨.bl _, H, I, rfl, h.bl S⟩

theorem plainAll_of : ∀ {xs : List PyData}, xs.all PyData.plain = true → PyData.plainAll xs = true
  | [], _ => rfl
  | x :: xs, h => by
    simp only [List.all_cons, Bool.and_eq_true] at h
    simp only [PyData.plainAll, h.1, plainAll_of h.2, Bool.and_self]
/-- a key asked of a table -/
theorem key_in {kvs : List (PyData × PyData)} {k : PyData} {a : Addr} {y : V} (hk : kfit kvs k = true) (c : Con T.K H O (.dict kvs) (.ref a)) (i : Con T.K H O k y) :
    (∃ r, DGet H a y r ∧ (∀ d, look kvs k = some d → ∃ v, r = some v ∧ Is T.K H O d v) ∧ (look kvs k = none → r = none)) ∨
      (kvs = [] ∧ Rd H a (.dK []) ∧ ∃ (ks : List Key) (b : Addr), y = .ref b ∧ H b = some (.tup (ks.map kV))) := by
  simp only [kfit, Bool.and_eq_true] at hk
  obtain ⟨h1, h2⟩ := hk
  obtain ⟨a', ea, c⟩ := c
  cases ea
  rcases isK_of h1 with ⟨j, rfl⟩ | ⟨j, rfl⟩
  · have ey : y = kV j := is_kD (K := T.K) (H := H) (O := O) (by rcases j with j | j <;> exact i)
    rcases c with ⟨ks, r, e, g⟩ | ⟨ks, r, hn, e, g⟩
    · obtain ⟨l1, l2⟩ := look_val eqS_kD j e g
      exact .inl ⟨valV ks j, .inl ⟨ks, j, r, ey, rfl⟩, l1, l2⟩
    · exfalso
      cases ks with
      | nil => exact hn rfl
      | cons q qs =>
        cases kvs with
        | nil => simp at e
        | cons p ps =>
          simp only [List.map_cons, List.cons.injEq] at e
          simp only [List.all_cons, Bool.and_eq_true, e.1, atom_tD, atom_kD] at h2
          exact absurd h2.1 (by simp)
  · obtain ⟨b, ey, _, eb⟩ := is_tD (K := T.K) (H := H) (O := O) (k := j) (y := y) i
    rcases c with ⟨ks, r, e, g⟩ | ⟨ks, r, hn, e, g⟩
    · cases kvs with
      | nil =>
        cases ks with
        | nil => exact .inr ⟨rfl, r, j, b, ey, eb⟩
        | cons q qs => simp at e
      | cons p ps =>
        exfalso
        cases ks with
        | nil => simp at e
        | cons q qs =>
          simp only [List.map_cons, List.cons.injEq] at e
          simp only [List.all_cons, Bool.and_eq_true, e.1, atom_tD, atom_kD] at h2
          exact absurd h2.1 (by simp)
    · obtain ⟨l1, l2⟩ := look_val eqS_tD j e g
      exact .inl ⟨valV ks j, .inr ⟨ks, j, b, r, ey, eb, rfl⟩, l1, l2⟩
theorem kfit_nil {k : PyData} : look ([] : List (PyData × PyData)) k = none := rfl
theorem dict_ref {kvs : List (PyData × PyData)} {w : V} (c : Con T.K H O (.dict kvs) w) : ∃ a, w = .ref a := ⟨_, c.choose_spec.1⟩
theorem inD_dict {kvs : List (PyData × PyData)} {k : PyData} : inD k (.dict kvs) = if kfit kvs k then some (look kvs k).isSome else none := rfl
theorem any_sign (l : List Nat) (c : Nat) : (l.any fun c' => [c'] == ([c] : List Nat)) = decide (c ∈ l) := by
  rw [Bool.eq_iff_iff, List.any_eq_true, decide_eq_true_iff]
  constructor
  · rintro ⟨d, hd, e⟩
    have e' : [d] = [c] := by simpa using e
    injection e' with e1 _
    exact e1 ▸ hd
  · exact fun h => ⟨c, h, by simp⟩
theorem opx_in (hK : X.K = T.K) (hu : X.A.units + 150 < cLine) : OpR X (compareOp .In) (rB T W (b2 .isin)) := by
  rintro pins s σ' H x y v u Q I rx ry ⟨B, Ox, Ow, σ, ρ, a, b, S, ca, cb, h⟩
  cases e : inD a b with
  | none => rw [show b2 .isin a b = none from by simp [b2, e]] at h; exact h.stk
  | some r =>
    rw [show b2 .isin a b = some (.frz (.bool r)) from by simp [b2, e]] at h
    have hq := h.bl S
    cases b with
    | list xs =>
      simp only [inD] at e
      split at e
      · rename_i g
        simp only [Bool.and_eq_true, decide_eq_true_eq] at g
        cases e
        rw [← hK] at ca cb
        obtain ⟨as, ra⟩ := ca.reads I g.1 rx
        obtain ⟨bs, rb⟩ := cb.reads I (by simpa [PyData.plain] using plainAll_of g.2.1) ry
        exact SeqAt.in_list_data rb ra (plainAll_of g.2.1) g.1 (by omega) ⟨.bl _, H, I, rfl, hq⟩
      · exact nomatch e
    | tuple xs =>
      simp only [inD] at e
      split at e
      · rename_i g
        simp only [Bool.and_eq_true, decide_eq_true_eq] at g
        cases e
        rw [← hK] at ca cb
        obtain ⟨as, ra⟩ := ca.reads I g.1 rx
        obtain ⟨bs, rb⟩ := cb.reads I (by simpa [PyData.plain] using plainAll_of g.2.1) ry
        exact SeqAt.in_tuple_data rb ra (plainAll_of g.2.1) g.1 (by omega) ⟨.bl _, H, I, rfl, hq⟩
      · exact nomatch e
    | dict kvs =>
      rw [inD_dict] at e
      split at e
      · rename_i g
        cases e
        obtain ⟨d, rfl⟩ := dict_ref cb
        cases (show u = Value.ref d from ry)
        rcases key_in g cb ca with ⟨r, dg, l1, l2⟩ | ⟨rfl, hr, ks, b, rfl, eb⟩
        · refine d_in (by omega) I dg rx fun s' I' => ⟨.bl _, H, I', rfl, ?_⟩
          cases q : look kvs a with
          | none => rw [q] at hq; rw [l2 q]; exact hq
          | some w =>
            obtain ⟨w', hw, _⟩ := l1 w q
            rw [q] at hq
            rw [hw]
            exact hq
        · cases (show v = Value.ref b from rx)
          obtain ⟨hd, dd⟩ := dt_rd0 I.hok hr
          exact wpAny_in_heap (tupleKind_room_in1 (by omega)) (key_of I.hok eb) hd dd ⟨.bl false, H, I.tok _, rfl, hq⟩
      · exact nomatch e
    | str z =>
      cases a with
      | str y =>
        simp only [inD] at e
        split at e
        · rename_i g
          cases e
          obtain rfl := con_str ca
          obtain rfl := con_str cb
          obtain ⟨c, hc⟩ : ∃ c, y.cps = #[c] := by
            cases hy : y.cps with
            | mk l =>
              rw [hy] at g
              match l, g with
              | [c], _ => exact ⟨c, rfl⟩
          have ey : y = ⟨#[c]⟩ := by cases y; exact congrArg Str.mk hc
          subst ey
          refine op_in_sign pins s σ' H _ _ v u Q I rx ry ⟨c, z, rfl, rfl, ?_⟩
          rw [← any_sign z.cps.toList c]
          exact hq
        · exact nomatch e
      | _ => exact nomatch e
    | _ => exact nomatch e
theorem opx_notin (hK : X.K = T.K) (hu : X.A.units + 150 < cLine) : OpR X (compareOp .NotIn) (rB T W (b2 .notin)) := by
  rintro pins s σ' H x y v u Q I rx ry ⟨B, Ox, Ow, σ, ρ, a, b, S, ca, cb, h⟩
  cases e : inD a b with
  | none => rw [show b2 .notin a b = none from by simp [b2, e]] at h; exact h.stk
  | some r =>
    rw [show b2 .notin a b = some (.frz (.bool (!r))) from by simp [b2, e]] at h
    have hq := h.bl S
    cases b with
    | list xs =>
      simp only [inD] at e
      split at e
      · rename_i g
        simp only [Bool.and_eq_true, decide_eq_true_eq] at g
        cases e
        rw [← hK] at ca cb
        obtain ⟨as, ra⟩ := ca.reads I g.1 rx
        obtain ⟨bs, rb⟩ := cb.reads I (by simpa [PyData.plain] using plainAll_of g.2.1) ry
        exact SeqAt.notIn_list_data rb ra (plainAll_of g.2.1) g.1 (by omega) ⟨.bl _, H, I, rfl, hq⟩
      · exact nomatch e
    | tuple xs =>
      simp only [inD] at e
      split at e
      · rename_i g
        simp only [Bool.and_eq_true, decide_eq_true_eq] at g
        cases e
        rw [← hK] at ca cb
        obtain ⟨as, ra⟩ := ca.reads I g.1 rx
        obtain ⟨bs, rb⟩ := cb.reads I (by simpa [PyData.plain] using plainAll_of g.2.1) ry
        exact SeqAt.notIn_tuple_data rb ra (plainAll_of g.2.1) g.1 (by omega) ⟨.bl _, H, I, rfl, hq⟩
      · exact nomatch e
    | dict kvs =>
      rw [inD_dict] at e
      split at e
      · rename_i g
        cases e
        obtain ⟨d, rfl⟩ := dict_ref cb
        cases (show u = Value.ref d from ry)
        rcases key_in g cb ca with ⟨r, dg, l1, l2⟩ | ⟨rfl, hr, ks, b, rfl, eb⟩
        · refine d_notIn (by omega) I dg rx fun s' I' => ⟨.bl _, H, I', rfl, ?_⟩
          cases q : look kvs a with
          | none => rw [q] at hq; rw [l2 q]; exact hq
          | some w =>
            obtain ⟨w', hw, _⟩ := l1 w q
            rw [q] at hq
            rw [hw]
            exact hq
        · cases (show v = Value.ref b from rx)
          obtain ⟨hd, dd⟩ := dt_rd0 I.hok hr
          exact wpAny_notIn_heap (tupleKind_room_in1 (by omega)) (key_of I.hok eb) hd dd ⟨.bl true, H, I.tok _, rfl, hq⟩
      · exact nomatch e
    | str z =>
      cases a with
      | str y =>
        simp only [inD] at e
        split at e
        · rename_i g
          cases e
          obtain rfl := con_str ca
          obtain rfl := con_str cb
          obtain ⟨c, hc⟩ : ∃ c, y.cps = #[c] := by
            cases hy : y.cps with
            | mk l =>
              rw [hy] at g
              match l, g with
              | [c], _ => exact ⟨c, rfl⟩
          have ey : y = ⟨#[c]⟩ := by cases y; exact congrArg Str.mk hc
          subst ey
          refine op_notIn_sign pins s σ' H _ _ v u Q I rx ry ⟨c, z, rfl, rfl, ?_⟩
          rw [← any_sign z.cps.toList c]
          exact hq
        · exact nomatch e
      | _ => exact nomatch e
    | _ => exact nomatch e
end
end PI

/-! PL6: the rules of expressions: names, constants, operators, tests, subscripts, slices, displays (own work). -/
namespace PI
open PySem PySem.Spec PyProof.Rows L2
theorem bnd_ok {α β : Type} {x : M α} {f : α → M β} {ρ ρ' : Env} {a : α} (h : x ρ = .ok a ρ') : bnd x f ρ = f a ρ' := by simp [bnd, h]
theorem bnd_exc {α β : Type} {x : M α} {f : α → M β} {ρ ρ' : Env} {c : Nat} {a : Option PyData} (h : x ρ = .exc c a ρ') : bnd x f ρ = .exc c a ρ' := by simp [bnd, h]
theorem bnd_stk {α β : Type} {x : M α} {f : α → M β} {ρ : Env} (h : x ρ = .stuck) : bnd x f ρ = .stuck := by simp [bnd, h]
section
variable {T : Th} {W : WX} {X : Cx} {B : Bx} {Ox Ow : List Addr} {σ : L2.St} {ρ : Env} {H : Hp} {O : List Addr} {pos : Pos}

/-! ### names, constants -/
theorem px_var {i : Nat} {x : Str} (hN : X.N[i]? = some x := by rfl) (hv : Vis X.env.scope x := by first | exact Or.inl rfl | exact Or.inr (Or.inl rfl) | exact Or.inr (Or.inr rfl)) (hd : (x == ("__debug__" : Str)) = false := by decide)
    (hcd : (x == ("__classdict__" : Str)) = false := by decide) : PE X (.Name x pos) (tX T W (dv i)) := imp (pe_var hN hv hd hcd) fun σ H Q ⟨B, Ox, Ow, ρ, s, q⟩ => by
  unfold dv at q
  split at q
  · rename_i d e
    obtain ⟨v, L, A1, R, h1, _, ⟨_, w, rfl, h2⟩, _⟩ := s.sl.at e
    exact ⟨w, h1, q.frz s h2⟩
  · exact q.elim
theorem svD_con {s : SV} {d : PyData} {v : Option V} {A : List Addr} {Bs : Bx} (e : svD s = some d) (h : SlR T.K H O Bs s v A) : ∃ w, v = some w ∧ Con T.K H O d w := by
  cases s with
  | val d' => cases e; obtain ⟨_, w, ew, h⟩ := h; exact ⟨w, ew, h.con⟩
  | own o =>
    simp only [svD] at e
    split at e
    · cases e; obtain ⟨w, ew, h⟩ := h; exact ⟨w, ew, h.con (by assumption)⟩
    · exact nomatch e
  | bor k o =>
    simp only [svD] at e
    split at e
    · cases e; obtain ⟨a, ew, _, h⟩ := h; exact ⟨_, ew, h.con (by assumption)⟩
    · exact nomatch e
  | lck k o =>
    simp only [svD] at e
    split at e
    · cases e; obtain ⟨_, w, A', ew, _, h⟩ := h; exact ⟨w, ew, h.con (by assumption)⟩
    · exact nomatch e
  | unset => exact nomatch e
  | exn _ _ => exact nomatch e
  | scr _ => exact nomatch e
theorem cv_con {i : Nat} {d : PyData} {ρ' : Env} (s : St1 T.K B Ox ρ σ H Ow) (h : cv i ρ = .ok d ρ') : ρ' = ρ ∧ ∃ w, σ[i]? = some (some w) ∧ Con T.K H (Ow ++ Ox) d w := by
  unfold cv at h
  cases e : (ρ[i]?).bind svD with
  | none => rw [e] at h; exact nomatch h
  | some d' =>
    rw [e] at h
    cases h
    obtain ⟨x, e1, e2⟩ := Option.bind_eq_some_iff.mp e
    obtain ⟨v, L, A1, R, h1, _, h2, _⟩ := s.sl.at e1
    obtain ⟨w, rfl, c⟩ := svD_con e2 h2
    exact ⟨rfl, w, h1, c⟩
theorem cv_res {i : Nat} : (∃ d, cv i ρ = .ok d ρ) ∨ cv i ρ = .stuck := by
  unfold cv
  cases (ρ[i]?).bind svD with
  | none => exact .inr rfl
  | some d => exact .inl ⟨d, rfl⟩
theorem pk_var {i : Nat} {x : Str} (hN : X.N[i]? = some x := by rfl) (hv : Vis X.env.scope x := by first | exact Or.inl rfl | exact Or.inr (Or.inl rfl) | exact Or.inr (Or.inr rfl)) (hd : (x == ("__debug__" : Str)) = false := by decide)
    (hcd : (x == ("__classdict__" : Str)) = false := by decide) : PE X (.Name x pos) (tK T W (cv i)) := imp (pe_var hN hv hd hcd) fun σ H Q ⟨B, Ox, Ow, ρ, s, q⟩ => by
  rcases cv_res (ρ := ρ) (i := i) with ⟨d, e⟩ | e
  · obtain ⟨_, w, h1, c⟩ := cv_con s e
    rw [e] at q
    exact ⟨w, h1, q w H Ow s .refl c⟩
  · rw [e] at q; exact q.elim
theorem tX_c {d : PyData} {v : V} {σ : L2.St} {H : Hp} {Q : VK} (i : ∀ H O, Is T.K H O d v) (h : tX T W (dc d) σ H Q) : tC v σ H Q := by
  obtain ⟨B, Ox, Ow, ρ, s, q⟩ := h
  exact Pst.frz s q (i _ _)
theorem px_int {i : Int} {j} : PE X (.Constant (.int i) j pos) (tX T W (dc (.int i))) := imp pe_int fun _ _ _ => tX_c fun _ _ => by simp only [Is]
theorem px_bl {i : Bool} {j} : PE X (.Constant (.bool i) j pos) (tX T W (dc (.bool i))) := imp pe_bl fun _ _ _ => tX_c fun _ _ => by simp only [Is]
theorem px_str {i : Str} {j} : PE X (.Constant (.str i) j pos) (tX T W (dc (.str i))) := imp pe_str fun _ _ _ => tX_c fun _ _ => by simp only [Is]
theorem px_non {j} : PE X (.Constant .none j pos) (tX T W (dc .none)) := imp pe_non fun _ _ _ => tX_c fun _ _ => by simp only [Is]
theorem px_gint {x : Str} {i : Int} {t : Tok} (hm : X.mg x = some (.int i t)) (hg : Gl X x := by rfl) (hd : (x == ("__debug__" : Str)) = false := by decide) : PE X (.Name x pos) (tX T W (dc (.int i))) :=
  imp (pe_glob (v := .int i) hg hm ⟨t, rfl⟩ hd) fun _ _ _ => tX_c fun _ _ => by simp only [Is]
theorem px_gstr {x : Str} {i : Str} {t : Tok} (hm : X.mg x = some (.str i t)) (hg : Gl X x := by rfl) (hd : (x == ("__debug__" : Str)) = false := by decide) : PE X (.Name x pos) (tX T W (dc (.str i))) :=
  imp (pe_glob (v := .str i) hg hm ⟨t, rfl⟩ hd) fun _ _ _ => tX_c fun _ _ => by simp only [Is]

/-! ### two parts, from the left -/
theorem two {x y : M PyData} {g : PyData → PyData → M OD} {σ : L2.St} {H : Hp} {Q : VK} (h : tX T W (bnd x fun a => bnd y fun b => g a b) σ H Q) :
    tF T W x σ H fun u H1 => tK T W y σ H1 fun w H2 => ∃ B Ox Ow ρ a b, St1 T.K B Ox ρ σ H2 Ow ∧ Is T.K H2 (Ow ++ Ox) a u ∧ Con T.K H2 (Ow ++ Ox) b w ∧ Pst T W B Ox σ H2 Ow (g a b ρ) Q := by
  obtain ⟨B, Ox, Ow, ρ, s, q⟩ := h
  refine ⟨B, Ox, Ow, ρ, s, ?_⟩
  cases hx : x ρ with
  | stuck => rw [bnd_stk hx] at q; exact q
  | exc c a ρ1 => rw [bnd_exc hx] at q; exact q
  | ok a ρ1 =>
    rw [bnd_ok hx] at q
    intro u H1 Ow1 s1 x1 i1
    refine ⟨B, Ox, Ow1, ρ1, s1, ?_⟩
    cases hy : y ρ1 with
    | stuck => rw [bnd_stk hy] at q; exact q
    | exc c a ρ2 => rw [bnd_exc hy] at q; exact exE.step x1 q
    | ok b ρ2 =>
      rw [bnd_ok hy] at q
      intro w H2 Ow2 s2 x2 i2
      exact ⟨B, Ox, Ow2, ρ2, a, b, s2, x2.is i1, i2, Pst.step (x1.trans x2) q⟩
/-- .. the left one a name, read behind the right one -/
theorem twoL {i : Nat} {y : M PyData} {g : PyData → PyData → M OD} {σ : L2.St} {H : Hp} {Q : VK} (h : tX T W (dL i y g) σ H Q) :
    tVar i σ H fun u H1 => tK T W y σ H1 fun w H2 => ∃ B Ox Ow ρ a b, St1 T.K B Ox ρ σ H2 Ow ∧ Con T.K H2 (Ow ++ Ox) a u ∧ Con T.K H2 (Ow ++ Ox) b w ∧ Pst T W B Ox σ H2 Ow (g a b ρ) Q := by
  obtain ⟨B, Ox, Ow, ρ, s, q⟩ := h
  unfold dL at q
  rcases cv_res (ρ := ρ) (i := i) with ⟨d, e⟩ | e
  · rw [bnd_ok e] at q
    obtain ⟨_, u, hu, _⟩ := cv_con s e
    refine ⟨u, hu, B, Ox, Ow, ρ, s, ?_⟩
    cases hy : y ρ with
    | stuck => rw [bnd_stk hy] at q; exact q
    | exc c a ρ2 => rw [bnd_exc hy] at q; exact q
    | ok b ρ2 =>
      rw [bnd_ok hy] at q
      intro w H2 Ow2 s2 x2 i2
      rcases cv_res (ρ := ρ2) (i := i) with ⟨a, e2⟩ | e2
      · rw [bnd_ok e2] at q
        obtain ⟨_, u', hu', c⟩ := cv_con s2 e2
        rw [hu] at hu'
        cases hu'
        exact ⟨B, Ox, Ow2, ρ2, a, b, s2, c, i2, Pst.step x2 q⟩
      · rw [bnd_stk e2] at q; exact q.elim
  · rw [bnd_stk e] at q; exact q.elim
/-- one part -/
theorem one {x : M PyData} {g : PyData → M OD} {σ : L2.St} {H : Hp} {Q : VK} (h : tX T W (bnd x g) σ H Q) :
    tK T W x σ H fun u H1 => ∃ B Ox Ow ρ a, St1 T.K B Ox ρ σ H1 Ow ∧ Con T.K H1 (Ow ++ Ox) a u ∧ Pst T W B Ox σ H1 Ow (g a ρ) Q := by
  obtain ⟨B, Ox, Ow, ρ, s, q⟩ := h
  refine ⟨B, Ox, Ow, ρ, s, ?_⟩
  cases hx : x ρ with
  | stuck => rw [bnd_stk hx] at q; exact q
  | exc c a ρ1 => rw [bnd_exc hx] at q; exact q
  | ok a ρ1 =>
    rw [bnd_ok hx] at q
    intro u H1 Ow1 s1 x1 i1
    exact ⟨B, Ox, Ow1, ρ1, a, s1, i1, Pst.step x1 q⟩

/-! ### operators -/
theorem r_two {o : B2} {x y : M PyData} {σ : L2.St} {H : Hp} {Q : VK} (h : tX T W (d2 o x y) σ H Q) : tOp (rB T W (b2 o)) (tF T W x) (tK T W y) σ H Q := by
  obtain ⟨B, Ox, Ow, ρ, s, q⟩ := two (g := fun a b => lif (b2 o a b)) h
  refine ⟨B, Ox, Ow, ρ, s, ?_⟩
  cases hx : x ρ with
  | stuck => rw [hx] at q; exact q
  | exc c a ρ1 => rw [hx] at q; exact q
  | ok a ρ1 =>
    rw [hx] at q
    intro u H1 Ow1 s1 x1 i1
    obtain ⟨B', Ox', Ow', ρ', s', q'⟩ := q u H1 Ow1 s1 x1 i1
    refine ⟨B', Ox', Ow', ρ', s', ?_⟩
    cases hy : y ρ' with
    | stuck => rw [hy] at q'; exact q'
    | exc c a ρ1 => rw [hy] at q'; exact q'
    | ok b ρ2 =>
      rw [hy] at q'
      intro w H2 Ow2 s2 x2 i2
      obtain ⟨B3, Ox3, Ow3, ρ3, a3, b3, s3, ca, cb, q3⟩ := q' w H2 Ow2 s2 x2 i2
      exact ⟨B3, Ox3, Ow3, σ, ρ3, a3, b3, s3, ca.con, cb, q3⟩
theorem r_twoL {o : B2} {i : Nat} {y : M PyData} {σ : L2.St} {H : Hp} {Q : VK} (h : tX T W (d2L o i y) σ H Q) : tOp (rB T W (b2 o)) (tVar i) (tK T W y) σ H Q := by
  obtain ⟨u, hu, B', Ox', Ow', ρ', s', q'⟩ := twoL (g := fun a b => lif (b2 o a b)) h
  refine ⟨u, hu, B', Ox', Ow', ρ', s', ?_⟩
  cases hy : y ρ' with
  | stuck => rw [hy] at q'; exact q'
  | exc c a ρ1 => rw [hy] at q'; exact q'
  | ok b ρ2 =>
    rw [hy] at q'
    intro w H2 Ow2 s2 x2 i2
    obtain ⟨B3, Ox3, Ow3, ρ3, a3, b3, s3, ca, cb, q3⟩ := q' w H2 Ow2 s2 x2 i2
    exact ⟨B3, Ox3, Ow3, σ, ρ3, a3, b3, s3, ca, cb, q3⟩
theorem px_bin {op : Operator} {o : B2} {a b : Expr} {x y : M PyData} (ho : OpR X (binaryOp op) (rB T W (b2 o))) (ha : PE X a (tF T W x)) (hb : PE X b (tK T W y)) : PE X (.BinOp a op b pos) (tX T W (d2 o x y)) :=
  imp (pe_op ho ha hb) fun _ _ _ => r_two
theorem px_binL {op : Operator} {o : B2} {i : Nat} {a b : Expr} {y : M PyData} (ho : OpR X (binaryOp op) (rB T W (b2 o))) (ha : PE X a (tVar i)) (hb : PE X b (tK T W y)) : PE X (.BinOp a op b pos) (tX T W (d2L o i y)) :=
  imp (pe_op ho ha hb) fun _ _ _ => r_twoL
theorem px_cmp {op : CmpOp} {o : B2} {a b : Expr} {x y : M PyData} (ho : OpR X (compareOp op) (rB T W (b2 o))) (ha : PE X a (tF T W x)) (hb : PE X b (tK T W y)) (hm : behindInMarks op b = false := by rfl) : PE X (.Compare a [op] [b] pos) (tX T W (d2 o x y)) :=
  imp (pe_cmpR ho ha hb hm) fun _ _ _ => r_two
theorem px_cmpL {op : CmpOp} {o : B2} {i : Nat} {a b : Expr} {y : M PyData} (ho : OpR X (compareOp op) (rB T W (b2 o))) (ha : PE X a (tVar i)) (hb : PE X b (tK T W y)) (hm : behindInMarks op b = false := by rfl) : PE X (.Compare a [op] [b] pos) (tX T W (d2L o i y)) :=
  imp (pe_cmpR ho ha hb hm) fun _ _ _ => r_twoL

/-! ### tests -/
theorem qof_ok {m : M OD} {ρ ρ' : Env} {o : OD} (h : m ρ = .ok o ρ') : qof m ρ = (match o.er with | .bool b => .ok b ρ' | _ => .stuck) := by
  unfold qof asB
  rw [bnd_ok (a := o.er) (ρ' := ρ') (by simp [fz, h])]
  cases o.er <;> rfl
theorem Own.bool {o : OD} {b : Bool} {v : V} {A : List Addr} (e : o.er = .bool b) (h : Own T.K H O o v A) : v = .bl b ∧ A = [] := by
  cases o with
  | frz d =>
    simp only [OD.er] at e
    subst e
    simp only [Own, Is] at h
    exact ⟨h.2, h.1⟩
  | lst _ => simp [OD.er] at e
  | dct _ => simp [OD.er] at e
/-- what follows a test, from what follows a value -/
theorem psb_pst {m : M OD} {Q : Bool → Hp → Prop} (q : Psb T W B Ox σ H Ow (qof m ρ) Q) : Pst T W B Ox σ H Ow (m ρ) fun v H' => ∃ k, v = .bl k ∧ Q k H' := by
  cases hm : m ρ with
  | stuck => rw [show qof m ρ = .stuck from by simp [qof, asB, bnd, fz, hm]] at q; exact q
  | exc c a ρ1 => rw [show qof m ρ = .exc c a ρ1 from by simp [qof, asB, bnd, fz, hm]] at q; exact q
  | ok o ρ1 =>
    rw [qof_ok hm] at q
    intro v H1 Ow1 A s1 x1 own nd ap
    cases e : o.er with
    | bool b =>
      rw [e] at q
      obtain ⟨rfl, rfl⟩ := own.bool e
      exact ⟨b, rfl, q H1 Ow1 s1 x1⟩
    | _ => rw [e] at q; exact q.elim
theorem q_of {m : M OD} {σ : L2.St} {H : Hp} {Q : Bool → Hp → Prop} (h : tQ T W (qof m) σ H Q) : tX T W m σ H fun v H' => ∃ k, v = .bl k ∧ Q k H' := by
  obtain ⟨B, Ox, Ow, ρ, s, q⟩ := h
  exact ⟨B, Ox, Ow, ρ, s, psb_pst q⟩
theorem pt_cmp' {op : CmpOp} {o : B2} {a b : Expr} {x y : M PyData} (ho : OpR X (compareOp op) (rB T W (b2 o))) (ha : PE X a (tF T W x)) (hb : PE X b (tK T W y)) (hm : behindInMarks op b = false := by rfl) : PT X (.Compare a [op] [b] pos) (tQ T W (qof (d2 o x y))) :=
  impT (pt_cmpR ho ha hb hm) fun _ _ _ h => r_two (q_of h)
theorem pt_cmpL' {op : CmpOp} {o : B2} {i : Nat} {a b : Expr} {y : M PyData} (ho : OpR X (compareOp op) (rB T W (b2 o))) (ha : PE X a (tVar i)) (hb : PE X b (tK T W y)) (hm : behindInMarks op b = false := by rfl) : PT X (.Compare a [op] [b] pos) (tQ T W (qof (d2L o i y))) :=
  impT (pt_cmpR ho ha hb hm) fun _ _ _ h => r_twoL (q_of h)
theorem pt_of {e : Expr} {m : M OD} (h : PE X e (tX T W m)) (he : ∀ whole, isTrue e X.env whole = (do let v ← whole; standAt e.pos; holding [v] (truthy v)) := by intro _; rfl) : PT X e (tQ T W (qof m)) :=
  impT (pt_val h he) fun _ _ _ h => q_of h
theorem qseq {x : M Bool} {g : Bool → M Bool} {σ : L2.St} {H : Hp} {Q : Bool → Hp → Prop} (h : tQ T W (bnd x g) σ H Q) : tQ T W x σ H fun b H1 => tQ T W (g b) σ H1 Q := by
  obtain ⟨B, Ox, Ow, ρ, s, q⟩ := h
  refine ⟨B, Ox, Ow, ρ, s, ?_⟩
  cases hx : x ρ with
  | stuck => rw [bnd_stk hx] at q; exact q
  | exc c a ρ1 => rw [bnd_exc hx] at q; exact q
  | ok b ρ1 =>
    rw [bnd_ok hx] at q
    intro H1 Ow1 s1 x1
    exact ⟨B, Ox, Ow1, ρ1, s1, Psb.step x1 q⟩
theorem qret {b : Bool} {σ : L2.St} {H : Hp} {Q : Bool → Hp → Prop} (h : tQ T W (ret b) σ H Q) : Q b H := by
  obtain ⟨B, Ox, Ow, ρ, s, q⟩ := h
  exact q H Ow s .refl
theorem tQ_mono {x : M Bool} {σ : L2.St} {H : Hp} {Q Q' : Bool → Hp → Prop} (k : ∀ b H, Q b H → Q' b H) (h : tQ T W x σ H Q) : tQ T W x σ H Q' := by
  obtain ⟨B, Ox, Ow, ρ, s, q⟩ := h
  refine ⟨B, Ox, Ow, ρ, s, ?_⟩
  cases hx : x ρ with
  | stuck => rw [hx] at q; exact q
  | exc c a ρ1 => rw [hx] at q; exact q
  | ok b ρ1 => rw [hx] at q; exact fun H1 Ow1 s1 x1 => k _ _ (q H1 Ow1 s1 x1)
theorem pq_one {op : BoolOp} {e : Expr} {x : M Bool} (h : PT X e (tQ T W x)) : PW X (.BoolOp op [e] pos) (tQ T W x) := by
  cases op with
  | And => exact pw_and1 h
  | Or => exact pw_or1 h
theorem pq_and {e b : Expr} {rest : List Expr} {x y : M Bool} (h : PT X e (tQ T W x)) (h' : PW X (.BoolOp .And (b :: rest) pos) (tQ T W y)) : PW X (.BoolOp .And (e :: b :: rest) pos) (tQ T W (qand x y)) :=
  impW (pw_and h h') fun σ H Q q => tQ_mono (fun c H1 q1 => by
    cases c with
    | true => simpa using q1
    | false => simpa using qret q1) (qseq q)
theorem pq_or {e b : Expr} {rest : List Expr} {x y : M Bool} (h : PT X e (tQ T W x)) (h' : PW X (.BoolOp .Or (b :: rest) pos) (tQ T W y)) : PW X (.BoolOp .Or (e :: b :: rest) pos) (tQ T W (qor x y)) :=
  impW (pw_or h h') fun σ H Q q => tQ_mono (fun c H1 q1 => by
    cases c with
    | true => simpa using qret q1
    | false => simpa using q1) (qseq q)
theorem pq_not {e : Expr} {x : M Bool} (h : PT X e (tQ T W x)) : PT X (.UnaryOp .Not e pos) (tQ T W (qnot x)) :=
  impT (pt_not h) fun σ H Q q => tQ_mono (fun c H1 q1 => qret q1) (qseq q)
/-- a if c else b -/
theorem px_ite {c a b : Expr} {q : M Bool} {x y : M OD} (hc : PT X c (tQ T W q)) (ha : PE X a (tX T W x)) (hb : PE X b (tX T W y)) : PE X (.IfExp c a b pos) (tX T W (dite q x y)) :=
  imp (pe_ifExp hc ha hb) fun σ H Q ⟨B, Ox, Ow, ρ, s, h⟩ => by
    refine ⟨B, Ox, Ow, ρ, s, ?_⟩
    unfold dite at h
    cases hx : q ρ with
    | stuck => rw [bnd_stk hx] at h; exact h
    | exc c a ρ1 => rw [bnd_exc hx] at h; exact h
    | ok b ρ1 =>
      rw [bnd_ok hx] at h
      intro H1 Ow1 s1 x1
      cases b with
      | true => simp only [if_true] at h ⊢; exact ⟨B, Ox, Ow1, ρ1, s1, h.step x1⟩
      | false => simp only [Bool.false_eq_true, if_false] at h ⊢; exact ⟨B, Ox, Ow1, ρ1, s1, h.step x1⟩
/-- and, or, not as values -/
theorem bx {x : M OD} {g : Bool → M OD} {σ : L2.St} {H : Hp} {Q : VK} (h : tX T W (bnd (qof x) g) σ H Q) : tX T W x σ H fun v H1 => ∃ c, v = .bl c ∧ tX T W (g c) σ H1 Q := by
  obtain ⟨B, Ox, Ow, ρ, s, q⟩ := h
  refine q_of ⟨B, Ox, Ow, ρ, s, ?_⟩
  cases hx : qof x ρ with
  | stuck => rw [bnd_stk hx] at q; exact q
  | exc c a ρ1 => rw [bnd_exc hx] at q; exact q
  | ok b ρ1 =>
    rw [bnd_ok hx] at q
    intro H1 Ow1 s1 x1
    exact ⟨B, Ox, Ow1, ρ1, s1, q.step x1⟩
theorem xret {b : Bool} {σ : L2.St} {H : Hp} {Q : VK} (h : tX T W (ret (.frz (.bool b))) σ H Q) : Q (.bl b) H := by
  obtain ⟨B, Ox, Ow, ρ, s, q⟩ := h
  exact Pst.bl s q
theorem tX_mono {x : M OD} {σ : L2.St} {H : Hp} {Q Q' : VK} (k : ∀ b H, Q b H → Q' b H) (h : tX T W x σ H Q) : tX T W x σ H Q' := by
  obtain ⟨B, Ox, Ow, ρ, s, q⟩ := h
  refine ⟨B, Ox, Ow, ρ, s, ?_⟩
  cases hx : x ρ with
  | stuck => rw [hx] at q; exact q
  | exc c a ρ1 => rw [hx] at q; exact q
  | ok b ρ1 => rw [hx] at q; exact fun v H1 Ow1 A s1 x1 o n p => k _ _ (q v H1 Ow1 A s1 x1 o n p)
theorem px_and {e b : Expr} {rest : List Expr} {x y : M OD} (h : PE X e (tX T W x)) (h' : PE X (.BoolOp .And (b :: rest) pos) (tX T W y)) : PE X (.BoolOp .And (e :: b :: rest) pos) (tX T W (dand x y)) :=
  imp (pe_and h h') fun σ H Q q => tX_mono (fun v H1 ⟨c, e, q1⟩ => ⟨c, e, by
    cases c with
    | true => simpa using q1
    | false => simpa using xret q1⟩) (bx q)
theorem px_or {e b : Expr} {rest : List Expr} {x y : M OD} (h : PE X e (tX T W x)) (h' : PE X (.BoolOp .Or (b :: rest) pos) (tX T W y)) : PE X (.BoolOp .Or (e :: b :: rest) pos) (tX T W (dor x y)) :=
  imp (pe_or h h') fun σ H Q q => tX_mono (fun v H1 ⟨c, e, q1⟩ => ⟨c, e, by
    cases c with
    | true => simpa using xret q1
    | false => simpa using q1⟩) (bx q)
theorem px_not {e : Expr} {x : M OD} (h : PE X e (tX T W x)) : PE X (.UnaryOp .Not e pos) (tX T W (dnot x)) :=
  imp (pe_not h) fun σ H Q q => tX_mono (fun v H1 ⟨c, e, q1⟩ => ⟨c, e, xret q1⟩) (bx (g := fun b => ret (.frz (.bool (!b)))) q)
end
end PI

/-! PL7: chains, subscripts, slices, displays, built-in functions (own work). -/
namespace PI
open PySem PySem.Spec PyProof.Rows L2
section
variable {T : Th} {W : WX} {X : Cx} {B : Bx} {Ox Ow : List Addr} {σ : L2.St} {ρ : Env} {H : Hp} {O : List Addr} {pos : Pos}

/-! ### a op b op' c -/
theorem r_chain {o p : B2} {x y z : M PyData} {σ : L2.St} {H : Hp} {Q : VK} (h : tX T W (dch o p x y z) σ H Q) : tChain (rB T W (b2 o)) (rB T W (b2 p)) (tF T W x) (tF T W y) (tK T W z) σ H Q := by
  obtain ⟨B, Ox, Ow, ρ, s, q⟩ := h
  unfold dch at q
  refine ⟨B, Ox, Ow, ρ, s, ?_⟩
  cases hx : x ρ with
  | stuck => rw [bnd_stk hx] at q; exact q
  | exc c a ρ1 => rw [bnd_exc hx] at q; exact q
  | ok a ρ1 =>
    rw [bnd_ok hx] at q
    intro u H1 Ow1 s1 x1 i1
    refine ⟨B, Ox, Ow1, ρ1, s1, ?_⟩
    cases hy : y ρ1 with
    | stuck => rw [bnd_stk hy] at q; exact q
    | exc c a ρ2 => rw [bnd_exc hy] at q; exact exE.step x1 q
    | ok b ρ2 =>
      rw [bnd_ok hy] at q
      intro w H2 Ow2 s2 x2 i2
      refine ⟨B, Ox, Ow2, σ, ρ2, a, b, s2, (x2.is i1).con, i2.con, psb_pst (m := lif (b2 o a b)) ?_⟩
      cases e : qof (lif (b2 o a b)) ρ2 with
      | stuck => rw [bnd_stk e] at q; exact q
      | exc c a ρ2 => rw [bnd_exc e] at q; exact exE.step (x1.trans x2) q
      | ok k ρ3 =>
        rw [bnd_ok e] at q
        intro H3 Ow3 s3 x3
        cases k with
        | true =>
          simp only [if_true] at q ⊢
          refine ⟨B, Ox, Ow3, ρ3, s3, ?_⟩
          cases hz : z ρ3 with
          | stuck => rw [bnd_stk hz] at q; exact q
          | exc c a ρ4 => rw [bnd_exc hz] at q; exact exE.step ((x1.trans x2).trans x3) q
          | ok c ρ4 =>
            rw [bnd_ok hz] at q
            intro w4 H4 Ow4 s4 x4 c4
            exact ⟨B, Ox, Ow4, σ, ρ4, b, c, s4, ((x3.trans x4).is i2).con, c4, Pst.step (((x1.trans x2).trans x3).trans x4) q⟩
        | false =>
          simp only [Bool.false_eq_true, if_false] at q ⊢
          exact Pst.bl s3 (Pst.step ((x1.trans x2).trans x3) q)
theorem px_chain {op op' : CmpOp} {o p : B2} {a b c : Expr} {x y z : M PyData} (ho : OpR X (compareOp op) (rB T W (b2 o))) (ho' : OpR X (compareOp op') (rB T W (b2 p))) (ha : PE X a (tF T W x)) (hb : PE X b (tF T W y)) (hc : PE X c (tK T W z))
    (hm : lastMarks [op, op'] [b, c] = false := by with_unfolding_all rfl) : PE X (.Compare a [op, op'] [b, c] pos) (tX T W (dch o p x y z)) := imp (pe_chain ho ho' ha hb hc hm) fun _ _ _ => r_chain
theorem pt_chain' {op op' : CmpOp} {o p : B2} {a b c : Expr} {x y z : M PyData} (ho : OpR X (compareOp op) (rB T W (b2 o))) (ho' : OpR X (compareOp op') (rB T W (b2 p))) (ha : PE X a (tF T W x)) (hb : PE X b (tF T W y)) (hc : PE X c (tK T W z))
    (hm : lastMarks [op, op'] [b, c] = false := by with_unfolding_all rfl) : PT X (.Compare a [op, op'] [b, c] pos) (tQ T W (qof (dch o p x y z))) := impT (pt_chain ho ho' ha hb hc hm) fun _ _ _ h => r_chain (q_of h)

/-! ### subscripts -/
def gidx (a b : PyData) : M OD := bnd (lif (idxD a b)) fun r => ret (.frz r)
theorem gidx_some {a b d : PyData} (h : idxD a b = some d) : gidx a b ρ = .ok (.frz d) ρ := by simp [gidx, bnd, lif, h, ret]
theorem gidx_none {a b : PyData} (h : idxD a b = none) : gidx a b ρ = .stuck := by simp [gidx, bnd, lif, h]
theorem ix_at {α : Type} {xs : List α} {i : Int} {j : Nat} {v : α} (h : ix xs.length i = some j) (e : xs[j]? = some v) : atI xs i = some v := by
  have h' : ixN xs.length i = some j := h
  unfold atI
  rw [h']
  exact e
theorem isA_at {ds : List PyData} {xs : List V} {i : Int} {d : PyData} {K : PySem.W.Frag} (h : IsA K H O ds xs) (e : (ix ds.length i).bind (ds[·]?) = some d) : ∃ v, atI xs i = some v ∧ Is K H O d v := by
  obtain ⟨j, h1, h2⟩ := Option.bind_eq_some_iff.mp e
  obtain ⟨v, h3, h4⟩ := h.get h2
  exact ⟨v, ix_at (by rw [← h.length]; exact h1) h3, h4⟩
def rIx' (T : Th) (W : WX) : R2 := fun u w H Q => ∃ B Ox Ow σ ρ a b, St1 T.K B Ox ρ σ H Ow ∧ Con T.K H (Ow ++ Ox) a u ∧ Con T.K H (Ow ++ Ox) b w ∧ Pst T W B Ox σ H Ow (gidx a b ρ) Q
theorem ix_data (hu : X.A.units + 150 < cLine) : IxR X (rIx' T W) := by
  rintro value slice pins s σ' H x y v u Q I rx ry ⟨B, Ox, Ow, σ, ρ, a, b, S, ca, cb, h⟩ hs
  cases e : idxD a b with
  | none => rw [gidx_none e] at h; exact h.elim
  | some d =>
    rw [gidx_some e] at h
    cases a with
    | list ds =>
      cases b with
      | int i =>
        simp only [idxD] at e
        split at e
        · obtain ⟨p, xs, rfl, hl, ia⟩ := ca
          obtain rfl := con_int cb
          obtain ⟨w, h1, h2⟩ := isA_at ia e
          exact ix_list value slice pins s σ' H _ _ v u Q I rx ry ⟨p, xs, i, w, rfl, rfl, .of hl, h1, h.frz S h2⟩ hs
        · exact nomatch e
      | _ => exact nomatch e
    | tuple ds =>
      cases b with
      | int i =>
        simp only [idxD] at e
        split at e
        · obtain ⟨p, xs, rfl, hl, ia⟩ := con_tup ca
          obtain rfl := con_int cb
          obtain ⟨w, h1, h2⟩ := isA_at ia e
          exact ix_tup value slice pins s σ' H _ _ v u Q I rx ry ⟨p, xs, i, w, rfl, rfl, hl.sq, h1, h.frz S h2⟩ hs
        · exact nomatch e
      | _ => exact nomatch e
    | str z =>
      cases b with
      | int i =>
        simp only [idxD] at e
        split at e
        · rename_i g
          simp only [Bool.and_eq_true] at g
          obtain rfl := con_str ca
          obtain rfl := con_int cb
          obtain ⟨j, h1, h2⟩ := Option.bind_eq_some_iff.mp e
          obtain ⟨c, h3, h4⟩ := Option.map_eq_some_iff.mp h2
          subst h4
          exact ix_str value slice pins s σ' H _ _ v u Q I rx ry ⟨z, i, c, rfl, rfl, of_decide_eq_true g.2, ix_at (by rw [Array.length_toList]; exact h1) (by rw [Array.getElem?_toList]; exact h3), h.str S⟩ hs
        · exact nomatch e
      | _ => exact nomatch e
    | dict kvs =>
      have e' : (if kfit kvs b then look kvs b else none) = some d := e
      split at e'
      · rename_i g
        obtain ⟨a, rfl⟩ := dict_ref ca
        cases (show v = Value.ref a from rx)
        rcases key_in g ca cb with ⟨r, dg, l1, l2⟩ | ⟨rfl, _⟩
        · obtain ⟨w, rfl, iw⟩ := l1 d e'
          exact tail_any (dict_typeIs I dg) PySem.F.slot_dict_getitem.lookup (d_getItem (by omega) I dg ry fun w' s' I' rw' => ⟨w, H, I', rw', h.frz S iw⟩) hs
        · exact nomatch e'
      · exact nomatch e'
    | _ => exact nomatch e
theorem px_idx {a b : Expr} {x y : M PyData} (hu : X.A.units + 150 < cLine) (ha : PE X a (tF T W x)) (hb : PE X b (tK T W y)) (hs : PlainIx b := by intro _ _; rfl) : PE X (.Subscript a b pos) (tX T W (didx x y)) :=
  imp (pe_ix (ix_data hu) ha hb hs) fun σ H Q h => by
    obtain ⟨B, Ox, Ow, ρ, s, q⟩ := two (g := gidx) h
    refine ⟨B, Ox, Ow, ρ, s, ?_⟩
    cases hx : x ρ with
    | stuck => rw [hx] at q; exact q
    | exc c a ρ1 => rw [hx] at q; exact q
    | ok a ρ1 =>
      rw [hx] at q
      intro u H1 Ow1 s1 x1 i1
      obtain ⟨B', Ox', Ow', ρ', s', q'⟩ := q u H1 Ow1 s1 x1 i1
      refine ⟨B', Ox', Ow', ρ', s', ?_⟩
      cases hy : y ρ' with
      | stuck => rw [hy] at q'; exact q'
      | exc c a ρ1 => rw [hy] at q'; exact q'
      | ok b ρ2 =>
        rw [hy] at q'
        intro w H2 Ow2 s2 x2 i2
        obtain ⟨B3, Ox3, Ow3, ρ3, a3, b3, s3, ca, cb, q3⟩ := q' w H2 Ow2 s2 x2 i2
        exact ⟨B3, Ox3, Ow3, σ, ρ3, a3, b3, s3, ca.con, cb, q3⟩
theorem px_idxL {i : Nat} {a b : Expr} {y : M PyData} (hu : X.A.units + 150 < cLine) (ha : PE X a (tVar i)) (hb : PE X b (tK T W y)) (hs : PlainIx b := by intro _ _; rfl) : PE X (.Subscript a b pos) (tX T W (didxL i y)) :=
  imp (pe_ix (ix_data hu) ha hb hs) fun σ H Q h => by
    obtain ⟨u, hu, B', Ox', Ow', ρ', s', q'⟩ := twoL (g := gidx) h
    refine ⟨u, hu, B', Ox', Ow', ρ', s', ?_⟩
    cases hy : y ρ' with
    | stuck => rw [hy] at q'; exact q'
    | exc c a ρ1 => rw [hy] at q'; exact q'
    | ok b ρ2 =>
      rw [hy] at q'
      intro w H2 Ow2 s2 x2 i2
      obtain ⟨B3, Ox3, Ow3, ρ3, a3, b3, s3, ca, cb, q3⟩ := q' w H2 Ow2 s2 x2 i2
      exact ⟨B3, Ox3, Ow3, σ, ρ3, a3, b3, s3, ca, cb, q3⟩

/-! ### slices -/
theorem isA_cut {ds : List PyData} {xs : List V} {K : PySem.W.Frag} (h : IsA K H O ds xs) (lo hi : Option Int) : IsA K H O (cutL ds lo hi) (cutV xs lo hi) := by
  unfold cutL cutV
  rw [h.length]
  exact (h.drop _).take _
def rSl' (T : Th) (W : WX) : V → Option Int → Option Int → Hp → VK → Prop := fun u lo hi H Q => ∃ B Ox Ow σ ρ a, St1 T.K B Ox ρ σ H Ow ∧ Con T.K H (Ow ++ Ox) a u ∧ Pst T W B Ox σ H Ow (lif (sliD a lo hi) ρ) Q
theorem sx_all {α : Type} {xs : List α} {lo hi : Option Int} (h1 : sx xs.length 0 lo = 0) (h2 : sx xs.length xs.length hi = xs.length) : cutL xs lo hi = xs := by
  unfold cutL
  rw [h1, h2]
  simp
theorem sl_data : L2.SlR X (rSl' T W) := by
  rintro pins s σ' H x v vl vu lo hi sl Q I rx hs pl pu ⟨B, Ox, Ow, σ, ρ, a, S, ca, h⟩
  cases a with
  | list ds =>
    obtain ⟨p, xs, rfl, hl, ia⟩ := ca
    exact sl_list pins s σ' H _ v vl vu lo hi sl Q I rx hs pl pu ⟨p, xs, rfl, .of hl, fun q hq => h.newL S (isA_cut ia lo hi) hq⟩
  | tuple ds =>
    obtain ⟨p, xs, rfl, hl, ia⟩ := con_tup ca
    refine sl_tupA pins s σ' H _ v vl vu lo hi sl Q I rx hs pl pu ⟨p, xs, rfl, hl.sq, fun ⟨h1, h2⟩ => ?_, fun _ q hq => h.newT S (isA_cut ia lo hi) hq⟩
    rw [← ia.length] at h1 h2
    have e := sx_all (xs := ds) (lo := lo) (hi := hi) h1 h2
    have h' : Pst T W B Ox σ H Ow (.ok (.frz (.tuple (cutL ds lo hi))) ρ) Q := h
    rw [e] at h'
    exact h'.frz S (by simp only [Is]; exact ⟨p, xs, rfl, hl, ia⟩)
  | str z =>
    obtain rfl := con_str ca
    by_cases hz : z.cps.size ≤ lim
    · simp only [sliD, if_pos hz] at h
      refine sl_str pins s σ' H _ v vl vu lo hi sl Q I rx hs pl pu ⟨z, rfl, hz, ?_⟩
      have e : cutS z lo hi = ⟨(cutL z.cps.toList lo hi).toArray⟩ := by
        unfold cutS cutL
        simp only [Array.length_toList, Str.length]
        rfl
      rw [e]
      exact h.str S
    · simp only [sliD, if_neg hz] at h; exact h.elim
  | none => exact h.elim
  | bool _ => exact h.elim
  | int _ => exact h.elim
  | dict _ => exact h.elim
/-- a slice's part -/
def tP (T : Th) (W : WX) : Option (M PyData) → TO
  | none => tNoPart
  | some m => tPart (tF T W m)
theorem pp_none : PO X none (tP T W none) := po_none
theorem pp_some {e : Expr} {m : M PyData} (h : PE X e (tF T W m)) : PO X (some e) (tP T W (some m)) := po_some h
/-- a slice's part, then the rest -/
theorem part {lo : Option (M PyData)} {g : Option Int → M OD} {σ : L2.St} {H : Hp} {Q : VK} (B : Bx) (Ox Ow : List Addr) (ρ : Env) (s : St1 T.K B Ox ρ σ H Ow) (q : Pst T W B Ox σ H Ow (bnd (dpart lo) g ρ) Q)
    {R : Option Int → Hp → Prop} (k : ∀ (i : Option Int) Ow1 ρ1 H1, St1 T.K B Ox ρ1 σ H1 Ow1 → Stp Ow H Ow1 H1 → Pst T W B Ox σ H1 Ow1 (g i ρ1) Q → R i H1) : tP T W lo σ H R := by
  cases lo with
  | none => exact k none Ow ρ H s .refl q
  | some m =>
    refine ⟨B, Ox, Ow, ρ, s, ?_⟩
    cases hm : m ρ with
    | stuck => rw [show bnd (dpart (some m)) g ρ = .stuck from bnd_stk (bnd_stk hm)] at q; exact q
    | exc c a ρ1 => rw [show bnd (dpart (some m)) g ρ = .exc c a ρ1 from bnd_exc (bnd_exc hm)] at q; exact q
    | ok d ρ1 =>
      intro v H1 Ow1 s1 x1 i1
      cases d with
      | int i =>
        simp only [Is] at i1
        by_cases hs : smallI i = true
        · rw [show bnd (dpart (some m)) g ρ = g (some i) ρ1 from bnd_ok ((bnd_ok hm).trans (by simp only [if_pos hs]; rfl))] at q
          exact ⟨i, i1, k (some i) Ow1 ρ1 H1 s1 x1 (q.step x1)⟩
        · rw [show bnd (dpart (some m)) g ρ = .stuck from bnd_stk ((bnd_ok hm).trans (by simp only [if_neg hs]))] at q
          exact q.elim
      | _ => rw [show bnd (dpart (some m)) g ρ = .stuck from bnd_stk ((bnd_ok hm).trans rfl)] at q; exact q.elim
theorem px_sli {e : Expr} {lo hi : Option Expr} {x : M PyData} {l h : Option (M PyData)} {p2 : Pos} (he : PE X e (tF T W x)) (hl : PO X lo (tP T W l)) (hh : PO X hi (tP T W h)) :
    PE X (.Subscript e (.Slice lo hi none p2) pos) (tX T W (dsli x l h)) := imp (pe_slice sl_data he hl hh) fun σ H Q ⟨B, Ox, Ow, ρ, s, q⟩ => by
  refine ⟨B, Ox, Ow, ρ, s, ?_⟩
  unfold dsli at q
  cases hx : x ρ with
  | stuck => rw [bnd_stk hx] at q; exact q
  | exc c a ρ1 => rw [bnd_exc hx] at q; exact q
  | ok a ρ1 =>
    rw [bnd_ok hx] at q
    intro u H1 Ow1 s1 x1 i1
    refine part B Ox Ow1 ρ1 s1 (q.step x1) fun i Ow2 ρ2 H2 s2 x2 q2 => ?_
    refine part B Ox Ow2 ρ2 s2 q2 fun j Ow3 ρ3 H3 s3 x3 q3 => ?_
    exact ⟨B, Ox, Ow3, σ, ρ3, a, s3, ((x2.trans x3).is i1).con, q3⟩

/-! ### displays -/
def Psa (T : Th) (W : WX) (B : Bx) (Ox : List Addr) (σ : L2.St) (H : Hp) (Ow : List Addr) (r : Res (List PyData)) (Q : List V → Hp → Prop) : Prop := match r with
  | .ok ds ρ' => ∀ vs H' Ow', St1 T.K B Ox ρ' σ H' Ow' → Stp Ow H Ow' H' → IsA T.K H' (Ow' ++ Ox) ds vs → Q vs H'
  | .exc c a ρ' => exE T W B Ox σ H Ow c a ρ'
  | .stuck => False
def tA (T : Th) (W : WX) (m : M (List PyData)) : TA := fun σ H Q => ∃ B Ox Ow ρ, St1 T.K B Ox ρ σ H Ow ∧ Psa T W B Ox σ H Ow (m ρ) Q
theorem impA {es : List Expr} {t t' : TA} (h : PA X es t) (k : ∀ σ H Q, t' σ H Q → t σ H Q) : PA X es t' := ⟨fun p pins s σ H Q I q => h.run p pins s σ H Q I (k _ _ _ q)⟩
theorem Psa.step {r : Res (List PyData)} {Q : List V → Hp → Prop} {Ow1 : List Addr} {H1 : Hp} (x : Stp Ow H Ow1 H1) (h : Psa T W B Ox σ H Ow r Q) : Psa T W B Ox σ H1 Ow1 r Q := by
  cases r with
  | ok o ρ' => exact fun v H' Ow' s y => h v H' Ow' s (x.trans y)
  | exc c a ρ' => exact exE.step x h
  | stuck => exact h
theorem pd_nil : PA X [] (tA T W (dseq [])) := impA pa_nil fun σ H Q ⟨B, Ox, Ow, ρ, s, q⟩ => q [] H Ow s .refl (by simp only [IsA])
theorem pd_cons {e : Expr} {es : List Expr} {x : M PyData} {l : List (Bool × M PyData)} (h : PE X e (tF T W x)) (hr : PA X es (tA T W (dseq l))) (hs : starEach (e :: es) X.env = (false, eval e X.env) :: starEach es X.env := by rfl) :
    PA X (e :: es) (tA T W (dseq ((false, x) :: l))) := impA (pa_cons h hr hs) fun σ H Q ⟨B, Ox, Ow, ρ, s, q⟩ => by
  refine ⟨B, Ox, Ow, ρ, s, ?_⟩
  unfold dseq at q
  cases hx : x ρ with
  | stuck => rw [bnd_stk hx] at q; exact q
  | exc c a ρ1 => rw [bnd_exc hx] at q; exact q
  | ok a ρ1 =>
    rw [bnd_ok hx] at q
    intro u H1 Ow1 s1 x1 i1
    refine ⟨B, Ox, Ow1, ρ1, s1, ?_⟩
    simp only [Bool.false_eq_true, if_false] at q
    rw [bnd_ok (x := ret [a]) (a := [a]) (ρ' := ρ1) rfl] at q
    cases hl : dseq l ρ1 with
    | stuck => rw [bnd_stk hl] at q; exact q
    | exc c a ρ1 => rw [bnd_exc hl] at q; exact exE.step x1 q
    | ok t ρ2 =>
      rw [bnd_ok hl] at q
      intro vs H2 Ow2 s2 x2 i2
      exact q (u :: vs) H2 Ow2 s2 (x1.trans x2) ((IsA.one (x2.is i1)).append i2)
theorem pd_star {e : Expr} {es : List Expr} {x : M PyData} {l : List (Bool × M PyData)} {p : Pos} (h : PE X e (tF T W x)) (hr : PA X es (tA T W (dseq l))) (hs : starEach (.Starred e p :: es) X.env = (true, eval e X.env) :: starEach es X.env := by rfl) :
    PA X (.Starred e p :: es) (tA T W (dseq ((true, x) :: l))) := impA (StX.pa_star h hr hs) fun σ H Q ⟨B, Ox, Ow, ρ, s, q⟩ => by
  refine ⟨B, Ox, Ow, ρ, s, ?_⟩
  unfold dseq at q
  cases hx : x ρ with
  | stuck => rw [bnd_stk hx] at q; exact q
  | exc c a ρ1 => rw [bnd_exc hx] at q; exact q
  | ok a ρ1 =>
    rw [bnd_ok hx] at q
    intro u H1 Ow1 s1 x1 i1
    have fin : ∀ (ds : List PyData) (p : Addr) (xs : List V), seqD a = some ds → u = .ref p → (SqT X.K H1 p xs ∨ SqL X.K H1 p xs) → IsA T.K H1 (Ow1 ++ Ox) ds xs →
        ∃ p xs, u = V.ref p ∧ (SqT X.K H1 p xs ∨ SqL X.K H1 p xs) ∧ tA T W (dseq l) σ H1 fun ys H2 => Q (xs ++ ys) H2 := fun ds p xs e eu hh ia => by
      refine ⟨p, xs, eu, hh, B, Ox, Ow1, ρ1, s1, ?_⟩
      simp only [if_true] at q
      rw [bnd_ok (a := ds) (ρ' := ρ1) (by rw [e]; rfl)] at q
      cases hl : dseq l ρ1 with
      | stuck => rw [bnd_stk hl] at q; exact q
      | exc c a ρ1 => rw [bnd_exc hl] at q; exact exE.step x1 q
      | ok t ρ2 =>
        rw [bnd_ok hl] at q
        intro vs H2 Ow2 s2 x2 i2
        exact q (xs ++ vs) H2 Ow2 s2 (x1.trans x2) ((x2.isA ia).append i2)
    cases a with
    | list ds =>
      simp only [Is] at i1
      obtain ⟨p, xs, rfl, hl, ia⟩ := i1
      exact fin ds p xs rfl rfl (.inr (.of hl.2)) ia
    | tuple ds =>
      simp only [Is] at i1
      obtain ⟨p, xs, rfl, hl, ia⟩ := i1
      exact fin ds p xs rfl rfl (.inl hl.sq) ia
    | none => exact q.elim
    | bool _ => exact q.elim
    | int _ => exact q.elim
    | str _ => exact q.elim
    | dict _ => exact q.elim
theorem chk_len {ds : List PyData} {g : Unit → M OD} {Q : VK} (q : Pst T W B Ox σ H Ow (bnd (chk (decide (ds.length ≤ lim))) g ρ) Q) : ds.length ≤ lim ∧ Pst T W B Ox σ H Ow (g () ρ) Q := by
  by_cases h : ds.length ≤ lim
  · rw [bnd_ok (a := ()) (ρ' := ρ) (by simp [chk, h])] at q
    exact ⟨h, q⟩
  · rw [bnd_stk (by simp [chk, h])] at q
    exact q.elim
theorem px_tup {es : List Expr} {l : List (Bool × M PyData)} {k} (h : PA X es (tA T W (dseq l))) : PE X (.Tuple es k pos) (tX T W (dtup l)) := imp (pe_tup h) fun σ H Q ⟨B, Ox, Ow, ρ, s, q⟩ => by
  refine ⟨B, Ox, Ow, ρ, s, ?_⟩
  unfold dtup at q
  cases hx : dseq l ρ with
  | stuck => rw [bnd_stk hx] at q; exact q
  | exc c a ρ1 => rw [bnd_exc hx] at q; exact q
  | ok ds ρ1 =>
    rw [bnd_ok hx] at q
    intro vs H1 Ow1 s1 x1 i1
    obtain ⟨hl, q⟩ := chk_len q
    exact ⟨by rw [← i1.length]; exact hl, fun p hp => (q.step x1).newT s1 i1 hp⟩
theorem px_lst {es : List Expr} {l : List (Bool × M PyData)} (h : PA X es (tA T W (dseq l))) : PE X (.List es pos) (tX T W (dlst l)) := imp (pe_lst h) fun σ H Q ⟨B, Ox, Ow, ρ, s, q⟩ => by
  refine ⟨B, Ox, Ow, ρ, s, ?_⟩
  unfold dlst at q
  cases hx : dseq l ρ with
  | stuck => rw [bnd_stk hx] at q; exact q
  | exc c a ρ1 => rw [bnd_exc hx] at q; exact q
  | ok ds ρ1 =>
    rw [bnd_ok hx] at q
    intro vs H1 Ow1 s1 x1 i1
    obtain ⟨hl, q⟩ := chk_len q
    exact ⟨by rw [← i1.length]; exact hl, fun p hp => (q.step x1).newL s1 i1 hp⟩
/-- {} -/
theorem px_dd0 : PE X (.Dict [] [] pos) (tX T W dd0) := imp pe_dnewK fun σ H Q ⟨B, Ox, Ow, ρ, s, q⟩ => by
  intro p hp
  refine q (.ref p) _ Ow [p] (s.aside hp) (.new hp) ?_ (by simp) (fun b hb z => ?_)
  · simp only [fd, List.map_nil, Own]
    exact ⟨p, [], rfl, rfl, .inl ⟨[], upd_same, by simp, by simp [OwnV]⟩⟩
  · simp only [List.mem_singleton] at hb
    subst hb
    exact s.tr b (by simp [z]) hp
end
end PI

/-! PL8: calls of built-in functions and types with one argument; isinstance (own work). -/
namespace PI
open PySem PySem.Spec PyProof.Rows L2
def rC1 (T : Th) (W : WX) (o : B1) : List V → Hp → VK → Prop := fun xs H Q => ∃ v B Ox Ow σ ρ a, xs = [v] ∧ St1 T.K B Ox ρ σ H Ow ∧ Con T.K H (Ow ++ Ox) a v ∧ Pst T W B Ox σ H Ow (lif (b1 o a) ρ) Q
section
variable {T : Th} {W : WX} {X : Cx} {B : Bx} {Ox Ow : List Addr} {σ : L2.St} {ρ : Env} {H : Hp} {O : List Addr} {pos p : Pos} {x : Str} {e : Expr} {m : M PyData} {o : B1}
theorem rd_frz {a : Addr} {kvs : List (Key × V)} (h : Rd H a (.dK kvs)) : H a = some (.dK kvs) ∨ ∃ o, H a = some (.frz o (.dK kvs)) := h
theorem r_one {σ : L2.St} {Q : VK} (h : tX T W (d1 o m) σ H Q) : tCons (tK T W m) tNil σ H fun vs H1 => rC1 T W o vs H1 Q := by
  obtain ⟨B, Ox, Ow, ρ, s, q⟩ := one (g := fun a => lif (b1 o a)) h
  refine ⟨B, Ox, Ow, ρ, s, ?_⟩
  cases hx : m ρ with
  | stuck => rw [hx] at q; exact q
  | exc c a ρ1 => rw [hx] at q; exact q
  | ok a ρ1 =>
    rw [hx] at q
    intro u H1 Ow1 s1 x1 i1
    obtain ⟨B', Ox', Ow', ρ', a', s', c', q'⟩ := q u H1 Ow1 s1 x1 i1
    exact ⟨u, B', Ox', Ow', σ, ρ', a', rfl, s', c', q'⟩
theorem px_callB {id : String} (hc : CallR X (.builtin id) (rC1 T W o)) (hg : Gl X x) (hm : X.mg x = none) (hv : bootBuiltins x = some (.builtin id)) (ha : PE X e (tK T W m)) (hn : x ≠ "__name__" := by decide) (hdb : (x == ("__debug__" : Str)) = false := by decide)
    (hs : starEach [e] X.env = [(false, eval e X.env)] := by rfl) : PE X (.Call (.Name x p) [e] [] pos) (tX T W (d1 o m)) :=
  imp (pe_callB hc hg hm hv (pa_cons ha pa_nil hs) hn hdb hs) fun _ _ _ => r_one
theorem px_callTy {id : String} (hc : CallR X (.type id) (rC1 T W o)) (hg : Gl X x) (hm : X.mg x = none) (hv : bootBuiltins x = some (.type id)) (ha : PE X e (tK T W m)) (hn : x ≠ "__name__" := by decide) (hdb : (x == ("__debug__" : Str)) = false := by decide)
    (hs : starEach [e] X.env = [(false, eval e X.env)] := by rfl) : PE X (.Call (.Name x p) [e] [] pos) (tX T W (d1 o m)) :=
  imp (pe_callTy hc hg hm hv (pa_cons ha pa_nil hs) hn hdb hs) fun _ _ _ => r_one

theorem c_len : CallR X (.builtin "len") (rC1 T W .len) := by
  rintro pins s σ' H xs us Q I r ⟨v, B, Ox, Ow, σ, ρ, a, rfl, S, ca, h⟩
  cases a with
  | str z =>
    obtain rfl := con_str ca
    simp only [b1, lenD] at h
    by_cases hz : z.cps.size ≤ lim
    · rw [if_pos hz] at h
      exact call_len pins s σ' H _ us Q I r ⟨.str z, z.cps.size, rfl, ⟨hz, rfl⟩, h.int S⟩
    · rw [if_neg hz] at h; exact h.elim
  | list ds =>
    obtain ⟨p, xs, rfl, hl, ia⟩ := ca
    refine call_len pins s σ' H _ us Q I r ⟨.ref p, ds.length, rfl, .inl ⟨xs, .of hl, ia.length⟩, h.int S⟩
  | tuple ds =>
    obtain ⟨p, xs, rfl, hl, ia⟩ := con_tup ca
    refine call_len pins s σ' H _ us Q I r ⟨.ref p, ds.length, rfl, .inr ⟨xs, hl.sq, ia.length⟩, h.int S⟩
  | dict kvs =>
    obtain ⟨a, rfl, hd⟩ := ca
    obtain ⟨u, rfl, rx⟩ := vals1 r
    obtain rfl : u = .ref a := rx
    rcases hd with ⟨ks, h1, h2, h3⟩ | ⟨ks, h1, hn, h2, h3⟩
    · have e : kvs.length = ks.length := by simpa using h3.length
      refine d_len I h1 fun t s' I' => ⟨.int ks.length, H, I', ⟨t, rfl⟩, ?_⟩
      rw [← e]; exact h.int S
    · have e : kvs.length = ks.length := by simpa using h3.length
      obtain ⟨z, hd, ys, rel, dd⟩ := dt_rd I.hok h1
      have hl : ks.length = ys.length := Paired.length rel
      refine call_len_dictH hd dd (by rw [← hl]; rw [sizeLine_eq] at z; omega) ?_
      rw [← hl]
      refine ⟨.int ((ks.length : Nat) : Int), H, I.tok _, ⟨_, rfl⟩, ?_⟩
      rw [← e]; exact h.int S
  | _ => exact h.elim
theorem c_int : CallR X (.type "int") (rC1 T W .int) := by
  rintro pins s σ' H xs us Q I r ⟨v, B, Ox, Ow, σ, ρ, a, rfl, S, ca, h⟩
  cases a with
  | int i =>
    obtain rfl := con_int ca
    exact call_int1 pins s σ' H _ us Q I r (.inl ⟨i, rfl, h.int S⟩)
  | bool b =>
    obtain rfl := con_bool ca
    exact call_int1 pins s σ' H _ us Q I r (.inr ⟨b, rfl, h.int S⟩)
  | _ => exact h.elim
theorem c_abs : CallR X (.builtin "abs") (rC1 T W .abs) := by
  rintro pins s σ' H xs us Q I r ⟨v, B, Ox, Ow, σ, ρ, a, rfl, S, ca, h⟩
  cases a with
  | int i =>
    obtain rfl := con_int ca
    exact call_abs pins s σ' H _ us Q I r ⟨i, rfl, h.int S⟩
  | _ => exact h.elim
theorem bools_vals {K : PySem.W.Frag} : ∀ {ds : List PyData} {bs : List Bool} {vs : List V}, boolsD ds = some bs → IsA K H O ds vs → vs = bs.map V.bl
  | [], bs, vs, e, h => by
    simp only [boolsD, Option.some.injEq] at e
    subst e
    simp only [IsA] at h
    rw [h]; rfl
  | d :: ds, bs, vs, e, h => by
    simp only [IsA] at h
    obtain ⟨w, ws, rfl, h1, h2⟩ := h
    cases d with
    | bool b =>
      simp only [boolsD] at e
      obtain ⟨cs, e1, rfl⟩ := Option.map_eq_some_iff.mp e
      simp only [Is] at h1
      rw [h1, bools_vals e1 h2, List.map_cons]
    | _ => exact nomatch e
theorem ints_vals {K : PySem.W.Frag} : ∀ {ds : List PyData} {bs : List Int} {vs : List V}, intsD ds = some bs → IsA K H O ds vs → vs = bs.map V.int
  | [], bs, vs, e, h => by
    simp only [intsD, Option.some.injEq] at e
    subst e
    simp only [IsA] at h
    rw [h]; rfl
  | d :: ds, bs, vs, e, h => by
    simp only [IsA] at h
    obtain ⟨w, ws, rfl, h1, h2⟩ := h
    cases d with
    | int b =>
      simp only [intsD] at e
      obtain ⟨cs, e1, rfl⟩ := Option.map_eq_some_iff.mp e
      simp only [Is] at h1
      rw [h1, ints_vals e1 h2, List.map_cons]
    | _ => exact nomatch e
theorem seq_con {K : PySem.W.Frag} {a : PyData} {ds : List PyData} {v : V} (e : seqD a = some ds) (h : Con K H O a v) : ∃ p xs, v = .ref p ∧ (H p = some (.lst xs) ∨ H p = some (.tup xs)) ∧ IsA K H O ds xs := by
  cases a with
  | list l => cases e; obtain ⟨p, xs, rfl, hl, ia⟩ := h; exact ⟨p, xs, rfl, .inl hl, ia⟩
  | tuple l => cases e; simp only [Con, Is] at h; obtain ⟨p, xs, rfl, hl, ia⟩ := h; exact ⟨p, xs, rfl, .inr hl.2, ia⟩
  | _ => exact nomatch e
theorem c_all (hc : X.calm = true) : CallR X (.builtin "all") (rC1 T W .all) := by
  rintro pins s σ' H xs us Q I r ⟨v, B, Ox, Ow, σ, ρ, a, rfl, S, ca, h⟩
  cases a with
  | list l =>
    obtain ⟨p, xs, rfl, hl, ia⟩ := ca
    cases e : boolsD l with
    | none => simp only [b1, e, Option.map_none] at h; exact h.elim
    | some bs =>
      simp only [b1, e, Option.map_some] at h
      exact cr_all hc pins s σ' H _ us Q I r ⟨p, bs, rfl, by rw [← bools_vals e ia]; exact .of hl, h.bl S⟩
  | _ => exact h.elim
theorem c_any (hc : X.calm = true) : CallR X (.builtin "any") (rC1 T W .any) := by
  rintro pins s σ' H xs us Q I r ⟨v, B, Ox, Ow, σ, ρ, a, rfl, S, ca, h⟩
  cases a with
  | list l =>
    obtain ⟨p, xs, rfl, hl, ia⟩ := ca
    cases e : boolsD l with
    | none => simp only [b1, e, Option.map_none] at h; exact h.elim
    | some bs =>
      simp only [b1, e, Option.map_some] at h
      exact cr_any hc pins s σ' H _ us Q I r ⟨p, bs, rfl, by rw [← bools_vals e ia]; exact .of hl, h.bl S⟩
  | _ => exact h.elim
theorem c_sum (hc : X.calm = true) : CallR X (.builtin "sum") (rC1 T W .sum) := by
  rintro pins s σ' H xs us Q I r ⟨v, B, Ox, Ow, σ, ρ, a, rfl, S, ca, h⟩
  cases a with
  | list l =>
    obtain ⟨p, xs, rfl, hl, ia⟩ := ca
    cases e : intsD l with
    | none => simp only [b1, e, Option.map_none] at h; exact h.elim
    | some bs =>
      simp only [b1, e, Option.map_some] at h
      exact cr_sum hc pins s σ' H _ us Q I r ⟨p, bs, rfl, by rw [← ints_vals e ia]; exact .of hl, h.int S⟩
  | _ => exact h.elim
theorem c_tuple : CallR X (.type "tuple") (rC1 T W .tuple) := by
  rintro pins s σ' H xs us Q I r ⟨v, B, Ox, Ow, σ, ρ, a, rfl, S, ca, h⟩
  cases a with
  | list l =>
    obtain ⟨p, xs, rfl, hl, ia⟩ := ca
    exact call_tuple_of pins s σ' H _ us Q I r ⟨p, xs, rfl, .inl ⟨.of hl, fun q hq => h.newT S ia hq⟩⟩
  | tuple l =>
    obtain ⟨p, xs, rfl, hl, ia⟩ := con_tup ca
    exact call_tuple_of pins s σ' H _ us Q I r ⟨p, xs, rfl, .inr ⟨hl.sq, h.frz S (by simp only [Is]; exact ⟨p, xs, rfl, hl, ia⟩)⟩⟩
  | _ => exact h.elim
theorem Con.seqRef {K : PySem.W.Frag} {a : PyData} {v : V} {l : List PyData} (e : seqD a = some l) (h : Con K H O a v) : ∃ p, v = .ref p := by
  obtain ⟨p, xs, rfl, _⟩ := seq_con e h
  exact ⟨p, rfl⟩
theorem c_repr (hK : X.K = T.K) (hg : X.A.guards = some []) (hu : X.A.units + 150 < cLine) : CallR X (.builtin "repr") (rC1 T W .repr) := by
  rintro pins s σ' H xs us Q I r ⟨v, B, Ox, Ow, σ, ρ, a, rfl, S, ca, h⟩
  have fin : ∀ l, seqD a = some l → Pst T W B Ox σ H Ow (lif (if a.showable && (a.plain && (!a.hasDict && (decide (a.depth ≤ 100) && decide (a.shown.length ≤ lim)))) then some (OD.frz (.str a.shown)) else none) ρ) Q →
      wpAny (model X.prog X.w) X.A (call (.builtin "repr") us) (EP X pins σ' Q) X.xe s := fun l e h => by
    by_cases c : (a.showable && (a.plain && (!a.hasDict && (decide (a.depth ≤ 100) && decide (a.shown.length ≤ lim))))) = true
    · rw [if_pos c] at h
      simp only [Bool.and_eq_true, decide_eq_true_eq, Bool.not_eq_true'] at c
      obtain ⟨c1, c2, c3, c4, c5⟩ := c
      obtain ⟨p, rfl⟩ := ca.seqRef e
      obtain ⟨u, rfl, rx⟩ := vals1 r
      obtain rfl : u = .ref p := rx
      rw [← hK] at ca
      obtain ⟨as, rd⟩ := Con.reads (O := Ow ++ Ox) I c2 ca rfl
      exact repr_of_reads' rd c1 (fun z => by rw [c3] at z; exact nomatch z) hg (by omega) (fun _ _ e => e) (fun h' u tk hk => ⟨.str a.shown, H, I.kept hk, ⟨u, rfl⟩, h.str S⟩) c5
    · rw [if_neg c] at h; exact h.elim
  cases a with
  | list l => exact fin l rfl h
  | tuple l => exact fin l rfl h
  | _ => exact h.elim

/-! ### list(d), list(reversed(x)) -/
theorem isK_keys {K : PySem.W.Frag} : ∀ {kvs : List (PyData × PyData)} {ks : List (Key × V)}, kvs.map (·.1) = ks.map (fun q => kD q.1) → IsA K H O (kvs.map (·.1)) (ks.map fun q => kV q.1)
  | [], [], _ => by simp only [List.map_nil, IsA]
  | [], _ :: _, h => by simp at h
  | _ :: _, [], h => by simp at h
  | (a, d) :: kvs, (j, v) :: ks, h => by
    simp only [List.map_cons, List.cons.injEq] at h
    obtain ⟨rfl, h⟩ := h
    simp only [List.map_cons, IsA]
    exact ⟨_, _, rfl, kD_is j, isK_keys h⟩
theorem c_list (hc : X.calm = true) : CallR X (.type "list") (rC1 T W .list) := by
  rintro pins s σ' H xs us Q I r ⟨v, B, Ox, Ow, σ, ρ, a, rfl, S, ca, h⟩
  cases a with
  | list l =>
    obtain ⟨p, xs, rfl, hl, ia⟩ := ca
    exact call_list_of pins s σ' H _ us Q I r ⟨p, xs, rfl, .inl (.of hl), fun q hq => h.newL S ia hq⟩
  | tuple l =>
    obtain ⟨p, xs, rfl, hl, ia⟩ := con_tup ca
    exact call_list_of pins s σ' H _ us Q I r ⟨p, xs, rfl, .inr hl.sq, fun q hq => h.newL S ia hq⟩
  | dict kvs =>
    by_cases c : (kvs.all fun q => atomK q.1) = true
    · simp only [b1, if_pos c] at h
      obtain ⟨a, rfl, hd⟩ := ca
      rcases hd with ⟨ks, h1, h2, h3⟩ | ⟨ks, h1, hn, h2, h3⟩
      · exact call_listD hc pins s σ' H _ us Q I r ⟨a, ks, rfl, h1, fun q hq => h.newL S (isK_keys h2) hq⟩
      · exfalso
        cases kvs with
        | nil =>
          simp at h2
          exact hn h2
        | cons q kvs =>
          cases ks with
          | nil => simp at h2
          | cons k ks =>
            simp only [List.map_cons, List.cons.injEq] at h2
            simp only [List.all_cons, h2.1, atom_tD, Bool.false_and] at c
            exact nomatch c
    · simp only [b1, if_neg c] at h; exact h.elim
  | _ => exact h.elim
end
section
variable {prog : Program} {w : World} {A : Around} {E : Value → Shared → Prop} {s : Shared}
open PySem.W in
theorem extend_rev {R : Result → Shared → Prop} {S it l : Addr} {items : Array Value} (hh : A.handled = none) (hit : s.heap.IsRevIter it l ((items.size : Int) - 1)) (hl : s.heap.IsList l items) (hne : l ≠ it) (hn : items.size ≤ sizeLine)
    (hSi : S ≠ it) (hSl : S ≠ l) (res : Value) (c₀ : Nat) (hS : s.heap.get? S = some { cls := .type "list", data := .seq #[] c₀ })
    (hR : ∀ h' tk acc' c', (∀ b o, b ≠ S → b ≠ it → s.heap.get? b = some o → h'.get? b = some o) → h'.get? S = some { cls := .type "list", dict := none, data := .seq acc' c', slots := #[] } →
      ItemsOf (fun i v => items[items.size - 1 - i]? = some v) acc' items.size → R (.ok (.ret res)) { s with heap := h', toks := tk }) :
    wpAny (model prog w) A.in1 (Builtin.List.listExtendWith (.ref S) (.ref it) res)
      (fun fin s' => match fin with | .done f => R (.ok f) s' | .again c' => c'.quiet = true ∧ codeAny (model prog w) A c' R s') (fun e s' => R (.error e) s') s := by
  have W := (Walks.listRev (prog := prog) (w := w) (A := A.in1) hh it l hne items).toS
  have hSf : S ∉ [it, l] := by simp only [List.mem_cons, List.not_mem_nil, or_false, not_or]; exact ⟨hSi, hSl⟩
  have hT : s.TypeIs (.ref it) "list_reverseiterator" := Heap.IsRevIter.typeIs hit
  have h1 : Builtin.List.listSameRef (.ref S) (.ref it) = false := by simp [Builtin.List.listSameRef, hSi]
  have e0 : ((items.size : Nat) : Int) - 1 - ((0 : Nat) : Int) = (items.size : Int) - 1 := by omega
  unfold Builtin.List.listExtendWith
  refine wpAny_bind (wpAny_typeOf hT ?_)
  rw [if_neg (by rw [h1]; decide)]
  refine wpAny_bind (wpAny_pyIter_revIter hit ?_)
  refine wpAny_bind (wpAny_holding ?_)
  unfold Builtin.List.listLengthHint
  refine wpAny_bind (wpAny_specialOf hT RT.nolen_lri ?_)
  show wpAny _ A.in1 (specialOf (Value.ref it) (Str.ofString "__length_hint__") >>= _) _ _ _
  refine wpAny_bind (wpAny_specialOf hT RT.hint_lri ?_)
  generalize hid : ("list_reverseiterator.__length_hint__" : String) = id0
  wp_delta
  rw [show splitId id0 = some ("list_reverseiterator", "__length_hint__") from by subst hid; decide +kernel]
  subst hid
  refine wpAny_bind (wpAny_isInstance (b := true) hT (by rw [isSubtype_type]; kernel_rfl) ?_)
  refine wpAny_pure ?_
  rw [if_neg (by decide)]
  refine wpAny_pure ⟨plainId_quiet F.plain_extend_loop _, codeAny_extend_loopS W hn _ hSf _ items.size 0 _ _ _ rfl (Nat.zero_le _) ⟨Nat.zero_le _, by rw [e0]; exact hit, hl⟩ hS (ItemsOf.nil _) fun s' acc' c' hm hS' hacc => ?_⟩
  rw [Moved.eq_with hm]
  refine hR s'.heap s'.toks acc' c' (fun b o hb hi e => hm.heap b o (fun hmem => ?_) e) hS' hacc
  rcases List.mem_cons.mp hmem with e' | hmem
  · exact hb e'
  · exact hi (List.mem_singleton.mp hmem)
open PySem.W in
theorem call_list_rev {Q : Value → Shared → Prop} {it l : Addr} {items : Array Value} (hh : A.handled = none) (hit : s.heap.IsRevIter it l ((items.size : Int) - 1)) (hl : s.heap.IsList l items) (hne : l ≠ it) (hn : items.size ≤ sizeLine)
    (hQ : ∀ h' tk acc' c', (∀ b o, b ≠ it → s.heap.get? b = some o → h'.get? b = some o) → h'.get? s.heap.objs.size = some { cls := .type "list", dict := none, data := .seq acc' c', slots := #[] } →
      ItemsOf (fun i v => items[items.size - 1 - i]? = some v) acc' items.size → Q (.ref s.heap.objs.size) { s with heap := h', toks := tk }) :
    wpAny (model prog w) A (call (.type "list") [.ref it]) Q E s := by
  refine callType_codes (Q₁ := fun obj s₁ => obj = .ref s.heap.objs.size ∧ s₁ = { s with heap := s.heap.push { cls := .type "list", data := .seq #[] } }) PySem.F.called_list (PySem.F.typeCall_list_1 _) PySem.F.entry_list_init
    (code_list_new _ ⟨rfl, rfl⟩) fun obj s₁ h₁ => ?_
  obtain ⟨rfl, rfl⟩ := h₁
  have hS : (s.heap.push { cls := .type "list", data := .seq #[] }).get? s.heap.objs.size = some { cls := .type "list", data := .seq #[] } := Heap.get?_push_size _ rfl
  obtain ⟨oi, hoi, _⟩ := id hit
  obtain ⟨ol, hol, _⟩ := id hl
  have hSi : s.heap.objs.size ≠ it := Nat.ne_of_gt (Heap.lt_size hoi)
  have hSl : s.heap.objs.size ≠ l := Nat.ne_of_gt (Heap.lt_size hol)
  refine ⟨⟨_, hS, rfl⟩, PySem.F.args_list_init_2 _ _, ?_⟩
  show wpAny _ _ (do let old ← Builtin.List.listItems (.ref s.heap.objs.size); Builtin.List.listUpdate (.ref s.heap.objs.size) (fun _ => #[]); letGo old.toList.reverse; Builtin.List.listExtendWith (.ref s.heap.objs.size) (.ref it) .none) _ _ _
  refine wpAny_bind ?_
  unfold Builtin.List.listItems
  refine wpAny_bind (wpAny_seqItems hS rfl (wpAny_pure ?_))
  show wpAny _ _ (updateSeq s.heap.objs.size (fun _ => #[]) >>= fun _ => letGo (#[] : Array Value).toList.reverse >>= fun _ => Builtin.List.listExtendWith (.ref s.heap.objs.size) (.ref it) .none) _ _ _
  refine wpAny_bind (wpAny_updateSeq hS rfl ?_)
  have hS₂ := Heap.get?_update_self (Obj.mapSeq (fun _ => (#[] : Array Value))) hS rfl
  have oth : ∀ b o, b ≠ s.heap.objs.size → s.heap.get? b = some o → ((s.heap.push { cls := .type "list", data := .seq #[] }).update s.heap.objs.size (Obj.mapSeq (fun _ => (#[] : Array Value)))).get? b = some o :=
    fun b o hb e => (Heap.get?_update_other _ _ (Ne.symm hb)).trans (Heap.get?_push_of_some _ e)
  refine wpAny_bind (wpAny_letGo ?_)
  refine extend_rev (A := A.in1) (s := { s with heap := (s.heap.push { cls := .type "list", data := .seq #[] }).update s.heap.objs.size (Obj.mapSeq (fun _ => (#[] : Array Value))) }) hh (hit.at fun o e => oth it o hSi.symm e) ?_ hne hn hSi hSl .none _ hS₂ (fun h' tk acc' c' hk hS' hacc => ?_)
  · obtain ⟨o, ho, r⟩ := hl
    exact ⟨o, oth l o hSl.symm ho, r⟩
  · exact ⟨rfl, hQ h' tk acc' c' (fun b o hb e => hk b o (Nat.ne_of_lt (Heap.lt_size e)) hb (oth b o (Nat.ne_of_lt (Heap.lt_size e)) e)) hS' hacc⟩
end
section
variable {T : Th} {W : WX} {X : Cx} {B : Bx} {Ox Ow : List Addr} {σ : L2.St} {ρ : Env} {H : Hp} {O : List Addr} {pos p : Pos} {x : Str} {e : Expr} {m : M PyData} {o : B1}
theorem at_rev {vs : List V} {us : List Value} {acc : Array Value} (r : Vals vs us) (h : ItemsOf (fun i v => us.toArray[us.toArray.size - 1 - i]? = some v) acc us.toArray.size) : Vals vs.reverse acc.toList := by
  have e : acc.toList = us.reverse := by
    have hl : acc.size = us.length := by simpa using h.1
    apply List.ext_getElem?
    intro j
    by_cases hj : j < us.length
    · have h1 : acc[j]? = some acc[j] := Array.getElem?_eq_getElem (by omega)
      have h2 := h.2 j _ h1
      simp only [List.size_toArray, List.getElem?_toArray] at h2
      rw [Array.getElem?_toList, h1, List.getElem?_reverse hj, h2]
    · rw [List.getElem?_eq_none (by rw [Array.length_toList]; omega), List.getElem?_eq_none (by rw [List.length_reverse]; omega)]
  rw [e]
  have key : ∀ {vs : List V} {us : List Value}, Vals vs us → ∀ {as : List V} {bs : List Value}, Vals as bs → Vals (vs.reverse ++ as) (us.reverse ++ bs) := by
    intro vs us r
    induction r with
    | nil => intro as bs q; exact q
    | cons a r ih =>
      intro as bs q
      simp only [List.reverse_cons, List.append_assoc, List.singleton_append]
      exact ih (.cons a q)
  simpa using key r .nil
/-- list(reversed(e)) -/
theorem px_lrev {p1 p2 q1 q2 : Pos} (hc : X.calm = true) (hg1 : Gl X "list") (hm1 : X.mg "list" = none) (hg2 : Gl X "reversed") (hm2 : X.mg "reversed" = none) (ha : PE X e (tK T W m)) (hs : starEach [e] X.env = [(false, eval e X.env)] := by rfl) :
    PE X (.Call (.Name "list" p1) [.Call (.Name "reversed" p2) [e] [] q2] [] q1) (tX T W (d1 .rev m)) := by
  refine ⟨fun pins s σ H Q I h => ?_⟩
  obtain ⟨B, Ox, Ow, ρ, S, q⟩ := one (g := fun a => lif (b1 .rev a)) h
  refine wpAny_Call_Name_kw (ld_blt (u := .type "list") I hg1 hm1 (by decide +kernel) ?_ (by decide) (by decide))
  refine PyProof.Rows.callWith_type1 ?_ rfl rfl
  refine Calls.spliced_cons ?_
  refine Call_ (ld_blt I hg2 hm2 PyProof.Rows.boot_reversed (PyProof.Rows.callWith_type1 ?_ hs rfl))
  rw [hs]
  show wpAny _ _ (spliced [(false, eval e X.env)]) _ _ s
  refine Calls.spliced_cons (thn (ha.run pins s σ H _ I ⟨B, Ox, Ow, ρ, S, q⟩) fun u s1 ⟨v, H1, I1, rv, q1⟩ => ?_)
  refine Calls.spliced_nil ?_
  obtain ⟨B, Ox, Ow, ρ, a, S1, ca, h1⟩ := q1
  cases a with
  | list l =>
    obtain ⟨p, xs, rfl, hl, ia⟩ := ca
    cases rv
    obtain ⟨its, rv, p', hz⟩ := I1.list (.of hl)
    have hlen := rv.length
    refine call_reversed_list p'.isList ?_
    have hlt := Heap.lt_size p'.isList.choose_spec.1
    refine Calls.spliced_nil ?_
    refine call_list_rev (it := s1.heap.objs.size) (l := p) (items := its.toArray) (I1.ok.hd hc) ⟨_, Heap.get?_push_size _ rfl, rfl, rfl⟩ (p'.isList.push _) (Nat.ne_of_lt hlt) (by simp only [List.size_toArray]; omega) fun h' tk acc c k hS hacc => ?_
    refine ⟨.ref _, upd H1 _ (.lst xs.reverse), I1.laid (t' := tk) (fun b u e => k b u (Nat.ne_of_lt (Heap.lt_size e)) (Heap.get?_push_of_some _ e)) (a := (s1.heap.push (revObj p ((its.toArray.size : Int) - 1))).objs.size) (by rw [Heap.size_push]; omega)
      (show ObjOk X.prog X.w _ _ _ (.lst xs.reverse) from ⟨by rw [List.length_reverse]; exact hz, acc.toList, c, at_rev rv hacc, by rw [Array.toArray_toList]; exact hS⟩), rfl, ?_⟩
    exact h1.newL S1 ia.reverse (I1.hok.fresh (by rw [Heap.size_push]; omega))
  | _ => exact h1.elim

/-! ### isinstance(x, T) -/
def nmT : PI.T → String
  | .int => "int"
  | .bool => "bool"
  | .str => "str"
  | .list => "list"
  | .tuple => "tuple"
  | .dict => "dict"
def tyN : PyData → String
  | .none => "NoneType"
  | .bool _ => "bool"
  | .int _ => "int"
  | .str _ => "str"
  | .list _ => "list"
  | .tuple _ => "tuple"
  | .dict _ => "dict"
theorem kitB_all : ([("NoneType", [false, false, false, false, false, false]), ("bool", [true, true, false, false, false, false]), ("int", [true, false, false, false, false, false]), ("str", [false, false, true, false, false, false]), ("list", [false, false, false, true, false, false]),
    ("tuple", [false, false, false, false, true, false]), ("dict", [false, false, false, false, false, true])].all fun q => decide ((["int", "bool", "str", "list", "tuple", "dict"].map fun t => kitB q.1 t) = q.2.map some)) = true := by decide +kernel
theorem kitB_of (t : PI.T) (d : PyData) : kitB (tyN d) (nmT t) = some (isT t d) := by
  have h := kitB_all
  simp only [List.all_cons, List.all_nil, Bool.and_true, Bool.and_eq_true, decide_eq_true_eq, List.map_cons, List.map_nil, List.cons.injEq, and_true] at h
  obtain ⟨h0, h1, h2, h3, h4, h5, h6⟩ := h
  cases d <;> cases t <;> simp only [tyN, nmT, isT, h0, h1, h2, h3, h4, h5, h6]
theorem Con.kit {pins : List (Addr × Obj)} {σ : L2.St} {s : Shared} {d : PyData} {v : V} {u : Value} (I : Inv X pins σ H s) (h : Con T.K H O d v) (r : RelV v u) :
    ∃ P : Heap → Prop, PySem.W.KitX X.K u (.type (tyN d)) P ∧ P s.heap ∧ u ≠ .builtin "__main__.__loader__#opaque" := by
  cases d with
  | none => simp only [Con, Is] at h; subst h; cases (show u = Value.none from r); exact ⟨_, PySem.W.kitx_none, True.intro, fun z => nomatch z⟩
  | bool b => obtain rfl := con_bool h; cases (show u = Value.bool b from r); exact ⟨_, PySem.W.kitx_bool, True.intro, fun z => nomatch z⟩
  | int i => obtain rfl := con_int h; obtain ⟨t, q⟩ := (show ∃ t, u = Value.int i t from r); cases q; exact ⟨_, PySem.W.kitx_int, True.intro, fun z => nomatch z⟩
  | str y => obtain rfl := con_str h; obtain ⟨t, q⟩ := (show ∃ t, u = Value.str y t from r); cases q; exact ⟨_, PySem.W.kitx_str, True.intro, fun z => nomatch z⟩
  | list l =>
    obtain ⟨p, xs, rfl, hl, ia⟩ := h
    cases (show u = Value.ref p from r)
    obtain ⟨_, _, n, _, h1⟩ := (show ObjOk X.prog X.w H s.heap p (.lst xs) from I.hok p _ hl)
    exact ⟨_, PySem.W.kitx_list, ⟨_, h1, rfl⟩, fun z => nomatch z⟩
  | tuple l =>
    obtain ⟨p, xs, rfl, hl, ia⟩ := con_tup h
    cases (show u = Value.ref p from r)
    obtain ⟨_, _, _, o, h1, h2, _⟩ := (show ObjOk X.prog X.w H s.heap p (.tup xs) from I.hok p _ hl.2)
    exact ⟨_, PySem.W.kitx_tuple, ⟨o, h1, h2⟩, fun z => nomatch z⟩
  | dict kvs =>
    obtain ⟨p, rfl, hd⟩ := h
    cases (show u = Value.ref p from r)
    rcases hd with ⟨ks, h1, _⟩ | ⟨ks, h1, _⟩
    · obtain ⟨_, _, vs, _, o, es, ep, h1, h2, _⟩ := (show ObjOk X.prog X.w H s.heap p (.dK ks) from rd_of I.hok h1)
      exact ⟨_, PySem.W.kitx_dict, ⟨o, h1, h2.1⟩, fun z => nomatch z⟩
    · obtain ⟨_, _, xs, _, o, es, ep, h1, h2, _⟩ := (show ObjOk X.prog X.w H s.heap p (.dT ks) from rd_of I.hok h1)
      exact ⟨_, PySem.W.kitx_dict, ⟨o, h1, h2.1⟩, fun z => nomatch z⟩
def rC1t (T : Th) (W : WX) (t : PI.T) : List V → Hp → VK → Prop := fun xs H Q => ∃ v B Ox Ow σ ρ a, xs = [v, .ty (nmT t)] ∧ St1 T.K B Ox ρ σ H Ow ∧ Con T.K H (Ow ++ Ox) a v ∧ Pst T W B Ox σ H Ow (lif (b1 (.is t) a) ρ) Q
theorem c_isi {t : PI.T} : CallR X (.builtin "isinstance") (rC1t T W t) := by
  rintro pins s σ' H xs us Q I r ⟨v, B, Ox, Ow, σ, ρ, a, rfl, S, ca, h⟩
  obtain ⟨u, w, rfl, r1, r2⟩ := vals2 r
  obtain rfl : w = .type (nmT t) := r2
  obtain ⟨P, Z, p, hx⟩ := ca.kit I r1
  refine PySem.W.kia_one Z I.kIn p (kit_ty (kitB_of t a)) hx fun tk => ⟨.bl (isT t a), H, I.tok tk, rfl, ?_⟩
  exact h.bl S
theorem px_isi {t : PI.T} {p2 : Pos} {y : Str} (hg : Gl X "isinstance") (hm : X.mg "isinstance" = none) (ha : PE X e (tK T W m)) (hy : Gl X y) (hym : X.mg y = none) (hyb : bootBuiltins y = some (.type (nmT t))) (hyn : y ≠ "__name__" := by decide) (hyd : (y == ("__debug__" : Str)) = false := by decide)
    (hs : starEach [e, .Name y p2] X.env = (false, eval e X.env) :: starEach [.Name y p2] X.env := by rfl) : PE X (.Call (.Name "isinstance" p) [e, .Name y p2] [] pos) (tX T W (d1 (.is t) m)) :=
  imp (pe_callB c_isi hg hm (by decide +kernel) (pa_cons ha (pa_cons (pe_bltn (v := .ty (nmT t)) hy hym hyb rfl hyn hyd) pa_nil) hs) (by decide) (by decide) hs) fun σ H Q h => by
    obtain ⟨B, Ox, Ow, ρ, s, q⟩ := one (g := fun a => lif (b1 (.is t) a)) h
    refine ⟨B, Ox, Ow, ρ, s, ?_⟩
    cases hx : m ρ with
    | stuck => rw [hx] at q; exact q
    | exc c a ρ1 => rw [hx] at q; exact q
    | ok a ρ1 =>
      rw [hx] at q
      intro u H1 Ow1 s1 x1 i1
      obtain ⟨B', Ox', Ow', ρ', a', s', c', q'⟩ := q u H1 Ow1 s1 x1 i1
      exact ⟨u, B', Ox', Ow', σ, ρ', a', rfl, s', c', q'⟩

/-! ### x is None, x is not None; not x as a value; -x -/
theorem isn_v {d : PyData} {v : V} (h : Con T.K H O d v) : decide (v = .non) = eqS d .none := by
  cases d with
  | none => simp only [Con, Is] at h; subst h; simp [eqS]
  | bool b => obtain rfl := con_bool h; simp [eqS]
  | int b => obtain rfl := con_int h; simp [eqS]
  | str b => obtain rfl := con_str h; simp [eqS]
  | list l => obtain ⟨p, xs, rfl, _⟩ := h; simp [eqS]
  | tuple l => obtain ⟨p, xs, rfl, _⟩ := con_tup h; simp [eqS]
  | dict l => obtain ⟨p, rfl, _⟩ := h; simp [eqS]
theorem r_isn {σ : L2.St} {Q : VK} {r : B1} (g : V → Hp → VK → Prop) (hg : ∀ {B Ox Ow ρ a H1} {v : V}, St1 T.K B Ox ρ σ H1 Ow → Con T.K H1 (Ow ++ Ox) a v → Pst T W B Ox σ H1 Ow (lif (b1 r a) ρ) Q → g v H1 Q) (h : tX T W (d1 r m) σ H Q) :
    tK T W m σ H fun v H1 => g v H1 Q := by
  obtain ⟨B, Ox, Ow, ρ, s, q⟩ := one (g := fun a => lif (b1 r a)) h
  refine ⟨B, Ox, Ow, ρ, s, ?_⟩
  cases hx : m ρ with
  | stuck => rw [hx] at q; exact q
  | exc c a ρ1 => rw [hx] at q; exact q
  | ok a ρ1 =>
    rw [hx] at q
    intro u H1 Ow1 s1 x1 i1
    obtain ⟨B', Ox', Ow', ρ', a', s', c', q'⟩ := q u H1 Ow1 s1 x1 i1
    exact hg s' c' q'
theorem px_isn {j} {p2 : Pos} (ha : PE X e (tK T W m)) : PE X (.Compare e [.Is] [.Constant .none j p2] pos) (tX T W (d1 .isn m)) :=
  imp (pe_cmpR op_isN ha pe_non rfl) fun σ H Q h => r_isn (r := .isn) (fun v H1 Q => V.non = V.non ∧ Q (.bl (decide (v = .non))) H1) (fun S c q => ⟨rfl, by rw [isn_v c]; exact q.bl S⟩) h
theorem px_notn {j} {p2 : Pos} (ha : PE X e (tK T W m)) : PE X (.Compare e [.IsNot] [.Constant .none j p2] pos) (tX T W (d1 .notn m)) :=
  imp (pe_cmpR op_notN ha pe_non rfl) fun σ H Q h => r_isn (r := .notn) (fun v H1 Q => V.non = V.non ∧ Q (.bl (!decide (v = .non))) H1) (fun S c q => ⟨rfl, by rw [isn_v c]; exact q.bl S⟩) h
theorem pt_isn {j} {p2 : Pos} (ha : PE X e (tK T W m)) : PT X (.Compare e [.Is] [.Constant .none j p2] pos) (tQ T W (qof (d1 .isn m))) :=
  impT (pt_cmpR op_isN ha pe_non rfl) fun σ H Q h => r_isn (r := .isn) (fun v H1 Q => V.non = V.non ∧ Q (.bl (decide (v = .non))) H1) (fun S c q => ⟨rfl, by rw [isn_v c]; exact q.bl S⟩) (q_of h)
theorem pt_notn {j} {p2 : Pos} (ha : PE X e (tK T W m)) : PT X (.Compare e [.IsNot] [.Constant .none j p2] pos) (tQ T W (qof (d1 .notn m))) :=
  impT (pt_cmpR op_notN ha pe_non rfl) fun σ H Q h => r_isn (r := .notn) (fun v H1 Q => V.non = V.non ∧ Q (.bl (!decide (v = .non))) H1) (fun S c q => ⟨rfl, by rw [isn_v c]; exact q.bl S⟩) (q_of h)
theorem px_neg (ha : PE X e (tK T W m)) : PE X (.UnaryOp .USub e pos) (tX T W (d1 .neg m)) :=
  imp (pe_un un_neg ha) fun σ H Q h => r_isn (r := .neg) (fun v H1 Q => ∃ i, v = .int i ∧ Q (.int (-i)) H1) (fun {B Ox Ow ρ a H1 v} S c q => by
    cases a with
    | int i => obtain rfl := con_int c; exact ⟨i, rfl, q.int S⟩
    | _ => exact q.elim) h
end
end PI

/-! PL9: targets, what is walked, comprehensions (own work). -/
namespace PI
open PySem PySem.Spec PyProof.Rows L2
section
variable {T : Th} {W : WX} {X : Cx} {B : Bx} {Ox Ow : List Addr} {σ : L2.St} {ρ : Env} {H : Hp} {O : List Addr} {pos p : Pos} {x : Str} {e : Expr} {m : M PyData}

/-! ### slots are set -/
theorem St1.put {i : Nat} {y s' : SV} {v' : Option V} (s : St1 T.K B Ox ρ σ H Ow) (e : ρ[i]? = some y) (h : PI.SlR T.K H (Ow ++ Ox) B s' v' []) :
    ∃ Ow', Ow'.Sublist Ow ∧ St1 T.K B Ox (ρ.set i s') (σ.set i v') H Ow' := by
  obtain ⟨v, L, A1, R, h1, hA, h2, k⟩ := s.sl.at e
  have sub : (L ++ ([] ++ R)).Sublist Ow := by
    rw [hA]
    exact List.Sublist.append (List.Sublist.refl _) (List.Sublist.append (List.nil_sublist _) (List.Sublist.refl _))
  have av : ∀ b, b ∈ (L ++ ([] ++ R)) ++ Ox → b ∈ Ow ++ Ox ∨ H b = none := fun b hb => by
    rcases List.mem_append.mp hb with z | z
    · exact .inl (List.mem_append_left _ (sub.subset z))
    · exact .inl (List.mem_append_right _ z)
  refine ⟨_, sub, k H _ s' v' [] .refl av (fun _ _ _ _ _ e => e) (fun _ _ _ e => e) (h.mono .refl av (fun _ _ _ _ _ e => e) fun _ hb => nomatch hb), sub.nodup s.nd, fun b hb => s.ap b (sub.subset hb), fun b hb => ?_, s.lk⟩
  rcases List.mem_append.mp hb with z | z
  · exact s.tr b (List.mem_append_left _ (sub.subset z))
  · exact s.tr b (List.mem_append_right _ z)
theorem Stp.sub' {Ow' : List Addr} (h : Ow'.Sublist Ow) : Stp Ow H Ow' H := Stp.refl.less fun _ hb => h.subset hb
theorem okset_at {i : Nat} (h : okset ρ i = true) : ∃ y, ρ[i]? = some y := by
  unfold okset at h
  cases e : ρ[i]? with
  | none => rw [e] at h; exact nomatch h
  | some y => exact ⟨y, rfl⟩

/-! ### targets -/
/-- the same off these slots -/
def Off (is : List Nat) (σ σ' : L2.St) : Prop := σ'.length = σ.length ∧ ∀ j, j ∉ is → σ'[j]? = σ[j]?
theorem Off.refl {is : List Nat} : Off is σ σ := ⟨rfl, fun _ _ => rfl⟩
theorem Off.trans {is js : List Nat} {σ' σ'' : L2.St} (a : Off is σ σ') (b : Off js σ' σ'') : Off (is ++ js) σ σ'' :=
  ⟨b.1.trans a.1, fun j h => (b.2 j fun z => h (by simp [z])).trans (a.2 j fun z => h (by simp [z]))⟩
theorem Off.set {i : Nat} {v : Option V} : Off [i] σ (σ.set i v) := ⟨by simp, fun j h => List.getElem?_set_ne fun z => h (by simp [z])⟩
theorem wipe_at (j : Nat) : ∀ vs : List Nat, (wipe σ vs)[j]? = if j ∈ vs then σ[j]?.map fun _ => none else σ[j]?
  | [] => by simp [wipe]
  | v :: vs => by
    simp only [wipe, List.getElem?_set, wipe_length]
    by_cases h : v = j
    · subst h
      simp only [if_true, List.mem_cons, true_or]
      by_cases hl : v < σ.length
      · simp [hl]
      · simp [hl]
    · have h' : ¬ j = v := fun z => h z.symm
      simp only [h, if_false, wipe_at j vs, List.mem_cons, h', false_or]
theorem Off.wipe {is vs : List Nat} {σ' : L2.St} (a : Off is σ σ') (h : ∀ i ∈ is, i ∈ vs) : wipe σ' vs = wipe σ vs := by
  apply List.ext_getElem?
  intro j
  rw [wipe_at, wipe_at]
  by_cases hj : j ∈ vs
  · rw [if_pos hj, if_pos hj]
    by_cases hl : j < σ.length
    · rw [List.getElem?_eq_getElem hl, List.getElem?_eq_getElem (by rw [a.1]; exact hl)]; rfl
    · have h1 : σ'[j]? = none := List.getElem?_eq_none (by rw [a.1]; omega)
      have h2 : σ[j]? = none := List.getElem?_eq_none (by omega)
      rw [h1, h2]
  · rw [if_neg hj, if_neg hj]
    exact a.2 j fun z => hj (h j z)
def Psg (T : Th) (B : Bx) (Ox : List Addr) (is : List Nat) (σ : L2.St) (H : Hp) (Ow : List Addr) (r : Option Env) (Q : L2.St → Hp → Prop) : Prop := match r with
  | some ρ' => ∀ σ' Ow', St1 T.K B Ox ρ' σ' H Ow' → Stp Ow H Ow' H → Off is σ σ' → Q σ' H
  | none => False
def tG (T : Th) (t : Tg) : TG := fun v σ H Q => ∃ B Ox Ow ρ d, St1 T.K B Ox ρ σ H Ow ∧ Is T.K H (Ow ++ Ox) d v ∧ Psg T B Ox t.sl σ H Ow (bindT t d ρ) Q
def tGs (T : Th) (ts : List Tg) : TGs := fun vs σ H Q => ∃ B Ox Ow ρ ds, St1 T.K B Ox ρ σ H Ow ∧ IsA T.K H (Ow ++ Ox) ds vs ∧ Psg T B Ox (slTs ts) σ H Ow (bindTs ts ds ρ) Q
theorem impG {e : Expr} {t t' : TG} (h : PG X e t) (k : ∀ v σ H Q, t' v σ H Q → t v σ H Q) : PG X e t' := ⟨fun pins s σ H v u Q I r q => h.run pins s σ H v u Q I r (k _ _ _ _ q)⟩
theorem impGs {e : List Expr} {t t' : TGs} (h : PGs X e t) (k : ∀ v σ H Q, t' v σ H Q → t v σ H Q) : PGs X e t' := ⟨fun pins s σ H v u Q I r q => h.run pins s σ H v u Q I r (k _ _ _ _ q)⟩
theorem Psg.step {r : Option Env} {Q : L2.St → Hp → Prop} {Ow1 : List Addr} {is js : List Nat} {σ1 : L2.St} (y : Stp Ow H Ow1 H) (f : Off is σ σ1) (h : Psg T B Ox (is ++ js) σ H Ow r Q) : Psg T B Ox js σ1 H Ow1 r Q := by
  cases r with
  | none => exact h
  | some ρ' => exact fun σ' Ow' s z g => h σ' Ow' s (y.trans z) (f.trans g)
theorem pgd_nm {i : Nat} (hN : X.N.Nodup) (hi : X.N[i]? = some x) (hx : Loc X.env.scope x) (hf : X.fn x = true ∨ X.env.scope.names.lookup x = some .local) : PG X (.Name x pos) (tG T (.nm i)) :=
  impG (pg_name hN hi hx hf) fun v σ H Q ⟨B, Ox, Ow, ρ, d, s, hv, q⟩ => by
    simp only [bindT] at q
    by_cases h : okset ρ i = true
    · rw [if_pos h] at q
      obtain ⟨y, e⟩ := okset_at h
      obtain ⟨Ow', sub, s'⟩ := s.put (s' := .val d) (v' := some v) e ⟨rfl, v, rfl, hv⟩
      exact q _ _ s' (.sub' sub) .set
    · rw [if_neg h] at q; exact q.elim
theorem pgd_nil : PGs X [] (tGs T []) := impGs pgs_nil fun v σ H Q ⟨B, Ox, Ow, ρ, ds, s, hv, q⟩ => by
  cases ds with
  | nil =>
    simp only [IsA] at hv
    simp only [bindTs] at q
    exact ⟨hv, q _ _ s .refl .refl⟩
  | cons d ds => exact q.elim
theorem pgd_cons {es : List Expr} {t : Tg} {ts : List Tg} (h1 : PG X e (tG T t)) (h2 : PGs X es (tGs T ts)) (hs : (assignEach (e :: es) X.env).map (·.2) = assign e X.env :: (assignEach es X.env).map (·.2) := by rfl) : PGs X (e :: es) (tGs T (t :: ts)) :=
  impGs (pgs_cons h1 h2 hs) fun v σ H Q ⟨B, Ox, Ow, ρ, ds, s, hv, q⟩ => by
    cases ds with
    | nil => exact q.elim
    | cons d ds =>
      simp only [IsA] at hv
      obtain ⟨w, ws, rfl, hw, hws⟩ := hv
      refine ⟨w, ws, rfl, B, Ox, Ow, ρ, d, s, hw, ?_⟩
      simp only [bindTs, slTs] at q
      cases r : bindT t d ρ with
      | none => rw [r] at q; exact q
      | some ρ1 =>
        rw [r] at q
        intro σ1 Ow1 s1 y1 f1
        exact ⟨B, Ox, Ow1, ρ1, ds, s1, y1.isA hws, Psg.step y1 f1 q⟩
theorem pgd_tp {es : List Expr} {k : Nat} {ts : List Tg} {n : Nat} (hc : X.calm = true) (hK : X.K = T.K) (h : PGs X es (tGs T ts)) (hn : (assignEach es X.env).length = n := by rfl) (hl : ts.length = n := by rfl) (hst : (assignEach es X.env).findIdx? (·.1) = none := by rfl) :
    PG X (.Tuple es k pos) (tG T (.tp ts)) := impG (pg_tup hc h hn hst) fun v σ H Q ⟨B, Ox, Ow, ρ, d, s, hv, q⟩ => by
  cases d with
  | tuple ds =>
    simp only [Is] at hv
    obtain ⟨a, xs, rfl, h1, h2⟩ := hv
    simp only [bindT, Tg.sl] at q
    have len : ∀ (ts : List Tg) (ds : List PyData) (ρ ρ' : Env), bindTs ts ds ρ = some ρ' → ds.length = ts.length := by
      intro ts
      induction ts with
      | nil => intro ds ρ ρ' e; cases ds with
        | nil => rfl
        | cons d ds => exact nomatch e
      | cons t ts ih => intro ds ρ ρ' e; cases ds with
        | nil => exact nomatch e
        | cons d ds =>
          simp only [bindTs] at e
          obtain ⟨ρ1, e1, e2⟩ := Option.bind_eq_some_iff.mp e
          simp [ih ds ρ1 ρ' e2]
    refine ⟨a, xs, rfl, h1.sq, ?_, B, Ox, Ow, ρ, ds, s, h2, q⟩
    cases r : bindTs ts ds ρ with
    | none => rw [r] at q; exact q.elim
    | some ρ' => rw [← hl, ← len ts ds ρ ρ' r, h2.length]
  | _ => exact q.elim

/-! ### what is walked -/
structure WalkD (K : PySem.W.Frag) (Ox Ow : List Addr) (H : Hp) (J : It) (ds : List PyData) : Prop where
  go : ∀ i Ow1 H1, Stp Ow H Ow1 H1 → i < ds.length → J.go i H1
  stop : ∀ Ow1 H1, Stp Ow H Ow1 H1 → J.stop ds.length H1
  yld : ∀ i Ow1 H1 v H2 d, Stp Ow H Ow1 H1 → (∀ b ∈ Ow1 ++ Ox, H1 b ≠ none) → ds[i]? = some d → J.yld i H1 v H2 → (∀ b o, H1 b = some o → H2 b = some o) ∧ Is K H2 (Ow1 ++ Ox) d v
def Psi (T : Th) (W : WX) (B : Bx) (Ox : List Addr) (σ : L2.St) (H : Hp) (Ow : List Addr) (r : Res (List PyData)) (R : It → Hp → Prop) : Prop := match r with
  | .ok ds ρ' => ∀ J H' Ow', St1 T.K B Ox ρ' σ H' Ow' → Stp Ow H Ow' H' → WalkD T.K Ox Ow' H' J ds → R J H'
  | .exc c a ρ' => exE T W B Ox σ H Ow c a ρ'
  | .stuck => False
def tS (T : Th) (W : WX) (m : M (List PyData)) : TI := fun σ H R => ∃ B Ox Ow ρ, St1 T.K B Ox ρ σ H Ow ∧ Psi T W B Ox σ H Ow (m ρ) R
theorem impI {tg e : Expr} {t t' : TI} (h : PI X tg e t) (k : ∀ σ H Q, t' σ H Q → t σ H Q) : PI X tg e t' := ⟨fun pins s σ H Q I q => h.run pins s σ H Q I (k _ _ _ q)⟩
/-- read, and out of the frame's own at the top -/
def Psn (T : Th) (W : WX) (B : Bx) (Ox : List Addr) (σ : L2.St) (H : Hp) (Ow : List Addr) (r : Res PyData) (Q : VK) : Prop := match r with
  | .ok d ρ' => ∀ v H' Ow', St1 T.K B Ox ρ' σ H' Ow' → Stp Ow H Ow' H' → Con T.K H' (Ow' ++ Ox) d v → (∀ a, v = .ref a → a ∉ Ow') → Q v H'
  | .exc c a ρ' => exE T W B Ox σ H Ow c a ρ'
  | .stuck => False
def tN (T : Th) (W : WX) (m : M PyData) : TE := fun σ H Q => ∃ B Ox Ow ρ, St1 T.K B Ox ρ σ H Ow ∧ Psn T W B Ox σ H Ow (m ρ) Q
theorem is_out {d : PyData} {v : V} (h : Is T.K H O d v) : ∀ a, v = .ref a → a ∉ O := fun a e => by
  cases d <;> simp only [Is] at h
  · rw [h] at e; exact nomatch e
  · rw [h] at e; exact nomatch e
  · rw [h] at e; exact nomatch e
  · rw [h] at e; exact nomatch e
  · obtain ⟨b, xs, e2, h1, _⟩ := h; rw [e] at e2; cases e2; exact h1.1
  · obtain ⟨b, xs, e2, h1, _⟩ := h; rw [e] at e2; cases e2; exact h1.1
  · obtain ⟨b, e2, h1, _⟩ := h; rw [e] at e2; cases e2; exact h1
theorem pn_of (h : PE X e (tF T W m)) : PE X e (tN T W m) := imp h fun σ H Q ⟨B, Ox, Ow, ρ, s, q⟩ => by
  refine ⟨B, Ox, Ow, ρ, s, ?_⟩
  cases r : m ρ with
  | ok o ρ' => rw [r] at q; exact fun v H' Ow' s' x i => q v H' Ow' s' x i.con fun a e hb => is_out i a e (by simp [hb])
  | exc c a ρ' => rw [r] at q; exact q
  | stuck => rw [r] at q; exact q
theorem pn_var {i : Nat} {x : Str} (hN : X.N[i]? = some x := by rfl) (hv : Vis X.env.scope x := by first | exact Or.inl rfl | exact Or.inr (Or.inl rfl) | exact Or.inr (Or.inr rfl)) (hd : (x == ("__debug__" : Str)) = false := by decide)
    (hcd : (x == ("__classdict__" : Str)) = false := by decide) : PE X (.Name x pos) (tN T W (rv i)) := imp (pe_var hN hv hd hcd) fun σ H Q ⟨B, Ox, Ow, ρ, s, q⟩ => by
  unfold rv at q
  split at q
  · rename_i d e
    obtain ⟨v, L, A1, R, h1, _, ⟨_, w, rfl, h2⟩, _⟩ := s.sl.at e
    exact ⟨w, h1, q w H Ow s .refl h2.con fun a e hb => is_out h2 a e (by simp [hb])⟩
  · rename_i k o e
    split at q
    · obtain ⟨v, L, A1, R, h1, _, ⟨_, w, A', rfl, hb, h2⟩, _⟩ := s.sl.at e
      refine ⟨w, h1, q w H Ow s .refl (h2.con (by assumption)) fun a ea hb' => ?_⟩
      have top : a ∈ A' ∨ a ∉ Ow ++ Ox := by
        cases o with
        | frz d => simp only [Own] at h2; exact .inr (is_out h2.2 a ea)
        | lst os => simp only [Own] at h2; obtain ⟨b, xs, As, e2, _, eA, _⟩ := h2; rw [ea] at e2; cases e2; exact .inl (by rw [eA]; simp)
        | dct os => simp only [Own] at h2; obtain ⟨b, As, e2, eA, _⟩ := h2; rw [ea] at e2; cases e2; exact .inl (by rw [eA]; simp)
      rcases top with z | z
      · exact s.ap a hb' (s.lk _ (List.mem_of_getElem? hb) a z)
      · exact z (by simp [hb'])
    · exact q.elim
  · exact q.elim
theorem walkD_list {a : Addr} {xs : List V} {ds : List PyData} (n : a ∉ Ow) (h : H a = some (.lst xs)) (i : IsA T.K H (Ow ++ Ox) ds xs) : WalkD T.K Ox Ow H (Itl T.K a) ds := by
  have len := i.length
  refine ⟨fun j Ow1 H1 y hj => ?_, fun Ow1 H1 y => ?_, fun j Ow1 H1 v H2 d y _ e yl => ?_⟩
  · exact walk_list.goes j H1 (by rw [← len]; exact hj) (.of (y.keep a _ n h))
  · rw [len]; exact walk_list.stops H1 (.of (y.keep a _ n h))
  · obtain ⟨e2, hx⟩ := (walk_list (xs := xs)).yields j H1 v H2 (by rw [← len]; exact (List.getElem?_eq_some_iff.mp e).1) (.of (y.keep a _ n h)) yl
    subst e2
    obtain ⟨w, hw, iw⟩ := i.get e
    rw [hw] at hx
    cases hx
    exact ⟨fun _ _ e => e, y.is iw⟩
theorem walkD_tup {a : Addr} {xs : List V} {ds : List PyData} (n : a ∉ Ow) (h : H a = some (.tup xs)) (i : IsA T.K H (Ow ++ Ox) ds xs) : WalkD T.K Ox Ow H (Itt T.K a) ds := by
  have len := i.length
  have sq : ∀ {H1 : Hp}, H1 a = some (.tup xs) → SqT T.K H1 a xs := fun h => .inl (.inl h)
  refine ⟨fun j Ow1 H1 y hj => ?_, fun Ow1 H1 y => ?_, fun j Ow1 H1 v H2 d y _ e yl => ?_⟩
  · exact walk_tup.goes j H1 (by rw [← len]; exact hj) (sq (y.keep a _ n h))
  · rw [len]; exact walk_tup.stops H1 (sq (y.keep a _ n h))
  · obtain ⟨e2, hx⟩ := (walk_tup (xs := xs)).yields j H1 v H2 (by rw [← len]; exact (List.getElem?_eq_some_iff.mp e).1) (sq (y.keep a _ n h)) yl
    subst e2
    obtain ⟨w, hw, iw⟩ := i.get e
    rw [hw] at hx
    cases hx
    exact ⟨fun _ _ e => e, y.is iw⟩
def signsD (z : Str) : List PyData := z.cps.toList.map fun c => .str ⟨#[c]⟩
theorem walkD_str {z : Str} : WalkD T.K Ox Ow H (Its z) (signsD z) := by
  have len : (signsD z).length = z.cps.size := by simp [signsD]
  refine ⟨fun j Ow1 H1 y hj => walk_str.goes j H1 (by rw [← len]; exact hj) trivial, fun Ow1 H1 y => by rw [len]; exact walk_str.stops H1 trivial, fun j Ow1 H1 v H2 d y _ e yl => ?_⟩
  obtain ⟨e2, c, hc, rfl⟩ := (walk_str (z := z)).yields j H1 v H2 (by rw [← len]; exact (List.getElem?_eq_some_iff.mp e).1) trivial yl
  subst e2
  refine ⟨fun _ _ e => e, ?_⟩
  simp only [signsD, List.getElem?_map, Array.getElem?_toList, hc, Option.map_some, Option.some.injEq] at e
  subst e
  simp only [Is]
theorem upto_at {lo hi : Int} {i : Nat} {d : PyData} (e : (upto lo hi)[i]? = some d) : d = .int (lo + (i : Int)) := by
  simp only [upto, List.getElem?_map] at e
  obtain ⟨j, h1, h2⟩ := Option.map_eq_some_iff.mp e
  rw [List.getElem?_range (by have := (List.getElem?_eq_some_iff.mp h1).1; simpa using this)] at h1
  cases h1
  exact h2.symm
theorem walkD_rng {lo hi : Int} : WalkD T.K Ox Ow H (Itr lo (hi - lo).toNat) (upto lo hi) := by
  have len : (upto lo hi).length = (hi - lo).toNat := by simp [upto]
  refine ⟨fun j Ow1 H1 y hj => walk_range.goes j H1 (by rw [← len]; exact hj) trivial, fun Ow1 H1 y => by rw [len]; exact walk_range.stops H1 trivial, fun j Ow1 H1 v H2 d y _ e yl => ?_⟩
  obtain ⟨e2, rfl⟩ := (walk_range (lo := lo)).yields (n := (hi - lo).toNat) j H1 v H2 (by rw [← len]; exact (List.getElem?_eq_some_iff.mp e).1) trivial yl
  subst e2
  refine ⟨fun _ _ e => e, ?_⟩
  rw [upto_at e]
  simp only [Is]
theorem enum_at : ∀ {l : List PyData} {k i : Nat} {d : PyData}, (enumD k l)[i]? = some d → ∃ y, l[i]? = some y ∧ d = .tuple [.int ((k + i : Nat) : Int), y]
  | [], k, i, d, e => by simp [enumD] at e
  | x :: r, k, 0, d, e => by simp [enumD] at e; exact ⟨x, rfl, by rw [← e]; rfl⟩
  | x :: r, k, i + 1, d, e => by
    simp only [enumD, List.getElem?_cons_succ] at e ⊢
    obtain ⟨y, h1, h2⟩ := enum_at e
    exact ⟨y, h1, by rw [h2, show k + 1 + i = k + (i + 1) by omega]⟩
theorem enum_len : ∀ (l : List PyData) (k : Nat), (enumD k l).length = l.length
  | [], _ => rfl
  | _ :: r, k => by simp [enumD, enum_len r]
/-- a new pair -/
theorem is_pair {a b : PyData} {x y : V} {q : Addr} (n : H q = none) (t : ∀ b ∈ O, H b ≠ none) (ia : Is T.K H O a x) (ib : Is T.K H O b y) : Is T.K (upd H q (.tup [x, y])) O (.tuple [a, b]) (.ref q) := by
  simp only [Is]
  refine ⟨q, [x, y], rfl, ⟨fun z => t q z n, upd_same⟩, ?_⟩
  simp only [IsA]
  exact ⟨x, [y], rfl, is_new ia n, y, [], rfl, is_new ib n, rfl⟩
theorem keep_new {q : Addr} {o : HO} (n : H q = none) : ∀ b u, H b = some u → upd H q o b = some u := fun b u e => by rw [upd_ne (ne_of_none e n)]; exact e
theorem walkD_enum {a : Addr} {xs : List V} {ds : List PyData} (n : a ∉ Ow) (h : H a = some (.lst xs)) (i : IsA T.K H (Ow ++ Ox) ds xs) : WalkD T.K Ox Ow H (Ite T.K a) (enumD 0 ds) := by
  have len := i.length
  have len2 := enum_len ds 0
  refine ⟨fun j Ow1 H1 y hj => ?_, fun Ow1 H1 y => ?_, fun j Ow1 H1 v H2 d y t e yl => ?_⟩
  · exact walk_enum.goes j H1 (by rw [← len, ← len2]; exact hj) (.of (y.keep a _ n h))
  · rw [len2, len]; exact walk_enum.stops H1 (.of (y.keep a _ n h))
  · obtain ⟨d', e1, rfl⟩ := enum_at e
    obtain ⟨q, x, z, rfl, hq, rfl, hx, hz⟩ := (walk_enum (xs := xs)).yields j H1 v H2 (by rw [← len]; exact (List.getElem?_eq_some_iff.mp e1).1) (.of (y.keep a _ n h)) yl
    obtain ⟨w, hw, iw⟩ := i.get e1
    have hz' : xs[j]? = some z := hz
    rw [hw] at hz'
    cases hz'
    cases (show some (V.int (j : Nat)) = some x from hx)
    refine ⟨keep_new hq, is_pair hq t ?_ (y.is iw)⟩
    simp only [Is, Nat.zero_add]
theorem zip_at : ∀ {l m : List PyData} {i : Nat} {d : PyData}, (zipD l m)[i]? = some d → ∃ y z, l[i]? = some y ∧ m[i]? = some z ∧ d = .tuple [y, z]
  | [], _, i, d, e => by simp [zipD] at e
  | _ :: _, [], i, d, e => by simp [zipD] at e
  | x :: r, y :: t, 0, d, e => by simp [zipD] at e; exact ⟨x, y, rfl, rfl, e.symm⟩
  | x :: r, y :: t, i + 1, d, e => by
    simp only [zipD, List.getElem?_cons_succ] at e ⊢
    exact zip_at e
theorem zip_len : ∀ (l m : List PyData), (zipD l m).length = min l.length m.length
  | [], _ => by simp [zipD]
  | _ :: _, [] => by simp [zipD]
  | _ :: r, _ :: t => by simp [zipD, zip_len r t]
theorem walkD_zip {a b : Addr} {xs ys : List V} {ds es : List PyData} (na : a ∉ Ow) (ha : H a = some (.lst xs)) (i : IsA T.K H (Ow ++ Ox) ds xs) (nb : b ∉ Ow) (hb : H b = some (.lst ys)) (j : IsA T.K H (Ow ++ Ox) es ys) :
    WalkD T.K Ox Ow H (Itz T.K a b) (zipD ds es) := by
  have l1 := i.length
  have l2 := j.length
  have len := zip_len ds es
  have w := walk_zip (K := T.K) (a := a) (b := b) (xs := xs) (ys := ys) (n := (zipD ds es).length) (by rw [len, l1, l2])
  have g : ∀ {Ow1 H1}, Stp Ow H Ow1 H1 → SqL T.K H1 a xs ∧ SqL T.K H1 b ys := fun y => ⟨.of (y.keep a _ na ha), .of (y.keep b _ nb hb)⟩
  refine ⟨fun k Ow1 H1 y hj => w.goes k H1 hj (g y), fun Ow1 H1 y => w.stops H1 (g y), fun k Ow1 H1 v H2 d y t e yl => ?_⟩
  obtain ⟨q, x, z, rfl, hq, rfl, hx, hz⟩ := w.yields k H1 v H2 (List.getElem?_eq_some_iff.mp e).1 (g y) yl
  obtain ⟨d1, d2, e1, e2, rfl⟩ := zip_at e
  obtain ⟨w1, hw1, iw1⟩ := i.get e1
  obtain ⟨w2, hw2, iw2⟩ := j.get e2
  have hx' : xs[k]? = some x := hx
  have hz' : ys[k]? = some z := hz
  rw [hw1] at hx'
  rw [hw2] at hz'
  cases hx'
  cases hz'
  exact ⟨keep_new hq, is_pair hq t (y.is iw1) (y.is iw2)⟩

theorem Psi.step {r : Res (List PyData)} {R : It → Hp → Prop} {Ow1 : List Addr} {H1 : Hp} (y : Stp Ow H Ow1 H1) (h : Psi T W B Ox σ H Ow r R) : Psi T W B Ox σ H1 Ow1 r R := by
  cases r with
  | ok o ρ' => exact fun v H' Ow' s z => h v H' Ow' s (y.trans z)
  | exc c a ρ' => exact exE.step y h
  | stuck => exact h
theorem Psn.step {r : Res PyData} {R : VK} {Ow1 : List Addr} {H1 : Hp} (y : Stp Ow H Ow1 H1) (h : Psn T W B Ox σ H Ow r R) : Psn T W B Ox σ H1 Ow1 r R := by
  cases r with
  | ok o ρ' => exact fun v H' Ow' s z => h v H' Ow' s (y.trans z)
  | exc c a ρ' => exact exE.step y h
  | stuck => exact h
/-- for .. in a list, a tuple, a text -/
theorem pi_of {tg : Expr} (hK : X.K = T.K) (h : PE X e (tN T W m)) : PI X tg e (tS T W (evS (.of m))) := by
  refine ⟨fun pins s σ H R I ⟨B, Ox, Ow, ρ, S, q⟩ => ?_⟩
  simp only [evS] at q
  cases hx : m ρ with
  | stuck => rw [bnd_stk hx] at q; exact q.elim
  | exc c a ρ1 =>
    rw [bnd_exc hx] at q
    refine (pi_list h).run pins s σ H R I ⟨B, Ox, Ow, ρ, S, ?_⟩
    rw [hx]; exact q
  | ok d ρ1 =>
    rw [bnd_ok hx] at q
    cases d with
    | list ds =>
      refine (pi_list h).run pins s σ H R I ⟨B, Ox, Ow, ρ, S, ?_⟩
      rw [hx]
      intro v H1 Ow1 S1 y c out
      obtain ⟨a, xs, rfl, hl, ia⟩ := c
      rw [hK]
      exact ⟨a, rfl, ⟨xs, .of hl⟩, q _ _ _ S1 y (walkD_list (out a rfl) hl ia)⟩
    | tuple ds =>
      refine (pi_tup h).run pins s σ H R I ⟨B, Ox, Ow, ρ, S, ?_⟩
      rw [hx]
      intro v H1 Ow1 S1 y c out
      obtain ⟨a, xs, rfl, hl, ia⟩ := con_tup c
      rw [hK]
      exact ⟨a, rfl, ⟨xs, hl.sq⟩, q _ _ _ S1 y (walkD_tup (out a rfl) hl.2 ia)⟩
    | str z =>
      refine (pi_str h).run pins s σ H R I ⟨B, Ox, Ow, ρ, S, ?_⟩
      rw [hx]
      intro v H1 Ow1 S1 y c out
      obtain rfl := con_str c
      refine ⟨z, rfl, ?_⟩
      simp only [itemsD] at q
      split at q
      · exact q _ _ _ S1 y walkD_str
      · exact q.elim
    | _ => exact q.elim
theorem pi_rng1 {tg : Expr} (hg : Gl X "range") (hm : X.mg "range" = none) (h : PE X e (tF T W m)) (hs : starEach [e] X.env = [(false, eval e X.env)] := by rfl) : PI X tg (.Call (.Name "range" p) [e] [] pos) (tS T W (evS (.rng1 m))) :=
  impI (pi_range1 hg hm (pa_cons h pa_nil hs) hs) fun σ H R ⟨B, Ox, Ow, ρ, S, q⟩ => by
    refine ⟨B, Ox, Ow, ρ, S, ?_⟩
    simp only [evS] at q
    cases hx : m ρ with
    | stuck => rw [bnd_stk hx] at q; exact q
    | exc c a ρ1 => rw [bnd_exc hx] at q; exact q
    | ok d ρ1 =>
      rw [bnd_ok hx] at q
      intro v H1 Ow1 S1 y c
      cases d with
      | int n =>
        simp only [Is] at c
        subst c
        by_cases hn : (smallI n && decide (n ≤ lim)) = true
        · simp only [if_pos hn] at q
          simp only [smallI, Bool.and_eq_true, decide_eq_true_eq] at hn
          have w := walkD_rng (T := T) (Ox := Ox) (Ow := Ow1) (H := H1) (lo := 0) (hi := n)
          rw [Int.sub_zero] at w
          exact ⟨n, rfl, hn.1.1, hn.1.2, q _ _ _ S1 y w⟩
        · simp only [if_neg hn] at q; exact q.elim
      | _ => exact q.elim
theorem pi_rng2 {tg e2 : Expr} {m2 : M PyData} (hg : Gl X "range") (hm : X.mg "range" = none) (h : PE X e (tF T W m)) (h2 : PE X e2 (tF T W m2)) (hs : starEach [e, e2] X.env = [(false, eval e X.env), (false, eval e2 X.env)] := by rfl) (hs2 : starEach [e2] X.env = [(false, eval e2 X.env)] := by rfl) :
    PI X tg (.Call (.Name "range" p) [e, e2] [] pos) (tS T W (evS (.rng2 m m2))) :=
  impI (pi_range2 hg hm (pa_cons h (pa_cons h2 pa_nil hs2) (by rw [hs, hs2])) hs hs2) fun σ H R ⟨B, Ox, Ow, ρ, S, q⟩ => by
    refine ⟨B, Ox, Ow, ρ, S, ?_⟩
    simp only [evS] at q
    cases hx : m ρ with
    | stuck => rw [bnd_stk hx] at q; exact q
    | exc c a ρ1 => rw [bnd_exc hx] at q; exact q
    | ok d ρ1 =>
      rw [bnd_ok hx] at q
      intro v H1 Ow1 S1 y c
      refine ⟨B, Ox, Ow1, ρ1, S1, ?_⟩
      cases hy : m2 ρ1 with
      | stuck => rw [bnd_stk hy] at q; exact q
      | exc c a ρ1 => rw [bnd_exc hy] at q; exact exE.step y q
      | ok d2 ρ2 =>
        rw [bnd_ok hy] at q
        intro v2 H2 Ow2 S2 y2 c2
        cases d with
        | int i =>
          cases d2 with
          | int j =>
            simp only [Is] at c c2
            subst c c2
            by_cases hn : (smallI i && (smallI j && decide (j - i ≤ lim))) = true
            · simp only [if_pos hn] at q
              simp only [smallI, Bool.and_eq_true, decide_eq_true_eq] at hn
              exact ⟨i, j, rfl, ⟨hn.1.1, hn.1.2, hn.2.1.1, hn.2.1.2⟩, q _ _ _ S2 (y.trans y2) walkD_rng⟩
            · simp only [if_neg hn] at q; exact q.elim
          | _ => exact q.elim
        | _ => exact q.elim
theorem pi_enm {elts : List Expr} {kk : Nat} {tpos : Pos} (hK : X.K = T.K) (hg : Gl X "enumerate") (hm : X.mg "enumerate" = none) (h : PE X e (tN T W m)) (hs : starEach [e] X.env = [(false, eval e X.env)] := by rfl) :
    PI X (.Tuple elts kk tpos) (.Call (.Name "enumerate" p) [e] [] pos) (tS T W (evS (.enm m))) :=
  impI (pi_enum hg hm (pa_cons h pa_nil hs) hs) fun σ H R ⟨B, Ox, Ow, ρ, S, q⟩ => by
    refine ⟨B, Ox, Ow, ρ, S, ?_⟩
    simp only [evS] at q
    cases hx : m ρ with
    | stuck => rw [bnd_stk hx] at q; exact q
    | exc c a ρ1 => rw [bnd_exc hx] at q; exact q
    | ok d ρ1 =>
      rw [bnd_ok hx] at q
      intro v H1 Ow1 S1 y c out
      cases d with
      | list ds =>
        obtain ⟨a, xs, rfl, hl, ia⟩ := c
        rw [hK]
        exact ⟨a, xs, rfl, .of hl, q _ _ _ S1 y (walkD_enum (out a rfl) hl ia)⟩
      | _ => exact q.elim
theorem pi_zp {elts : List Expr} {kk : Nat} {tpos : Pos} {e2 : Expr} {m2 : M PyData} (hK : X.K = T.K) (hg : Gl X "zip") (hm : X.mg "zip" = none) (h : PE X e (tF T W m)) (h2 : PE X e2 (tF T W m2))
    (hs : starEach [e, e2] X.env = (false, eval e X.env) :: starEach [e2] X.env := by rfl) (hs2 : starEach [e2] X.env = [(false, eval e2 X.env)] := by rfl) (hpl : (backTo pos (starEach [e2] X.env)).any (·.1) = false := by rfl) :
    PI X (.Tuple elts kk tpos) (.Call (.Name "zip" p) [e, e2] [] pos) (tS T W (evS (.zp m m2))) :=
  impI (pi_zip hg hm (pa_cons h (pa_cons h2 pa_nil hs2) hs) hs hpl) fun σ H R ⟨B, Ox, Ow, ρ, S, q⟩ => by
    refine ⟨B, Ox, Ow, ρ, S, ?_⟩
    simp only [evS] at q
    cases hx : m ρ with
    | stuck => rw [bnd_stk hx] at q; exact q
    | exc c a ρ1 => rw [bnd_exc hx] at q; exact q
    | ok d ρ1 =>
      rw [bnd_ok hx] at q
      intro v H1 Ow1 S1 y c
      refine ⟨B, Ox, Ow1, ρ1, S1, ?_⟩
      cases hy : m2 ρ1 with
      | stuck => rw [bnd_stk hy] at q; exact q
      | exc c a ρ1 => rw [bnd_exc hy] at q; exact exE.step y q
      | ok d2 ρ2 =>
        rw [bnd_ok hy] at q
        intro v2 H2 Ow2 S2 y2 c2
        cases d with
        | list l =>
          cases d2 with
          | list l2 =>
            have c := y2.is c
            simp only [Is] at c c2
            obtain ⟨a, xs, rfl, ha, ia⟩ := c
            obtain ⟨b, ys, rfl, hb, ib⟩ := c2
            rw [hK]
            exact ⟨a, b, xs, ys, rfl, .of ha.2, .of hb.2, q _ _ _ S2 (y.trans y2) (walkD_zip (fun z => ha.1 (by simp [z])) ha.2 ia (fun z => hb.1 (by simp [z])) hb.2 ib)⟩
          | _ => exact q.elim
        | _ => exact q.elim
/-- the script -/
theorem isA_ints : ∀ ns : List Int, IsA T.K H O (ns.map .int) (ns.map V.int)
  | [] => by simp only [List.map_nil, IsA]
  | n :: ns => by
    simp only [List.map_cons, IsA, Is]
    exact ⟨_, _, rfl, rfl, isA_ints ns⟩
theorem pi_scr {tg : Expr} {i : Nat} {x : Str} (hK : X.K = T.K) (hN : X.N[i]? = some x := by rfl) (hv : Vis X.env.scope x := by first | exact Or.inl rfl | exact Or.inr (Or.inl rfl) | exact Or.inr (Or.inr rfl)) (hd : (x == ("__debug__" : Str)) = false := by decide)
    (hcd : (x == ("__classdict__" : Str)) = false := by decide) : PI X tg (.Name x pos) (tS T W (evS (.scr i))) := impI (pi_list (pe_var hN hv hd hcd)) fun σ H R ⟨B, Ox, Ow, ρ, S, q⟩ => by
  simp only [evS] at q
  split at q
  · rename_i ns e
    obtain ⟨v, L, A1, R', h1, _, ⟨_, a, rfl, h2⟩, _⟩ := S.sl.at e
    have sq : ∀ {Ow1 H1}, Stp Ow H Ow1 H1 → SqL T.K H1 a (ns.map V.int) := fun y => by
      rcases h2 with ⟨n, o, h2⟩ | h2
      · exact .inl (.inr ⟨o, y.keep a _ (fun z => n (by simp [z])) h2⟩)
      · rcases h2 with (h2 | ⟨o, h2⟩) | h2
        · exact nomatch h2
        · exact nomatch h2
        · exact .inr h2
    rw [hK]
    refine ⟨_, h1, a, rfl, ⟨_, sq .refl⟩, q _ H Ow S .refl ⟨fun j Ow1 H1 y hj => walk_list.goes j H1 (by simpa using hj) (sq y), fun Ow1 H1 y => ?_, fun j Ow1 H1 v H2 d y _ e yl => ?_⟩⟩
    · have := (walk_list (K := T.K) (a := a) (xs := ns.map V.int)).stops H1 (sq y)
      simpa using this
    · obtain ⟨e2, hx⟩ := (walk_list (xs := ns.map V.int)).yields j H1 v H2 (by simpa using (List.getElem?_eq_some_iff.mp e).1) (sq y) yl
      subst e2
      obtain ⟨w, hw, iw⟩ := (isA_ints (T := T) (H := H2) (O := Ow1 ++ Ox) ns).get e
      rw [hw] at hx
      cases hx
      exact ⟨fun _ _ e => e, iw⟩
  · exact q.elim
end
end PI

/-! PL10: list comprehensions (own work). -/
namespace PI
open PySem PySem.Spec PyProof.Rows L2
section
variable {T : Th} {W : WX} {X : Cx} {B : Bx} {Ox Ow : List Addr} {σ : L2.St} {ρ : Env} {H : Hp} {O : List Addr} {pos p : Pos} {x : Str} {e : Expr} {m : M PyData}
theorem wipeS_len : ∀ vs : List Nat, (wipeS ρ vs).length = ρ.length
  | [] => rfl
  | v :: vs => by simp [wipeS, wipeS_len vs]
theorem St1.len (s : St1 T.K B Ox ρ σ H Ow) : ρ.length = σ.length := s.sl.length
theorem St1.wipe (s : St1 T.K B Ox ρ σ H Ow) : ∀ vs : List Nat, (∀ i ∈ vs, i < ρ.length) → ∃ Ow', Ow'.Sublist Ow ∧ St1 T.K B Ox (wipeS ρ vs) (L2.wipe σ vs) H Ow'
  | [], _ => ⟨Ow, .refl _, s⟩
  | v :: vs, h => by
    obtain ⟨Ow1, b1, s1⟩ := s.wipe vs fun i hi => h i (by simp [hi])
    obtain ⟨y, e⟩ : ∃ y, (wipeS ρ vs)[v]? = some y := ⟨_, List.getElem?_eq_getElem (by rw [wipeS_len]; exact h v (by simp))⟩
    obtain ⟨Ow2, b2, s2⟩ := s1.put (s' := .unset) (v' := none) e rfl
    exact ⟨Ow2, b2.trans b1, s2⟩
theorem wipe_set {v : Nat} {vs : List Nat} (hv : v ∉ vs) (hl : v < σ.length) : ((L2.wipe σ vs).set v none).set v (σ.getD v none) = L2.wipe σ vs := by
  rw [List.set_set]
  apply List.ext_getElem?
  intro j
  rw [List.getElem?_set]
  by_cases h : v = j
  · subst h
    rw [if_pos rfl, if_pos (by rw [wipe_length]; exact hl), wipe_at, if_neg hv, List.getElem?_eq_getElem hl, List.getD_eq_getElem?_getD, List.getElem?_eq_getElem hl]
    rfl
  · rw [if_neg h]
theorem St1.unwipe {ρ0 : Env} : ∀ (vs : List Nat) {ρ : Env} {Ow : List Addr}, vs.Nodup → St1 T.K B Ox ρ (L2.wipe σ vs) H Ow → (∀ i ∈ vs, i < ρ.length ∧ PI.SlR T.K H (Ow ++ Ox) B (ρ0.getD i .unset) (σ.getD i none) []) →
    ∃ Ow', Ow'.Sublist Ow ∧ St1 T.K B Ox (backS ρ0 ρ vs) σ H Ow'
  | [], ρ, Ow, _, s, _ => ⟨Ow, .refl _, s⟩
  | v :: vs, ρ, Ow, nd, s, h => by
    obtain ⟨hv, nd⟩ := List.nodup_cons.mp nd
    obtain ⟨hl, hs⟩ := h v (by simp)
    obtain ⟨y, e⟩ : ∃ y, ρ[v]? = some y := ⟨_, List.getElem?_eq_getElem hl⟩
    obtain ⟨Ow1, b1, s1⟩ := s.put (s' := ρ0.getD v .unset) (v' := σ.getD v none) e hs
    have hl2 : v < σ.length := by
      have := s.len
      rw [wipe_length] at this
      omega
    have e2 : (L2.wipe σ (v :: vs)).set v (σ.getD v none) = L2.wipe σ vs := wipe_set hv hl2
    rw [e2] at s1
    obtain ⟨Ow2, b2, s2⟩ := St1.unwipe (ρ0 := ρ0) vs nd s1 fun i hi => by
      obtain ⟨h1, h2⟩ := h i (by simp [hi])
      exact ⟨by simpa using h1, h2.mono .refl (fun b hb => .inl ((List.mem_append.mp hb).elim (fun z => List.mem_append_left _ (b1.subset z)) (List.mem_append_right _))) (fun _ _ _ _ _ e => e) fun _ hb => nomatch hb⟩
    exact ⟨Ow2, b2.trans b1, s2⟩
theorem OwnA.length {K : PySem.W.Frag} : ∀ {os : List OD} {vs : List V} {A : List Addr}, OwnA K H O os vs A → os.length = vs.length
  | [], vs, A, h => by simp only [OwnA] at h; rw [h.1]; rfl
  | o :: os, vs, A, h => by
    simp only [OwnA] at h
    obtain ⟨w, ws, A1, A2, rfl, rfl, _, h2⟩ := h
    simp [h2.length]
theorem OwnA.append {K : PySem.W.Frag} : ∀ {os ps : List OD} {vs ws : List V} {A A' : List Addr}, OwnA K H O os vs A → OwnA K H O ps ws A' → OwnA K H O (os ++ ps) (vs ++ ws) (A ++ A')
  | [], ps, vs, ws, A, A', h, g => by
    simp only [OwnA] at h
    obtain ⟨rfl, rfl⟩ := h
    exact g
  | o :: os, ps, vs, ws, A, A', h, g => by
    simp only [OwnA] at h
    obtain ⟨w, us, A1, A2, rfl, rfl, h1, h2⟩ := h
    simp only [List.cons_append, OwnA]
    exact ⟨w, us ++ ws, A1, A2 ++ A', rfl, by simp, h1, h2.append g⟩
theorem OwnA.one {K : PySem.W.Frag} {o : OD} {v : V} {A : List Addr} (h : Own K H O o v A) : OwnA K H O [o] [v] A := by
  simp only [OwnA]
  exact ⟨v, [], A, [], rfl, by simp, h, rfl, rfl⟩
/-- the same things aside, told otherwise -/
theorem St1.aside' {Oy : List Addr} (s : St1 T.K B Ox ρ σ H Ow) (h : ∀ b, b ∈ Oy ↔ b ∈ Ox) : St1 T.K B Oy ρ σ H Ow := s.unaside (fun b hb => (h b).mp hb) fun q hq b hb => (h b).mpr (s.lk q hq b hb)
/-- a thing aside is written -/
theorem St1.write {D : Addr} {o : HO} (s : St1 T.K B Ox ρ σ H Ow) (hD : D ∈ Ox) (nl : ∀ q ∈ B.lk, D ∉ q.2) : St1 T.K B Ox ρ σ (upd H D o) Ow := by
  have ne : ∀ b ∈ Ow, b ≠ D := fun b hb e => s.ap b hb (by rw [e]; exact hD)
  refine ⟨s.sl.mono (.all fun b u n e => ?_) (fun b hb => .inl hb) (fun q hq b hb u e => ?_) (fun b hb u e => ?_), s.nd, s.ap, fun b hb => ?_, s.lk⟩
  · rw [upd_ne (fun z => n (by rw [z]; exact List.mem_append_right _ hD))]; exact e
  · rw [upd_ne (fun z => nl q hq (by rw [← z]; exact hb))]; exact e
  · rw [upd_ne (ne b hb)]; exact e
  · by_cases z : b = D
    · rw [z, upd_same]; exact fun z => nomatch z
    · rw [upd_ne z]; exact s.tr b hb

/-- nothing leaves a block by an error -/
def Wn : WX := fun _ _ _ _ => False
def tC (T : Th) (c : Option (M Bool)) : TT := match c with
  | none => tYes
  | some c => tQ T Wn c
theorem pif_none : PTs X [] (tC T none) := pts_nil
theorem pif_one {c : M Bool} (h : PT X e (tQ T Wn c)) : PTs X [e] (tC T (some c)) := pts_one h
theorem tC_run {c : Option (M Bool)} {b : Bool} {ρ' : Env} {Q : Bool → Hp → Prop} (s : St1 T.K B Ox ρ σ H Ow) (h : cM c ρ = .ok b ρ') (q : ∀ H1 Ow1, St1 T.K B Ox ρ' σ H1 Ow1 → Stp Ow H Ow1 H1 → Q b H1) : tC T c σ H Q := by
  cases c with
  | none => cases h; exact q H Ow s .refl
  | some c =>
    refine ⟨B, Ox, Ow, ρ, s, ?_⟩
    have h' : c ρ = .ok b ρ' := h
    rw [h']
    exact q
theorem plainS_at {vs : List Nat} (h : plainS ρ vs = true) : vs.Nodup ∧ ∀ i ∈ vs, i < ρ.length ∧ ∀ K H O B (v : Option V) A, PI.SlR K H O B (ρ.getD i .unset) v A → A = [] := by
  simp only [plainS, Bool.and_eq_true, decide_eq_true_eq, List.all_eq_true] at h
  refine ⟨h.1, fun i hi => ?_⟩
  have := h.2 i hi
  cases e : ρ[i]? with
  | none => rw [e] at this; exact nomatch this
  | some y =>
    refine ⟨(List.getElem?_eq_some_iff.mp e).1, fun K H O B v A => ?_⟩
    rw [List.getD_eq_getElem?_getD, e]
    rw [e] at this
    cases y with
    | unset => exact fun h => h
    | val d => exact fun h => h.1
    | _ => exact nomatch this
/-- a turn's parts -/
theorem lcT_cons {g : PyData → M Unit} {c : Option (M Bool)} {y : M OD} {vs : List Nat} {d : PyData} {r : List PyData} {os : List OD} {ρ2 : Env} (h : lcT g c y vs (d :: r) ρ = .ok os ρ2) :
    ∃ ρ1 b ρ3, g d ρ = .ok () ρ1 ∧ cM c ρ1 = .ok b ρ3 ∧ ((b = false ∧ lcT g c y vs r (wipeS ρ3 vs) = .ok os ρ2) ∨ ∃ o ρ4 os', b = true ∧ y ρ3 = .ok o ρ4 ∧ lcT g c y vs r (wipeS ρ4 vs) = .ok os' ρ2 ∧ os = o :: os') := by
  unfold lcT at h
  cases hg : g d ρ with
  | stuck => rw [bnd_stk hg] at h; exact nomatch h
  | exc a b ρ1 => rw [bnd_exc hg] at h; exact nomatch h
  | ok u ρ1 =>
    rw [bnd_ok hg] at h
    refine ⟨ρ1, ?_⟩
    cases hr : cM c ρ1 with
    | stuck => rw [bnd_stk hr] at h; exact nomatch h
    | exc a b ρ1 => rw [bnd_exc hr] at h; exact nomatch h
    | ok b ρ3 =>
      rw [bnd_ok hr] at h
      refine ⟨b, ρ3, rfl, rfl, ?_⟩
      cases b with
      | false =>
        simp only [Bool.false_eq_true, if_false] at h
        rw [bnd_ok (x := ret []) (a := []) (ρ' := ρ3) rfl] at h
        cases hl : lcT g c y vs r (wipeS ρ3 vs) with
        | stuck => rw [hl] at h; exact nomatch h
        | exc a b ρ1 => rw [hl] at h; exact nomatch h
        | ok os' ρ5 => rw [hl] at h; cases h; exact .inl ⟨rfl, rfl⟩
      | true =>
        simp only [if_true] at h
        cases hy : y ρ3 with
        | stuck => rw [bnd_stk (bnd_stk hy)] at h; exact nomatch h
        | exc a b ρ1 => rw [bnd_exc (bnd_exc hy)] at h; exact nomatch h
        | ok o ρ4 =>
          rw [bnd_ok (a := [o]) (ρ' := ρ4) (by rw [bnd_ok hy]; rfl)] at h
          cases hl : lcT g c y vs r (wipeS ρ4 vs) with
          | stuck => rw [hl] at h; exact nomatch h
          | exc a b ρ1 => rw [hl] at h; exact nomatch h
          | ok os' ρ5 => rw [hl] at h; cases h; exact .inr ⟨o, ρ4, os', rfl, rfl, hl, rfl⟩

theorem gT_ok {t : Tg} {d : PyData} {u : Unit} {ρ' : Env} (h : gT t d ρ = .ok u ρ') : bindT t d ρ = some ρ' := by
  unfold gT at h
  cases e : bindT t d ρ with
  | none => rw [e] at h; exact nomatch h
  | some r => rw [e] at h; cases h; rfl
theorem Stp.wide {Ow' : List Addr} {H' : Hp} (x : Stp Ow H Ow' H') (P : List Addr) : Stp (P ++ Ow) H (P ++ Ow') H' :=
  ⟨fun b o n e => x.keep b o (fun z => n (List.mem_append_right _ z)) e, fun b h => (List.mem_append.mp h).elim (fun z => .inl (List.mem_append_left _ z)) fun z => (x.sub b z).imp (List.mem_append_right _) id, x.live⟩
/-- at a turn: As the items' own things, D the new list -/
structure LcI (T : Th) (B : Bx) (Ox : List Addr) (τ : L2.St) (Ow1 : List Addr) (H1 : Hp) (D : Addr) (H : Hp) (ρ : Env) (Ow As : List Addr) (acc : List V) (os : List OD) : Prop where
  s : St1 T.K B (D :: As ++ Ox) ρ τ H Ow
  y : Stp Ow1 H1 (D :: As ++ Ow) H
  d : H D = some (.lst acc)
  o : OwnA T.K H (Ow ++ (D :: As ++ Ox)) os acc As
  n : (D :: As).Nodup
  a : ∀ b ∈ D :: As, b ∉ Ox
theorem lc_imp {src : Src} {t : Tg} {c : Option (M Bool)} {y : M OD} {vs : List Nat} (hv : ∀ i ∈ t.sl, i ∈ vs) {σ : L2.St} {H : Hp} {Q : VK} (h : tX T W (dlc src t c y vs) σ H Q) : tLc (tS T W (evS src)) (tG T t) (tC T c) (tX T Wn y) vs σ H Q := by
  obtain ⟨B, Ox, Ow, ρ, S, q⟩ := h
  refine ⟨B, Ox, Ow, ρ, S, ?_⟩
  unfold dlc at q
  cases hx : evS src ρ with
  | stuck => rw [bnd_stk hx] at q; exact q
  | exc c a ρ1 => rw [bnd_exc hx] at q; exact q
  | ok l ρ1 =>
    rw [bnd_ok hx] at q
    intro J H1 Ow1 S1 y1 wd D hD
    by_cases hp : plainS ρ1 vs = true
    case neg => rw [bnd_stk (by simp [lcB, hp])] at q; exact q.elim
    cases hl : lcT (gT t) c y vs l (wipeS ρ1 vs) with
    | stuck => rw [bnd_stk (by simp [lcB, hp, hl])] at q; exact q.elim
    | exc a b ρ1 => rw [bnd_stk (by simp [lcB, hp, hl])] at q; exact q.elim
    | ok os ρ2 =>
    rw [bnd_ok (a := os) (ρ' := backS ρ1 ρ2 vs) (by simp [lcB, hp, hl])] at q
    by_cases hz : os.length ≤ lim
    case neg => rw [if_neg hz] at q; exact q.elim
    rw [if_pos hz] at q
    have q := Pst.step y1 q
    clear S y1 hx
    obtain ⟨nd, hpl⟩ := plainS_at hp
    have tr1 : ∀ b, b ∈ Ox → H1 b ≠ none := fun b hb => S1.tr b (List.mem_append_right _ hb)
    have Dx : D ∉ Ox := fun z => tr1 D z hD
    have Dl : ∀ q ∈ B.lk, D ∉ q.2 := fun q hq z => Dx (S1.lk q hq D z)
    refine ⟨fun i m H => i ≤ l.length ∧ m = l.length - i ∧ ∃ ρi Owi As acc osi rest, LcI T B Ox (L2.wipe σ vs) Ow1 H1 D H ρi Owi As acc osi ∧ lcT (gT t) c y vs (l.drop i) ρi = .ok rest ρ2 ∧ os = osi ++ rest,
      ⟨l.length, Nat.zero_le _, by simp, ?_⟩, ?_⟩
    · obtain ⟨Ow2, b2, S2⟩ := S1.wipe vs fun i hi => (hpl i hi).1
      refine ⟨wipeS ρ1 vs, Ow2, [], [], [], os, ⟨S2.aside hD, (Stp.new hD).less fun b hb => ?_, upd_same, by simp [OwnA], by simp, by simpa using Dx⟩, by simpa using hl, rfl⟩
      simp only [List.cons_append, List.nil_append, List.mem_cons] at hb ⊢
      exact hb.imp id fun z => b2.subset z
    rintro i m H2 ⟨hi, rfl, ρi, Owi, As, acc, osi, rest, I, hr, ho⟩
    have tot : ∀ b, b ∈ (D :: As ++ Owi) ++ Ox ↔ b ∈ Owi ++ (D :: As ++ Ox) := fun b => by
      simp only [List.mem_append, List.mem_cons]; grind
    by_cases hlt : i < l.length
    case neg =>
      have e : i = l.length := by omega
      subst e
      rw [List.drop_length] at hr
      have hr : Res.ok [] ρi = .ok rest ρ2 := hr
      cases hr
      rw [List.append_nil] at ho
      subst ho
      refine .inl ⟨wd.stop _ _ I.y, ?_⟩
      obtain ⟨Ow3, b3, S3⟩ := St1.unwipe (ρ0 := ρ1) vs nd I.s fun i hi => by
        obtain ⟨hi1, hi2⟩ := hpl i hi
        have hlen := I.s.len
        rw [wipe_length, ← S1.len] at hlen
        refine ⟨by rw [hlen]; exact hi1, ?_⟩
        obtain ⟨v, L, A1, R, h1, _, h2, _⟩ := S1.sl.at (i := i) (List.getElem?_eq_getElem hi1)
        have e1 : ρ1[i]'hi1 = ρ1.getD i .unset := by rw [List.getD_eq_getElem?_getD, List.getElem?_eq_getElem hi1]; rfl
        have e2 : σ.getD i none = v := by rw [List.getD_eq_getElem?_getD, h1]; rfl
        rw [e1] at h2
        have e3 := hi2 _ _ _ _ _ _ h2
        subst e3
        rw [e2]
        exact h2.mono I.y.keeps (fun b hb => I.y.avoid b ((tot b).mpr hb)) (S1.lkk I.y) fun b hb => nomatch hb
      refine q (.ref D) H2 Ow3 (D :: As) S3 (I.y.less fun b hb => ?_) ?_ I.n I.a
      · rcases List.mem_append.mp hb with z | z
        · exact List.mem_append_left _ z
        · exact List.mem_append_right _ (b3.subset z)
      · simp only [Own]
        exact ⟨D, acc, As, rfl, I.d, rfl, OwnA.mono .refl (fun b hb => .inl ((List.mem_append.mp hb).elim (fun z => List.mem_append_left _ (b3.subset z)) (List.mem_append_right _))) _ _ _ (fun _ _ _ e => e) I.o⟩
    rw [List.drop_eq_getElem_cons hlt] at hr
    obtain ⟨ρ3, b, ρ4, h3, h4, h5⟩ := lcT_cons hr
    have b3 := gT_ok h3
    refine .inr ⟨wd.go i _ _ I.y hlt, fun H' => ∃ ρi Owi As acc osi rest, LcI T B Ox (L2.wipe σ vs) Ow1 H1 D H' ρi Owi As acc osi ∧ lcT (gT t) c y vs (l.drop (i + 1)) ρi = .ok rest ρ2 ∧ os = osi ++ rest,
      fun H' h => ⟨l.length - (i + 1), by omega, hlt, rfl, h⟩, fun v H3 yl => ?_⟩
    obtain ⟨k3, i3⟩ := wd.yld i _ _ v H3 _ I.y (fun b hb => I.s.tr b ((tot b).mp hb)) (List.getElem?_eq_getElem hlt) yl
    have i3 := i3.less fun b hb => (tot b).mpr hb
    refine ⟨B, D :: As ++ Ox, Owi, ρi, _, I.s.grow k3, i3, ?_⟩
    rw [b3]
    intro σ4 Ow4 S4 y4 f4
    have hw := f4.wipe hv
    rw [show L2.wipe (L2.wipe σ vs) vs = L2.wipe σ vs from Off.wipe (is := vs) ⟨wipe_length _ _, fun j hj => by rw [wipe_at, if_neg hj]⟩ fun _ h => h] at hw
    refine ⟨hw, tC_run S4 h4 fun H5 Ow5 S5 y5 => ?_⟩
    have Z5 : Stp Owi H2 Ow5 H5 := (Stp.of k3).trans (y4.trans y5)
    have Y5 : Stp Ow1 H1 (D :: As ++ Ow5) H5 := I.y.trans (Z5.wide _)
    have Dw : ∀ b ∈ D :: As, b ∉ Owi := fun b hb z => I.s.ap b z (List.mem_append_left _ hb)
    have d5 : H5 D = some (.lst acc) := Z5.keep D _ (Dw D (by simp)) I.d
    have o5 : OwnA T.K H5 (Ow5 ++ (D :: As ++ Ox)) osi acc As := OwnA.mono Z5.keeps Z5.avoid _ _ _ (fun b hb u e => Z5.keep b u (Dw b (by simp [hb])) e) I.o
    rcases h5 with ⟨rfl, h5⟩ | ⟨o, ρ5, os', rfl, h6, h5, rfl⟩
    · simp only [Bool.false_eq_true, if_false]
      obtain ⟨Ow6, b6, S6⟩ := S5.wipe vs fun i hi => by
        have e1 := S5.len
        have e2 := congrArg List.length hw
        rw [wipe_length, wipe_length, ← S1.len] at e2
        rw [e1, e2]; exact (hpl i hi).1
      rw [hw] at S6
      refine ⟨wipeS ρ4 vs, Ow6, As, acc, osi, rest, ⟨S6, Y5.less fun b hb => ?_, d5, OwnA.mono .refl (fun b hb => .inl ((List.mem_append.mp hb).elim (fun z => List.mem_append_left _ (b6.subset z)) (List.mem_append_right _))) _ _ _ (fun _ _ _ e => e) o5, I.n, I.a⟩, h5, ho⟩
      exact (List.mem_append.mp hb).elim (List.mem_append_left _) fun z => List.mem_append_right _ (b6.subset z)
    · simp only [if_true]
      refine ⟨B, D :: As ++ Ox, Ow5, ρ4, S5, ?_⟩
      rw [h6]
      intro v6 H6 Ow6 A S6 y6 own6 nA aA
      have Z6 : Stp Ow5 H5 Ow6 H6 := y6.less fun b hb => List.mem_append_right _ hb
      have Dw5 : ∀ b ∈ D :: As, b ∉ Ow5 := fun b hb z => S5.ap b z (List.mem_append_left _ hb)
      have d6 : H6 D = some (.lst acc) := y6.keep D _ (Dw5 D (by simp)) d5
      have len := I.o.length
      have DA : D ∉ A := fun z => aA D z (by simp)
      have DAs : D ∉ As := (List.nodup_cons.mp I.n).1
      refine ⟨acc, d6, ?_, ?_⟩
      · have : os.length = osi.length + (os'.length + 1) := by rw [ho]; simp
        rw [sizeLine_eq]
        simp only [lim] at hz
        omega
      have S7 := (S6.write (o := .lst (acc ++ [v6])) (D := D) (by simp) Dl).aside' (Oy := D :: (As ++ A) ++ Ox) fun b => by simp only [List.mem_append, List.mem_cons]; grind
      obtain ⟨Ow8, b8, S8⟩ := S7.wipe vs fun i hi => by
        have e1 := S7.len
        have e2 := congrArg List.length hw
        rw [wipe_length, wipe_length, ← S1.len] at e2
        rw [e1, e2]; exact (hpl i hi).1
      rw [hw] at S8
      have dis : ∀ b ∈ A, b ∉ D :: As ++ Ox := aA
      have av8 : ∀ b, b ∈ Ow8 ++ (D :: (As ++ A) ++ Ox) → b ∈ Ow6 ++ (A ++ (D :: As ++ Ox)) := fun b hb => by
        have := fun z => b8.subset (a := b) z
        simp only [List.mem_append, List.mem_cons] at hb ⊢; grind
      have av5 : ∀ b, b ∈ Ow8 ++ (D :: (As ++ A) ++ Ox) → b ∈ Ow5 ++ (D :: As ++ Ox) ∨ H5 b = none := fun b hb => by
        have h1 := av8 b hb
        rcases List.mem_append.mp h1 with z | z
        · exact (Z6.sub b z).imp (fun q => List.mem_append_left _ q) id
        · rcases List.mem_append.mp z with z | z
          · exact (y6.sub b (List.mem_append_left _ z)).imp (fun q => List.mem_append_left _ q) id
          · exact .inl (List.mem_append_right _ z)
      have kw : ∀ b u, b ≠ D → H6 b = some u → upd H6 D (.lst (acc ++ [v6])) b = some u := fun b u n e => by rw [upd_ne n]; exact e
      refine ⟨wipeS ρ5 vs, Ow8, As ++ A, acc ++ [v6], osi ++ [o], os', ⟨S8, ⟨fun b u n e => ?_, fun b hb => ?_, fun b hb => ?_⟩, upd_same, OwnA.append ?_ (OwnA.one ?_), ?_, ?_⟩, h5, by rw [ho]; simp⟩
      · have bD : b ≠ D := fun z => by rw [z, hD] at e; exact nomatch e
        rw [upd_ne bD]
        have k5 := Y5.keep b u n e
        refine y6.keep b u (fun z => ?_) k5
        rcases Y5.sub b (List.mem_append_right _ z) with q | q
        · exact n q
        · rw [q] at e; exact nomatch e
      · simp only [List.cons_append, List.mem_cons, List.mem_append] at hb
        rcases hb with rfl | (z | z) | z
        · exact .inr hD
        · exact Y5.sub b (by simp [z])
        · rcases y6.sub b (by simp [z]) with q | q
          · exact Y5.sub b (by simp [q])
          · by_cases e : H1 b = none
            · exact .inr e
            · exact absurd q (Y5.live b e)
        · rcases Z6.sub b (b8.subset z) with q | q
          · exact Y5.sub b (by simp [q])
          · by_cases e : H1 b = none
            · exact .inr e
            · exact absurd q (Y5.live b e)
      · have := Z6.live b (Y5.live b hb)
        by_cases z : b = D
        · rw [z, upd_same]; exact fun z => nomatch z
        · rw [upd_ne z]; exact this
      · refine OwnA.mono (.all fun b u n e => ?_) av5 _ _ _ (fun b hb u e => ?_) o5
        · exact kw b u (fun z => n (by simp [z])) (y6.keep b u (fun z => n (List.mem_append_left _ z)) e)
        · exact kw b u (fun z => DAs (by rw [← z]; exact hb)) (y6.keep b u (Dw5 b (by simp [hb])) e)
      · refine Own.mono (.all fun b u n e => kw b u (fun z => n (by simp [z])) e) (fun b hb => .inl (av8 b hb)) _ _ _ (fun b hb u e => kw b u (fun z => DA (by rw [← z]; exact hb)) e) own6
      · have h1 := (List.nodup_cons.mp I.n).2
        refine List.nodup_cons.mpr ⟨fun z => (List.mem_append.mp z).elim DAs DA, List.nodup_append.mpr ⟨h1, nA, fun a ha b hb e => ?_⟩⟩
        subst e
        exact aA a hb (by simp [ha])
      · intro b hb
        simp only [List.mem_cons, List.mem_append] at hb
        rcases hb with rfl | z | z
        · exact Dx
        · exact I.a b (by simp [z])
        · exact fun q => aA b z (by simp [q])
theorem px_lc {elt tg iter : Expr} {ifs : List Expr} {scope : Scope} {own : List (Str × Nat)} {src : Src} {t : Tg} {c : Option (M Bool)} {y : M OD} (hc : X.calm = true) (hN : X.N.Nodup) (hi : PI X tg iter (tS T W (evS src))) (ok : BlkOk X.N X.env.scope scope own)
    (hg : ∀ (s : Shared) (H : Hp) (C : Addr) (cl : List (Str × Addr)) (fp : List Addr), PG (X.blk s H scope (compEnvC scope cl C X.env) fp) tg (tG T t)) (ht : ∀ (s : Shared) (H : Hp) (C : Addr) (cl : List (Str × Addr)) (fp : List Addr), PTs (X.blk s H scope (compEnvC scope cl C X.env) fp) ifs (tC T c))
    (he : ∀ (s : Shared) (H : Hp) (C : Addr) (cl : List (Str × Addr)) (fp : List Addr), PE (X.blk s H scope (compEnvC scope cl C X.env) fp) elt (tX T Wn y)) (hv : ∀ i ∈ t.sl, i ∈ own.map (·.2)) (hs : ∀ x, foldedSetIterable iter X.env x = pure x := by intro _; rfl) :
    PE X (.ListComp elt [⟨tg, iter, ifs, 0⟩] scope pos) (tX T W (dlc src t c y (own.map (·.2)))) := imp (pe_lc hc hN hi ok hg ht he hs) fun _ _ _ => lc_imp hv
theorem px_fzo {e : Expr} {y : M OD} (h : PE X e (tX T W y)) : PE X e (tX T W (fzo y)) := imp (pf_of h) fun σ H Q ⟨B, Ox, Ow, ρ, s, q⟩ => by
  refine ⟨B, Ox, Ow, ρ, s, ?_⟩
  unfold fzo at q
  cases r : fz y ρ with
  | stuck => rw [bnd_stk r] at q; exact q
  | exc c a ρ1 => rw [bnd_exc r] at q; exact q
  | ok d ρ1 =>
    rw [bnd_ok r] at q
    exact fun v H1 Ow1 s1 y1 i1 => Pst.frz s1 (q.step y1) i1
end
end PI

/-! PL11: statements (own work). -/
namespace PI
open PySem PySem.Spec PyProof.Rows L2
/-- what follows a statement -/
def PsS (T : Th) (W : WX) (B : Bx) (Ox : List Addr) (H : Hp) (Ow : List Addr) (r : Res Fl) (D : Ends) : Prop := match r with
  | .ok .nx ρ' => ∀ σ' H' Ow', St1 T.K B Ox ρ' σ' H' Ow' → Stp Ow H Ow' H' → D.nx σ' H'
  | .ok .bk ρ' => ∀ σ' H' Ow', St1 T.K B Ox ρ' σ' H' Ow' → Stp Ow H Ow' H' → D.bk σ' H'
  | .ok .ct ρ' => ∀ σ' H' Ow', St1 T.K B Ox ρ' σ' H' Ow' → Stp Ow H Ow' H' → D.ct σ' H'
  | .ok (.rt o) ρ' => ∀ σ' v H' Ow' A, St1 T.K B (A ++ Ox) ρ' σ' H' Ow' → Stp Ow H (A ++ Ow') H' → Own T.K H' (Ow' ++ (A ++ Ox)) o v A → A.Nodup → (∀ b ∈ A, b ∉ Ox) → D.rt v H'
  | .exc c a ρ' => ∀ σ' H' Ow', St1 T.K B Ox ρ' σ' H' Ow' → Stp Ow H Ow' H' → ∀ cls d, Xn T c a cls d → W cls d σ' H'
  | .stuck => False
def tSt (T : Th) (W : WX) (m : M Fl) : TS := fun D σ H => ∃ B Ox Ow ρ, St1 T.K B Ox ρ σ H Ow ∧ PsS T W B Ox H Ow (m ρ) D
section
variable {T : Th} {W : WX} {X : Cx} {B : Bx} {Ox Ow Ow1 : List Addr} {σ : L2.St} {ρ : Env} {H H1 : Hp} {O : List Addr} {pos p : Pos} {x : Str} {e : Expr} {m : M PyData} {D : Ends}
theorem impS {st : Stmt} {t t' : TS} (h : PS X st t) (k : ∀ D σ H, t' D σ H → t D σ H) : PS X st t' := ⟨fun pins s σ H D I q => h.run pins s σ H D I (k _ _ _ q)⟩
theorem impSs {st : List Stmt} {t t' : TS} (h : PSs X st t) (k : ∀ D σ H, t' D σ H → t D σ H) : PSs X st t' := ⟨fun pins s σ H D I q => h.run pins s σ H D I (k _ _ _ q)⟩
theorem PsS.step {r : Res Fl} (y : Stp Ow H Ow1 H1) (h : PsS T W B Ox H Ow r D) : PsS T W B Ox H1 Ow1 r D := by
  cases r with
  | ok f ρ' =>
    cases f with
    | rt o => exact fun σ' v H' Ow' A s z => h σ' v H' Ow' A s (y.trans z)
    | nx => exact fun σ' H' Ow' s z => h σ' H' Ow' s (y.trans z)
    | bk => exact fun σ' H' Ow' s z => h σ' H' Ow' s (y.trans z)
    | ct => exact fun σ' H' Ow' s z => h σ' H' Ow' s (y.trans z)
  | exc c a ρ' => exact fun σ' H' Ow' s z => h σ' H' Ow' s (y.trans z)
  | stuck => exact h
theorem seqM_nx {x y : M Fl} {ρ' : Env} (h : x ρ = .ok .nx ρ') : seqM x y ρ = y ρ' := by simp [seqM, bnd, h]
/-- the next one's way is all that differs -/
theorem PsS.seq {x y : M Fl} {N : L2.St → Hp → Prop} (h : PsS T W B Ox H Ow (seqM x y ρ) D) (k : ∀ ρ' σ' H' Ow', x ρ = .ok .nx ρ' → St1 T.K B Ox ρ' σ' H' Ow' → Stp Ow H Ow' H' → N σ' H') : PsS T W B Ox H Ow (x ρ) { D with nx := N } := by
  cases r : x ρ with
  | ok g ρ' =>
    cases g with
    | nx => exact fun σ' H' Ow' s z => k ρ' σ' H' Ow' r s z
    | rt o => simp only [seqM, bnd, r, ret] at h; exact h
    | bk => simp only [seqM, bnd, r, ret] at h; exact h
    | ct => simp only [seqM, bnd, r, ret] at h; exact h
  | exc c a ρ' => simp only [seqM, bnd, r] at h; exact h
  | stuck => simp only [seqM, bnd, r] at h; exact h
theorem pst_nil : PSs X [] (tSt T W (blk [])) := impSs pss_nil fun D σ H ⟨B, Ox, Ow, ρ, s, q⟩ => q σ H Ow s .refl
theorem pst_one {st : Stmt} {x : M Fl} (h : PS X st (tSt T W x)) : PSs X [st] (tSt T W (blk [x])) := pss_one h
theorem pst_cons {st : Stmt} {sts : List Stmt} {x y : M Fl} {r : List (M Fl)} (h : PS X st (tSt T W x)) (hr : PSs X sts (tSt T W (blk (y :: r)))) : PSs X (st :: sts) (tSt T W (blk (x :: y :: r))) :=
  impSs (pss_cons h hr) fun D σ H ⟨B, Ox, Ow, ρ, s, q⟩ => by
    refine ⟨B, Ox, Ow, ρ, s, ?_⟩
    have q : PsS T W B Ox H Ow (seqM x (blk (y :: r)) ρ) D := q
    refine PsS.seq q fun ρ1 σ1 H1 Ow1 e s1 y1 => ?_
    rw [seqM_nx e] at q
    exact ⟨B, Ox, Ow1, ρ1, s1, PsS.step y1 q⟩
/-- an expression, then what is done with it -/
theorem xthen {y : M OD} {g : OD → M Fl} (h : PsS T W B Ox H Ow (bnd y g ρ) D) (s : St1 T.K B Ox ρ σ H Ow) {Q : VK}
    (k : ∀ o ρ1 v H1 Ow1 A, St1 T.K B (A ++ Ox) ρ1 σ H1 Ow1 → Stp Ow H (A ++ Ow1) H1 → Own T.K H1 (Ow1 ++ (A ++ Ox)) o v A → A.Nodup → (∀ b ∈ A, b ∉ Ox) → PsS T W B Ox H Ow (g o ρ1) D → Q v H1) : Pst T W B Ox σ H Ow (y ρ) Q := by
  cases r : y ρ with
  | stuck => rw [bnd_stk r] at h; exact h
  | exc c a ρ1 => rw [bnd_exc r] at h; exact fun H' Ow' s' y' => h σ H' Ow' s' y'
  | ok o ρ1 => rw [bnd_ok r] at h; exact fun v H1 Ow1 A s1 y1 own nd ap => k o ρ1 v H1 Ow1 A s1 y1 own nd ap h
theorem fthen {y : M PyData} {g : PyData → M Fl} (h : PsS T W B Ox H Ow (bnd y g ρ) D) (s : St1 T.K B Ox ρ σ H Ow) {Q : VK}
    (k : ∀ d ρ1 v H1 Ow1, St1 T.K B Ox ρ1 σ H1 Ow1 → Stp Ow H Ow1 H1 → Is T.K H1 (Ow1 ++ Ox) d v → PsS T W B Ox H1 Ow1 (g d ρ1) D → Q v H1) : Psf T W B Ox σ H Ow (y ρ) Q := by
  cases r : y ρ with
  | stuck => rw [bnd_stk r] at h; exact h
  | exc c a ρ1 => rw [bnd_exc r] at h; exact fun H' Ow' s' y' => h σ H' Ow' s' y'
  | ok o ρ1 => rw [bnd_ok r] at h; exact fun v H1 Ow1 s1 y1 i1 => k o ρ1 v H1 Ow1 s1 y1 i1 (PsS.step y1 h)
theorem bthen {y : M Bool} {g : Bool → M Fl} (h : PsS T W B Ox H Ow (bnd y g ρ) D) (s : St1 T.K B Ox ρ σ H Ow) {Q : Bool → Hp → Prop}
    (k : ∀ b ρ1 H1 Ow1, St1 T.K B Ox ρ1 σ H1 Ow1 → Stp Ow H Ow1 H1 → PsS T W B Ox H1 Ow1 (g b ρ1) D → Q b H1) : Psb T W B Ox σ H Ow (y ρ) Q := by
  cases r : y ρ with
  | stuck => rw [bnd_stk r] at h; exact h
  | exc c a ρ1 => rw [bnd_exc r] at h; exact fun H' Ow' s' y' => h σ H' Ow' s' y'
  | ok o ρ1 => rw [bnd_ok r] at h; exact fun H1 Ow1 s1 y1 => k o ρ1 H1 Ow1 s1 y1 (PsS.step y1 h)
theorem pst_ex {y : M OD} (h : PE X e (tX T W y)) (hs : swapsWith e none pos.line X.env = pure false := by rfl) : PS X (.Expr e pos) (tSt T W (sex y)) := impS (ps_expr h hs) fun D σ H ⟨B, Ox, Ow, ρ, s, q⟩ =>
  ⟨B, Ox, Ow, ρ, s, xthen q s fun o ρ1 v H1 Ow1 A s1 y1 own nd ap q => q σ H1 Ow1 (s1.unaside (fun b hb => by simp [hb]) s.lk) (y1.less fun b hb => by simp [hb])⟩
theorem pst_ret {y : M OD} (h : PE X e (tX T W y)) : PS X (.Return (some e) pos) (tSt T W (sret y)) := impS (ps_ret h) fun D σ H ⟨B, Ox, Ow, ρ, s, q⟩ =>
  ⟨B, Ox, Ow, ρ, s, xthen q s fun o ρ1 v H1 Ow1 A s1 y1 own nd ap q => q σ v H1 Ow1 A s1 y1 own nd ap⟩
theorem pst_retN : PS X (.Return none pos) (tSt T W sretN) := impS ps_retN fun D σ H ⟨B, Ox, Ow, ρ, s, q⟩ => q σ .non H Ow [] s .refl (by simp only [Own, Is]; exact ⟨trivial, trivial⟩) List.nodup_nil (fun _ z => nomatch z)
theorem pst_if {a b : List Stmt} {c : M Bool} {y z : M Fl} (hc : PT X e (tQ T W c)) (ha : PSs X a (tSt T W y)) (hb : PSs X b (tSt T W z)) : PS X (.If e a b pos) (tSt T W (sife c y z)) := impS (ps_if hc ha hb) fun D σ H ⟨B, Ox, Ow, ρ, s, q⟩ =>
  ⟨B, Ox, Ow, ρ, s, bthen q s fun b ρ1 H1 Ow1 s1 y1 q => by
    cases b with
    | true => exact ⟨B, Ox, Ow1, ρ1, s1, q⟩
    | false => exact ⟨B, Ox, Ow1, ρ1, s1, q⟩⟩
theorem pst_pass : PS X (.Pass pos) (tSt T W (ret .nx)) := impS ps_pass fun D σ H ⟨B, Ox, Ow, ρ, s, q⟩ => q σ H Ow s .refl
theorem pst_brk : PS X (.Break pos) (tSt T W (ret .bk)) := impS ps_break fun D σ H ⟨B, Ox, Ow, ρ, s, q⟩ => q σ H Ow s .refl
theorem pst_cnt : PS X (.Continue pos) (tSt T W (ret .ct)) := impS ps_continue fun D σ H ⟨B, Ox, Ow, ρ, s, q⟩ => q σ H Ow s .refl
/-- code that is not come to -/
theorem pst_never {st : Stmt} : PS X st (tSt T W fun _ => .stuck) := ⟨fun _ _ _ _ _ _ ⟨_, _, _, _, _, q⟩ => q.elim⟩
theorem psts_never {st : List Stmt} : PSs X st (tSt T W fun _ => .stuck) := ⟨fun _ _ _ _ _ _ ⟨_, _, _, _, _, q⟩ => q.elim⟩
theorem px_never : PE X e (tX T W fun _ => .stuck) := ⟨fun _ _ _ _ _ _ ⟨_, _, _, _, _, q⟩ => q.elim⟩
theorem pt_never : PT X e (tQ T W fun _ => .stuck) := ⟨fun _ _ _ _ _ _ ⟨_, _, _, _, _, q⟩ => q.elim⟩

/-! ### assignments -/
theorem appM {A L M R : List Addr} {b : Addr} : b ∈ L ++ (A ++ R) ↔ b ∈ A ++ (L ++ R) := by simp only [List.mem_append]; grind
/-- an own thing is taken over by a slot -/
theorem St1.take {i : Nat} {y s' : SV} {v : V} {A : List Addr} (s : St1 T.K B (A ++ Ox) ρ σ H Ow) (lk : ∀ q ∈ B.lk, ∀ b ∈ q.2, b ∈ Ox) (e : ρ[i]? = some y) (nd : A.Nodup) (ap : ∀ b ∈ A, b ∉ Ox) (h : PI.SlR T.K H (Ow ++ (A ++ Ox)) B s' (some v) A) :
    ∃ Ow', (∀ b, b ∈ Ow' → b ∈ A ++ Ow) ∧ St1 T.K B Ox (ρ.set i s') (σ.set i (some v)) H Ow' := by
  obtain ⟨w, L, A1, R, h1, hA, h2, k⟩ := s.sl.at e
  have av : ∀ b, b ∈ (L ++ (A ++ R)) ++ Ox → b ∈ Ow ++ (A ++ Ox) ∨ H b = none := fun b hb => by
    left; rw [hA]
    simp only [List.mem_append] at hb ⊢; grind
  have nd' : (L ++ (A1 ++ R)).Nodup := by rw [← hA]; exact s.nd
  have dis : ∀ b ∈ A, b ∉ Ow := fun b hb z => s.ap b z (by simp [hb])
  have n1 : (L ++ R).Nodup := (List.Sublist.append (List.Sublist.refl _) (List.sublist_append_right _ _)).nodup nd'
  refine ⟨L ++ (A ++ R), fun b hb => ?_, k H _ s' (some v) A .refl av (fun _ _ _ _ _ e => e) (fun _ _ _ e => e) (h.mono .refl av (fun _ _ _ _ _ e => e) fun _ _ _ e => e), ?_, fun b hb => ?_, fun b hb => ?_, lk⟩
  · rw [hA]; simp only [List.mem_append] at hb ⊢; grind
  · have hL := List.nodup_append.mp n1
    refine List.nodup_append.mpr ⟨hL.1, List.nodup_append.mpr ⟨nd, hL.2.1, fun a ha b hb e => ?_⟩, fun a ha b hb e => ?_⟩
    · subst e; exact dis a ha (by rw [hA]; simp [hb])
    · subst e
      rcases List.mem_append.mp hb with z | z
      · exact dis a z (by rw [hA]; simp [ha])
      · exact hL.2.2 a ha a z rfl
  · rcases List.mem_append.mp hb with z | z
    · exact fun q => s.ap b (by rw [hA]; simp [z]) (by simp [q])
    · rcases List.mem_append.mp z with z | z
      · exact ap b z
      · exact fun q => s.ap b (by rw [hA]; simp [z]) (by simp [q])
  · have : b ∈ Ow ++ (A ++ Ox) := (av b hb).elim id fun z => by
      rcases List.mem_append.mp hb with q | q
      · rw [hA]; simp only [List.mem_append] at q ⊢; grind
      · simp [q]
    exact s.tr b this
/-- .. shared -/
theorem own_sl {own : Bool} {o : OD} {v : V} {A : List Addr} (s : St1 T.K B (A ++ Ox) ρ σ H Ow) (lk : ∀ q ∈ B.lk, ∀ b ∈ q.2, b ∈ Ox) (h : Own T.K H (Ow ++ (A ++ Ox)) o v A) (nd : A.Nodup) (ap : ∀ b ∈ A, b ∉ Ox) :
    ∃ A', A'.Nodup ∧ (∀ b ∈ A', b ∈ A) ∧ (∀ b ∈ A', b ∉ Ox) ∧ St1 T.K B (A' ++ Ox) ρ σ H Ow ∧ PI.SlR T.K H (Ow ++ (A' ++ Ox)) B (odS own o) (some v) A' := by
  have shared : PI.SlR T.K H (Ow ++ ([] ++ Ox)) B (.val o.er) (some v) [] := by
    refine ⟨rfl, v, rfl, Own.er (fun b hb => ?_) o v A h fun b hb hz => ?_⟩
    · simp only [List.mem_append, List.nil_append] at hb ⊢; grind
    · simp only [List.mem_append, List.nil_append] at hz
      rcases hz with z | z
      · exact s.ap b z (by simp [hb])
      · exact ap b hb z
  have s0 : St1 T.K B ([] ++ Ox) ρ σ H Ow := s.unaside (fun b hb => by simpa using Or.inr hb) lk
  cases own with
  | false => exact ⟨[], List.nodup_nil, (fun _ z => nomatch z), (fun _ z => nomatch z), s0, shared⟩
  | true =>
    cases o with
    | frz d => exact ⟨[], List.nodup_nil, (fun _ z => nomatch z), (fun _ z => nomatch z), s0, shared⟩
    | lst os => exact ⟨A, nd, fun _ z => z, ap, s, v, rfl, h⟩
    | dct os => exact ⟨A, nd, fun _ z => z, ap, s, v, rfl, h⟩
theorem asg_end {i : Nat} {own : Bool} {o : OD} {v : V} {A : List Addr} {Ow0 : List Addr} {H0 : Hp} (s : St1 T.K B (A ++ Ox) ρ σ H Ow) (lk : ∀ q ∈ B.lk, ∀ b ∈ q.2, b ∈ Ox) (h : Own T.K H (Ow ++ (A ++ Ox)) o v A) (nd : A.Nodup) (ap : ∀ b ∈ A, b ∉ Ox)
    (y : Stp Ow0 H0 (A ++ Ow) H) (q : PsS T W B Ox H0 Ow0 (bnd (putS i (odS own o)) (fun _ => ret .nx) ρ) D) : D.nx (σ.set i (some v)) H := by
  unfold putS at q
  by_cases ho : okset ρ i = true
  · rw [bnd_ok (a := ()) (ρ' := ρ.set i (odS own o)) (by rw [if_pos ho])] at q
    obtain ⟨z, e⟩ := okset_at ho
    obtain ⟨A', nd', sub, ap', s', h'⟩ := own_sl (own := own) s lk h nd ap
    obtain ⟨Ow', sub2, s2⟩ := s'.take lk e nd' ap' h'
    exact q _ _ _ s2 (y.less fun b hb => (List.mem_append.mp (sub2 b hb)).elim (fun z => List.mem_append_left _ (sub b z)) (List.mem_append_right _))
  · rw [bnd_stk (by rw [if_neg ho])] at q
    exact q.elim
theorem pst_asg {i : Nat} {own : Bool} {y : M OD} {pos' : Pos} (hN : X.N.Nodup) (hi : X.N[i]? = some x) (hx : Loc X.env.scope x) (h : PE X e (tX T W y)) (hs : swapsWith e (some (.Name x pos')) pos.line X.env = pure false := by rfl)
    (hf : X.fn x = true ∨ X.env.scope.names.lookup x = some .local := by first | exact .inl rfl | exact .inr rfl | assumption) : PS X (.Assign [.Name x pos'] e pos) (tSt T W (sasg i own y)) := impS (ps_set hN hi hx h hs hf) fun D σ H ⟨B, Ox, Ow, ρ, s, q⟩ =>
  ⟨B, Ox, Ow, ρ, s, xthen q s fun o ρ1 v H1 Ow1 A s1 y1 own nd ap q => asg_end s1 s.lk own nd ap y1 q⟩
theorem pst_asgLc {i : Nat} {own : Bool} {py : Pos} {elt tg iter : Expr} {ifs : List Expr} {scope : Scope} {ow : List (Str × Nat)} {spos : Pos} {src : Src} {t : Tg} {c : Option (M Bool)} {y : M OD} (hc : X.calm = true) (hN : X.N.Nodup) (hy : X.N[i]? = some x) (hyl : X.env.scope.names.lookup x = some .local)
    (hsw : swapsWith (.ListComp elt [⟨tg, iter, ifs, 0⟩] scope pos) (some (.Name x py)) spos.line X.env = pure true) (hi : PI X tg iter (tS T W (evS src))) (ok : BlkOk X.N X.env.scope scope ow)
    (hg : ∀ (s : Shared) (H : Hp) (C : Addr) (cl : List (Str × Addr)) (fp : List Addr), PG (X.blk s H scope (compEnvC scope cl C X.env) fp) tg (tG T t)) (ht : ∀ (s : Shared) (H : Hp) (C : Addr) (cl : List (Str × Addr)) (fp : List Addr), PTs (X.blk s H scope (compEnvC scope cl C X.env) fp) ifs (tC T c))
    (he : ∀ (s : Shared) (H : Hp) (C : Addr) (cl : List (Str × Addr)) (fp : List Addr), PE (X.blk s H scope (compEnvC scope cl C X.env) fp) elt (tX T Wn y)) (hv : ∀ i ∈ t.sl, i ∈ ow.map (·.2)) (hs : ∀ x, foldedSetIterable iter X.env x = pure x := by intro _; rfl) :
    PS X (.Assign [.Name x py] (.ListComp elt [⟨tg, iter, ifs, 0⟩] scope pos) spos) (tSt T W (sasg i own (dlc src t c y (ow.map (·.2))))) := impS (ps_setLc hc hN hy hyl hsw hi ok hg ht he hs) fun D σ H ⟨B, Ox, Ow, ρ, s, q⟩ =>
  lc_imp (Q := fun v H1 => D.nx (σ.set i (some v)) H1) hv ⟨B, Ox, Ow, ρ, s, xthen q s fun o ρ1 v H1 Ow1 A s1 y1 own nd ap q => asg_end s1 s.lk own nd ap y1 q⟩
theorem pst_asgT {tg : Expr} {t : Tg} (h : PE X e (tF T W m)) (hg : PG X tg (tG T t)) (hs : swapsWithSole [tg] e pos.line X.env = pure false := by rfl) (hw : swappedStores [tg] e X.env = pure none := by rfl)
    (h1 : (assignEach [tg] X.env).map (·.2) = [assign tg X.env] := by rfl) : PS X (.Assign [tg] e pos) (tSt T W (sasgT t m)) := impS (ps_asg h hg hs hw h1) fun D σ H ⟨B, Ox, Ow, ρ, s, q⟩ =>
  ⟨B, Ox, Ow, ρ, s, fthen q s fun d ρ1 v H1 Ow1 s1 y1 i1 q => by
    refine ⟨B, Ox, Ow1, ρ1, d, s1, i1, ?_⟩
    cases r : bindT t d ρ1 with
    | none => rw [bnd_stk (by simp [gT, r])] at q; exact q
    | some ρ2 =>
      rw [bnd_ok (a := ()) (ρ' := ρ2) (by simp [gT, r])] at q
      exact fun σ' Ow' s' y' _ => q σ' H1 Ow' s' y'⟩
/-- a thing of the frame's own is shared from here on -/
theorem St1.frz {i : Nat} {o : OD} (s : St1 T.K B Ox ρ σ H Ow) (e : ρ[i]? = some (.own o)) : ∃ Ow', Ow'.Sublist Ow ∧ St1 T.K B Ox (ρ.set i (.val o.er)) σ H Ow' := by
  obtain ⟨v, L, A1, R, h1, hA, ⟨w, rfl, h2⟩, k⟩ := s.sl.at e
  have sub : (L ++ ([] ++ R)).Sublist Ow := by
    rw [hA]
    exact List.Sublist.append (List.Sublist.refl _) (List.Sublist.append (List.nil_sublist _) (List.Sublist.refl _))
  have av : ∀ b, b ∈ (L ++ ([] ++ R)) ++ Ox → b ∈ Ow ++ Ox := fun b hb => (List.mem_append.mp hb).elim (fun z => List.mem_append_left _ (sub.subset z)) (List.mem_append_right _)
  have nd : (L ++ (A1 ++ R)).Nodup := by rw [← hA]; exact s.nd
  have hs : σ.set i (some w) = σ := by
    apply List.ext_getElem?
    intro j
    rw [List.getElem?_set]
    by_cases z : i = j
    · subst z
      rw [if_pos rfl, if_pos (List.getElem?_eq_some_iff.mp h1).1, h1]
    · rw [if_neg z]
  have := k H ((L ++ ([] ++ R)) ++ Ox) (.val o.er) (some w) [] .refl (fun b hb => .inl (av b hb)) (fun _ _ _ _ _ e => e) (fun _ _ _ e => e) ⟨rfl, w, rfl, Own.er av o w A1 h2 fun b hb z => by
    rcases List.mem_append.mp z with q | q
    · simp only [List.nil_append] at q
      have d := List.nodup_append.mp nd
      rcases List.mem_append.mp q with q | q
      · exact d.2.2 b q b (by simp [hb]) rfl
      · exact (List.nodup_append.mp d.2.1).2.2 b hb b q rfl
    · exact s.ap b (by rw [hA]; simp [hb]) q⟩
  rw [hs] at this
  exact ⟨_, sub, this, sub.nodup s.nd, fun b hb => s.ap b (sub.subset hb), fun b hb => s.tr b (av b hb), s.lk⟩
theorem pst_frz {st : Stmt} {i : Nat} {y : M Fl} (h : PS X st (tSt T W y)) : PS X st (tSt T W (seqM (sfrz i) y)) := impS h fun D σ H ⟨B, Ox, Ow, ρ, s, q⟩ => by
  cases e : ρ[i]? with
  | none => simp only [seqM, bnd, sfrz, e] at q; exact q.elim
  | some z =>
    cases z with
    | own o =>
      rw [seqM_nx (ρ' := ρ.set i (.val o.er)) (by simp only [sfrz, e])] at q
      obtain ⟨Ow', sub, s'⟩ := s.frz e
      exact ⟨B, Ox, Ow', _, s', PsS.step (.sub' sub) q⟩
    | val d => rw [seqM_nx (ρ' := ρ) (by simp only [sfrz, e])] at q; exact ⟨B, Ox, Ow, ρ, s, q⟩
    | unset => rw [seqM_nx (ρ' := ρ) (by simp only [sfrz, e])] at q; exact ⟨B, Ox, Ow, ρ, s, q⟩
    | bor k o => simp only [seqM, bnd, sfrz, e] at q; exact q.elim
    | lck k o => simp only [seqM, bnd, sfrz, e] at q; exact q.elim
    | exn k o => simp only [seqM, bnd, sfrz, e] at q; exact q.elim
    | scr k => simp only [seqM, bnd, sfrz, e] at q; exact q.elim
theorem psts_frz {st : List Stmt} {i : Nat} {y : M Fl} (h : PSs X st (tSt T W y)) : PSs X st (tSt T W (seqM (sfrz i) y)) := impSs h fun D σ H ⟨B, Ox, Ow, ρ, s, q⟩ => by
  cases e : ρ[i]? with
  | none => simp only [seqM, bnd, sfrz, e] at q; exact q.elim
  | some z =>
    cases z with
    | own o =>
      rw [seqM_nx (ρ' := ρ.set i (.val o.er)) (by simp only [sfrz, e])] at q
      obtain ⟨Ow', sub, s'⟩ := s.frz e
      exact ⟨B, Ox, Ow', _, s', PsS.step (.sub' sub) q⟩
    | val d => rw [seqM_nx (ρ' := ρ) (by simp only [sfrz, e])] at q; exact ⟨B, Ox, Ow, ρ, s, q⟩
    | unset => rw [seqM_nx (ρ' := ρ) (by simp only [sfrz, e])] at q; exact ⟨B, Ox, Ow, ρ, s, q⟩
    | bor k o => simp only [seqM, bnd, sfrz, e] at q; exact q.elim
    | lck k o => simp only [seqM, bnd, sfrz, e] at q; exact q.elim
    | exn k o => simp only [seqM, bnd, sfrz, e] at q; exact q.elim
    | scr k => simp only [seqM, bnd, sfrz, e] at q; exact q.elim
/-- return x, the thing goes out with it -/
theorem pst_retv {i : Nat} {p2 : Pos} (hN : X.N[i]? = some x := by rfl) (hv : Vis X.env.scope x := by first | exact Or.inl rfl | exact Or.inr (Or.inl rfl) | exact Or.inr (Or.inr rfl)) (hd : (x == ("__debug__" : Str)) = false := by decide)
    (hcd : (x == ("__classdict__" : Str)) = false := by decide) : PS X (.Return (some (.Name x p2)) pos) (tSt T W (sretv i)) := impS (ps_ret (pe_var hN hv hd hcd)) fun D σ H ⟨B, Ox, Ow, ρ, s, q⟩ => by
  unfold sretv at q
  cases e : ρ[i]? with
  | none => simp only [e] at q; exact q.elim
  | some z =>
    simp only [e] at q
    obtain ⟨v, L, A1, R, h1, hA, h2, k⟩ := s.sl.at e
    cases z with
    | val d =>
      obtain ⟨_, w, rfl, h2⟩ := h2
      exact ⟨w, h1, q σ w H Ow [] s .refl (by simp only [Own]; exact ⟨trivial, h2⟩) List.nodup_nil (fun _ z => nomatch z)⟩
    | own o =>
      obtain ⟨w, rfl, h2⟩ := h2
      have sub : (L ++ ([] ++ R)).Sublist Ow := by
        rw [hA]
        exact List.Sublist.append (List.Sublist.refl _) (List.Sublist.append (List.nil_sublist _) (List.Sublist.refl _))
      have nd : (L ++ (A1 ++ R)).Nodup := by rw [← hA]; exact s.nd
      have d := List.nodup_append.mp nd
      have dis : ∀ b ∈ A1, b ∉ L ++ ([] ++ R) := fun b hb z => by
        simp only [List.nil_append] at z
        rcases List.mem_append.mp z with q | q
        · exact d.2.2 b q b (by simp [hb]) rfl
        · exact (List.nodup_append.mp d.2.1).2.2 b hb b q rfl
      have av : ∀ b, b ∈ (L ++ ([] ++ R)) ++ (A1 ++ Ox) → b ∈ Ow ++ Ox := fun b hb => by rw [hA]; simp only [List.mem_append, List.nil_append] at hb ⊢; grind
      have k' := k H ((L ++ ([] ++ R)) ++ (A1 ++ Ox)) .unset none [] .refl (fun b hb => .inl (av b hb)) (fun _ _ _ _ _ e => e) (fun _ _ _ e => e) rfl
      have apx : ∀ b ∈ A1, b ∉ Ox := fun b hb => s.ap b (by rw [hA]; simp [hb])
      refine ⟨w, h1, q _ w H _ A1 ⟨k', sub.nodup s.nd, fun b hb z => ?_, fun b hb => s.tr b (av b hb), fun q hq b hb => List.mem_append_right _ (s.lk q hq b hb)⟩ (Stp.refl.less fun b hb => ?_) (Own.mono .refl (fun b hb => .inl (av b hb)) _ _ _ (fun _ _ _ e => e) h2) (List.nodup_append.mp d.2.1).1 apx⟩
      · rcases List.mem_append.mp z with z | z
        · exact dis b z hb
        · exact s.ap b (sub.subset hb) z
      · rw [hA]; simp only [List.mem_append, List.nil_append] at hb ⊢; grind
    | _ => exact q.elim
end
end PI

/-! PL12: changes of own containers (own work). -/
namespace PI
open PySem PySem.Spec PyProof.Rows L2
def svO : SV → Option OD
  | .own o => some o
  | .bor _ o => some o
  | _ => none
def svSet : SV → OD → SV
  | .own _, o => .own o
  | .bor k _, o => .bor k o
  | z, _ => z
section
variable {T : Th} {W : WX} {X : Cx} {B : Bx} {Ox Ow Ow1 : List Addr} {σ : L2.St} {ρ : Env} {H H1 : Hp} {O : List Addr} {pos p : Pos} {x : Str} {e : Expr} {m : M PyData} {D : Ends} {i : Nat} {z : SV} {o : OD}
theorem own_ref {K : PySem.W.Frag} {v : V} {A : List Addr} (c : isCtr o = true) (h : Own K H O o v A) : ∃ a As, v = .ref a ∧ A = a :: As := by
  cases o with
  | frz d => exact nomatch c
  | lst os => simp only [Own] at h; obtain ⟨a, xs, As, rfl, _, rfl, _⟩ := h; exact ⟨a, As, rfl, rfl⟩
  | dct os => simp only [Own] at h; obtain ⟨a, As, rfl, rfl, _⟩ := h; exact ⟨a, As, rfl, rfl⟩
/-- the container of a slot's own, and what comes of a change of it -/
theorem St1.cont (s : St1 T.K B Ox ρ σ H Ow) (e : ρ[i]? = some z) (hz : svO z = some o) (c : isCtr o = true) :
    ∃ a As, σ[i]? = some (some (.ref a)) ∧ Own T.K H (Ow ++ Ox) o (.ref a) (a :: As) ∧ a ∈ Ow ∧ a ∉ As ∧
      ∀ u o' As', As'.Sublist As → (∀ O', (∀ b, b ∈ O' → b ∈ Ow ++ Ox) → Own T.K (upd H a u) O' o' (.ref a) (a :: As')) →
        ∃ Ow', Ow'.Sublist Ow ∧ St1 T.K B Ox (ρ.set i (svSet z o')) σ (upd H a u) Ow' ∧ Stp Ow H Ow' (upd H a u) := by
  obtain ⟨v, L, A1, R, h1, hA, h2, k⟩ := s.sl.at e
  have get : ∃ a As, v = some (.ref a) ∧ A1 = a :: As ∧ Own T.K H (Ow ++ Ox) o (.ref a) (a :: As) ∧ ∀ H' O' o' A', Own T.K H' O' o' (.ref a) A' → PI.SlR T.K H' O' B (svSet z o') (some (.ref a)) A' := by
    cases z with
    | own o2 =>
      cases hz
      obtain ⟨w, rfl, h2⟩ := h2
      obtain ⟨a, As, rfl, rfl⟩ := own_ref c h2
      exact ⟨a, As, rfl, rfl, h2, fun H' O' o' A' q => ⟨_, rfl, q⟩⟩
    | bor k o2 =>
      cases hz
      obtain ⟨b, rfl, hb, h2⟩ := h2
      obtain ⟨a, As, e, rfl⟩ := own_ref c h2
      cases e
      exact ⟨b, As, rfl, rfl, h2, fun H' O' o' A' q => ⟨_, rfl, hb, q⟩⟩
    | _ => exact nomatch hz
  obtain ⟨a, As, rfl, rfl, own, re⟩ := get
  have nd : (L ++ (a :: As ++ R)).Nodup := by rw [← hA]; exact s.nd
  have aOw : a ∈ Ow := by rw [hA]; simp
  have d := List.nodup_append.mp nd
  have aAs : a ∉ As := (List.nodup_cons.mp (List.nodup_append.mp d.2.1).1).1
  have hs : σ.set i (some (.ref a)) = σ := by
    apply List.ext_getElem?
    intro j
    rw [List.getElem?_set]
    by_cases q : i = j
    · subst q
      rw [if_pos rfl, if_pos (List.getElem?_eq_some_iff.mp h1).1, h1]
    · rw [if_neg q]
  refine ⟨a, As, h1, own, aOw, aAs, fun u o' As' sb h => ?_⟩
  have sub : (L ++ (a :: As' ++ R)).Sublist Ow := by
    rw [hA]
    exact List.Sublist.append (List.Sublist.refl _) (List.Sublist.append (sb.cons_cons a) (List.Sublist.refl _))
  have av : ∀ b, b ∈ (L ++ (a :: As' ++ R)) ++ Ox → b ∈ Ow ++ Ox := fun b hb => (List.mem_append.mp hb).elim (fun z => List.mem_append_left _ (sub.subset z)) (List.mem_append_right _)
  have ne : ∀ b ∈ L ++ R, b ≠ a := fun b hb e => by
    subst e
    rcases List.mem_append.mp hb with q | q
    · exact d.2.2 b q b (by simp) rfl
    · exact (List.nodup_append.mp d.2.1).2.2 b (by simp) b q rfl
  have lkn : ∀ q ∈ B.lk, ∀ b ∈ q.2, b ≠ a := fun q hq b hb e => s.ap a aOw (by rw [← e]; exact s.lk q hq b hb)
  have kw : ∀ b w, b ≠ a → H b = some w → upd H a u b = some w := fun b w n e => by rw [upd_ne n]; exact e
  have new := k (upd H a u) ((L ++ (a :: As' ++ R)) ++ Ox) (svSet z o') (some (.ref a)) (a :: As') (.all fun b w n e => kw b w (fun q => n (by rw [q]; exact List.mem_append_left _ aOw)) e) (fun b hb => .inl (av b hb))
    (fun q hq b hb w e => kw b w (lkn q hq b hb) e) (fun b hb w e => kw b w (ne b hb) e) (re _ _ _ _ (h _ av))
  rw [hs] at new
  have live : ∀ b, H b ≠ none → upd H a u b ≠ none := fun b hb => by
    by_cases q : b = a
    · rw [q, upd_same]; exact fun z => nomatch z
    · rw [upd_ne q]; exact hb
  exact ⟨_, sub, ⟨new, sub.nodup s.nd, fun b hb => s.ap b (sub.subset hb), fun b hb => live b (s.tr b (av b hb)), s.lk⟩,
    ⟨fun b w n e => kw b w (fun q => n (by rw [q]; exact aOw)) e, fun b hb => .inl (sub.subset hb), live⟩⟩
/-- the children stay -/
theorem own_keeps {K : PySem.W.Frag} {a : Addr} {u : HO} (ha : a ∈ O) : Keeps O H (upd H a u) := .all fun b w n e => by rw [upd_ne (fun q => n (by rw [q]; exact ha))]; exact e
theorem ownA_upd {a : Addr} {u : HO} {O' As : List Addr} {os : List OD} {vs : List V} (ha : a ∈ O) (n : a ∉ As) (av : ∀ b, b ∈ O' → b ∈ O) (h : OwnA T.K H O os vs As) : OwnA T.K (upd H a u) O' os vs As :=
  OwnA.mono (own_keeps (K := T.K) ha) (fun b hb => .inl (av b hb)) _ _ _ (fun b hb w e => by rw [upd_ne (fun q => n (by rw [← q]; exact hb))]; exact e) h
theorem ownV_upd {a : Addr} {u : HO} {O' As : List Addr} {os : List (PyData × OD)} {vs : List V} (ha : a ∈ O) (n : a ∉ As) (av : ∀ b, b ∈ O' → b ∈ O) (h : OwnV T.K H O os vs As) : OwnV T.K (upd H a u) O' os vs As :=
  OwnV.mono (own_keeps (K := T.K) ha) (fun b hb => .inl (av b hb)) _ _ _ (fun b hb w e => by rw [upd_ne (fun q => n (by rw [← q]; exact hb))]; exact e) h
theorem modS_ok {f : OD → Option OD} {u : Unit} {ρ' : Env} (h : modS i f ρ = .ok u ρ') : ∃ z o o', ρ[i]? = some z ∧ svO z = some o ∧ f o = some o' ∧ ρ' = ρ.set i (svSet z o') := by
  unfold modS at h
  cases e : (ρ[i]?).bind (svMod f) with
  | none => rw [e] at h; exact nomatch h
  | some s =>
    rw [e] at h
    cases h
    obtain ⟨z, e1, e2⟩ := Option.bind_eq_some_iff.mp e
    cases z with
    | own o =>
      simp only [svMod] at e2
      obtain ⟨o', e3, rfl⟩ := Option.map_eq_some_iff.mp e2
      exact ⟨_, o, o', e1, rfl, e3, rfl⟩
    | bor k o =>
      simp only [svMod] at e2
      obtain ⟨o', e3, rfl⟩ := Option.map_eq_some_iff.mp e2
      exact ⟨_, o, o', e1, rfl, e3, rfl⟩
    | _ => exact nomatch e2
theorem isC_ok {f : OD → Bool} {u : Unit} {ρ' : Env} (h : isC i f ρ = .ok u ρ') : ρ' = ρ ∧ ∃ z o, ρ[i]? = some z ∧ svO z = some o ∧ f o = true := by
  unfold isC at h
  split at h
  · rename_i o e
    split at h
    · cases h; exact ⟨rfl, _, o, e, rfl, by assumption⟩
    · exact nomatch h
  · rename_i k o e
    split at h
    · cases h; exact ⟨rfl, _, o, e, rfl, by assumption⟩
    · exact nomatch h
  · exact nomatch h
theorem isC_run {f : OD → Bool} {g : Unit → M Fl} (h : PsS T W B Ox H Ow (bnd (isC i f) g ρ) D) : (∃ z o, ρ[i]? = some z ∧ svO z = some o ∧ f o = true) ∧ PsS T W B Ox H Ow (g () ρ) D := by
  cases r : isC i f ρ with
  | stuck => rw [bnd_stk r] at h; exact h.elim
  | exc c a ρ1 => unfold isC at r; split at r <;> (try split at r) <;> exact nomatch r
  | ok u ρ1 =>
    obtain ⟨rfl, k⟩ := isC_ok r
    rw [bnd_ok r] at h
    exact ⟨k, h⟩
theorem modS_run {f : OD → Option OD} (h : PsS T W B Ox H Ow (bnd (modS i f) (fun _ => ret .nx) ρ) D) : ∃ z o o', ρ[i]? = some z ∧ svO z = some o ∧ f o = some o' ∧ PsS T W B Ox H Ow (.ok .nx (ρ.set i (svSet z o'))) D := by
  cases r : modS i f ρ with
  | stuck => rw [bnd_stk r] at h; exact h.elim
  | exc c a ρ1 => unfold modS at r; split at r <;> exact nomatch r
  | ok u ρ1 =>
    obtain ⟨z, o, o', e1, e2, e3, rfl⟩ := modS_ok r
    rw [bnd_ok r] at h
    exact ⟨z, o, o', e1, e2, e3, h⟩

/-! ### x.append(e) -/
theorem lst_of {f : OD → Bool} (hf : f = isLst) (s : St1 T.K B Ox ρ σ H Ow) (h : ∃ z o, ρ[i]? = some z ∧ svO z = some o ∧ f o = true) : ∃ a vs, σ[i]? = some (some (.ref a)) ∧ H a = some (.lst vs) := by
  obtain ⟨z, o, e, hz, c⟩ := h
  subst hf
  cases o with
  | lst xs =>
    obtain ⟨a, As, h1, own, _⟩ := s.cont e hz rfl
    simp only [Own] at own
    obtain ⟨b, vs, As', e2, h2, _⟩ := own
    cases e2
    exact ⟨a, vs, h1, h2⟩
  | _ => exact nomatch c
theorem pst_app {apos cpos p1 : Pos} (hN : X.N[i]? = some x := by rfl) (hv : Vis X.env.scope x := by first | exact Or.inl rfl | exact Or.inr (Or.inl rfl) | exact Or.inr (Or.inr rfl)) (h : PE X e (tF T W m)) (hd : (x == ("__debug__" : Str)) = false := by decide) (hcd : (x == ("__classdict__" : Str)) = false := by decide)
    (hbase : attributeBase (.Name x p1) "append" X.env (eval (.Name x p1) X.env) = eval (.Name x p1) X.env := by rfl)
    (hfew : ((backTo cpos (starEach [e] X.env)).all (fun x => !x.1) && (backToKw cpos (keywordEach [] X.env)).all (fun x => x.1.isSome)
      && decide ([e].length + ([] : List Keyword).length + (if ([] : List Keyword).isEmpty then 0 else 1) < 30)) = true := by rfl)
    (hline : (apos.endLine == cpos.line) = true := by rfl) (hs : starEach [e] X.env = [(false, eval e X.env)] := by rfl) (hsw : swapsWith (.Call (.Attribute (.Name x p1) "append" apos) [e] [] cpos) none pos.line X.env = pure false := by rfl) :
    PS X (.Expr (.Call (.Attribute (.Name x p1) "append" apos) [e] [] cpos) pos) (tSt T W (sapp i m)) :=
  impS (ps_expr (pe_bm PySem.F.plainAttrs_list PySem.F.slot_list_append PySem.F.type_list_append mt_append (pe_var hN hv hd hcd) (pa_cons h pa_nil hs) hbase hfew hline hs rfl) hsw) fun D σ H ⟨B, Ox, Ow, ρ, s, q⟩ => by
    obtain ⟨kd, q⟩ := isC_run q
    obtain ⟨a, vs, h1, h2⟩ := lst_of rfl s kd
    refine ⟨_, h1, .inl ⟨rfl, vs, .of h2⟩, B, Ox, Ow, ρ, s, fthen q s fun d ρ1 v H1 Ow1 s1 y1 i1 q => ?_⟩
    obtain ⟨z, o, o', e1, e2, e3, q⟩ := modS_run q
    cases o with
    | lst xs =>
      simp only [appO] at e3
      split at e3
      · rename_i hz
        cases e3
        obtain ⟨b, As, h3, own, bO, bA, k⟩ := s1.cont e1 e2 rfl
        rw [h1] at h3
        cases h3
        simp only [Own] at own
        obtain ⟨b, ws, As', e4, h4, e5, own⟩ := own
        cases e4
        cases e5
        refine ⟨a, ws, v, rfl, rfl, h4, by rw [← own.length]; exact hz, ?_⟩
        obtain ⟨Ow', sub, s2, y2⟩ := k (.lst (ws ++ [v])) (.lst (xs ++ [.frz d])) As (.refl _) fun O' av => by
          simp only [Own]
          refine ⟨a, _, As, rfl, upd_same, rfl, ?_⟩
          have := ownA_upd (u := .lst (ws ++ [v])) (List.mem_append_left _ bO) bA av (own.append (OwnA.one (o := .frz d) (v := v) (A := []) (by simp only [Own]; exact ⟨trivial, i1⟩)) |> fun h => by rw [List.append_nil] at h; exact h)
          exact this
        exact q _ _ _ s2 y2
      · exact nomatch e3
    | _ => exact nomatch e3

/-! ### x.pop() -/
theorem OwnA.last {K : PySem.W.Frag} {d : PyData} : ∀ {os : List OD} {vs : List V} {A : List Addr}, OwnA K H O os vs A → os.getLast? = some (.frz d) → ∃ v, vs[vs.length - 1]? = some v ∧ Is K H O d v ∧ OwnA K H O os.dropLast vs.dropLast A
  | [], vs, A, h, e => by simp at e
  | [o], vs, A, h, e => by
    simp only [OwnA] at h
    obtain ⟨w, ws, A1, A2, rfl, rfl, h1, rfl, rfl⟩ := h
    simp only [List.getLast?_singleton, Option.some.injEq] at e
    subst e
    simp only [Own] at h1
    obtain ⟨rfl, h1⟩ := h1
    exact ⟨w, rfl, h1, by simp [OwnA]⟩
  | o :: o2 :: os, vs, A, h, e => by
    simp only [OwnA] at h
    obtain ⟨w, ws, A1, A2, rfl, rfl, h1, h2⟩ := h
    have h2' : OwnA K H O (o2 :: os) ws A2 := by simp only [OwnA]; exact h2
    obtain ⟨v, e1, e2, e3⟩ := h2'.last (d := d) (by simpa [List.getLast?_cons_cons] using e)
    have hl := h2'.length
    cases ws with
    | nil => simp at hl
    | cons w2 ws =>
      refine ⟨v, by simpa using e1, e2, ?_⟩
      simp only [List.dropLast_cons_cons, OwnA]
      exact ⟨w, _, A1, A2, rfl, rfl, h1, e3⟩
theorem px_pop {apos cpos p1 : Pos} (hN : X.N[i]? = some x := by rfl) (hv : Vis X.env.scope x := by first | exact Or.inl rfl | exact Or.inr (Or.inl rfl) | exact Or.inr (Or.inr rfl)) (hd : (x == ("__debug__" : Str)) = false := by decide) (hcd : (x == ("__classdict__" : Str)) = false := by decide)
    (hbase : attributeBase (.Name x p1) "pop" X.env (eval (.Name x p1) X.env) = eval (.Name x p1) X.env := by rfl) (hline : (apos.endLine == cpos.line) = true := by rfl) :
    PE X (.Call (.Attribute (.Name x p1) "pop" apos) [] [] cpos) (tX T W (dpop i)) :=
  imp (pe_bm0 PySem.F.plainAttrs_list PySem.F.slot_list_pop PySem.F.type_list_pop mt_pop (pe_var hN hv hd hcd) hbase hline) fun σ H Q ⟨B, Ox, Ow, ρ, s, q⟩ => by
    have key : ∀ z xs d, ρ[i]? = some z → svO z = some (.lst xs) → xs.getLast? = some (.frz d) → Pst T W B Ox σ H Ow (.ok (.frz d) (ρ.set i (svSet z (.lst xs.dropLast)))) Q → tBM0 X.K "list" rPop (tVar i) σ H Q := fun z xs d e hz hl q => by
      obtain ⟨a, As, h1, own, aO, aA, k⟩ := s.cont e hz rfl
      simp only [Own] at own
      obtain ⟨b, ws, As', e4, h4, e5, own⟩ := own
      cases e4
      cases e5
      obtain ⟨v, e1, e2, e3⟩ := own.last hl
      refine ⟨_, h1, .inl ⟨rfl, ws, .of h4⟩, a, ws, v, rfl, rfl, h4, e1, ?_⟩
      obtain ⟨Ow', sub, s2, y2⟩ := k (.lst ws.dropLast) (.lst xs.dropLast) As (.refl _) fun O' av => by
        simp only [Own]
        exact ⟨a, _, As, rfl, upd_same, rfl, ownA_upd (List.mem_append_left _ aO) aA av e3⟩
      refine q v _ Ow' [] s2 y2 ?_ List.nodup_nil (fun _ z => nomatch z)
      simp only [Own]
      refine ⟨trivial, Is.mono (own_keeps (K := T.K) (List.mem_append_left _ aO)) (fun b hb => .inl ?_) d v e2⟩
      rcases List.mem_append.mp hb with q | q
      · exact List.mem_append_left _ (sub.subset q)
      · exact List.mem_append_right _ (by simpa using q)
    unfold dpop at q
    split at q
    · rename_i xs e
      split at q
      · rename_i d e2
        exact key _ xs d e rfl e2 q
      · exact q.elim
    · rename_i k xs e
      split at q
      · rename_i d e2
        exact key _ xs d e rfl e2 q
      · exact q.elim
    · exact q.elim

/-! ### x[k] = d -/
theorem OwnA.set {K : PySem.W.Frag} {d : PyData} {v : V} (iv : Is K H O d v) : ∀ {os : List OD} {vs : List V} {A : List Addr} (j : Nat), OwnA K H O os vs A → ∃ A', A'.Sublist A ∧ OwnA K H O (os.set j (.frz d)) (vs.set j v) A'
  | [], vs, A, j, h => by
    simp only [OwnA] at h
    obtain ⟨rfl, rfl⟩ := h
    exact ⟨[], .refl _, by simp [OwnA]⟩
  | o :: os, vs, A, 0, h => by
    simp only [OwnA] at h
    obtain ⟨w, ws, A1, A2, rfl, rfl, h1, h2⟩ := h
    refine ⟨A2, List.sublist_append_right _ _, ?_⟩
    simp only [List.set_cons_zero, OwnA]
    exact ⟨v, ws, [], A2, rfl, rfl, by simp only [Own]; exact ⟨trivial, iv⟩, h2⟩
  | o :: os, vs, A, j + 1, h => by
    simp only [OwnA] at h
    obtain ⟨w, ws, A1, A2, rfl, rfl, h1, h2⟩ := h
    obtain ⟨A', sb, h3⟩ := h2.set iv j
    refine ⟨A1 ++ A', List.Sublist.append (.refl _) sb, ?_⟩
    simp only [List.set_cons_succ, OwnA]
    exact ⟨w, _, A1, A', rfl, rfl, h1, h3⟩
section
variable {κ : Type} [DecidableEq κ] {kd : κ → PyData}
theorem put_keys {α : Type} (hk : ∀ a b, eqS (kd a) (kd b) = decide (a = b)) (k : κ) (d : α) (v : V) {kvs : List (PyData × α)} {ks : List (κ × V)} (h : kvs.map (·.1) = ks.map fun q => kd q.1) :
    (put kvs (kd k) d).map (·.1) = (putK ks k v).map fun q => kd q.1 := by
  have any : ∀ {kvs : List (PyData × α)} {ks : List (κ × V)}, kvs.map (·.1) = ks.map (fun q => kd q.1) → (kvs.any fun q => eqS q.1 (kd k)) = ks.any fun kv => decide (kv.1 = k) := by
    intro kvs
    induction kvs with
    | nil => intro ks h; cases ks with
      | nil => rfl
      | cons _ _ => simp at h
    | cons q kvs ih => intro ks h; cases ks with
      | nil => simp at h
      | cons r ks =>
        simp only [List.map_cons, List.cons.injEq] at h
        simp only [List.any_cons, h.1, hk, ih h.2]
  unfold put putK
  rw [any h]
  by_cases c : (ks.any fun kv => decide (kv.1 = k)) = true
  · rw [if_pos c, if_pos c, List.map_map, List.map_map]
    have e1 : ((fun q : PyData × α => q.1) ∘ fun q : PyData × α => if eqS q.1 (kd k) = true then (q.1, d) else q) = fun q => q.1 := by funext q; simp only [Function.comp]; split <;> rfl
    have e2 : ((fun q : κ × V => kd q.1) ∘ fun kv : κ × V => if kv.1 = k then (kv.1, v) else kv) = fun q => kd q.1 := by funext q; simp only [Function.comp]; split <;> rfl
    rw [e1, e2]
    exact h
  · rw [if_neg c, if_neg c, List.map_append, List.map_append, h]
    rfl
theorem OwnV.append {K : PySem.W.Frag} : ∀ {os ps : List (PyData × OD)} {vs ws : List V} {A A' : List Addr}, OwnV K H O os vs A → OwnV K H O ps ws A' → OwnV K H O (os ++ ps) (vs ++ ws) (A ++ A')
  | [], ps, vs, ws, A, A', h, g => by
    simp only [OwnV] at h
    obtain ⟨rfl, rfl⟩ := h
    exact g
  | (k, o) :: os, ps, vs, ws, A, A', h, g => by
    simp only [OwnV] at h
    obtain ⟨w, us, A1, A2, rfl, rfl, h1, h2⟩ := h
    simp only [List.cons_append, OwnV]
    exact ⟨w, us ++ ws, A1, A2 ++ A', rfl, by simp, h1, h2.append g⟩
theorem OwnV.put {K : PySem.W.Frag} (hk : ∀ a b, eqS (kd a) (kd b) = decide (a = b)) (k : κ) {d : PyData} {v : V} (iv : Is K H O d v) {kvs : List (PyData × OD)} {ks : List (κ × V)} {A : List Addr} (h : kvs.map (·.1) = ks.map fun q => kd q.1) (g : OwnV K H O kvs (ks.map (·.2)) A) :
    ∃ A', A'.Sublist A ∧ OwnV K H O (PI.put kvs (kd k) (.frz d)) ((putK ks k v).map (·.2)) A' := by
  have mp : ∀ {kvs : List (PyData × OD)} {ks : List (κ × V)} {A : List Addr}, kvs.map (·.1) = ks.map (fun q => kd q.1) → OwnV K H O kvs (ks.map (·.2)) A →
      ∃ A', A'.Sublist A ∧ OwnV K H O (kvs.map fun q => if eqS q.1 (kd k) then (q.1, OD.frz d) else q) ((ks.map fun kv => if kv.1 = k then (kv.1, v) else kv).map (·.2)) A' := by
    intro kvs
    induction kvs with
    | nil => intro ks A h g; cases ks with
      | nil =>
        simp only [List.map_nil, OwnV] at g ⊢
        exact ⟨A, .refl _, trivial, g.2⟩
      | cons _ _ => simp at h
    | cons q kvs ih => intro ks A h g; cases ks with
      | nil => simp at h
      | cons r ks =>
        obtain ⟨qk, qo⟩ := q
        obtain ⟨rk, rv⟩ := r
        simp only [List.map_cons, List.cons.injEq] at h
        obtain ⟨h1, h2⟩ := h
        simp only [List.map_cons, OwnV] at g
        obtain ⟨w, ws, A1, A2, e, rfl, g1, g2⟩ := g
        injection e with e1 e2
        subst e1 e2 h1
        obtain ⟨A', sb, g3⟩ := ih h2 g2
        simp only [List.map_cons, hk]
        by_cases c : rk = k
        · rw [decide_eq_true c, if_pos rfl, if_pos c]
          refine ⟨A', sb.trans (List.sublist_append_right _ _), ?_⟩
          simp only [OwnV]
          exact ⟨v, _, [], A', rfl, rfl, by simp only [Own]; exact ⟨trivial, iv⟩, g3⟩
        · rw [decide_eq_false c, if_neg (by decide), if_neg c]
          refine ⟨A1 ++ A', List.Sublist.append (.refl _) sb, ?_⟩
          simp only [OwnV]
          exact ⟨rv, _, A1, A', rfl, rfl, g1, g3⟩
  have any : ∀ {kvs : List (PyData × OD)} {ks : List (κ × V)}, kvs.map (·.1) = ks.map (fun q => kd q.1) → (kvs.any fun q => eqS q.1 (kd k)) = ks.any fun kv => decide (kv.1 = k) := by
    intro kvs
    induction kvs with
    | nil => intro ks h; cases ks with
      | nil => rfl
      | cons _ _ => simp at h
    | cons q kvs ih => intro ks h; cases ks with
      | nil => simp at h
      | cons r ks =>
        simp only [List.map_cons, List.cons.injEq] at h
        simp only [List.any_cons, h.1, hk, ih h.2]
  unfold PI.put putK
  rw [any h]
  by_cases c : (ks.any fun kv => decide (kv.1 = k)) = true
  · rw [if_pos c, if_pos c]; exact mp h g
  · rw [if_neg c, if_neg c, List.map_append]
    refine ⟨A ++ [], by simp, g.append ?_⟩
    simp only [List.map_cons, List.map_nil, OwnV]
    exact ⟨v, [], [], [], rfl, rfl, by simp only [Own]; exact ⟨trivial, iv⟩, rfl, rfl⟩
end
/-- a list's item, a dict's key -/
def rSetD : TSet := fun o k v H Q => (∃ p xs j i, o = .ref p ∧ k = .int i ∧ H p = some (.lst xs) ∧ ixN xs.length i = some j ∧ Q (upd H p (.lst (xs.set j v)))) ∨
  ∃ a H', o = .ref a ∧ (DPut H a k v H' ∨ (H a = some (.dK []) ∧ DPut (upd H a (.dT [])) a k v H')) ∧ Q H'
theorem set_data (hu : X.A.units + 1 < cLine) : PSet X rSetD := by
  intro pins s σ H o i v ov iv u Q I ro ri rv h
  rcases h with ⟨p, xs, j, k, rfl, rfl, hp, hj, q⟩ | ⟨a, H', rfl, h, q⟩
  · exact set_list pins s σ H _ _ v ov iv u Q I ro ri rv ⟨p, xs, k, j, rfl, rfl, hp, hj, q⟩
  · obtain rfl : ov = Value.ref a := ro
    rcases h with h | ⟨he, h⟩
    · exact d_setItem hu I h ri rv fun s' I' => ⟨H', I', q⟩
    · have new := dK0T (H' := upd H a (.dT [])) I.hok (.inl he)
      have ex : ∃ u, s.heap.get? a = some u := by
        obtain ⟨_, _, _, _, o, _, _, e, _⟩ := (show ObjOk X.prog X.w H s.heap a (.dK []) from I.hok a _ he)
        exact ⟨o, e⟩
      have I2 : Inv X pins σ (upd H a (.dT [])) s := I.write (x := a) (e := a) (t' := s.toks) (h' := s.heap) (by rw [he]; exact trivial) (.inl rfl) (fun _ _ _ q => q) ex new
      exact d_setItem hu I2 h ri rv fun s' I' => ⟨H', I', q⟩
theorem ctr_ref (s : St1 T.K B Ox ρ σ H Ow) (h : ∃ z o, ρ[i]? = some z ∧ svO z = some o ∧ isCtr o = true) : ∃ a, σ[i]? = some (some (.ref a)) := by
  obtain ⟨z, o, e, hz, c⟩ := h
  obtain ⟨a, As, h1, _⟩ := s.cont e hz c
  exact ⟨a, h1⟩
theorem upd_upd {a : Addr} {u w : HO} : upd (upd H a u) a w = upd H a w := by
  funext b
  by_cases h : b = a
  · subst h; rw [upd_same, upd_same]
  · rw [upd_ne h, upd_ne h, upd_ne h]
/-- the key's kind against a dict's -/
theorem kfit_K {α : Type} {kvs : List (PyData × α)} {ks : List (List Key × V)} {k : Key} (hk : kfit kvs (kD k) = true) (n : ks ≠ []) (h : kvs.map (·.1) = ks.map fun q => tD q.1) : False := by
  simp only [kfit, Bool.and_eq_true, List.all_eq_true] at hk
  cases kvs with
  | nil => cases ks with
    | nil => exact n rfl
    | cons _ _ => simp at h
  | cons q kvs => cases ks with
    | nil => exact n rfl
    | cons r ks =>
      simp only [List.map_cons, List.cons.injEq] at h
      have := hk.2 q (by simp)
      rw [h.1, atom_tD, atom_kD] at this
      exact nomatch this
theorem kfit_T {α : Type} {kvs : List (PyData × α)} {ks : List (Key × V)} {k : List Key} (hk : kfit kvs (tD k) = true) (h : kvs.map (·.1) = ks.map fun q => kD q.1) : kvs = [] ∧ ks = [] := by
  simp only [kfit, Bool.and_eq_true, List.all_eq_true] at hk
  cases kvs with
  | nil => cases ks with
    | nil => exact ⟨rfl, rfl⟩
    | cons _ _ => simp at h
  | cons q kvs => cases ks with
    | nil => simp at h
    | cons r ks =>
      simp only [List.map_cons, List.cons.injEq] at h
      have := hk.2 q (by simp)
      rw [h.1, atom_tD, atom_kD] at this
      exact nomatch this
/-- a dict of the frame's own, a key set -/
theorem St1.dput {kvs : List (PyData × OD)} {k d : PyData} {y v : V} {a : Addr} (s : St1 T.K B Ox ρ σ H Ow) (e : ρ[i]? = some z) (hz : svO z = some (.dct kvs)) (hk : kfit kvs k = true) (hl : kvs.length < lim) (ha : σ[i]? = some (some (.ref a)))
    (ik : Is T.K H (Ow ++ Ox) k y) (iv : Is T.K H (Ow ++ Ox) d v) :
    ∃ H', (DPut H a y v H' ∨ (H a = some (.dK []) ∧ DPut (upd H a (.dT [])) a y v H')) ∧ ∃ Ow', Ow'.Sublist Ow ∧ St1 T.K B Ox (ρ.set i (svSet z (.dct (_root_.PI.put kvs k (.frz d))))) σ H' Ow' ∧ Stp Ow H Ow' H' := by
  obtain ⟨b, As, h1, own, aO, aA, kk⟩ := s.cont e hz rfl
  rw [ha] at h1
  cases h1
  simp only [Own] at own
  obtain ⟨b, As', e4, e5, own⟩ := own
  cases e4
  cases e5
  have aO' : a ∈ Ow ++ Ox := List.mem_append_left _ aO
  rcases isK_of (by simp only [kfit, Bool.and_eq_true] at hk; exact hk.1) with ⟨k, rfl⟩ | ⟨k, rfl⟩
  · have ey := is_kD ik
    subst ey
    rcases own with ⟨ks, g1, g2, g3⟩ | ⟨ks, g1, hn, g2, g3⟩
    · have len : kvs.length = ks.length := by simpa using congrArg List.length g2
      obtain ⟨A2, sb, g4⟩ := g3.put eqS_kD k iv g2
      refine ⟨_, .inl (DPut.k g1 (by rw [← len]; exact hl)), kk _ _ A2 sb fun O' av => ?_⟩
      simp only [Own]
      refine ⟨a, A2, rfl, rfl, .inl ⟨_, upd_same, put_keys eqS_kD k _ v g2, ?_⟩⟩
      exact ownV_upd aO' (fun q => aA (sb.subset q)) av g4
    · exact (kfit_K hk hn g2).elim
  · obtain ⟨b, rfl, hb1, hb2⟩ := is_tD ik
    have ab : b ≠ a := fun q => hb1 (by rw [q]; exact aO')
    rcases own with ⟨ks, g1, g2, g3⟩ | ⟨ks, g1, hn, g2, g3⟩
    · obtain ⟨rfl, rfl⟩ := kfit_T hk g2
      simp only [List.map_nil, OwnV] at g3
      obtain ⟨_, rfl⟩ := g3
      refine ⟨upd H a (.dT (putK [] k v)), .inr ⟨g1, ?_⟩, kk _ _ [] (.refl _) fun O' av => ?_⟩
      · have := DPut.t (H := upd H a (.dT [])) (a := a) (b := b) (kvs := []) (k := k) (v := v) upd_same (by rw [upd_ne ab]; exact hb2) (by rw [sizeLine_eq]; decide)
        rw [upd_upd] at this
        exact this
      · simp only [Own]
        refine ⟨a, [], rfl, rfl, .inr ⟨_, upd_same, by simp [putK], by simp [_root_.PI.put, putK], ?_⟩⟩
        simp only [_root_.PI.put, putK, List.any_nil, Bool.false_eq_true, if_false, List.nil_append, List.map_cons, List.map_nil, OwnV]
        refine ⟨v, [], [], [], rfl, rfl, ?_, rfl, rfl⟩
        simp only [Own]
        exact ⟨trivial, Is.mono (own_keeps (K := T.K) aO') (fun b hb => .inl (av b hb)) d v iv⟩
    · have len : kvs.length = ks.length := by simpa using congrArg List.length g2
      obtain ⟨A2, sb, g4⟩ := g3.put eqS_tD k iv g2
      refine ⟨_, .inl (DPut.t g1 hb2 (by rw [← len]; exact hl)), kk _ _ A2 sb fun O' av => ?_⟩
      simp only [Own]
      refine ⟨a, A2, rfl, rfl, .inr ⟨_, upd_same, ?_, put_keys eqS_tD k _ v g2, ownV_upd aO' (fun q => aA (sb.subset q)) av g4⟩⟩
      unfold putK
      split
      · cases ks with
        | nil => exact absurd rfl hn
        | cons _ _ => simp
      · simp
theorem pst_seti {ei : Expr} {k : M PyData} {p1 pos' : Pos} (hu : X.A.units + 1 < cLine) (hN : X.N[i]? = some x := by rfl) (hv : Vis X.env.scope x := by first | exact Or.inl rfl | exact Or.inr (Or.inl rfl) | exact Or.inr (Or.inr rfl)) (h : PE X e (tF T W m)) (hk : PE X ei (tF T W k))
    (hd : (x == ("__debug__" : Str)) = false := by decide) (hcd : (x == ("__classdict__" : Str)) = false := by decide)
    (ha : ∀ v, assign (.Subscript (.Name x p1) ei pos') X.env v = (do
      let ov ← holding [v] (eval (.Name x p1) X.env)
      let iv ← holding [v, ov] (eval ei X.env)
      standAt pos'
      holding [v, ov, iv] (setItem ov iv v)
      release [v, ov, iv] []) := by intro _; rfl)
    (hs : swapsWithSole [.Subscript (.Name x p1) ei pos'] e pos.line X.env = pure false := by rfl) (hw : swappedStores [.Subscript (.Name x p1) ei pos'] e X.env = pure none := by rfl)
    (h1 : (assignEach [.Subscript (.Name x p1) ei pos'] X.env).map (·.2) = [assign (.Subscript (.Name x p1) ei pos') X.env] := by rfl) :
    PS X (.Assign [.Subscript (.Name x p1) ei pos'] e pos) (tSt T W (sseti i k m)) :=
  impS (ps_asg h (pg_sub (pe_var hN hv hd hcd) hk (set_data hu) ha) hs hw h1) fun D σ H ⟨B, Ox, Ow, ρ, s, q⟩ => by
    refine ⟨B, Ox, Ow, ρ, s, fthen q s fun d ρ1 v H1 Ow1 s1 y1 i1 q => ?_⟩
    obtain ⟨kd, q⟩ := isC_run q
    obtain ⟨a, ha⟩ := ctr_ref s1 kd
    refine ⟨_, ha, B, Ox, Ow1, ρ1, s1, fthen q s1 fun k ρ2 y H2 Ow2 s2 y2 i2 q => ?_⟩
    obtain ⟨z, o, o', e1, e2, e3, q⟩ := modS_run q
    have i1 := y2.is i1
    cases o with
    | dct kvs =>
      simp only [setO] at e3
      split at e3
      · rename_i c
        cases e3
        simp only [Bool.and_eq_true, decide_eq_true_eq] at c
        obtain ⟨H3, hp, Ow3, sub, s3, y3⟩ := s2.dput e1 e2 c.1 c.2 ha i2 i1
        exact .inr ⟨a, H3, rfl, hp, q _ _ _ s3 y3⟩
      · exact nomatch e3
    | lst xs =>
      simp only [setO] at e3
      cases k with
      | int j =>
        simp only at e3
        split at e3
        · obtain ⟨j', e4, rfl⟩ := Option.map_eq_some_iff.mp e3
          obtain ⟨b, As, h3, own, bO, bA, kk⟩ := s2.cont e1 e2 rfl
          rw [ha] at h3
          cases h3
          simp only [Own] at own
          obtain ⟨b, ws, As', e5, h4, e6, own⟩ := own
          cases e5
          cases e6
          simp only [Is] at i2
          subst i2
          obtain ⟨A2, sb, own2⟩ := own.set i1 j'
          obtain ⟨Ow', sub, s3, y3⟩ := kk (.lst (ws.set j' v)) (.lst (xs.set j' (.frz d))) A2 sb fun O' av => by
            simp only [Own]
            exact ⟨a, _, A2, rfl, upd_same, rfl, ownA_upd (List.mem_append_left _ bO) (fun q => bA (sb.subset q)) av own2⟩
          exact .inl ⟨a, ws, j', j, rfl, rfl, h4, by rw [← own.length]; exact e4, q _ _ _ s3 y3⟩
        · exact nomatch e3
      | _ => exact nomatch e3
    | frz _ => exact nomatch e3
end
end PI

/-! PL13: setdefault, for, while, raise, a row of stores (own work). -/
namespace PI
open PySem PySem.Spec PyProof.Rows L2
section
variable {T : Th} {W : WX} {X : Cx} {B : Bx} {Ox Ow Ow1 : List Addr} {σ : L2.St} {ρ : Env} {H H1 : Hp} {O : List Addr} {pos p : Pos} {x : Str} {e : Expr} {m : M PyData} {D : Ends} {i : Nat} {z : SV} {o : OD}
/-! ### x.setdefault(k, d) -/
theorem look_some {κ α : Type} [DecidableEq κ] {kd : κ → PyData} (hk : ∀ a b, eqS (kd a) (kd b) = decide (a = b)) (k : κ) : ∀ {kvs : List (PyData × α)} {ks : List (κ × V)}, kvs.map (·.1) = ks.map (fun q => kd q.1) → (look kvs (kd k)).isSome = (valV ks k).isSome
  | [], [], _ => rfl
  | [], _ :: _, h => by simp at h
  | _ :: _, [], h => by simp at h
  | (a, d) :: kvs, (j, v) :: ks, h => by
    simp only [List.map_cons, List.cons.injEq] at h
    obtain ⟨rfl, h⟩ := h
    by_cases q : j = k
    · subst q
      rw [valV_pos rfl]
      simp [look, List.find?_cons, hk]
    · rw [valV_neg q, ← look_some hk k h]
      simp [look, List.find?_cons, hk, q]
theorem svSet_self (h : svO z = some o) : svSet z o = z := by
  cases z <;> first | (cases h; rfl) | exact nomatch h
theorem set_self {ρ : Env} (e : ρ[i]? = some z) : ρ.set i z = ρ := by
  apply List.ext_getElem?
  intro j
  rw [List.getElem?_set]
  by_cases q : i = j
  · subst q; rw [if_pos rfl, if_pos (List.getElem?_eq_some_iff.mp e).1, e]
  · rw [if_neg q]
theorem dct_of (s : St1 T.K B Ox ρ σ H Ow) (h : ∃ z o, ρ[i]? = some z ∧ svO z = some o ∧ isDct o = true) : ∃ a, σ[i]? = some (some (.ref a)) ∧ IsD H a := by
  obtain ⟨z, o, e, hz, c⟩ := h
  cases o with
  | dct kvs =>
    obtain ⟨a, As, h1, own, _⟩ := s.cont e hz rfl
    simp only [Own] at own
    obtain ⟨b, As', e2, _, own⟩ := own
    cases e2
    refine ⟨a, h1, ?_⟩
    rcases own with ⟨ks, g1, _⟩ | ⟨ks, g1, _⟩
    · exact .inl ⟨ks, .inl g1⟩
    · exact .inr ⟨ks, .inl g1⟩
  | _ => exact nomatch c
theorem pst_dflt {ei : Expr} {k : M PyData} {apos cpos p1 : Pos} (hN : X.N[i]? = some x := by rfl) (hv : Vis X.env.scope x := by first | exact Or.inl rfl | exact Or.inr (Or.inl rfl) | exact Or.inr (Or.inr rfl)) (hk : PE X ei (tF T W k)) (h : PE X e (tF T W m))
    (hm : M2 X (.Name x p1) "setdefault" apos ei e cpos := by exact ⟨rfl, rfl, rfl, rfl⟩) (hd : (x == ("__debug__" : Str)) = false := by decide) (hcd : (x == ("__classdict__" : Str)) = false := by decide)
    (hsw : swapsWith (.Call (.Attribute (.Name x p1) "setdefault" apos) [ei, e] [] cpos) none pos.line X.env = pure false := by rfl) :
    PS X (.Expr (.Call (.Attribute (.Name x p1) "setdefault" apos) [ei, e] [] cpos) pos) (tSt T W (sdflt i k m)) :=
  impS (ps_expr (pe_dsetd (pe_var hN hv hd hcd) hk h hm) hsw) fun D σ H ⟨B, Ox, Ow, ρ, s, q⟩ => by
    obtain ⟨kd, q⟩ := isC_run q
    obtain ⟨a, ha, isd⟩ := dct_of s kd
    refine ⟨_, ha, a, rfl, isd, B, Ox, Ow, ρ, s, fthen q s fun k ρ1 y H1 Ow1 s1 y1 i1 q => ?_⟩
    refine ⟨B, Ox, Ow1, ρ1, s1, fthen q s1 fun d ρ2 v H2 Ow2 s2 y2 i2 q => ?_⟩
    obtain ⟨z, o, o', e1, e2, e3, q⟩ := modS_run q
    have i1 := y2.is i1
    cases o with
    | dct kvs =>
      simp only [dfltO] at e3
      split at e3
      · rename_i c
        cases e3
        simp only [Bool.and_eq_true, decide_eq_true_eq] at c
        obtain ⟨c1, c2, c3⟩ := c
        obtain ⟨kk, rfl⟩ := atom_of c2
        have ey := is_kD i1
        subst ey
        obtain ⟨b, As, h1, own, aO, aA, _⟩ := s2.cont e1 e2 rfl
        rw [ha] at h1
        cases h1
        simp only [Own] at own
        obtain ⟨b, As', e4, e5, own⟩ := own
        cases e4
        cases e5
        rcases own with ⟨ks, g1, g2, g3⟩ | ⟨ks, g1, hn, g2, g3⟩
        · have len : kvs.length = ks.length := by simpa using congrArg List.length g2
          have lk := look_some eqS_kD kk g2
          refine ⟨ks, kk, g1, rfl, by rw [← len]; exact c3, fun u hu => ?_, fun hu => ?_⟩
          · rw [hu] at lk
            rw [if_pos (by rw [lk]; rfl), svSet_self e2, set_self e1] at q
            exact q σ H2 Ow2 s2 .refl
          · rw [hu] at lk
            rw [if_neg (by rw [lk]; exact Bool.false_ne_true)] at q
            obtain ⟨H3, hp, Ow3, sub, s3, y3⟩ := s2.dput e1 e2 c1 c3 ha i1 i2
            have : H3 = upd H2 a (.dK (putK ks kk v)) := by
              rcases hp with hp | ⟨_, hp⟩
              · rcases hp with ⟨ks', k', e6, e7, _, rfl⟩ | ⟨ks', k', b', e6, _⟩
                · rw [g1] at e6
                  cases e6
                  have : kk = k' := by
                    rcases kk with a | a <;> rcases k' with b | b <;> simp only [kV] at e7 <;> first | (cases e7; rfl) | exact nomatch e7
                  rw [this]
                · rw [g1] at e6; exact nomatch e6
              · rcases hp with ⟨ks', k', e6, _⟩ | ⟨ks', k', b', e6, e7, _⟩
                · rw [upd_same] at e6; exact nomatch e6
                · rcases kk with a | a <;> exact nomatch e7
            rw [← this]
            exact q _ _ _ s3 y3
        · exact (kfit_K c1 hn g2).elim
      · exact nomatch e3
    | _ => exact nomatch e3

/-! ### for -/
theorem forT_cons {g : PyData → M Unit} {b : M Fl} {d : PyData} {r : List PyData} (h : PsS T W B Ox H Ow (forT g b (d :: r) ρ) D) : (∃ ρ1, g d ρ = .ok () ρ1 ∧ PsS T W B Ox H Ow (bnd b (ctl (forT g b r)) ρ1) D) ∨ ∃ c a ρ1, g d ρ = .exc c a ρ1 := by
  unfold forT at h
  cases hg : g d ρ with
  | stuck => rw [bnd_stk hg] at h; exact h.elim
  | exc c a ρ1 => exact .inr ⟨c, a, ρ1, rfl⟩
  | ok u ρ1 => rw [bnd_ok hg] at h; exact .inl ⟨ρ1, rfl, h⟩
theorem gT_exc {t : Tg} {d : PyData} {c : Nat} {a : Option PyData} {ρ' : Env} (h : gT t d ρ = .exc c a ρ') : False := by
  unfold gT at h
  split at h <;> exact nomatch h
/-- a turn's body -/
theorem body_ends {b k : M Fl} {N : L2.St → Hp → Prop} (h : PsS T W B Ox H Ow (bnd b (ctl k) ρ) D) (hN : ∀ ρ' σ' H' Ow', St1 T.K B Ox ρ' σ' H' Ow' → Stp Ow H Ow' H' → PsS T W B Ox H' Ow' (k ρ') D → N σ' H') :
    PsS T W B Ox H Ow (b ρ) { D with nx := N, ct := N, bk := D.nx } := by
  cases r : b ρ with
  | stuck => rw [bnd_stk r] at h; exact h
  | exc c a ρ1 => rw [bnd_exc r] at h; exact h
  | ok f ρ1 =>
    rw [bnd_ok r] at h
    cases f with
    | nx => exact fun σ' H' Ow' s y => hN ρ1 σ' H' Ow' s y (PsS.step y h)
    | ct => exact fun σ' H' Ow' s y => hN ρ1 σ' H' Ow' s y (PsS.step y h)
    | bk => exact h
    | rt o => exact h
theorem pst_for {tg iter : Expr} {body : List Stmt} {src : Src} {t : Tg} {b : M Fl} (hp : PassesOwn (model X.prog X.w) X.A X.env X.xe) (hc : X.calm = true) (hi : PI X tg iter (tS T W (evS src))) (hg : PG X tg (tG T t)) (hb : PSs X body (tSt T W b))
    (hs : ∀ x, foldedSetIterable iter X.env x = pure x := by intro _; rfl) : PS X (.For tg iter body [] pos) (tSt T W (sfor src t b)) := impS (ps_for hp hc hi hg hb hs) fun D σ H ⟨B, Ox, Ow, ρ, S, q⟩ => by
  refine ⟨B, Ox, Ow, ρ, S, ?_⟩
  unfold sfor at q
  cases hx : evS src ρ with
  | stuck => rw [bnd_stk hx] at q; exact q
  | exc c a ρ1 => rw [bnd_exc hx] at q; exact fun H' Ow' s' y' => q σ H' Ow' s' y'
  | ok l ρ1 =>
    rw [bnd_ok hx] at q
    intro J H1 Ow1 S1 y1 wd
    refine ⟨fun i m σ H => i ≤ l.length ∧ m = l.length - i ∧ ∃ ρi Owi, St1 T.K B Ox ρi σ H Owi ∧ Stp Ow1 H1 Owi H ∧ PsS T W B Ox H Owi (forT (gT t) b (l.drop i) ρi) D,
      ⟨l.length, Nat.zero_le _, by simp, ρ1, Ow1, S1, .refl, PsS.step y1 q⟩, ?_⟩
    rintro i m σ2 H2 ⟨hi, rfl, ρi, Owi, S2, y2, q2⟩
    by_cases hlt : i < l.length
    case neg =>
      have e : i = l.length := by omega
      subst e
      rw [List.drop_length] at q2
      exact .inl ⟨wd.stop _ _ y2, q2 σ2 H2 Owi S2 .refl⟩
    rw [List.drop_eq_getElem_cons hlt] at q2
    rcases forT_cons q2 with ⟨ρ3, h3, q3⟩ | ⟨_, _, _, h3⟩
    · have b3 := gT_ok h3
      refine .inr ⟨wd.go i _ _ y2 hlt, fun σ H => ∃ ρi Owi, St1 T.K B Ox ρi σ H Owi ∧ Stp Ow1 H1 Owi H ∧ PsS T W B Ox H Owi (forT (gT t) b (l.drop (i + 1)) ρi) D, fun σ' H' h => ⟨l.length - (i + 1), by omega, hlt, rfl, h⟩, fun v H3 yl => ?_⟩
      obtain ⟨k3, i3⟩ := wd.yld i _ _ v H3 _ y2 S2.tr (List.getElem?_eq_getElem hlt) yl
      refine ⟨B, Ox, Owi, ρi, _, S2.grow k3, i3, ?_⟩
      rw [b3]
      intro σ4 Ow4 S4 y4 _
      have z4 : Stp Owi H2 Ow4 H3 := (Stp.of k3).trans y4
      refine ⟨B, Ox, Ow4, ρ3, S4, body_ends (PsS.step z4 q3) fun ρ5 σ5 H5 Ow5 S5 y5 q5 => ⟨ρ5, Ow5, S5, y2.trans (z4.trans y5), q5⟩⟩
    · exact (gT_exc h3).elim
/-- over code that is not come to -/
theorem pst_while {body : List Stmt} {c : M Bool} {b : M Fl} (hp : PassesOwn (model X.prog X.w) X.A X.env X.xe) (hc : PT X e (tQ T W c)) (hb : PSs X body (tSt T W b)) : PS X (.While e body [] pos) (tSt T W (swhile c b)) := impS (ps_while hp hc hb) fun D σ H ⟨B, Ox, Ow, ρ, S, q⟩ => by
  refine ⟨fun m σ H => ∃ ρ Ow, St1 T.K B Ox ρ σ H Ow ∧ PsS T W B Ox H Ow (whileT c b m ρ) D, ⟨lim, ρ, Ow, S, q⟩, ?_⟩
  rintro m σ H ⟨ρ, Ow, S, q⟩
  cases m with
  | zero => exact q.elim
  | succ m =>
    unfold whileT at q
    refine ⟨B, Ox, Ow, ρ, S, bthen q S fun k ρ1 H1 Ow1 s1 y1 q => ?_⟩
    cases k with
    | true =>
      simp only [if_true] at q ⊢
      exact ⟨fun σ H => ∃ ρ Ow, St1 T.K B Ox ρ σ H Ow ∧ PsS T W B Ox H Ow (whileT c b m ρ) D, fun σ' H' h => ⟨m, Nat.lt_succ_self m, h⟩, B, Ox, Ow1, ρ1, s1, body_ends q fun ρ5 σ5 H5 Ow5 S5 y5 q5 => ⟨ρ5, Ow5, S5, q5⟩⟩
    | false =>
      simp only [Bool.false_eq_true, if_false] at q ⊢
      exact q σ H1 Ow1 s1 .refl
/-- raise C('..') -/
theorem pst_raise {C : Addr} {bmB : List Value} {Bn newId initId : String} {c : Nat} {n msg : Str} {j : Nat} {p1 p2 p3 : Pos} (hc : X.calm = true) (tk : Takes X W) (hX : T.xc c = .ref C) (F : ExcBaseFacts Bn newId initId bmB) (q : PySem.W.excIn X.K C bmB newId = true) (gC : X.mg n = some (.ref C)) (kC : PySem.W.keepIn X.K (.ref C) = true) (r : Raises X (.ref C)) (hg : Gl X n)
    (hdb : (n == ("__debug__" : Str)) = false := by decide) : PS X (.Raise (some (.Call (.Name n p1) [.Constant (.str msg) j p2] [] p3)) none pos) (tSt T W (sraise c)) :=
  impS (ps_raise hc tk (pmk_own F q gC kC r hg hdb)) fun D σ H ⟨B, Ox, Ow, ρ, S, q⟩ => q σ H Ow S .refl _ _ ⟨hX.symm, rfl, rfl⟩

/-! ### a, b = x, y -/
def Pso (T : Th) (W : WX) (B : Bx) (Ox : List Addr) (σ : L2.St) (H : Hp) (Ow : List Addr) (r : Res (List OD)) (Q : List V → Hp → Prop) : Prop := match r with
  | .ok os ρ' => ∀ vs H' Ow' A, St1 T.K B (A ++ Ox) ρ' σ H' Ow' → Stp Ow H (A ++ Ow') H' → OwnA T.K H' (Ow' ++ (A ++ Ox)) os vs A → A.Nodup → (∀ b ∈ A, b ∉ Ox) → Q vs H'
  | .exc c a ρ' => exE T W B Ox σ H Ow c a ρ'
  | .stuck => False
def tO (T : Th) (W : WX) (m : M (List OD)) : TA := fun σ H Q => ∃ B Ox Ow ρ, St1 T.K B Ox ρ σ H Ow ∧ Pso T W B Ox σ H Ow (m ρ) Q
theorem po_nil : PA X [] (tO T W (dsq [])) := impA pa_nil fun σ H Q ⟨B, Ox, Ow, ρ, s, q⟩ => q [] H Ow [] s .refl (by simp [OwnA]) List.nodup_nil (fun _ z => nomatch z)
theorem po_cons {es : List Expr} {y : M OD} {l : List (M OD)} (h : PE X e (tX T W y)) (hr : PA X es (tO T W (dsq l))) (hs : starEach (e :: es) X.env = (false, eval e X.env) :: starEach es X.env := by rfl) :
    PA X (e :: es) (tO T W (dsq (y :: l))) := impA (pa_cons h hr hs) fun σ H Q ⟨B, Ox, Ow, ρ, s, q⟩ => by
  refine ⟨B, Ox, Ow, ρ, s, ?_⟩
  unfold dsq at q
  cases hx : y ρ with
  | stuck => rw [bnd_stk hx] at q; exact q
  | exc c a ρ1 => rw [bnd_exc hx] at q; exact q
  | ok o ρ1 =>
    rw [bnd_ok hx] at q
    intro v H1 Ow1 A s1 y1 own nd ap
    refine ⟨B, A ++ Ox, Ow1, ρ1, s1, ?_⟩
    have y1' : Stp Ow H Ow1 H1 := y1.less fun b hb => List.mem_append_right _ hb
    cases hl : dsq l ρ1 with
    | stuck => rw [bnd_stk hl] at q; exact q
    | exc c a ρ2 =>
      rw [bnd_exc hl] at q
      exact fun H' Ow' s' y' => q H' Ow' (s'.unaside (fun b hb => List.mem_append_right _ hb) s.lk) (y1'.trans y')
    | ok os ρ2 =>
      rw [bnd_ok hl] at q
      intro vs H2 Ow2 A2 s2 y2 own2 nd2 ap2
      have out : ∀ b ∈ A, b ∉ Ow1 := fun b hb z => s1.ap b z (List.mem_append_left _ hb)
      refine q (v :: vs) H2 Ow2 (A ++ A2) (s2.aside' fun b => by simp only [List.mem_append]; grind) ⟨fun b u n e => ?_, fun b hb => ?_, fun b hb => y2.live b (y1.live b hb)⟩ ?_ ?_ fun b hb => ?_
      · refine y2.keep b u (fun z => ?_) (y1.keep b u n e)
        rcases y1.sub b (List.mem_append_right _ z) with w | w
        · exact n w
        · rw [w] at e; exact nomatch e
      · have back : ∀ b, b ∈ Ow1 ∨ H1 b = none → b ∈ Ow ∨ H b = none := fun b hb => by
          rcases hb with w | w
          · exact y1.sub b (List.mem_append_right _ w)
          · by_cases e : H b = none
            · exact .inr e
            · exact absurd w (y1.live b e)
        rcases List.mem_append.mp hb with z | z
        · rcases List.mem_append.mp z with z | z
          · exact y1.sub b (List.mem_append_left _ z)
          · exact back b (y2.sub b (List.mem_append_left _ z))
        · exact back b (y2.sub b (List.mem_append_right _ z))
      · simp only [OwnA]
        refine ⟨v, vs, A, A2, rfl, rfl, Own.mono (.all fun b u n e => y2.keep b u (fun z => n (List.mem_append_left _ z)) e) (fun b hb => ?_) _ _ _ (fun b hb u e => y2.keep b u (out b hb) e) own, OwnA.mono .refl (fun b hb => .inl (by simp only [List.mem_append] at hb ⊢; grind)) _ _ _ (fun _ _ _ e => e) own2⟩
        have := y2.sub b
        by_cases w : b ∈ A2 ++ Ow2
        · exact (this w).imp (fun z => List.mem_append_left _ z) id
        · left; simp only [List.mem_append] at hb w ⊢; grind
      · exact List.nodup_append.mpr ⟨nd, nd2, fun a ha b hb e => ap2 b hb (by rw [← e]; exact List.mem_append_left _ ha)⟩
      · rcases List.mem_append.mp hb with z | z
        · exact ap b z
        · exact fun w => ap2 b z (List.mem_append_right _ w)
def setAll : L2.St → List (Nat × Bool) → List V → L2.St
  | σ, t :: ts, v :: vs => setAll (σ.set t.1 (some v)) ts vs
  | σ, _, _ => σ
theorem put_end : ∀ (ts : List (Nat × Bool)) (os : List OD) (vs : List V) (A : List Addr) (ρ : Env) (σ : L2.St) (Ow : List Addr) {Ow0 : List Addr} {H0 : Hp}, St1 T.K B (A ++ Ox) ρ σ H Ow → (∀ q ∈ B.lk, ∀ b ∈ q.2, b ∈ Ox) → OwnA T.K H (Ow ++ (A ++ Ox)) os vs A → A.Nodup → (∀ b ∈ A, b ∉ Ox) →
    Stp Ow0 H0 (A ++ Ow) H → PsS T W B Ox H0 Ow0 (bnd (putL ts os) (fun _ => ret .nx) ρ) D → ts.length = os.length ∧ D.nx (setAll σ ts vs) H
  | [], [], vs, A, ρ, σ, Ow, Ow0, H0, s, lk, h, nd, ap, y, q => by
    simp only [OwnA] at h
    obtain ⟨rfl, rfl⟩ := h
    exact ⟨rfl, q σ H Ow (s.unaside (fun b hb => by simpa using hb) lk) (y.less fun b hb => by simpa using hb)⟩
  | [], _ :: _, vs, A, ρ, σ, Ow, Ow0, H0, s, lk, h, nd, ap, y, q => q.elim
  | _ :: _, [], vs, A, ρ, σ, Ow, Ow0, H0, s, lk, h, nd, ap, y, q => q.elim
  | t :: ts, o :: os, vs, A, ρ, σ, Ow, Ow0, H0, s, lk, h, nd, ap, y, q => by
    simp only [OwnA] at h
    obtain ⟨v, ws, A1, A2, rfl, rfl, h1, h2⟩ := h
    simp only [putL] at q
    by_cases ho : okset ρ t.1 = true
    case neg => rw [bnd_stk (bnd_stk (by simp only [putS, if_neg ho]))] at q; exact q.elim
    obtain ⟨z, e⟩ := okset_at ho
    have d := List.nodup_append.mp nd
    have s1 : St1 T.K B (A1 ++ (A2 ++ Ox)) ρ σ H Ow := s.aside' fun b => by simp only [List.mem_append]; grind
    have lk' : ∀ q ∈ B.lk, ∀ b ∈ q.2, b ∈ A2 ++ Ox := fun q hq b hb => List.mem_append_right _ (lk q hq b hb)
    have h1' : Own T.K H (Ow ++ (A1 ++ (A2 ++ Ox))) o v A1 := Own.mono .refl (fun b hb => .inl (by simp only [List.mem_append] at hb ⊢; grind)) _ _ _ (fun _ _ _ e => e) h1
    have ap1 : ∀ b ∈ A1, b ∉ A2 ++ Ox := fun b hb w => by
      rcases List.mem_append.mp w with w | w
      · exact d.2.2 b hb b w rfl
      · exact ap b (List.mem_append_left _ hb) w
    obtain ⟨A', nd', sub, ap', s', h'⟩ := own_sl (own := t.2) s1 lk' h1' d.1 ap1
    obtain ⟨Ow', sub2, s2⟩ := s'.take lk' e nd' ap' h'
    have in' : ∀ b, b ∈ Ow' → b ∈ A1 ∨ b ∈ Ow := fun b hb => (List.mem_append.mp (sub2 b hb)).imp (sub b) id
    have h3 : OwnA T.K H (Ow' ++ (A2 ++ Ox)) os ws A2 := OwnA.mono .refl (fun b hb => .inl (by
      rcases List.mem_append.mp hb with w | w
      · rcases in' b w with w | w
        · simp only [List.mem_append]; grind
        · simp only [List.mem_append]; grind
      · simp only [List.mem_append] at w ⊢; grind)) _ _ _ (fun _ _ _ e => e) h2
    have y3 : Stp Ow0 H0 (A2 ++ Ow') H := y.less fun b hb => by
      rcases List.mem_append.mp hb with w | w
      · simp only [List.mem_append]; grind
      · rcases in' b w with w | w
        · simp only [List.mem_append]; grind
        · simp only [List.mem_append]; grind
    have e2 : bnd (bnd (putS t.1 (odS t.2 o)) fun _ => putL ts os) (fun _ => ret .nx) ρ = bnd (putL ts os) (fun _ => ret Fl.nx) (ρ.set t.1 (odS t.2 o)) := by simp [bnd, putS, ho]
    rw [e2] at q
    obtain ⟨hl, r⟩ := put_end ts os ws A2 (ρ.set t.1 (odS t.2 o)) (σ.set t.1 (some v)) Ow' (Ow0 := Ow0) (H0 := H0) s2 lk h3 d.2.1 (fun b hb => ap b (List.mem_append_right _ hb)) y3 q
    exact ⟨by simp [hl], r⟩
theorem othen {y : M (List OD)} {g : List OD → M Fl} (h : PsS T W B Ox H Ow (bnd y g ρ) D) (s : St1 T.K B Ox ρ σ H Ow) {Q : List V → Hp → Prop}
    (k : ∀ os ρ1 vs H1 Ow1 A, St1 T.K B (A ++ Ox) ρ1 σ H1 Ow1 → Stp Ow H (A ++ Ow1) H1 → OwnA T.K H1 (Ow1 ++ (A ++ Ox)) os vs A → A.Nodup → (∀ b ∈ A, b ∉ Ox) → PsS T W B Ox H Ow (g os ρ1) D → Q vs H1) : Pso T W B Ox σ H Ow (y ρ) Q := by
  cases r : y ρ with
  | stuck => rw [bnd_stk r] at h; exact h
  | exc c a ρ1 => rw [bnd_exc r] at h; exact fun H' Ow' s' y' => h σ H' Ow' s' y'
  | ok o ρ1 => rw [bnd_ok r] at h; exact fun v H1 Ow1 A s1 y1 own nd ap => k o ρ1 v H1 Ow1 A s1 y1 own nd ap h
theorem pst_par2 {i j : Nat} {oi oj : Bool} {x y : Str} {a b : Expr} {l : List (M OD)} {px py pt : Pos} {kt k2 pt2} (hc : X.calm = true) (hN : X.N.Nodup) (hi : X.N[i]? = some x) (hj : X.N[j]? = some y) (hij : i ≠ j)
    (hx : X.env.scope.names.lookup x = some .local) (hy : X.env.scope.names.lookup y = some .local) (ha : PA X [a, b] (tO T W (dsq l)))
    (hw : swappedStores [.Tuple [.Name x px, .Name y py] kt pt] (.Tuple [a, b] k2 pt2) X.env = pure (some [x, y]))
    (hs : swapsWithSole [.Tuple [.Name x px, .Name y py] kt pt] (.Tuple [a, b] k2 pt2) pos.line X.env = pure false := by rfl) :
    PS X (.Assign [.Tuple [.Name x px, .Name y py] kt pt] (.Tuple [a, b] k2 pt2) pos) (tSt T W (spar [(i, oi), (j, oj)] l)) :=
  impS (ps_par hc hN hi hj hij hx hy ha hw hs) fun D σ H ⟨B, Ox, Ow, ρ, s, q⟩ => ⟨B, Ox, Ow, ρ, s, othen q s fun os ρ1 vs H1 Ow1 A s1 y1 own nd ap q => by
    obtain ⟨hl, r⟩ := put_end _ os vs A ρ1 σ Ow1 s1 s.lk own nd ap y1 q
    have hl2 := own.length
    match vs, hl2 with
    | [v, w], _ => exact ⟨v, w, rfl, r⟩
    | [], h2 => rw [← hl] at h2; exact nomatch h2
    | [_], h2 => rw [← hl] at h2; exact absurd h2 (by simp)
    | _ :: _ :: _ :: _, h2 => rw [← hl] at h2; exact absurd h2 (by simp)⟩
theorem pst_par3 {i j l : Nat} {oi oj ol : Bool} {x y z : Str} {a b c : Expr} {ms : List (M OD)} {px py pz pt : Pos} {kt k2 pt2} (hc : X.calm = true) (hN : X.N.Nodup) (hi : X.N[i]? = some x) (hj : X.N[j]? = some y) (hl : X.N[l]? = some z) (hij : i ≠ j) (hil : i ≠ l) (hjl : j ≠ l)
    (hx : X.env.scope.names.lookup x = some .local) (hy : X.env.scope.names.lookup y = some .local) (hz : X.env.scope.names.lookup z = some .local) (ha : PA X [a, b, c] (tO T W (dsq ms)))
    (hw : swappedStores [.Tuple [.Name x px, .Name y py, .Name z pz] kt pt] (.Tuple [a, b, c] k2 pt2) X.env = pure (some [x, y, z]))
    (hs : swapsWithSole [.Tuple [.Name x px, .Name y py, .Name z pz] kt pt] (.Tuple [a, b, c] k2 pt2) pos.line X.env = pure false := by rfl) :
    PS X (.Assign [.Tuple [.Name x px, .Name y py, .Name z pz] kt pt] (.Tuple [a, b, c] k2 pt2) pos) (tSt T W (spar [(i, oi), (j, oj), (l, ol)] ms)) :=
  impS (ps_par3 hc hN hi hj hl hij hil hjl hx hy hz ha hw hs) fun D σ H ⟨B, Ox, Ow, ρ, s, q⟩ => ⟨B, Ox, Ow, ρ, s, othen q s fun os ρ1 vs H1 Ow1 A s1 y1 own nd ap q => by
    obtain ⟨hl, r⟩ := put_end _ os vs A ρ1 σ Ow1 s1 s.lk own nd ap y1 q
    have hl2 := own.length
    match vs, hl2 with
    | [u, v, w], _ => exact ⟨u, v, w, rfl, r⟩
    | [], h2 => rw [← hl] at h2; exact nomatch h2
    | [_], h2 => rw [← hl] at h2; exact absurd h2 (by simp)
    | [_, _], h2 => rw [← hl] at h2; exact absurd h2 (by simp)
    | _ :: _ :: _ :: _ :: _, h2 => rw [← hl] at h2; exact absurd h2 (by simp)⟩
end
end PI

/-! PL14: defs and their calls (own work). -/
namespace PI
open PySem PySem.Spec PyProof.Rows L2

/-! ### a def's promise, where nothing is being shown -/
structure FnG (P : Program) (w : World) (K : PySem.W.Frag) (mg : Str → Option Value) (base : Heap) (k : Nat) (f : Addr) (fd : FuncData) (ps : List Str) (sp : Sp) : Prop where
  len : ∀ vs H Q E, sp vs H Q E → vs.length = ps.length
  run : ∀ (A : Around) (outer : List PySem.Env) (s : Shared) (H : Hp) (args : Args) (us : List Value) (vs : List V) (Q : VK) (E : XK), Room k A → A.guards = some [] → Env0 P w K mg base A outer s H →
    BindsTo s fd args (ps.zip us) → Vals vs us → sp vs H Q E → codeAny (model P w) A (.call (.ref f) args) (CR (L2.CX P w) outer P w H s Q E) s
section
variable {P : Program} {w : World} {K : PySem.W.Frag} {mg : Str → Option Value} {base : Heap}
theorem FnG.never {k : Nat} {f : Addr} {fd : FuncData} {ps : List Str} {sp : Sp} (h : ∀ vs H Q E, ¬ sp vs H Q E) : FnG P w K mg base k f fd ps sp :=
  ⟨fun vs H Q E q => (h vs H Q E q).elim, fun _ _ _ H _ _ vs Q E _ _ _ _ _ q => (h vs H Q E q).elim⟩
/-- by the body -/
theorem fnG_of {k : Nat} {f : Addr} {fd : FuncData} {x qual : Str} {params : Arguments} {body : List Stmt} {scope : Scope} {dvs : List V} {kws : List (Str × V)} {N ps : List Str} {sp : Sp} (F : FunD K x qual params body scope dvs kws f fd) (S : FnScope N ps scope)
    (len : ∀ vs H Q E, sp vs H Q E → vs.length = ps.length)
    (hb : ∀ (cdv : Value) (A : Around) (outer : List PySem.Env) (s : Shared) (H : Hp) (vs : List V) (Q : VK) (E : XK), Room k (A.deeper (envOfC qual scope s.heap.objs.size f cdv)) → A.guards = some [] → sp vs H Q E →
      ∃ t, PSs (cxOf (L2.CX P w) P w K mg base N qual scope f cdv A outer s H E) body t ∧ t { nx := fun _ H' => Q .non H', rt := Q } (start N vs) H) : FnG P w K mg base (k + 1) f fd ps sp := by
  obtain ⟨oc, od, dV, kV, doc, pm, an, cdv, ct, osl, rfl, lk, hcd, _, _⟩ := F.ex
  refine ⟨len, fun A outer s H args us vs Q E room gd e0 bd rel q => ?_⟩
  have kin := e0.mod.kin.keeps fun b o e => (e0.bs b o e).1
  have nol : s.heap.NoLimit := e0.mod.nolimit.keeps fun b o e => (e0.bs b o e).1
  have kinds : ∀ y ∈ ps.zip us, scope.names.lookup y.1 = some .local ∨ (scope.names.lookup y.1 = some .cell ∧ ((cellsFrom (s.heap.objs.size + 1) scope.names []).lookup y.1).isSome = true) := by
    rintro ⟨n, v⟩ hy
    rcases S.par n (List.of_mem_zip hy).1 with c | c
    · exact .inl c
    · exact .inr ⟨c, PySem.W.cellsFrom_some _ _ _ (.inl c)⟩
  refine codeAny_call_function room.depth (kin _ _ lk) rfl S.co S.gen rfl (PySem.W.codeRec_of kin hcd) (bd _ _ _ _ (wpAny_newFunctionEnv_cells S.kind kinds ?_))
  rintro env rfl s1 new
  refine ⟨nol.keeps new.toInCall.keep, codeAny_func ?_⟩
  obtain ⟨t, der, tq⟩ := hb cdv A outer s H vs Q E (room.deeper _) gd q
  have I := inv_start (CX := L2.CX P w) (f := f) (qual := qual) (cd := cdv) (E := E) S room.hd e0 (len _ _ _ _ q) rel new
  refine wpAny_mono (der.run [] s1 _ H _ I tq) ?_ fun _ _ z => z
  intro fl s2 h
  cases fl with
  | ret u => obtain ⟨v, _, H', J, rv, h⟩ := h; exact ⟨v, H', J.os, J.bare, J.base, J.hok, rv, h⟩
  | next => obtain ⟨_, H', J, h⟩ := h; exact ⟨.non, H', J.os, J.bare, J.base, J.hok, rfl, h⟩
  | brk => obtain ⟨_, _, _, h⟩ := h; exact h.elim
  | cont => obtain ⟨_, _, _, h⟩ := h; exact h.elim
end

/-! ### what a def's body needs of its context -/
structure OkE (T : Th) (W : WX) (X : Cx) : Prop where
  K : X.K = T.K
  tk : Takes X W
  calm : X.calm = true
  nd : X.N.Nodup
  hu : X.A.units + 150 < cLine
  gd : X.A.guards = some []
structure Ok (T : Th) (W : WX) (X : Cx) : Prop extends OkE T W X where
  own : PassesOwn (model X.prog X.w) X.A X.env X.xe
/-- a def by name: its number, its parameters -/
def Has (T : Th) (cl : Cl) (X : Cx) (f : Nat) (x : Str) (ps : List Str) : Prop :=
  ∃ (a : Addr) (fd : FuncData) (k : Nat), X.mg x = some (.ref a) ∧ PySem.W.keepIn X.K (.ref a) = true ∧ Binds X.K fd ps [] ∧ Room k X.A ∧
    FnG X.prog X.w X.K X.mg X.base k a fd ps (fun vs H Q E => vs.length = ps.length ∧ tX T (fun c d _ H => E c d H) (cl f) (vs.map some) H Q)

section
variable {T : Th} {W : WX} {X : Cx} {B : Bx} {Ox Ow Ow1 : List Addr} {σ τ : L2.St} {ρ : Env} {H H1 : Hp} {O : List Addr} {pos p : Pos} {x : Str} {e : Expr} {m : M PyData} {D : Ends} {i : Nat} {z : SV} {o : OD}
theorem Takes.blk {s : Shared} {H : Hp} {sc : Scope} {en : PySem.Env} {fp : List Addr} : Takes (X.blk s H sc en fp) Wn := fun u s' ⟨a, B, sI, pins, σ, H, cls, d, e, I, nb, up, sky, na, os, ag, w⟩ => w.elim
theorem OkE.blk (ok : OkE T W X) (s : Shared) (H : Hp) (sc : Scope) (en : PySem.Env) (fp : List Addr) : OkE T Wn (X.blk s H sc en fp) := ⟨ok.K, Takes.blk, ok.calm, ok.nd, ok.hu, ok.gd⟩
theorem Has.blk {cl : Cl} {f : Nat} {ps : List Str} (h : Has T cl X f x ps) (s : Shared) (H : Hp) (sc : Scope) (en : PySem.Env) (fp : List Addr) : Has T cl (X.blk s H sc en fp) f x ps := h

/-! ### a body's run as its def's meaning -/
theorem sls_unset {K : PySem.W.Frag} : ∀ {ρ : Env} {σ : L2.St} {A : List Addr} (n : Nat), Sls K H O B ρ σ A → Sls K H O B (ρ ++ List.replicate n .unset) (σ ++ List.replicate n none) A
  | [], σ, A, 0, h => by simpa using h
  | [], σ, A, n + 1, h => by
    obtain ⟨rfl, rfl⟩ := h
    have := sls_unset (K := K) (ρ := []) (σ := []) (A := []) n ⟨rfl, rfl⟩
    simp only [List.nil_append] at this ⊢
    exact ⟨none, _, [], [], rfl, rfl, rfl, this⟩
  | x :: ρ, σ, A, n, h => by
    obtain ⟨v, σ', A1, A2, rfl, rfl, h1, h2⟩ := h
    exact ⟨v, _, A1, A2, rfl, rfl, h1, sls_unset n h2⟩
theorem back_sls {H' : Hp} {O' : List Addr} (k : Keeps O H H') (s : ∀ b, b ∈ O' → b ∈ O ∨ H b = none) (l : LkK B H H') : ∀ {ps : List SV} {τ : L2.St} {A0 : List Addr} {ρ : Env} {σ : L2.St} {A : List Addr} {ps' : List SV},
    Sls T.K H O B ps τ A0 → Sls T.K H' O' B ρ σ A → backP ps ρ = some ps' → ∃ A', A'.Sublist A ∧ Sls T.K H' O' B ps' τ A'
  | [], τ, A0, ρ, σ, A, ps', h0, h, e => by
    cases e
    exact ⟨[], List.nil_sublist _, h0.1, rfl⟩
  | q :: ps, τ, A0, [], σ, A, ps', h0, h, e => by cases q <;> exact nomatch e
  | q :: ps, τ, A0, r :: ρ, σ, A, ps', h0, h, e => by
    obtain ⟨v0, τ', B1, B2, rfl, rfl, g1, g2⟩ := h0
    obtain ⟨v, σ', A1, A2, rfl, rfl, h1, h2⟩ := h
    have fin : ∀ {q'}, PI.SlR T.K H' O' B q' v0 [] → (backP ps ρ).map (q' :: ·) = some ps' → ∃ A', A'.Sublist (A1 ++ A2) ∧ Sls T.K H' O' B ps' (v0 :: τ') A' := fun {q'} hq e => by
      obtain ⟨ps2, e2, rfl⟩ := Option.map_eq_some_iff.mp e
      obtain ⟨A', sb, h3⟩ := back_sls k s l g2 h2 e2
      exact ⟨A', sb.trans (List.sublist_append_right _ _), v0, τ', [], A', rfl, rfl, hq, h3⟩
    cases q with
    | val d => exact fin (by obtain ⟨_, w, rfl, g1⟩ := g1; exact ⟨rfl, w, rfl, Is.mono k s d w g1⟩) e
    | lck j o => exact fin (by obtain ⟨_, w, A', rfl, eb, g1⟩ := g1; exact ⟨rfl, w, A', rfl, eb, Own.mono k s o w A' (l _ (List.mem_of_getElem? eb)) g1⟩) e
    | scr ns => exact fin (by
        have hA : B1 = [] := g1.1
        subst hA
        exact g1.mono k s l fun b hb => nomatch hb) e
    | bor j o =>
      cases r with
      | bor j' o' =>
        simp only [backP] at e
        split at e
        · rename_i ej
          subst ej
          obtain ⟨ps2, e2, rfl⟩ := Option.map_eq_some_iff.mp e
          obtain ⟨A', sb, h3⟩ := back_sls k s l g2 h2 e2
          obtain ⟨a, rfl, ea, _⟩ := g1
          obtain ⟨a', rfl, ea', h1⟩ := h1
          rw [ea] at ea'
          cases ea'
          exact ⟨A1 ++ A', List.Sublist.append (.refl _) sb, _, τ', A1, A', rfl, rfl, ⟨a, rfl, ea, h1⟩, h3⟩
        · exact nomatch e
      | _ => exact nomatch e
    | _ => exact nomatch e
theorem St1.back {ps ps' : List SV} {A Ow' : List Addr} {H' : Hp} (s : St1 T.K B Ox ps τ H Ow) (y : Stp Ow H (A ++ Ow') H') (s' : St1 T.K B (A ++ Ox) ρ σ H' Ow') (e : backP ps ρ = some ps') :
    ∃ Ow'', Ow''.Sublist Ow' ∧ St1 T.K B (A ++ Ox) ps' τ H' Ow'' := by
  have av : ∀ b, b ∈ Ow' ++ (A ++ Ox) → b ∈ Ow ++ Ox ∨ H b = none := fun b hb => y.avoid b (by simp only [List.mem_append] at hb ⊢; grind)
  obtain ⟨Ow'', sb, h⟩ := back_sls y.keeps av (s.lkk y) s.sl s'.sl e
  refine ⟨Ow'', sb, h.mono .refl (fun b hb => .inl ?_) (fun _ _ _ _ _ e => e) (fun _ _ _ e => e), sb.nodup s'.nd, fun b hb => s'.ap b (sb.subset hb), fun b hb => s'.tr b ?_, s'.lk⟩
  · exact (List.mem_append.mp hb).elim (fun z => List.mem_append_left _ (sb.subset z)) (List.mem_append_right _)
  · exact (List.mem_append.mp hb).elim (fun z => List.mem_append_left _ (sb.subset z)) (List.mem_append_right _)
theorem run_body {b : M Fl} {N : List Str} {vs : List V} {Q : VK} {E : XK} (h : tX T (fun c d _ H => E c d H) (runF N.length b) (vs.map some) H Q) : tSt T (fun c d _ H => E c d H) b { nx := fun _ H' => Q .non H', rt := Q } (start N vs) H := by
  obtain ⟨B, Ox, Ow, ps, S, q⟩ := h
  have len : ps.length = vs.length := by have := S.len; simpa using this
  refine ⟨B, Ox, Ow, ps ++ List.replicate (N.length - ps.length) .unset, ⟨?_, S.nd, S.ap, S.tr, S.lk⟩, ?_⟩
  · have := sls_unset (N.length - ps.length) S.sl
    rw [len] at this ⊢
    exact this
  · unfold runF at q
    cases r : b (ps ++ List.replicate (N.length - ps.length) .unset) with
    | stuck => rw [r] at q; exact q
    | exc c a ρ' =>
      rw [r] at q
      simp only at q
      cases e : backP ps ρ' with
      | none => rw [e] at q; exact q.elim
      | some ps' =>
        rw [e] at q
        intro σ' H' Ow' S' y' cls d hx
        obtain ⟨Ow'', sb, S2⟩ := S.back (A := []) y' S' e
        exact q H' Ow'' S2 (y'.less fun b hb => sb.subset hb) cls d hx
    | ok f ρ' =>
      rw [r] at q
      cases f with
      | nx =>
        simp only at q
        cases e : backP ps ρ' with
        | none => rw [e] at q; exact q.elim
        | some ps' =>
          rw [e] at q
          intro σ' H' Ow' S' y'
          obtain ⟨Ow'', sb, S2⟩ := S.back (A := []) y' S' e
          exact q .non H' Ow'' [] S2 (y'.less fun b hb => sb.subset hb) (by simp only [Own, Is]; exact ⟨trivial, trivial⟩) List.nodup_nil (fun _ z => nomatch z)
      | rt o =>
        simp only at q
        cases e : backP ps ρ' with
        | none => rw [e] at q; exact q.elim
        | some ps' =>
          rw [e] at q
          intro σ' v H' Ow' A S' y' own nd ap
          obtain ⟨Ow'', sb, S2⟩ := S.back y' S' e
          refine q v H' Ow'' A S2 (y'.less fun b hb => ?_) (Own.mono .refl (fun b hb => .inl ?_) _ _ _ (fun _ _ _ e => e) own) nd ap
          · exact (List.mem_append.mp hb).elim (List.mem_append_left _) fun z => List.mem_append_right _ (sb.subset z)
          · exact (List.mem_append.mp hb).elim (fun z => List.mem_append_left _ (sb.subset z)) (List.mem_append_right _)
      | bk => exact q.elim
      | ct => exact q.elim
/-- a def of the text keeps its promise -/
theorem def_ok {P : Program} {w : World} {mg : Str → Option Value} {base : Heap} {k : Nat} {f : Addr} {fd : FuncData} {x : Str} {params : Arguments} {body : List Stmt} {scope : Scope} {N ps : List Str} {b : M Fl} (F : FunD T.K x x params body scope [] [] f fd) (S : FnScope N ps scope)
    (der : ∀ (cdv : Value) (A : Around) (outer : List PySem.Env) (s : Shared) (H : Hp) (E : XK), Room k (A.deeper (envOfC x scope s.heap.objs.size f cdv)) → Ok T (fun c d _ H => E c d H) (cxOf (L2.CX P w) P w T.K mg base N x scope f cdv A outer s H E) →
      PSs (cxOf (L2.CX P w) P w T.K mg base N x scope f cdv A outer s H E) body (tSt T (fun c d _ H => E c d H) b)) :
    FnG P w T.K mg base (k + 1) f fd ps (fun vs H Q E => vs.length = ps.length ∧ tX T (fun c d _ H => E c d H) (runF N.length b) (vs.map some) H Q) := by
  refine fnG_of F S (fun vs H Q E h => h.1) fun cdv A outer s H vs Q E room gd h => ⟨_, der cdv A outer s H E room ⟨⟨rfl, takes_of rfl rfl rfl rfl, rfl, S.nd, ?_, gd⟩, passes_of rfl⟩, run_body h.2⟩
  have := room.un
  show (A.deeper _).units + 150 < cLine
  omega

/-! ### calls -/
/-- the arguments' values -/
def AgR (K : PySem.W.Frag) (H : Hp) (O : List Addr) (σ : L2.St) : List Ag → List (Option PyData) → List V → Prop
  | [], [], vs => vs = []
  | .v _ :: r, some d :: l, vs => ∃ w ws, vs = w :: ws ∧ Is K H O d w ∧ AgR K H O σ r l ws
  | .r i :: r, none :: l, vs => ∃ w ws, vs = w :: ws ∧ σ[i]? = some (some w) ∧ AgR K H O σ r l ws
  | .l i :: r, none :: l, vs => ∃ w ws, vs = w :: ws ∧ σ[i]? = some (some w) ∧ AgR K H O σ r l ws
  | _, _, _ => False
def Psg' (T : Th) (W : WX) (B : Bx) (Ox : List Addr) (σ : L2.St) (H : Hp) (Ow : List Addr) (as : List Ag) (r : Res (List (Option PyData))) (Q : List V → Hp → Prop) : Prop := match r with
  | .ok l ρ' => ∀ vs H' Ow', St1 T.K B Ox ρ' σ H' Ow' → Stp Ow H Ow' H' → AgR T.K H' (Ow' ++ Ox) σ as l vs → Q vs H'
  | .exc c a ρ' => exE T W B Ox σ H Ow c a ρ'
  | .stuck => False
def tAg (T : Th) (W : WX) (as : List Ag) : TA := fun σ H Q => ∃ B Ox Ow ρ, St1 T.K B Ox ρ σ H Ow ∧ Psg' T W B Ox σ H Ow as (agV as ρ) Q
theorem AgR.mono {K : PySem.W.Frag} {H' : Hp} {O' : List Addr} (k : Keeps O H H') (s : ∀ b, b ∈ O' → b ∈ O ∨ H b = none) : ∀ {as : List Ag} {l : List (Option PyData)} {vs : List V}, AgR K H O σ as l vs → AgR K H' O' σ as l vs
  | [], [], vs, h => h
  | .v _ :: r, some d :: l, vs, h => by
    obtain ⟨w, ws, e, h1, h2⟩ := h
    exact ⟨w, ws, e, Is.mono k s d w h1, h2.mono k s⟩
  | .r i :: r, none :: l, vs, h => by
    obtain ⟨w, ws, e, h1, h2⟩ := h
    exact ⟨w, ws, e, h1, h2.mono k s⟩
  | .l i :: r, none :: l, vs, h => by
    obtain ⟨w, ws, e, h1, h2⟩ := h
    exact ⟨w, ws, e, h1, h2.mono k s⟩
  | [], _ :: _, _, h => h.elim
  | .v _ :: _, [], _, h => h.elim
  | .v _ :: _, none :: _, _, h => h.elim
  | .r _ :: _, [], _, h => h.elim
  | .r _ :: _, some _ :: _, _, h => h.elim
  | .l _ :: _, [], _, h => h.elim
  | .l _ :: _, some _ :: _, _, h => h.elim
theorem pg_nil' : PA X [] (tAg T W []) := impA pa_nil fun σ H Q ⟨B, Ox, Ow, ρ, s, q⟩ => q [] H Ow s .refl rfl
theorem pg_v {es : List Expr} {y : M OD} {as : List Ag} (h : PE X e (tX T W y)) (hr : PA X es (tAg T W as)) (hs : starEach (e :: es) X.env = (false, eval e X.env) :: starEach es X.env := by rfl) : PA X (e :: es) (tAg T W (.v y :: as)) :=
  impA (pa_cons (pf_of h) hr hs) fun σ H Q ⟨B, Ox, Ow, ρ, s, q⟩ => by
    refine ⟨B, Ox, Ow, ρ, s, ?_⟩
    unfold agV at q
    cases hx : fz y ρ with
    | stuck => rw [bnd_stk hx] at q; exact q
    | exc c a ρ1 => rw [bnd_exc hx] at q; exact q
    | ok d ρ1 =>
      rw [bnd_ok hx] at q
      intro v H1 Ow1 s1 y1 i1
      refine ⟨B, Ox, Ow1, ρ1, s1, ?_⟩
      cases hl : agV as ρ1 with
      | stuck => rw [bnd_stk hl] at q; exact q
      | exc c a ρ2 => rw [bnd_exc hl] at q; exact exE.step y1 q
      | ok l ρ2 =>
        rw [bnd_ok hl] at q
        exact fun vs H2 Ow2 s2 y2 r2 => q (v :: vs) H2 Ow2 s2 (y1.trans y2) ⟨v, vs, rfl, y2.is i1, r2⟩
theorem hasS_run {α : Type} {g : Unit → M α} (s : St1 T.K B Ox ρ σ H Ow) : (∃ w, σ[i]? = some (some w) ∧ bnd (hasS i) g ρ = g () ρ) ∨ bnd (hasS i) g ρ = .stuck := by
  cases e : ρ[i]? with
  | none => exact .inr (by simp [bnd, hasS, e])
  | some z =>
    obtain ⟨v, L, A1, R, h1, _, h2, _⟩ := s.sl.at e
    cases z with
    | unset => exact .inr (by simp [bnd, hasS, e])
    | exn c a => exact .inr (by simp [bnd, hasS, e])
    | val d => obtain ⟨_, w, rfl, _⟩ := h2; exact .inl ⟨w, h1, by simp [bnd, hasS, e]⟩
    | own o => obtain ⟨w, rfl, _⟩ := h2; exact .inl ⟨w, h1, by simp [bnd, hasS, e]⟩
    | bor k o => obtain ⟨a, rfl, _⟩ := h2; exact .inl ⟨_, h1, by simp [bnd, hasS, e]⟩
    | lck k o => obtain ⟨_, w, _, rfl, _⟩ := h2; exact .inl ⟨w, h1, by simp [bnd, hasS, e]⟩
    | scr ns => obtain ⟨_, a, rfl, _⟩ := h2; exact .inl ⟨_, h1, by simp [bnd, hasS, e]⟩
theorem tag_name {a : Ag} {as : List Ag} (ha : agV (a :: as) = bnd (hasS i) fun _ => bnd (agV as) fun l => ret (none :: l)) (hr : ∀ (H : Hp) (O : List Addr) l vs w, σ[i]? = some (some w) → AgR T.K H O σ as l vs → AgR T.K H O σ (a :: as) (none :: l) (w :: vs)) {Q : List V → Hp → Prop} (h : tAg T W (a :: as) σ H Q) :
    tCons (tVar i) (tAg T W as) σ H Q := by
  obtain ⟨B, Ox, Ow, ρ, s, q⟩ := h
  rw [ha] at q
  rcases hasS_run (g := fun _ => bnd (agV as) fun l => ret (none :: l)) s with ⟨w, h1, e⟩ | e
  · rw [e] at q
    refine ⟨w, h1, B, Ox, Ow, ρ, s, ?_⟩
    cases hl : agV as ρ with
    | stuck => rw [bnd_stk hl] at q; exact q
    | exc c a ρ2 => rw [bnd_exc hl] at q; exact q
    | ok l ρ2 =>
      rw [bnd_ok hl] at q
      exact fun vs H2 Ow2 s2 y2 r2 => q (w :: vs) H2 Ow2 s2 y2 (hr _ _ _ _ _ h1 r2)
  · rw [e] at q; exact q.elim
theorem pg_r {es : List Expr} {as : List Ag} (hr : PA X es (tAg T W as)) (hN : X.N[i]? = some x := by rfl) (hv : Vis X.env.scope x := by first | exact Or.inl rfl | exact Or.inr (Or.inl rfl) | exact Or.inr (Or.inr rfl)) (hd : (x == ("__debug__" : Str)) = false := by decide)
    (hcd : (x == ("__classdict__" : Str)) = false := by decide) (hs : starEach (.Name x pos :: es) X.env = (false, eval (.Name x pos) X.env) :: starEach es X.env := by rfl) : PA X (.Name x pos :: es) (tAg T W (.r i :: as)) :=
  impA (pa_cons (pe_var hN hv hd hcd) hr hs) fun σ H Q h => tag_name (a := .r i) (as := as) rfl (fun H O l vs w h1 h2 => ⟨w, vs, rfl, h1, h2⟩) h
theorem pg_l {es : List Expr} {as : List Ag} (hr : PA X es (tAg T W as)) (hN : X.N[i]? = some x := by rfl) (hv : Vis X.env.scope x := by first | exact Or.inl rfl | exact Or.inr (Or.inl rfl) | exact Or.inr (Or.inr rfl)) (hd : (x == ("__debug__" : Str)) = false := by decide)
    (hcd : (x == ("__classdict__" : Str)) = false := by decide) (hs : starEach (.Name x pos :: es) X.env = (false, eval (.Name x pos) X.env) :: starEach es X.env := by rfl) : PA X (.Name x pos :: es) (tAg T W (.l i :: as)) :=
  impA (pa_cons (pe_var hN hv hd hcd) hr hs) fun σ H Q h => tag_name (a := .l i) (as := as) rfl (fun H O l vs w h1 h2 => ⟨w, vs, rfl, h1, h2⟩) h

/-! ### the callee's slots from the caller's -/
theorem svB_of {k : Nat} {s : SV} (h : svB k z = some s) : ∃ o, svO z = some o ∧ isCtr o = true ∧ s = .bor k o := by
  cases z with
  | own o =>
    simp only [svB] at h
    by_cases c : isCtr o = true
    · rw [if_pos c] at h; cases h; exact ⟨o, rfl, c, rfl⟩
    · rw [if_neg c] at h; exact nomatch h
  | bor k' o =>
    simp only [svB] at h
    by_cases c : isCtr o = true
    · rw [if_pos c] at h; cases h; exact ⟨o, rfl, c, rfl⟩
    · rw [if_neg c] at h; exact nomatch h
  | _ => exact nomatch h
theorem par_sls {ρr : Env} {σr : L2.St} {Owr A1 : List Addr} {a : Addr} (Sr : Sls T.K H O B ρr σr Owr) (lkx : ∀ q ∈ B.lk, ∀ b ∈ q.2, b ∈ Ox) :
    ∀ {as : List Ag} {l : List (Option PyData)} {vs : List V} {ps : List SV} {k j : Nat}, AgR T.K H O σ as l vs → agP ρ k j as l = some ps → (∀ n ∈ as.flatMap Ag.ls, ρr[n]? = ρ[n]? ∧ σr[n]? = σ[n]?) →
      (∀ n ∈ as.flatMap Ag.rs, σ[n]? = some (some (.ref a)) ∧ ∀ z o, ρ[n]? = some z → svO z = some o → Own T.K H O o (.ref a) A1) → (as.flatMap Ag.rs).length ≤ 1 →
      ∃ lks : List (V × List Addr), (∀ q ∈ lks, ∀ b ∈ q.2, b ∈ Owr ++ Ox) ∧ ∀ B' : Bx, (∀ n q, lks[n]? = some q → B'.lk[j + n]? = some q) → (as.flatMap Ag.rs ≠ [] → B'.rf[k]? = some a) →
        Sls T.K H O B' ps (vs.map some) (if as.flatMap Ag.rs = [] then [] else A1)
  | [], [], vs, ps, k, j, h, e, _, _, _ => by
    have ev : vs = [] := h
    cases e
    subst ev
    exact ⟨[], (fun _ z => nomatch z), fun B' _ _ => ⟨rfl, rfl⟩⟩
  | .v _ :: as, some d :: l, vs, ps, k, j, h, e, hl, hr, h1 => by
    obtain ⟨w, ws, rfl, iw, h⟩ := h
    simp only [agP] at e
    obtain ⟨ps2, e2, rfl⟩ := Option.map_eq_some_iff.mp e
    obtain ⟨lks, g1, g2⟩ := par_sls (A1 := A1) (a := a) Sr lkx h e2 (by simpa [List.flatMap_cons, Ag.ls] using hl) (by simpa [List.flatMap_cons, Ag.rs] using hr) (by simpa [List.flatMap_cons, Ag.rs] using h1)
    refine ⟨lks, g1, fun B' b1 b2 => ?_⟩
    have := g2 B' b1 (by simpa [List.flatMap_cons, Ag.rs] using b2)
    simp only [List.flatMap_cons, Ag.rs, List.nil_append] at this ⊢
    exact ⟨some w, _, [], _, rfl, rfl, ⟨rfl, w, rfl, iw⟩, this⟩
  | .r i :: as, none :: l, vs, ps, k, j, h, e, hl, hr, h1 => by
    obtain ⟨w, ws, rfl, iw, h⟩ := h
    simp only [agP] at e
    cases es : (ρ[i]?).bind (svB k) with
    | none => rw [es] at e; exact nomatch e
    | some s =>
      rw [es] at e
      obtain ⟨ps2, e2, rfl⟩ := Option.map_eq_some_iff.mp e
      obtain ⟨z, e3, e4⟩ := Option.bind_eq_some_iff.mp es
      obtain ⟨o, e5, e6, rfl⟩ := svB_of e4
      obtain ⟨r1, r2⟩ := hr i (by simp [List.flatMap_cons, Ag.rs])
      have r0 : as.flatMap Ag.rs = [] := by
        simp only [List.flatMap_cons, Ag.rs, List.length_append, List.length_singleton] at h1
        exact List.eq_nil_of_length_eq_zero (by omega)
      obtain ⟨lks, g1, g2⟩ := par_sls (A1 := A1) (a := a) Sr lkx h e2 (by simpa [List.flatMap_cons, Ag.ls] using hl) (fun n hn => by rw [r0] at hn; exact nomatch hn) (by rw [r0]; exact Nat.zero_le _)
      refine ⟨lks, g1, fun B' b1 b2 => ?_⟩
      have := g2 B' b1 (fun z => absurd r0 z)
      rw [if_pos r0] at this
      rw [if_neg (by simp [List.flatMap_cons, Ag.rs])]
      rw [r1] at iw
      cases iw
      exact ⟨_, _, A1, [], rfl, by simp, ⟨a, rfl, b2 (by simp [List.flatMap_cons, Ag.rs]), r2 z o e3 e5⟩, this⟩
  | .l i :: as, none :: l, vs, ps, k, j, h, e, hl, hr, h1 => by
    obtain ⟨w, ws, rfl, iw, h⟩ := h
    simp only [agP] at e
    cases es : (ρ[i]?).bind (svL j) with
    | none => rw [es] at e; exact nomatch e
    | some s =>
      rw [es] at e
      obtain ⟨ps2, e2, rfl⟩ := Option.map_eq_some_iff.mp e
      obtain ⟨z, e3, e4⟩ := Option.bind_eq_some_iff.mp es
      obtain ⟨l1, l2⟩ := hl i (by simp [List.flatMap_cons, Ag.ls])
      have hl' : ∀ n ∈ as.flatMap Ag.ls, ρr[n]? = ρ[n]? ∧ σr[n]? = σ[n]? := fun n hn => hl n (by simp [List.flatMap_cons, hn])
      have hr' : ∀ n ∈ as.flatMap Ag.rs, σ[n]? = some (some (.ref a)) ∧ ∀ z o, ρ[n]? = some z → svO z = some o → Own T.K H O o (.ref a) A1 := fun n hn => hr n (by simp [List.flatMap_cons, hn])
      have h1' : (as.flatMap Ag.rs).length ≤ 1 := by simpa [List.flatMap_cons, Ag.rs] using h1
      obtain ⟨v, L, A2, R, q1, q2, q3, _⟩ := Sr.at (l1.trans e3)
      rw [l2, iw] at q1
      cases q1
      have er : (Ag.l i :: as).flatMap Ag.rs = as.flatMap Ag.rs := by simp [List.flatMap_cons, Ag.rs]
      have lock : ∀ o A', s = .lck j o → Own T.K H O o w A' → (∀ b ∈ A', b ∈ Owr ++ Ox) → ∃ lks : List (V × List Addr), (∀ q ∈ lks, ∀ b ∈ q.2, b ∈ Owr ++ Ox) ∧ ∀ B' : Bx, (∀ n q, lks[n]? = some q → B'.lk[j + n]? = some q) → ((Ag.l i :: as).flatMap Ag.rs ≠ [] → B'.rf[k]? = some a) →
          Sls T.K H O B' (s :: ps2) ((w :: ws).map some) (if (Ag.l i :: as).flatMap Ag.rs = [] then [] else A1) := fun o A' hs own sub => by
        subst hs
        obtain ⟨lks, g1, g2⟩ := par_sls (A1 := A1) (a := a) Sr lkx (j := j + 1) h (by simpa [SV.isLck] using e2) hl' hr' h1'
        refine ⟨(w, A') :: lks, fun q hq => ?_, fun B' b1 b2 => ?_⟩
        · rcases List.mem_cons.mp hq with rfl | hq
          · exact sub
          · exact g1 q hq
        · have := g2 B' (fun n q hn => by have := b1 (n + 1) q (by simpa using hn); rw [show j + 1 + n = j + (n + 1) by omega]; exact this) (by rw [er] at b2; exact b2)
          rw [er]
          exact ⟨some w, _, [], _, rfl, rfl, ⟨rfl, w, A', rfl, by simpa using b1 0 (w, A') rfl, own⟩, this⟩
      cases z with
      | own o =>
        simp only [svL, Option.some.injEq] at e4
        obtain ⟨w', ew, own⟩ := q3
        cases ew
        exact lock o A2 e4.symm own fun b hb => List.mem_append_left _ (by rw [q2]; simp [hb])
      | bor k' o =>
        simp only [svL, Option.some.injEq] at e4
        obtain ⟨a', ew, _, own⟩ := q3
        cases ew
        exact lock o A2 e4.symm own fun b hb => List.mem_append_left _ (by rw [q2]; simp [hb])
      | lck k' o =>
        simp only [svL, Option.some.injEq] at e4
        obtain ⟨_, w', A', ew, eb, own⟩ := q3
        cases ew
        exact lock o A' e4.symm own fun b hb => List.mem_append_right _ (lkx _ (List.mem_of_getElem? eb) b hb)
      | val d =>
        simp only [svL, Option.some.injEq] at e4
        subst e4
        obtain ⟨_, w', ew, iw'⟩ := q3
        cases ew
        obtain ⟨lks, g1, g2⟩ := par_sls Sr lkx h (by simpa [SV.isLck] using e2) hl' hr' h1'
        refine ⟨lks, g1, fun B' b1 b2 => ?_⟩
        have := g2 B' b1 (by rw [er] at b2; exact b2)
        rw [er]
        exact ⟨some w, _, [], _, rfl, rfl, ⟨rfl, w, rfl, iw'⟩, this⟩
      | scr ns =>
        simp only [svL, Option.some.injEq] at e4
        subst e4
        obtain ⟨_, a', ew, q3⟩ := q3
        cases ew
        obtain ⟨lks, g1, g2⟩ := par_sls (A1 := A1) (a := a) Sr lkx h (by simpa [SV.isLck] using e2) hl' hr' h1'
        refine ⟨lks, g1, fun B' b1 b2 => ?_⟩
        have := g2 B' b1 (by rw [er] at b2; exact b2)
        rw [er]
        exact ⟨some _, _, [], _, rfl, rfl, ⟨rfl, a', rfl, q3⟩, this⟩
      | _ => exact nomatch e4
  | [], _ :: _, _, _, _, _, h, _, _, _, _ => h.elim
  | .v _ :: _, [], _, _, _, _, h, _, _, _, _ => h.elim
  | .v _ :: _, none :: _, _, _, _, _, h, _, _, _, _ => h.elim
  | .r _ :: _, [], _, _, _, _, h, _, _, _, _ => h.elim
  | .r _ :: _, some _ :: _, _, _, _, _, h, _, _, _, _ => h.elim
  | .l _ :: _, [], _, _, _, _, h, _, _, _, _ => h.elim
  | .l _ :: _, some _ :: _, _, _, _, _, h, _, _, _, _ => h.elim
theorem agr_len {K : PySem.W.Frag} : ∀ {as : List Ag} {l : List (Option PyData)} {vs : List V}, AgR K H O σ as l vs → vs.length = as.length
  | [], [], vs, h => congrArg List.length (show vs = [] from h)
  | .v _ :: r, some d :: l, vs, h => by obtain ⟨w, ws, rfl, _, h2⟩ := h; simp [agr_len h2]
  | .r i :: r, none :: l, vs, h => by obtain ⟨w, ws, rfl, _, h2⟩ := h; simp [agr_len h2]
  | .l i :: r, none :: l, vs, h => by obtain ⟨w, ws, rfl, _, h2⟩ := h; simp [agr_len h2]
  | [], _ :: _, _, h => h.elim
  | .v _ :: _, [], _, h => h.elim
  | .v _ :: _, none :: _, _, h => h.elim
  | .r _ :: _, [], _, h => h.elim
  | .r _ :: _, some _ :: _, _, h => h.elim
  | .l _ :: _, [], _, h => h.elim
  | .l _ :: _, some _ :: _, _, h => h.elim
theorem agr_at {K : PySem.W.Frag} : ∀ {as : List Ag} {l : List (Option PyData)} {vs : List V} {p : Nat}, AgR K H O σ as l vs → as[p]? = some (.r i) → ∃ w, vs[p]? = some w ∧ σ[i]? = some (some w)
  | [], [], vs, p, h, e => by simp at e
  | .v _ :: r, some d :: l, vs, p, h, e => by
    obtain ⟨w, ws, rfl, _, h2⟩ := h
    cases p with
    | zero => simp at e
    | succ p => simpa using agr_at h2 (by simpa using e)
  | .r j :: r, none :: l, vs, p, h, e => by
    obtain ⟨w, ws, rfl, h1, h2⟩ := h
    cases p with
    | zero => simp at e; subst e; exact ⟨w, rfl, h1⟩
    | succ p => simpa using agr_at h2 (by simpa using e)
  | .l j :: r, none :: l, vs, p, h, e => by
    obtain ⟨w, ws, rfl, _, h2⟩ := h
    cases p with
    | zero => simp at e
    | succ p => simpa using agr_at h2 (by simpa using e)
  | [], _ :: _, _, _, h, _ => h.elim
  | .v _ :: _, [], _, _, h, _ => h.elim
  | .v _ :: _, none :: _, _, _, h, _ => h.elim
  | .r _ :: _, [], _, _, h, _ => h.elim
  | .r _ :: _, some _ :: _, _, _, h, _ => h.elim
  | .l _ :: _, [], _, _, h, _ => h.elim
  | .l _ :: _, some _ :: _, _, _, h, _ => h.elim
theorem agP_r : ∀ {as : List Ag} {l : List (Option PyData)} {ps : List SV} {k j : Nat}, agP ρ k j as l = some ps → i ∈ as.flatMap Ag.rs → ∃ z o, ρ[i]? = some z ∧ svO z = some o ∧ isCtr o = true
  | [], _, _, _, _, _, h => by simp at h
  | .v _ :: r, [], _, _, _, e, _ => nomatch e
  | .v _ :: r, none :: _, _, _, _, e, _ => nomatch e
  | .v _ :: r, some d :: l, ps, k, j, e, h => by
    simp only [agP] at e
    obtain ⟨ps2, e2, rfl⟩ := Option.map_eq_some_iff.mp e
    exact agP_r e2 (by simpa [List.flatMap_cons, Ag.rs] using h)
  | .r n :: r, [], _, _, _, e, _ => nomatch e
  | .r n :: r, some _ :: _, _, _, _, e, _ => nomatch e
  | .r n :: r, none :: l, ps, k, j, e, h => by
    simp only [agP] at e
    cases es : (ρ[n]?).bind (svB k) with
    | none => rw [es] at e; exact nomatch e
    | some s =>
      rw [es] at e
      obtain ⟨ps2, e2, rfl⟩ := Option.map_eq_some_iff.mp e
      obtain ⟨z, e3, e4⟩ := Option.bind_eq_some_iff.mp es
      obtain ⟨o, e5, e6, _⟩ := svB_of e4
      simp only [List.flatMap_cons, Ag.rs, List.singleton_append, List.mem_cons] at h
      rcases h with rfl | h
      · exact ⟨z, o, e3, e5, e6⟩
      · exact agP_r e2 h
  | .l n :: r, [], _, _, _, e, _ => nomatch e
  | .l n :: r, some _ :: _, _, _, _, e, _ => nomatch e
  | .l n :: r, none :: l, ps, k, j, e, h => by
    simp only [agP] at e
    cases es : (ρ[n]?).bind (svL j) with
    | none => rw [es] at e; exact nomatch e
    | some s =>
      rw [es] at e
      obtain ⟨ps2, e2, rfl⟩ := Option.map_eq_some_iff.mp e
      exact agP_r e2 (by simpa [List.flatMap_cons, Ag.rs] using h)
/-- nothing was lent -/
theorem agB_none : ∀ {as : List Ag} {ps : List SV} {ρ ρ' : Env}, agB as ps ρ = some ρ' → as.flatMap Ag.rs = [] → ρ' = ρ
  | [], [], ρ, ρ', e, _ => by cases e; rfl
  | [], _ :: _, _, _, e, _ => nomatch e
  | .v _ :: r, [], _, _, e, _ => nomatch e
  | .v _ :: r, _ :: l, ρ, ρ', e, h => agB_none (as := r) (ps := l) e (by simpa [List.flatMap_cons, Ag.rs] using h)
  | .l _ :: r, [], _, _, e, _ => nomatch e
  | .l _ :: r, _ :: l, ρ, ρ', e, h => agB_none (as := r) (ps := l) e (by simpa [List.flatMap_cons, Ag.rs] using h)
  | .r i :: r, _, _, _, _, h => by simp [List.flatMap_cons, Ag.rs] at h
/-- one thing was -/
theorem agB_one : ∀ {as : List Ag} {ps : List SV} {ρ ρ' : Env}, agB as ps ρ = some ρ' → as.flatMap Ag.rs = [i] → ∃ (p k : Nat) (o : OD) (z : SV) (o0 : OD), ps[p]? = some (.bor k o) ∧ as[p]? = some (Ag.r i) ∧ ρ[i]? = some z ∧ svO z = some o0 ∧ ρ' = ρ.set i (svSet z o)
  | [], _, _, _, _, h => by simp at h
  | .v _ :: r, [], _, _, e, _ => nomatch e
  | .v _ :: r, _ :: l, ρ, ρ', e, h => by
    obtain ⟨p, k, o, z, o0, h1, h2, h3⟩ := agB_one (as := r) (ps := l) e (by simpa [List.flatMap_cons, Ag.rs] using h)
    exact ⟨p + 1, k, o, z, o0, by simpa using h1, by simpa using h2, h3⟩
  | .l _ :: r, [], _, _, e, _ => nomatch e
  | .l _ :: r, _ :: l, ρ, ρ', e, h => by
    obtain ⟨p, k, o, z, o0, h1, h2, h3⟩ := agB_one (as := r) (ps := l) e (by simpa [List.flatMap_cons, Ag.rs] using h)
    exact ⟨p + 1, k, o, z, o0, by simpa using h1, by simpa using h2, h3⟩
  | .r n :: r, [], _, _, e, _ => nomatch e
  | .r n :: r, q :: l, ρ, ρ', e, h => by
    simp only [List.flatMap_cons, Ag.rs, List.singleton_append, List.cons.injEq] at h
    obtain ⟨rfl, h⟩ := h
    cases q with
    | bor k o =>
      simp only [agB] at e
      split at e
      · rename_i o0 e0
        exact ⟨0, k, o, _, o0, rfl, rfl, e0, rfl, agB_none e h⟩
      · rename_i k0 o0 e0
        exact ⟨0, k, o, _, o0, rfl, rfl, e0, rfl, agB_none e h⟩
      · exact nomatch e
    | _ => exact nomatch e
end
end PI

/-! PL15: the call rule (own work). -/
namespace PI
open PySem PySem.Spec PyProof.Rows L2
section
variable {T : Th} {W : WX} {X : Cx} {B : Bx} {Ox Ow Ow1 : List Addr} {σ τ : L2.St} {ρ : Env} {H H1 : Hp} {O : List Addr} {pos p : Pos} {x : Str} {e : Expr} {m : M PyData} {D : Ends} {i : Nat} {z : SV} {o : OD}
theorem agOk_of {as : List Ag} (h : agOk as = true) : (as.flatMap Ag.rs).length ≤ 1 ∧ ∀ i ∈ as.flatMap Ag.rs, ∀ n ∈ as.flatMap Ag.ls, n ≠ i := by
  simp only [agOk, Bool.and_eq_true, decide_eq_true_eq, List.all_eq_true, Bool.not_eq_true', List.contains_eq_mem] at h
  exact ⟨h.1, fun i hi n hn e => by have := h.2 i hi; rw [← e] at this; simp [hn] at this⟩
theorem dcall_tail {cl : Cl} {f : Nat} {as : List Ag} {l : List (Option PyData)} {Q : VK} (q : Pst T W B Ox σ H Ow ((fun ρ => if agOk as = false then .stuck else match agP ρ 0 0 as l with
      | none => .stuck
      | some ps => (match cl f ps with
        | .ok o ps' => (match agB as ps' ρ with
          | some ρ' => .ok o ρ'
          | none => .stuck)
        | .exc c a ps' => (match agB as ps' ρ with
          | some ρ' => .exc c a ρ'
          | none => .stuck)
        | .stuck => .stuck) : M OD) ρ) Q) :
    agOk as = true ∧ ∃ ps, agP ρ 0 0 as l = some ps ∧ ((∃ o ps' ρ', cl f ps = .ok o ps' ∧ agB as ps' ρ = some ρ' ∧ Pst T W B Ox σ H Ow (.ok o ρ') Q) ∨ ∃ c a ps' ρ', cl f ps = .exc c a ps' ∧ agB as ps' ρ = some ρ' ∧ Pst T W B Ox σ H Ow (.exc c a ρ') Q) := by
  cases h1 : agOk as with
  | false => simp only [h1, if_true] at q; exact q.elim
  | true =>
    simp only [h1, Bool.true_eq_false, if_false] at q
    refine ⟨rfl, ?_⟩
    cases h2 : agP ρ 0 0 as l with
    | none => rw [h2] at q; exact q.elim
    | some ps =>
      rw [h2] at q
      refine ⟨ps, rfl, ?_⟩
      simp only at q
      cases h3 : cl f ps with
      | stuck => rw [h3] at q; exact q.elim
      | ok o ps' =>
        rw [h3] at q
        simp only at q
        cases h4 : agB as ps' ρ with
        | none => rw [h4] at q; exact q.elim
        | some ρ' => rw [h4] at q; exact .inl ⟨o, ps', ρ', rfl, h4, q⟩
      | exc c a ps' =>
        rw [h3] at q
        simp only at q
        cases h4 : agB as ps' ρ with
        | none => rw [h4] at q; exact q.elim
        | some ρ' => rw [h4] at q; exact .inr ⟨c, a, ps', ρ', rfl, h4, q⟩
/-- the callee's run from the caller's -/
theorem call_core {cl : Cl} {f : Nat} {as : List Ag} {l : List (Option PyData)} {vs : List V} {Q : VK} (S : St1 T.K B Ox ρ σ H Ow) (r : AgR T.K H (Ow ++ Ox) σ as l vs) {ps : List SV} (ok : agOk as = true) (hp : agP ρ 0 0 as l = some ps)
    (q : (∃ o ps' ρ', cl f ps = .ok o ps' ∧ agB as ps' ρ = some ρ' ∧ Pst T W B Ox σ H Ow (.ok o ρ') Q) ∨ ∃ c a ps' ρ', cl f ps = .exc c a ps' ∧ agB as ps' ρ = some ρ' ∧ Pst T W B Ox σ H Ow (.exc c a ρ') Q) :
    tX T (fun c d _ H => W c d σ H) (cl f) (vs.map some) H Q := by
  obtain ⟨ok1, ok2⟩ := agOk_of ok
  cases hrs : as.flatMap Ag.rs with
  | nil =>
    obtain ⟨lks, g1, g2⟩ := par_sls (T := T) (A1 := []) (a := 0) S.sl S.lk r hp (fun n _ => ⟨rfl, rfl⟩) (fun n hn => by rw [hrs] at hn; exact nomatch hn) ok1
    have sl := g2 ⟨[], lks⟩ (fun n q hn => by simpa using hn) (fun z => absurd hrs z)
    rw [if_pos hrs] at sl
    refine ⟨⟨[], lks⟩, Ow ++ Ox, [], ps, ⟨sl, List.nodup_nil, (fun _ z => nomatch z), fun b hb => S.tr b hb, g1⟩, ?_⟩
    have back : ∀ {ps' : List SV} {A Ow' : List Addr} {H' : Hp}, St1 T.K ⟨[], lks⟩ (A ++ (Ow ++ Ox)) ps' (vs.map some) H' Ow' → Stp [] H (A ++ Ow') H' → (∀ b ∈ A, b ∉ Ow ++ Ox) → St1 T.K B (A ++ Ox) ρ σ H' Ow ∧ Stp Ow H (A ++ Ow) H' := fun {ps' A Ow' H'} S' y ap => by
      have k : ∀ b u, H b = some u → H' b = some u := fun b u e => y.keep b u (fun z => nomatch z) e
      have inA : ∀ b ∈ A, H b = none := fun b hb => (y.sub b (List.mem_append_left _ hb)).elim (fun z => nomatch z) id
      refine ⟨⟨S.sl.mono (.all fun b u _ e => k b u e) (fun b hb => ?_) (fun q hq b hb u e => k b u e) (fun b _ u e => k b u e), S.nd, fun b hb z => ?_, fun b hb => ?_, fun q hq b hb => List.mem_append_right _ (S.lk q hq b hb)⟩, ⟨fun b u _ e => k b u e, fun b hb => ?_, y.live⟩⟩
      · simp only [List.mem_append] at hb ⊢
        rcases hb with z | z | z
        · exact .inl (.inl z)
        · exact .inr (inA b z)
        · exact .inl (.inr z)
      · rcases List.mem_append.mp z with z | z
        · exact ap b z (List.mem_append_left _ hb)
        · exact S.ap b hb z
      · exact S'.tr b (by simp only [List.mem_append] at hb ⊢; grind)
      · rcases List.mem_append.mp hb with z | z
        · exact .inr (inA b z)
        · exact .inl z
    rcases q with ⟨o, ps', ρ', e1, e2, q⟩ | ⟨c, a, ps', ρ', e1, e2, q⟩
    · rw [e1]
      have := agB_none e2 hrs
      subst this
      intro v H' Ow' A S' y own nd ap
      obtain ⟨S2, y2⟩ := back S' y ap
      exact q v H' Ow A S2 y2 (Own.mono .refl (fun b hb => .inl (by simp only [List.mem_append] at hb ⊢; grind)) _ _ _ (fun _ _ _ e => e) own) nd fun b hb z => ap b hb (List.mem_append_right _ z)
    · rw [e1]
      have := agB_none e2 hrs
      subst this
      intro H' Ow' S' y cls d hx
      obtain ⟨S2, y2⟩ := back (A := []) S' y (fun _ z => nomatch z)
      exact q H' Ow S2 y2 cls d hx
  | cons i rest =>
    have hrest : rest = [] := by
      rw [hrs] at ok1
      simp only [List.length_cons] at ok1
      exact List.eq_nil_of_length_eq_zero (by omega)
    subst hrest
    obtain ⟨z, o0, ez, hz, hc⟩ := agP_r (i := i) hp (by rw [hrs]; simp)
    obtain ⟨v0, L, A1, R, h1, hA, h2, k⟩ := S.sl.at ez
    have get : ∃ a, v0 = some (.ref a) ∧ Own T.K H (Ow ++ Ox) o0 (.ref a) A1 ∧ ∀ H' O' o' A', Own T.K H' O' o' (.ref a) A' → PI.SlR T.K H' O' B (svSet z o') (some (.ref a)) A' := by
      cases z with
      | own o2 =>
        cases hz
        obtain ⟨w, rfl, h2⟩ := h2
        obtain ⟨a, As, rfl, _⟩ := own_ref hc h2
        exact ⟨a, rfl, h2, fun H' O' o' A' q => ⟨_, rfl, q⟩⟩
      | bor k o2 =>
        cases hz
        obtain ⟨b, rfl, hb, h2⟩ := h2
        exact ⟨b, rfl, h2, fun H' O' o' A' q => ⟨_, rfl, hb, q⟩⟩
      | _ => exact nomatch hz
    obtain ⟨a, rfl, own0, re⟩ := get
    have ndO : (L ++ (A1 ++ R)).Nodup := by rw [← hA]; exact S.nd
    have dd := List.nodup_append.mp ndO
    have da := List.nodup_append.mp dd.2.1
    have ndLR : (L ++ R).Nodup := (List.Sublist.append (List.Sublist.refl _) (List.sublist_append_right _ _)).nodup ndO
    have A1LR : ∀ b ∈ A1, b ∉ L ++ R := fun b hb w => by
      rcases List.mem_append.mp w with w | w
      · exact dd.2.2 b w b (by simp [hb]) rfl
      · exact da.2.2 b hb b w rfl
    have A1Ox : ∀ b ∈ A1, b ∉ Ox := fun b hb => S.ap b (by rw [hA]; simp [hb])
    have mem : ∀ b, b ∈ Ow ++ Ox ↔ b ∈ A1 ++ ((L ++ R) ++ Ox) := fun b => by rw [hA]; simp only [List.mem_append]; grind
    have Sr := k H (Ow ++ Ox) .unset none [] .refl (fun b hb => .inl hb) (fun _ _ _ _ _ e => e) (fun _ _ _ e => e) rfl
    rw [List.nil_append] at Sr
    obtain ⟨lks, g1, g2⟩ := par_sls (T := T) (A1 := A1) (a := a) Sr S.lk r hp (fun n hn => by
      have ne : i ≠ n := fun q => ok2 i (by rw [hrs]; simp) n hn q.symm
      exact ⟨List.getElem?_set_ne ne, List.getElem?_set_ne ne⟩) (fun n hn => by
      rw [hrs] at hn
      simp only [List.mem_singleton] at hn
      subst hn
      refine ⟨h1, fun z' o' e1 e2 => ?_⟩
      rw [ez] at e1
      cases e1
      rw [hz] at e2
      cases e2
      exact own0) ok1
    have sl := g2 ⟨[a], lks⟩ (fun n q hn => by simpa using hn) (fun _ => rfl)
    rw [if_neg (by rw [hrs]; simp)] at sl
    have lkc : ∀ q ∈ lks, ∀ b ∈ q.2, b ∈ (L ++ R) ++ Ox := g1
    refine ⟨⟨[a], lks⟩, (L ++ R) ++ Ox, A1, ps, ⟨sl.mono .refl (fun b hb => .inl ((mem b).mpr hb)) (fun _ _ _ _ _ e => e) (fun _ _ _ e => e), da.1, fun b hb w => ?_, fun b hb => S.tr b ((mem b).mpr hb), lkc⟩, ?_⟩
    · rcases List.mem_append.mp w with w | w
      · exact A1LR b hb w
      · exact A1Ox b hb w
    have back : ∀ {ps' : List SV} {ρ' : Env} {A Ow' : List Addr} {H' : Hp}, St1 T.K ⟨[a], lks⟩ (A ++ ((L ++ R) ++ Ox)) ps' (vs.map some) H' Ow' → Stp A1 H (A ++ Ow') H' → (∀ b ∈ A, b ∉ (L ++ R) ++ Ox) → agB as ps' ρ = some ρ' →
        ∃ Ow2, (∀ b, b ∈ Ow2 → b ∈ (L ++ R) ∨ b ∈ Ow') ∧ St1 T.K B (A ++ Ox) ρ' σ H' Ow2 ∧ Stp Ow H (A ++ Ow2) H' := fun {ps' ρ' A Ow' H'} S' y ap eb => by
      obtain ⟨p, kk, o', z', o0', p1, p2, p3, p4, rfl⟩ := agB_one eb hrs
      rw [ez] at p3
      cases p3
      obtain ⟨w, w1, w2⟩ := agr_at r p2
      rw [h1] at w2
      cases w2
      obtain ⟨v', L', A2, R', q1, q2, ⟨a', rfl, q3, q4⟩, _⟩ := S'.sl.at p1
      rw [List.getElem?_map, w1] at q1
      cases q1
      have keepO : ∀ b u, b ∉ A1 → H b = some u → H' b = some u := fun b u n e => y.keep b u n e
      have A2in : ∀ b ∈ A2, b ∈ Ow' := fun b hb => by rw [q2]; simp [hb]
      have ndW : (L' ++ (A2 ++ R')).Nodup := by rw [← q2]; exact S'.nd
      have ndA2 : A2.Nodup := (List.nodup_append.mp (List.nodup_append.mp ndW).2.1).1
      have A2out : ∀ b ∈ A2, b ∉ A ++ ((L ++ R) ++ Ox) := fun b hb => S'.ap b (A2in b hb)
      have subst' : ∀ b, b ∈ A ++ Ow' → b ∈ Ow ∨ H b = none := fun b hb => (y.sub b hb).imp (fun w => by rw [hA]; simp [w]) id
      have av : ∀ b, b ∈ (L ++ (A2 ++ R)) ++ (A ++ Ox) → b ∈ Ow ++ Ox ∨ H b = none := fun b hb => by
        simp only [List.mem_append] at hb
        rcases hb with (w | w | w) | w | w
        · exact .inl (by rw [hA]; simp [w])
        · exact (subst' b (List.mem_append_right _ (A2in b w))).imp (List.mem_append_left _) id
        · exact .inl (by rw [hA]; simp [w])
        · exact (subst' b (List.mem_append_left _ w)).imp (List.mem_append_left _) id
        · exact .inl (List.mem_append_right _ w)
      have new := k H' ((L ++ (A2 ++ R)) ++ (A ++ Ox)) (svSet z o') (some (.ref a)) A2 (.all fun b u n e => keepO b u (fun w => n (by rw [hA]; simp [w])) e) av
        (fun q hq b hb u e => keepO b u (fun w => A1Ox b w (S.lk q hq b hb)) e) (fun b hb u e => keepO b u (fun w => A1LR b w hb) e)
        (re _ _ _ _ (Own.mono .refl (fun b hb => .inl (by
          simp only [List.mem_append] at hb ⊢
          have := A2in b
          grind)) _ _ _ (fun _ _ _ e => e) q4))
      have hs : σ.set i (some (.ref a)) = σ := by
        apply List.ext_getElem?
        intro j
        rw [List.getElem?_set]
        by_cases q : i = j
        · subst q; rw [if_pos rfl, if_pos (List.getElem?_eq_some_iff.mp h1).1, h1]
        · rw [if_neg q]
      rw [hs] at new
      have ndLRp := List.nodup_append.mp ndLR
      refine ⟨L ++ (A2 ++ R), fun b hb => ?_, ⟨new, ?_, fun b hb w => ?_, fun b hb => ?_, fun q hq b hb => List.mem_append_right _ (S.lk q hq b hb)⟩, ⟨fun b u n e => keepO b u (fun w => n (by rw [hA]; simp [w])) e, fun b hb => ?_, y.live⟩⟩
      · simp only [List.mem_append] at hb ⊢
        have := A2in b
        grind
      · refine List.nodup_append.mpr ⟨ndLRp.1, List.nodup_append.mpr ⟨ndA2, ndLRp.2.1, fun b hb c hc e => ?_⟩, fun b hb c hc e => ?_⟩
        · subst e; exact A2out b hb (by simp [hc])
        · subst e
          rcases List.mem_append.mp hc with w | w
          · exact A2out b w (by simp [hb])
          · exact ndLRp.2.2 b hb b w rfl
      · simp only [List.mem_append] at hb w
        rcases hb with w1 | w1 | w1
        · rcases w with w | w
          · exact ap b w (by simp [w1])
          · exact S.ap b (by rw [hA]; simp [w1]) w
        · rcases w with w | w
          · exact A2out b w1 (by simp [w])
          · exact A2out b w1 (by simp [w])
        · rcases w with w | w
          · exact ap b w (by simp [w1])
          · exact S.ap b (by rw [hA]; simp [w1]) w
      · refine S'.tr b ?_
        simp only [List.mem_append] at hb ⊢
        have := A2in b
        grind
      · rcases List.mem_append.mp hb with w | w
        · exact subst' b (List.mem_append_left _ w)
        · simp only [List.mem_append] at w
          rcases w with w | w | w
          · exact .inl (by rw [hA]; simp [w])
          · exact subst' b (List.mem_append_right _ (A2in b w))
          · exact .inl (by rw [hA]; simp [w])
    rcases q with ⟨o, ps', ρ', e1, e2, q⟩ | ⟨c, a, ps', ρ', e1, e2, q⟩
    · rw [e1]
      intro v H' Ow' A S' y own nd ap
      obtain ⟨Ow2, w1, S2, y2⟩ := back S' y ap e2
      refine q v H' Ow2 A S2 y2 (Own.mono .refl (fun b hb => .inl ?_) _ _ _ (fun _ _ _ e => e) own) nd fun b hb w => ap b hb (List.mem_append_right _ w)
      have := w1 b
      simp only [List.mem_append] at hb this ⊢
      grind
    · rw [e1]
      intro H' Ow' S' y cls d hx
      obtain ⟨Ow2, w1, S2, y2⟩ := back (A := []) S' y (fun _ w => nomatch w) e2
      exact q H' Ow2 S2 y2 cls d hx
theorem call_imp {cl : Cl} {f : Nat} {as : List Ag} {Q : VK} {n : Nat} (hn : as.length = n) (h : tX T W (dcall cl f as) σ H Q) : tAg T W as σ H fun vs H1 => vs.length = n ∧ tX T (fun c d _ H => W c d σ H) (cl f) (vs.map some) H1 Q := by
  obtain ⟨B, Ox, Ow, ρ, S, q⟩ := h
  refine ⟨B, Ox, Ow, ρ, S, ?_⟩
  unfold dcall at q
  cases hl : agV as ρ with
  | stuck => rw [bnd_stk hl] at q; exact q
  | exc c a ρ1 => rw [bnd_exc hl] at q; exact q
  | ok l ρ1 =>
    rw [bnd_ok hl] at q
    intro vs H1 Ow1 S1 y1 r
    obtain ⟨ok, ps, hp, q⟩ := dcall_tail (Pst.step y1 q)
    exact ⟨(agr_len r).trans hn, call_core S1 r ok hp q⟩
/-- f(e, ..) -/
theorem px_call {cl : Cl} {f : Nat} {ps : List Str} {as : List Ag} {es : List Expr} (ok : OkE T W X) (hF : Has T cl X f x ps) (ha : PA X (e :: es) (tAg T W as)) (hn : as.length = ps.length := by rfl) (hg : Gl X x := by rfl) (hdb : (x == ("__debug__" : Str)) = false := by decide)
    (he : starEach (e :: es) X.env = (false, eval e X.env) :: starEach es X.env := by rfl) (hpl : (backTo pos (starEach es X.env)).any (·.1) = false := by rfl) : PE X (.Call (.Name x p) (e :: es) [] pos) (tX T W (dcall cl f as)) := by
  refine ⟨fun pins s σ H Q I h => ?_⟩
  obtain ⟨a, fd, k, hm, hk, hb, hr, F⟩ := hF
  refine wpAny_Call_Name_kw (ld_glob I hg hm ?_ hdb)
  refine PySem.W.callWith_K (h₀ := X.base) I.ok.mod.kin hk (thn (ha.run pos pins s σ H _ I (call_imp hn h)) fun us s1 ⟨vs, H1, I1, r, q⟩ => ⟨I1.kIn, ?_⟩) he hpl
  have hl : us.length = ps.length := by rw [← r.length]; exact q.1
  have bt := hb s1 us I1.kIn (by rw [List.append_nil]; exact hl)
  rw [List.append_nil] at bt
  refine wpAny_call (codeAny_mono (F.run X.A X.stack s1 H1 ⟨us, []⟩ us vs Q (WE W σ) hr ok.gd I1.env0 bt r q) fun res s' hq => ?_)
  cases res with
  | error e => exact passAt ok.tk σ pins H1 s1 e s' I1 hq
  | ok fl =>
    cases fl with
    | ret u => exact I1.after hq
    | next => exact hq.elim
    | brk => exact hq.elim
    | cont => exact hq.elim
theorem px_call0 {cl : Cl} {f : Nat} (ok : OkE T W X) (hF : Has T cl X f x []) (hg : Gl X x := by rfl) (hdb : (x == ("__debug__" : Str)) = false := by decide) : PE X (.Call (.Name x p) [] [] pos) (tX T W (dcall cl f [])) := by
  refine ⟨fun pins s σ H Q I h => ?_⟩
  obtain ⟨a, fd, k, hm, hk, hb, hr, F⟩ := hF
  refine wpAny_Call_Name_kw (ld_glob I hg hm ?_ hdb)
  have q : tX T (fun c d _ H => W c d σ H) (cl f) [] H Q := by
    obtain ⟨B, Ox, Ow, ρ, S, q⟩ := h
    obtain ⟨ok, ps, hp, q⟩ := dcall_tail (as := []) (l := []) q
    exact call_core (as := []) (l := []) (vs := []) S rfl ok hp q
  refine PySem.W.callWith_K0 I.kIn hk ?_
  have bt := hb s [] I.kIn rfl
  refine wpAny_call (codeAny_mono (F.run X.A X.stack s H ⟨[], []⟩ [] [] Q (WE W σ) hr ok.gd I.env0 bt .nil ⟨rfl, q⟩) fun res s' hq => ?_)
  cases res with
  | error e => exact passAt ok.tk σ pins H s e s' I hq
  | ok fl =>
    cases fl with
    | ret u => exact I.after hq
    | next => exact hq.elim
    | brk => exact hq.elim
    | cont => exact hq.elim
end
end PI

/-! PL16: try, and the flags of an error (own work). -/
namespace PI
open PySem PySem.Spec PyProof.Rows L2
/-- of what classes an error of the class at D is -/
structure Kinds (K : PySem.W.Frag) (D : Addr) (cs : List Addr) (bs : List Bool) : Prop where
  exc : ExcC K D
  len : cs.length = bs.length
  is : ∀ (i : Nat) c b, cs[i]? = some c → bs[i]? = some b → PySem.W.kitOne K (.ref D) (.ref c) = some b
/-- def flags(e): return [isinstance(e, C), ..], called where e is held -/
structure FnF (P : Program) (w : World) (K : PySem.W.Frag) (mg : Str → Option Value) (base : Heap) (k : Nat) (f : Addr) (fd : FuncData) (cs : List Addr) : Prop where
  run : ∀ (A : Around) (outer : List PySem.Env) (s : Shared) (H : Hp) (args : Args) (us : List Value) (Q : VK) (p : Addr × Obj) (D : Addr) (bs : List Bool), L2H.RoomH k A → L2H.PinOk outer H s p → Zc (.ref D) none p.2 → (∃ vs, p.2.data = .fields vs) → Kinds K D cs bs → Env0 P w K mg base A outer s H →
    BindsTo s fd args ([("e" : Str)].zip us) → Vals [.ref p.1] us → (∀ q, H q = none → Q (.ref q) (upd H q (.lst (bs.map V.bl)))) → codeAny (model P w) A (.call (.ref f) args) (CR (L2.CX P w) outer P w H s Q fun _ _ _ => False) s
section
variable {X : Cx} {K : PySem.W.Frag}
/-- isinstance(e, C), e pinned -/
theorem isi_pin {D a c : Addr} {oe : Obj} {b : Bool} {pos p p2 p3 : Pos} {x : Str} {i : Nat} (C : ExcC X.K D) (hz : Zc (.ref D) none oe) (hf : ∃ vs, oe.data = .fields vs) (hp : (a, oe) ∈ X.pn) (hk : PySem.W.kitOne X.K (.ref D) (.ref c) = some b) (hg : Gl X "isinstance") (hm : X.mg "isinstance" = none)
    (hN : X.N[i]? = some ("e" : Str)) (hv : Vis X.env.scope "e") (hx : Gl X x) (hxm : X.mg x = some (.ref c)) (hxd : (x == ("__debug__" : Str)) = false := by decide)
    (hs : starEach [.Name "e" p2, .Name x p3] X.env = (false, eval (.Name "e" p2) X.env) :: starEach [.Name x p3] X.env := by rfl) (hs2 : starEach [.Name x p3] X.env = [(false, eval (.Name x p3) X.env)] := by rfl) :
    PE X (.Call (.Name "isinstance" p) [.Name "e" p2, .Name x p3] [] pos) (fun σ H Q => σ[i]? = some (some (.ref a)) ∧ Q (.bl b) H) := by
  have call : CallR X (.builtin "isinstance") (fun xs H Q => xs = [.ref a, .ref c] ∧ Q (.bl b) H) := by
    rintro pins s σ H xs us Q I r ⟨rfl, q⟩
    obtain ⟨u, w, rfl, r1, r2⟩ := vals2 r
    obtain rfl : u = .ref a := r1
    obtain rfl : w = .ref c := r2
    have got := (I.pin (a, oe) (List.mem_append_left _ hp)).1
    obtain ⟨vs, hd⟩ := hf
    have inst : PySem.W.InstAt s.heap a oe D none := by
      cases oe with
      | mk cl di da sl =>
        obtain ⟨z1, z2⟩ := hz
        cases z1
        cases z2
        cases hd
        exact ⟨got, rfl, rfl, trivial⟩
    exact PySem.W.kia_one (PySem.W.handS_kitx_exc C.hg C.hk C.hs C.hd C.ha C.hn C.ht C.hm) I.kIn inst hk (fun z => nomatch z) fun tk => ⟨.bl b, H, I.tok tk, rfl, q⟩
  exact imp (pe_callB call hg hm (by decide +kernel) (pa_cons (pe_var hN hv (by decide) (by decide)) (pa_cons (pe_glob (v := .ref c) hx hxm rfl hxd) pa_nil hs2) hs) (by decide) (by decide) hs (by rw [hs2]; rfl)) fun σ H Q ⟨h, q⟩ => ⟨_, h, rfl, q⟩
/-- a row of them -/
def tFl (i : Nat) (a : Addr) (bs : List Bool) : TA := fun σ H Q => σ[i]? = some (some (.ref a)) ∧ Q (bs.map V.bl) H
theorem fl_nil {i : Nat} {a : Addr} : PA X [] (tFl i a []) := impA pa_nil fun σ H Q h => h.2
theorem fl_cons {i : Nat} {a : Addr} {b : Bool} {bs : List Bool} {e : Expr} {es : List Expr} (h : PE X e (fun σ H Q => σ[i]? = some (some (.ref a)) ∧ Q (.bl b) H)) (hr : PA X es (tFl i a bs)) (hs : starEach (e :: es) X.env = (false, eval e X.env) :: starEach es X.env := by rfl) :
    PA X (e :: es) (tFl i a (b :: bs)) := impA (pa_cons h hr hs) fun σ H Q ⟨h, q⟩ => ⟨h, h, q⟩
theorem fl_ret {i : Nat} {a : Addr} {bs : List Bool} {es : List Expr} {pos p2 : Pos} (hb : bs.length ≤ 5) (h : PA X es (tFl i a bs)) : PSs X [.Return (some (.List es p2)) pos] (fun D σ H => σ[i]? = some (some (.ref a)) ∧ ∀ q, H q = none → D.rt (.ref q) (upd H q (.lst (bs.map V.bl)))) :=
  pss_one (impS (ps_ret (pe_lst h)) fun D σ H ⟨h, q⟩ => ⟨h, by rw [List.length_map, sizeLine_eq]; omega, q⟩)
end
section
variable {P : Program} {w : World} {K : PySem.W.Frag} {mg : Str → Option Value} {base : Heap}
theorem flags_ok {k : Nat} {f : Addr} {fd : FuncData} {x : Str} {params : Arguments} {body : List Stmt} {scope : Scope} {cs : List Addr} (F : FunD K x x params body scope [] [] f fd) (S : FnScope [("e" : Str)] [("e" : Str)] scope)
    (der : ∀ (cdv : Value) (A : Around) (outer : List PySem.Env) (s : Shared) (H : Hp) (p : Addr × Obj) (D : Addr) (bs : List Bool), Zc (.ref D) none p.2 → (∃ vs, p.2.data = .fields vs) → Kinds K D cs bs →
      PSs (L2H.cxH (L2.CX P w) P w K mg base [("e" : Str)] x scope f cdv A outer s H (fun _ _ _ => False) p) body (fun E σ H => σ[0]? = some (some (.ref p.1)) ∧ ∀ q, H q = none → E.rt (.ref q) (upd H q (.lst (bs.map V.bl))))) :
    FnF P w K mg base (k + 1) f fd cs := by
  obtain ⟨oc, od, dV, kV, doc, pm, an, cdv, ct, osl, rfl, lk, hcd, _, _⟩ := F.ex
  refine ⟨fun A outer s H args us Q p D bs room pin zc hf kd e0 bd rel q => ?_⟩
  have kin := e0.mod.kin.keeps fun b o e => (e0.bs b o e).1
  have nol : s.heap.NoLimit := e0.mod.nolimit.keeps fun b o e => (e0.bs b o e).1
  have kinds : ∀ y ∈ [("e" : Str)].zip us, scope.names.lookup y.1 = some .local ∨ (scope.names.lookup y.1 = some .cell ∧ ((cellsFrom (s.heap.objs.size + 1) scope.names []).lookup y.1).isSome = true) := by
    rintro ⟨n, v⟩ hy
    rcases S.par n (List.of_mem_zip hy).1 with c | c
    · exact .inl c
    · exact .inr ⟨c, PySem.W.cellsFrom_some _ _ _ (.inl c)⟩
  refine codeAny_call_function room.depth (kin _ _ lk) rfl S.co S.gen rfl (PySem.W.codeRec_of kin hcd) (bd _ _ _ _ (wpAny_newFunctionEnv_cells S.kind kinds ?_))
  rintro env rfl s1 new
  refine ⟨nol.keeps new.toInCall.keep, codeAny_func ?_⟩
  have I := L2H.inv_startH (CX := L2.CX P w) (f := f) (qual := x) (cd := cdv) (E := fun _ _ _ => False) S pin e0 (vs := [.ref p.1]) rfl rel new
  refine wpAny_mono ((der cdv A outer s H p D bs zc hf kd).run [] s1 _ H { nx := fun _ H' => Q .non H', rt := Q } I ⟨rfl, q⟩) ?_ fun _ _ z => z
  intro fl s2 h
  cases fl with
  | ret u => obtain ⟨v, _, H', J, rv, h⟩ := h; exact ⟨v, H', J.os, J.bare, J.base, J.hok, rv, h⟩
  | next => obtain ⟨_, H', J, h⟩ := h; exact ⟨.non, H', J.os, J.bare, J.base, J.hok, rfl, h⟩
  | brk => obtain ⟨_, _, _, h⟩ := h; exact h.elim
  | cont => obtain ⟨_, _, _, h⟩ := h; exact h.elim
end
section
variable {T : Th} {W : WX} {X : Cx} {σ : L2.St} {H : Hp}
/-- flags(e) in the suite -/
theorem pe_flags {a D f : Addr} {oe : Obj} {pn : List (Addr × Obj)} {k i : Nat} {fd : FuncData} {cs : List Addr} {bs : List Bool} {x n : Str} {p p2 pos : Pos} (F : FnF X.prog X.w X.K X.mg X.base k f fd cs) (hr : L2H.RoomH k X.A) (hg : Gl X x) (hm : X.mg x = some (.ref f)) (hk : PySem.W.keepIn X.K (.ref f) = true)
    (hb : Binds X.K fd [("e" : Str)] []) (zc : Zc (.ref D) none oe) (hf : ∃ vs, oe.data = .fields vs) (kd : Kinds X.K D cs bs) (hN : X.N[i]? = some n) (hv : Vis X.env.scope n) (hdb : (x == ("__debug__" : Str)) = false) (hd : (n == ("__debug__" : Str)) = false) (hcd : (n == ("__classdict__" : Str)) = false)
    (he : starEach [.Name n p2] X.env = (false, eval (.Name n p2) X.env) :: starEach [] X.env := by rfl) :
    PE (X.suite a ((a, oe) :: pn)) (.Call (.Name x p) [.Name n p2] [] pos) (fun σ H Q => σ[i]? = some (some (.ref a)) ∧ ∀ q, H q = none → Q (.ref q) (upd H q (.lst (bs.map V.bl)))) := by
  refine ⟨fun pins s σ H Q I ⟨h, q⟩ => ?_⟩
  refine wpAny_Call_Name_kw (ld_glob (X := X.suite a ((a, oe) :: pn)) I hg hm ?_ hdb)
  have ha : PA (X.suite a ((a, oe) :: pn)) [.Name n p2] (tCons (tVar i) tNil) := pa_cons (pe_var hN hv hd hcd) pa_nil he
  refine PySem.W.callWith_K (h₀ := X.base) I.ok.mod.kin hk (thn (ha.run pos pins s σ H (fun vs H1 => vs = [V.ref a] ∧ H1 = H) I ⟨_, h, rfl, rfl⟩) fun us s1 ⟨vs, H1, I1, r, ev, eH⟩ => ⟨I1.kIn, ?_⟩) he rfl
  subst ev eH
  have got := I1.pin (a, oe) (List.mem_append_left _ List.mem_cons_self)
  have hl : us.length = 1 := by rw [← r.length]; rfl
  have bt := hb s1 us I1.kIn (by rw [List.append_nil]; exact hl)
  rw [List.append_nil] at bt
  have room : L2H.RoomH k (X.suite a ((a, oe) :: pn)).A := ⟨hr.dp, hr.un⟩
  have pin : L2H.PinOk (X.suite a ((a, oe) :: pn)).stack H1 s1 (a, oe) := ⟨got.1, got.2.1, fun hm => (List.mem_cons.mp (I1.stkSub a hm)).elim got.2.2.1 got.2.2.2.1, got.2.2.2.2⟩
  refine wpAny_call (codeAny_mono (F.run _ (X.suite a ((a, oe) :: pn)).stack s1 H1 ⟨us, []⟩ us Q (a, oe) D bs room pin zc hf kd I1.env0 bt r q) fun res s' hq => ?_)
  cases res with
  | error e =>
    obtain ⟨_, _, _, _, _, _, _, _, _, _, _, _, z⟩ := hq
    exact z.elim
  | ok fl =>
    cases fl with
    | ret u => exact I1.after hq
    | next => exact hq.elim
    | brk => exact hq.elim
    | cont => exact hq.elim
/-- what a def that catches leans on -/
structure Catch (T : Th) (X : Cx) (x : Str) (fl : Nat → Option (List Bool)) (base : Value) : Prop where
  ex : ∃ (f : Addr) (fd : FuncData) (cs : List Addr) (k : Nat), FnF X.prog X.w X.K X.mg X.base k f fd cs ∧ X.mg x = some (.ref f) ∧ PySem.W.keepIn X.K (.ref f) = true ∧ Binds X.K fd [("e" : Str)] [] ∧ Room k X.A ∧
    ∀ c bs, fl c = some bs → ∃ D, T.xc c = .ref D ∧ Kinds X.K D cs bs ∧ PySem.W.exmOne X.K (.ref D) base = some true
theorem pst_try {body : List Stmt} {b : M Fl} {fl : Nat → Option (List Bool)} {i : Nat} {x n r : Str} {c : Value} {np p p2 p3 p4 pos pos' : Pos} (ok : Ok T W X) (hs : X.stack = X.env :: X.outer) (hf : X.env.frame = some X.env.locals) (hi : X.N[i]? = some n) (hln : X.env.kindOf n = some .local) (hc : Names X r c) (hC : Catch T X x fl c)
    (hb : ∀ (W : WX) (pn : List (Addr × Obj)) (xe : Value → Shared → Prop), Ok T W (X.tr pn xe) → PSs (X.tr pn xe) body (tSt T W b)) (hg : Gl X x) (hdb : (x == ("__debug__" : Str)) = false) (hd : (n == ("__debug__" : Str)) = false) (hcd : (n == ("__classdict__" : Str)) = false) :
    PS X (.Try body [.ExceptHandler (some (.Name r np)) (some n) [.Return (some (.Call (.Name x p) [.Name n p2] [] p3)) p4] pos'] [] [] pos) (tSt T W (stry i fl b)) := by
  obtain ⟨f, fd, cs, k, F, hm, hk, hbd, room, kinds⟩ := hC.ex
  refine impS (ps_try_as (Wout := W) (tb := fun W => tSt T W b) (ts := fun a cls d D σ H => ∃ Dc bs, cls = .ref Dc ∧ d = none ∧ Kinds X.K Dc cs bs ∧ σ[i]? = some (some (.ref a)) ∧ ∀ q, H q = none → D.rt (.ref q) (upd H q (.lst (bs.map V.bl)))) hs hf ok.nd hi hln hc ok.tk
    (fun W pn xe tk own => hb W pn xe ⟨⟨ok.K, tk, ok.calm, ok.nd, ok.hu, ok.gd⟩, own⟩) fun a oe cls d pn hz hfl => ?_) fun D σ H ⟨B, Ox, Ow, ρ, S, q⟩ => ⟨B, Ox, Ow, ρ, S, ?_⟩
  · refine ⟨fun pins s σ H D I ⟨Dc, bs, e1, e2, kd, h, q⟩ => ?_⟩
    subst e1 e2
    exact (pss_one (ps_ret (pe_flags F (L2H.roomH_of room) hg hm hk hbd hz hfl kd hi (.inl hln) hdb hd hcd))).run pins s σ H D I ⟨h, q⟩
  · unfold stry at q
    cases hr : b ρ with
    | stuck => rw [hr] at q; exact q
    | ok f ρ' => rw [hr] at q; cases f <;> exact q
    | exc c a ρ' =>
      rw [hr] at q
      simp only at q
      by_cases hlen : i < ρ'.length
      case neg => rw [if_neg hlen] at q; exact q.elim
      rw [if_pos hlen] at q
      cases hfl : fl c with
      | none => rw [hfl] at q; exact q.elim
      | some bs =>
        rw [hfl] at q
        obtain ⟨Dc, hx, kd, hm⟩ := kinds c bs hfl
        rintro σ' H' Ow' S' y cls d ⟨rfl, _, rfl⟩
        rw [hx]
        refine ⟨true, hm, fun _ e he => ⟨Dc, bs, rfl, rfl, kd, ?_, fun p hp => ?_⟩, fun z => nomatch z⟩
        · have hl : i < σ'.length := by rw [← S'.len]; exact hlen
          rw [List.getElem?_set_self hl]
        · have isa : IsA T.K H' (Ow' ++ Ox) (bs.map .bool) (bs.map V.bl) := by
            clear kd hfl q
            induction bs with
            | nil => simp only [List.map_nil, IsA]
            | cons b bs ih =>
              simp only [List.map_cons, IsA, Is]
              exact ⟨_, _, rfl, rfl, ih⟩
          have nw := Pst.newL (T := T) (W := W) (B := B) (Ox := Ox) (σ := σ') (Q := fun v H => D.rt v H) S' (fun v H2 Ow2 A s2 y2 own nd ap => q σ' v H2 Ow2 A s2 (y.trans y2) own nd ap) isa hp
          exact nw
end
end PI

/-! PL17: the head: the law's def is called with the script (own work). -/
namespace PI
open PySem PySem.Spec PyProof.Rows L2 PySem.W PySem.Calls
/-- the tracked part at the start: the script, if it is not one of the written objects -/
def scrH (K : PySem.W.Frag) (a : Addr) (o : Obj) (ns : List Int) : Hp := fun b => if b = a ∧ K.lookup a = none then some (.frz o (.lst (ns.map V.int))) else none
theorem scrH_out {K : PySem.W.Frag} {a b : Addr} {o : Obj} {ns : List Int} (h : ¬(b = a ∧ K.lookup a = none)) : scrH K a o ns b = none := if_neg h
theorem scrH_in {K : PySem.W.Frag} {a : Addr} {o : Obj} {ns : List Int} (h : K.lookup a = none) : scrH K a o ns a = some (.frz o (.lst (ns.map V.int))) := if_pos ⟨rfl, h⟩
section
variable {P : Program} {w : World} {K : PySem.W.Frag} {mg mb : Str → Option Value} {k : Nat} {fa a : Addr} {fd : FuncData} {x : Str} {s : Shared} {vs : List Value} {ns : List Int} {T : Th} {cl : List SV → Res OD}
theorem entry_st (hs : ∀ ps, St1 K ⟨[], []⟩ [] [.scr ns] [some (.ref a)] (scrH K a { cls := .type "list", data := .seq vs.toArray } ns) [] → ps = [SV.scr ns] → True) : True := trivial
/-- the law's run: cl is its meaning -/
theorem entry (hT : T.K = K) (kin : K.In s.heap) (glob : s.heap.Ns mainGlobals mg) (blt : s.heap.Ns builtinsNs mb) (bm : ∀ x : Str, x ≠ "__name__" → mb x = bootBuiltins x) (nol : s.heap.NoLimit) (gens : s.gens = #[])
    (ha : s.heap.get? a = some { cls := .type "list", data := .seq vs.toArray }) (hi : IntsAre vs ns) (hz : ns.length ≤ 63) (room : Room k callerA)
    (F : ∀ base : Heap, K.In base → base.Ns mainGlobals mg → FnG P w K mg base k fa fd [x] (fun us H Q E => us.length = 1 ∧ tX T (fun c d _ H => E c d H) cl (us.map some) H Q)) (bind : ∀ (s : Shared) (u : Value), BindsTo s fd ⟨[u], []⟩ [(x, u)])
    (yes : ∃ ps', cl [.scr ns] = .ok (.frz (.bool true)) ps') :
    codeAny (model P w) callerA (.call (.ref fa) ⟨[.ref a], []⟩) (fun r s' => r = .ok (.ret (.bool true)) ∧ OldK s.heap s'.heap ∧ s'.os = s.os ∧ AllBare s'.gens) s := by
  have rel : Vals (ns.map V.int) vs := vals_ints hi
  have cases : ∀ b, scrH K a { cls := .type "list", data := .seq vs.toArray } ns b = none ∨ (b = a ∧ K.lookup a = none ∧ scrH K a { cls := .type "list", data := .seq vs.toArray } ns b = some (.frz { cls := .type "list", data := .seq vs.toArray } (.lst (ns.map V.int)))) := fun b => by
    by_cases h : b = a ∧ K.lookup a = none
    · obtain ⟨rfl, h⟩ := h; exact .inr ⟨rfl, h, scrH_in h⟩
    · exact .inl (scrH_out h)
  revert cases
  generalize hH : scrH K a { cls := .type "list", data := .seq vs.toArray } ns = H
  intro cases
  have hok : HOk P w H s.heap := fun b u e => by
    rcases cases b with z | ⟨rfl, _, z⟩
    · rw [z] at e; exact nomatch e
    · rw [z] at e
      cases e
      exact ⟨ha, by rw [List.length_map, sizeLine_eq]; omega, vs, _, rel, ha⟩
  have here : ∀ {b : Addr} {ob : Obj}, s.heap.get? b = some ob → (∀ vs n, ob.data ≠ .seq vs n) → H b = none := fun {b ob} e d => by
    rcases cases b with z | ⟨rfl, _, _⟩
    · exact z
    · rw [ha] at e; cases e; exact absurd rfl (d _ _)
  have nsH : ∀ {b : Addr} {m : Str → Option Value}, s.heap.Ns b m → (hidT s.heap H).Ns b m := fun {b m} ⟨ob, es, ep, e, d, r⟩ => ⟨ob, es, ep, hidT_get e (here e fun vs n z => by rw [d] at z; exact nomatch z), d, r⟩
  have kinH : K.In (hidT s.heap H) := fun b ob e => hidT_get (kin b ob e) (by
    rcases cases b with z | ⟨rfl, q, _⟩
    · exact z
    · rw [q] at e; exact nomatch e)
  have mod : Mod K mg (hidT s.heap H) := ⟨kinH, nsH glob, ⟨mb, nsH blt, bm⟩, by obtain ⟨mc, n1, n2⟩ := nol; exact ⟨mc, nsH n1, n2⟩⟩
  have env : Env0 P w K mg (hidT s.heap H) callerA [] s H := ⟨rfl, mod, fun b ob e => of_hidT e, Nat.le_of_eq (hidT_size _ _), trivial, (fun b z => nomatch z), hok, .of_eq gens⟩
  have st : St1 T.K ⟨[], []⟩ [] [.scr ns] [some (.ref a)] H [] := by
    refine ⟨⟨_, [], [], [], rfl, rfl, ⟨rfl, a, rfl, ?_⟩, rfl, rfl⟩, List.nodup_nil, (fun _ z => nomatch z), (fun _ z => nomatch z), fun _ z => nomatch z⟩
    rw [hT]
    cases q : K.lookup a with
    | none =>
      left
      refine ⟨fun z => (List.mem_append.mp z).elim (fun z => nomatch z) (fun z => nomatch z), { cls := .type "list", data := .seq vs.toArray }, ?_⟩
      rw [← hH]; exact scrH_in q
    | some ob =>
      right
      have e := kin a ob q
      rw [ha] at e
      cases e
      exact .inr ⟨_, vs.toArray, _, q, rfl, rfl, rfl, by rw [List.size_toArray, ← rel.length, List.length_map, sizeLine_eq]; omega, by simpa using rel⟩
  obtain ⟨ps', hy⟩ := yes
  refine codeAny_mono ((F _ kinH (nsH glob)).run callerA [] s H ⟨[.ref a], []⟩ [.ref a] [.ref a] (fun v _ => v = .bl true) (fun _ _ _ => False) room rfl env (bind s (.ref a)) (.cons rfl .nil) ⟨rfl, ⟨[], []⟩, [], [], [.scr ns], st, ?_⟩) fun r s' h => ?_
  · rw [hy]
    intro v H' Ow' A _ _ own _ _
    simp only [Own, Is] at own
    exact own.2
  · cases r with
    | error e =>
      obtain ⟨_, _, _, _, _, _, _, _, _, _, _, _, z⟩ := h
      exact z.elim
    | ok fl =>
      cases fl with
      | ret u =>
        obtain ⟨v, H', os, bare, un, hok', rv, rfl⟩ := h
        obtain rfl : u = Value.bool true := rv
        refine ⟨rfl, OldK.of_keep fun b ob e => ?_, os, bare⟩
        rcases cases b with z | ⟨_, _, z⟩
        · exact un.keep b ob e z (fun z => nomatch z) (fun z => nomatch z)
        · have z2 := un.frzs b _ _ z
          rw [(hok b _ z).1] at e
          cases e
          exact (hok' b _ z2).1
      | next => exact h.elim
      | brk => exact h.elim
      | cont => exact h.elim
end
/-- what the end of the top must say: facts, defs, and a test of one's own -/
def hookX (n : Nat) (fa : List He.Fa) (fn : List He.DefD) (xx : PySem.W.Frag → Bool) : PySem.W.Hook where
  α := Bool × He.AlD
  obs := fun s => (xx (He.frG s.heap.get? (He.asD s.heap.get? n)), He.obsDG n fa fn s.heap.get?)
  val := fun _ => (true, He.valD fn)
  says := fun _ h => ∃ K : PySem.W.Frag, K.In h ∧ He.SaysD fa fn K ∧ xx K = true
  of := fun _ _ e => ⟨_, He.frG_in, congrArg Prod.snd e, congrArg Prod.fst e⟩
  keeps := fun _ _ _ ⟨K, hK, c⟩ k => ⟨K, PySem.W.Frag.In.keeps hK k, c⟩
def obsX (n : Nat) (fa : List He.Fa) (fn : List He.DefD) (xx : PySem.W.Frag → Bool) (g : Addr → Option Obj) : Bool × He.AlD := (xx (He.frG g (He.asD g n)), He.obsDG n fa fn g)
theorem obsX_eq {n : Nat} {fa : List He.Fa} {fn : List He.DefD} {xx : PySem.W.Frag → Bool} {g : Addr → Option Obj} {s : Shared} (h : ∀ a, g a = s.heap.get? a) : obsX n fa fn xx g = (hookX n fa fn xx).obs s := by
  have e : g = s.heap.get? := funext h
  rw [e]; rfl
/-- ExcC by a test -/
def excCB (K : PySem.W.Frag) (D : Addr) : Bool := He.eqO (PySem.W.findIn K (.ref D) "__getattribute__") (some (some (.builtin "BaseException.__getattribute__"))) && (He.eqO (PySem.W.findIn K (.ref D) "__getattr__") (some none) && (decide (PySem.W.subIn K (.ref D) (.type "BaseException") = some true) &&
  (PySem.W.hasDictIn K D && (He.eqO (PySem.W.findIn K (.ref D) "__class__") (some (some (.builtin "object.__class__"))) && (He.eqO (PySem.W.specialIn K (.builtin "object.__class__") "__get__") (some (some (.builtin "getset_descriptor.__get__"))) &&
  (decide (PySem.W.takesIn K (.builtin "object.__class__") = some true) && decide (PySem.W.mroIn K D (.type "object") = some true)))))))
theorem excCB_ok {K : PySem.W.Frag} {D : Addr} (h : excCB K D = true) : ExcC K D := by
  simp only [excCB, Bool.and_eq_true, decide_eq_true_eq] at h
  obtain ⟨h1, h2, h3, h4, h5, h6, h7, h8⟩ := h
  exact ⟨He.eqO_ok h1, He.eqO_ok h2, h3, h4, He.eqO_ok h5, He.eqO_ok h6, h7, h8⟩
/-- classes by name: the errors that are raised, and what flags asks of them -/
def kindsB (K : PySem.W.Frag) (x : Str) (cs : List Str) (bs : List Bool) : Bool := excCB K (He.ga K x) && (decide (cs.length = bs.length) && (cs.zip bs).all fun q => decide (PySem.W.kitOne K (.ref (He.ga K x)) (.ref (He.ga K q.1)) = some q.2))
theorem kindsB_ok {K : PySem.W.Frag} {x : Str} {cs : List Str} {bs : List Bool} (h : kindsB K x cs bs = true) : Kinds K (He.ga K x) (cs.map (He.ga K)) bs := by
  simp only [kindsB, Bool.and_eq_true, decide_eq_true_eq, List.all_eq_true] at h
  obtain ⟨h1, h2, h3⟩ := h
  refine ⟨excCB_ok h1, by rw [List.length_map]; exact h2, fun i c b e1 e2 => ?_⟩
  rw [List.getElem?_map] at e1
  obtain ⟨y, e3, rfl⟩ := Option.map_eq_some_iff.mp e1
  have : (cs.zip bs)[i]? = some (y, b) := by rw [List.getElem?_zip_eq_some]; exact ⟨e3, e2⟩
  exact h3 _ (List.mem_of_getElem? this)
/-- the walk of the law's call from the law's meaning -/
theorem walk_in {l : PySem.W.OpenLaw} {k : Nat} {q : Program} {loose : List Str} {XP : (Str → Option Value) → Heap → Prop} {YP : World → Heap → Prop} {d : DefRec} {x : Str} {cl : List SV → Res OD}
    (hn : l.most = some 63) (hdf : d.params.defaults = []) (room : Room k callerA) (yes : ∀ ns : List Int, ns.length ≤ 63 → ∃ ps', cl [.scr ns] = .ok (.frz (.bool true)) ps')
    (F : ∀ (w : World) (mg : Str → Option Value) (fa : Addr) (h : Heap), YP w h → h.Ns mainGlobals mg → mg d.name = some (.ref fa) →
      ∃ (T : Th) (fd : FuncData), T.K.In h ∧ (∀ (s : Shared) (u : Value), BindsTo s fd ⟨[u], []⟩ [(x, u)]) ∧
        ∀ base : Heap, T.K.In base → base.Ns mainGlobals mg → FnG l.prog w T.K mg base k fa fd [x] (fun us H Q E => us.length = 1 ∧ tX T (fun c d _ H => E c d H) cl (us.map some) H Q)) :
    PySem.W.WalkO q loose XP YP l.row.toRowW d [] (fun f vs => PySem.call f vs) := by
  refine Att.attach_call hn hdf fun w s₀ s₁ mg mb fa o pm cd doc a vs ns G Y ho hd hcd hmg hobj hints hlen hg => ?_
  obtain ⟨T, fd, kin, bind, hF⟩ := F w mg fa _ Y G.T.g hmg
  exact entry rfl kin G.T.g G.T.b G.T.builtins G.T.nolimit hg hobj hints hlen room hF bind (yes ns hlen)
end PI

/-! PQ1: running the meanings by simp (own work). -/
namespace PI
open PySem
section
variable {α β : Type}
/-- the answers' type; that it names t keeps simp out of t -/
abbrev Res.on {γ : Type} (α : Type) (t : γ) : Type := Res α
def Res.bd (r : Res α) (f : α → M β) : Res.on β f := match r with
  | .ok a ρ => f a ρ
  | .exc c a ρ => .exc c a ρ
  | .stuck => .stuck
@[simp] theorem bd_ok {a : α} {ρ : Env} {f : α → M β} : (Res.ok a ρ).bd f = f a ρ := (rfl)
@[simp] theorem bd_exc {c : Nat} {a : Option PyData} {ρ : Env} {f : α → M β} : (Res.exc c a ρ : Res α).bd f = .exc c a ρ := (rfl)
@[simp] theorem bd_stuck {f : α → M β} : (Res.stuck : Res α).bd f = .stuck := (rfl)
theorem bd_bd {γ : Type} {r : Res α} {f : α → M β} {g : β → M γ} : (r.bd f).bd g = r.bd fun a ρ => (f a ρ).bd g := by cases r <;> rfl
def Res.mp (g : α → β) (r : Res α) : Res β := match r with
  | .ok a ρ => .ok (g a) ρ
  | .exc c a ρ => .exc c a ρ
  | .stuck => .stuck
@[simp] theorem mp_ok {a : α} {ρ : Env} {g : α → β} : (Res.ok a ρ).mp g = .ok (g a) ρ := (rfl)
@[simp] theorem mp_exc {c : Nat} {a : Option PyData} {ρ : Env} {g : α → β} : (Res.exc c a ρ : Res α).mp g = .exc c a ρ := (rfl)
@[simp] theorem mp_stuck {g : α → β} : (Res.stuck : Res α).mp g = .stuck := (rfl)
@[simp ↓ 500] theorem bnd_ap {x : M α} {f : α → M β} {ρ : Env} : bnd x f ρ = (x ρ).bd f := by unfold bnd Res.bd; cases x ρ <;> rfl
@[simp ↓ 500] theorem ret_ap {a : α} {ρ : Env} : ret a ρ = .ok a ρ := (rfl)
@[simp] theorem lifSome {a : α} {ρ : Env} : lif (some a) ρ = .ok a ρ := (rfl)
@[simp] theorem lifNone {ρ : Env} : (lif none : M α) ρ = .stuck := (rfl)
/-- a test -/
def brM (b : Bool) (x y : M α) (ρ : Env) : Res.on α (x, y, ρ) := if b then x ρ else y ρ
theorem bnd_br {p : M Bool} {x y : M α} {ρ : Env} : bnd p (fun b => if b then x else y) ρ = (p ρ).bd fun b => brM b x y := by
  rw [bnd_ap]
  cases p ρ with
  | ok b r => cases b <;> rfl
  | _ => rfl
@[simp] theorem brM_t {x y : M α} {ρ : Env} : brM true x y ρ = x ρ := (rfl)
@[simp] theorem brM_f {x y : M α} {ρ : Env} : brM false x y ρ = y ρ := (rfl)
end
section
variable {x y z : M PyData} {u v : M OD} {p q : M Bool} {s t : M Fl} {ρ : Env} {i : Nat} {d : PyData} {o : OD}
@[simp ↓ 500] theorem fz_ap : fz u ρ = (u ρ).mp OD.er := by unfold fz Res.mp; cases u ρ <;> rfl
@[simp ↓ 500] theorem dc_ap : dc d ρ = .ok (.frz d) ρ := (rfl)
@[simp ↓ 500] theorem d1_ap {b : B1} : d1 b x ρ = (x ρ).bd fun a => lif (b1 b a) := bnd_ap
@[simp ↓ 500] theorem d2_ap {b : B2} : d2 b x y ρ = (x ρ).bd fun a => bnd y fun c => lif (b2 b a c) := bnd_ap
@[simp ↓ 500] theorem dL_ap {g : PyData → PyData → M OD} : dL i y g ρ = (cv i ρ).bd fun _ => bnd y fun b => bnd (cv i) fun a => g a b := bnd_ap
@[simp ↓ 500] theorem d2L_ap {b : B2} : d2L b i y ρ = (cv i ρ).bd fun _ => bnd y fun c => bnd (cv i) fun a => lif (b2 b a c) := bnd_ap
def asB1 : PyData → M Bool
  | .bool b => ret b
  | _ => fun _ => .stuck
@[simp] theorem asB1_b {b : Bool} : asB1 (.bool b) ρ = .ok b ρ := (rfl)
@[simp ↓ 500] theorem qof_ap : qof u ρ = (u ρ).bd fun o => asB1 o.er := by
  unfold qof asB
  rw [bnd_ap, fz_ap]
  cases u ρ with
  | ok a r => cases h : a.er <;> simp [asB1, h]
  | _ => rfl
@[simp ↓ 500] theorem dand_ap : dand u v ρ = (qof u ρ).bd fun b => brM b v (ret (.frz (.bool false))) := bnd_br
@[simp ↓ 500] theorem dor_ap : dor u v ρ = (qof u ρ).bd fun b => brM b (ret (.frz (.bool true))) v := bnd_br
@[simp ↓ 500] theorem dite_ap : dite p u v ρ = (p ρ).bd fun b => brM b u v := bnd_br
@[simp ↓ 500] theorem dnot_ap : dnot u ρ = (qof u ρ).bd fun b => ret (.frz (.bool (!b))) := bnd_ap
@[simp ↓ 500] theorem qand_ap : qand p q ρ = (p ρ).bd fun b => brM b q (ret false) := bnd_br
@[simp ↓ 500] theorem qor_ap : qor p q ρ = (p ρ).bd fun b => brM b (ret true) q := bnd_br
@[simp ↓ 500] theorem qnot_ap : qnot p ρ = (p ρ).bd fun b => ret (!b) := bnd_ap
@[simp ↓ 500] theorem sife_ap : sife p s t ρ = (p ρ).bd fun b => brM b s t := bnd_br
@[simp ↓ 500] theorem dch_ap {o p : B2} : dch o p x y z ρ = (x ρ).bd fun a => bnd y fun b => bnd (qof (lif (b2 o a b))) fun k => brM k (bnd z fun c => lif (b2 p b c)) (ret (.frz (.bool false))) := by
  show bnd x _ ρ = _
  rw [bnd_ap]
  congr 1
  funext a ρ
  show bnd y _ ρ = bnd y _ ρ
  rw [bnd_ap, bnd_ap]
  congr 1
  funext b ρ
  rw [bnd_br, bnd_ap]
@[simp ↓ 500] theorem didx_ap : didx x y ρ = (x ρ).bd fun a => bnd y fun b => bnd (lif (idxD a b)) fun r => ret (.frz r) := bnd_ap
@[simp ↓ 500] theorem didxL_ap : didxL i y ρ = (cv i ρ).bd fun _ => bnd y fun b => bnd (cv i) fun a => bnd (lif (idxD a b)) fun r => ret (.frz r) := bnd_ap
@[simp ↓ 500] theorem dsli_ap {l h : Option (M PyData)} : dsli x l h ρ = (x ρ).bd fun a => bnd (dpart l) fun l => bnd (dpart h) fun h => lif (sliD a l h) := bnd_ap
@[simp ↓ 500] theorem dpart_none : dpart none ρ = .ok none ρ := (rfl)
def dpI : PyData → M (Option Int)
  | .int i => if smallI i then ret (some i) else fun _ => .stuck
  | _ => fun _ => .stuck
@[simp ↓ 500] theorem dpart_some : dpart (some x) ρ = (x ρ).bd dpI := by
  show bnd x _ ρ = _
  rw [bnd_ap]
  cases x ρ with
  | ok a r => cases a <;> rfl
  | _ => rfl
theorem dpI_ok {i : Int} (h : smallI i = true) : dpI (.int i) ρ = .ok (some i) ρ := by show (if smallI i = true then ret (some i) else fun _ => Res.stuck) ρ = _; rw [if_pos h]; rfl
@[simp ↓ 500] theorem dseq_nil : dseq [] ρ = .ok [] ρ := (rfl)
@[simp ↓ 500] theorem dseq_c {r : List (Bool × M PyData)} : dseq ((false, x) :: r) ρ = (x ρ).bd fun a => bnd (dseq r) fun t => ret (a :: t) := by
  show bnd x _ ρ = _
  rw [bnd_ap]
  cases x ρ with
  | ok a r => simp
  | _ => rfl
@[simp ↓ 500] theorem dseq_s {r : List (Bool × M PyData)} : dseq ((true, x) :: r) ρ = (x ρ).bd fun a => bnd (lif (seqD a)) fun l => bnd (dseq r) fun t => ret (l ++ t) := by
  show bnd x _ ρ = _
  rw [bnd_ap]
  cases x ρ <;> rfl
@[simp ↓ 500] theorem dtup_ap {l : List (Bool × M PyData)} : dtup l ρ = (dseq l ρ).bd fun xs => bnd (chk (decide (xs.length ≤ lim))) fun _ => ret (.frz (.tuple xs)) := bnd_ap
@[simp ↓ 500] theorem dlst_ap {l : List (Bool × M PyData)} : dlst l ρ = (dseq l ρ).bd fun xs => bnd (chk (decide (xs.length ≤ lim))) fun _ => ret (fl xs) := bnd_ap
@[simp] theorem chk_t : chk true ρ = .ok () ρ := (rfl)
@[simp ↓ 500] theorem dd0_ap : dd0 ρ = .ok (.dct []) ρ := (rfl)
/-! slots -/
@[simp ↓ 500] theorem dv_ap : dv i ρ = match ρ[i]? with
  | some (.val d) => .ok (.frz d) ρ
  | _ => .stuck := rfl
@[simp ↓ 500] theorem cv_ap : cv i ρ = match (ρ[i]?).bind svD with
  | some d => .ok d ρ
  | none => .stuck := rfl
@[simp ↓ 500] theorem rv_ap : rv i ρ = match ρ[i]? with
  | some (.val d) => .ok d ρ
  | some (.lck _ o) => if o.flat then .ok o.er ρ else .stuck
  | _ => .stuck := rfl
@[simp] theorem svD_val : svD (.val d) = some d := (rfl)
@[simp] theorem svD_own : svD (.own o) = if o.flat then some o.er else none := (rfl)
@[simp] theorem svD_bor {k : Nat} : svD (.bor k o) = if o.flat then some o.er else none := (rfl)
@[simp] theorem svD_lck {k : Nat} : svD (.lck k o) = if o.flat then some o.er else none := (rfl)
@[simp] theorem odS_f : odS false o = .val o.er := (rfl)
@[simp] theorem odS_frz {b : Bool} : odS b (.frz d) = .val d := by cases b <;> rfl
@[simp] theorem odS_lst {xs : List OD} : odS true (.lst xs) = .own (.lst xs) := (rfl)
@[simp] theorem odS_dct {xs : List (PyData × OD)} : odS true (.dct xs) = .own (.dct xs) := (rfl)
def okS : Option SV → Bool
  | some (.bor _ _) => false
  | some (.lck _ _) => false
  | some _ => true
  | none => false
@[simp] theorem okset_eq : okset ρ i = okS ρ[i]? := (rfl)
@[simp] theorem okS_val : okS (some (.val d)) = true := (rfl)
@[simp] theorem okS_own : okS (some (.own o)) = true := (rfl)
@[simp] theorem okS_unset : okS (some .unset) = true := (rfl)
@[simp] theorem okS_exn {c : Nat} {a : Option PyData} : okS (some (.exn c a)) = true := (rfl)
@[simp] theorem okS_scr {ns : List Int} : okS (some (.scr ns)) = true := (rfl)
@[simp] theorem erFrz : (OD.frz d).er = d := (rfl)
theorem ersMap : ∀ xs : List PyData, ers (xs.map OD.frz) = xs
  | [] => rfl
  | x :: xs => by show x :: ers (xs.map OD.frz) = _; rw [ersMap xs]
@[simp] theorem erFl {xs : List PyData} : (fl xs).er = .list xs := by unfold fl; rw [OD.er, ersMap]
@[simp] theorem flatFl {xs : List PyData} : (fl xs).flat = true := by
  show (xs.map OD.frz).all OD.isFrz = true
  rw [List.all_map]
  exact List.all_eq_true.mpr fun _ _ => rfl
@[simp] theorem flatFrz : (OD.frz d).flat = true := (rfl)
@[simp] theorem isCtr_fl {xs : List PyData} : isCtr (fl xs) = true := (rfl)
@[simp] theorem isLst_fl {xs : List PyData} : isLst (fl xs) = true := (rfl)
@[simp] theorem odS_fl {xs : List PyData} : odS true (fl xs) = .own (fl xs) := (rfl)
/-! statements -/
@[simp ↓ 500] theorem seqM_ap : seqM s t ρ = (s ρ).bd fun f => match f with
  | .nx => t
  | f => ret f := bnd_ap
@[simp ↓ 500] theorem blk_nil : blk [] ρ = .ok .nx ρ := (rfl)
@[simp ↓ 500] theorem blk_one : blk [s] ρ = s ρ := (rfl)
@[simp ↓ 500] theorem blk_cons {r : List (M Fl)} : blk (s :: t :: r) ρ = (s ρ).bd fun f => match f with
  | .nx => blk (t :: r)
  | f => ret f := bnd_ap
@[simp ↓ 500] theorem putS_ap {w : SV} : putS i w ρ = if okset ρ i then .ok () (ρ.set i w) else .stuck := (rfl)
@[simp ↓ 500] theorem sasg_ap {own : Bool} : sasg i own u ρ = (u ρ).bd fun o => bnd (putS i (odS own o)) fun _ => ret .nx := bnd_ap
@[simp ↓ 500] theorem sasgT_ap {t : Tg} : sasgT t x ρ = (x ρ).bd fun d => bnd (gT t d) fun _ => ret .nx := bnd_ap
@[simp ↓ 500] theorem sex_ap : sex u ρ = (u ρ).bd fun _ => ret .nx := bnd_ap
@[simp ↓ 500] theorem sret_ap : sret u ρ = (u ρ).bd fun o => ret (.rt o) := bnd_ap
@[simp ↓ 500] theorem sretv_ap : sretv i ρ = match ρ[i]? with
  | some (.val d) => .ok (.rt (.frz d)) ρ
  | some (.own o) => .ok (.rt o) (ρ.set i .unset)
  | _ => .stuck := rfl
@[simp ↓ 500] theorem sretN_ap : sretN ρ = .ok (.rt (.frz .none)) ρ := (rfl)
@[simp ↓ 500] theorem sraise_ap {c : Nat} : sraise c ρ = .exc c none ρ := (rfl)
@[simp ↓ 500] theorem sfrz_ap : sfrz i ρ = match ρ[i]? with
  | some (.own o) => .ok .nx (ρ.set i (.val o.er))
  | some (.val _) => .ok .nx ρ
  | some .unset => .ok .nx ρ
  | _ => .stuck := rfl
@[simp ↓ 500] theorem sfor_ap {sr : Src} {t : Tg} : sfor sr t s ρ = (evS sr ρ).bd fun l => forT (gT t) s l := bnd_ap
@[simp ↓ 500] theorem swhile_ap : swhile p s ρ = whileT p s lim ρ := (rfl)
@[simp ↓ 500] theorem isC_ap {f : OD → Bool} : isC i f ρ = match ρ[i]? with
  | some (.own o) => if f o then .ok () ρ else .stuck
  | some (.bor _ o) => if f o then .ok () ρ else .stuck
  | _ => .stuck := rfl
@[simp ↓ 500] theorem modS_ap {f : OD → Option OD} : modS i f ρ = match (ρ[i]?).bind (svMod f) with
  | some s => .ok () (ρ.set i s)
  | none => .stuck := rfl
@[simp] theorem isCtr_frz : isCtr (.frz d) = false := (rfl)
@[simp] theorem isCtr_lst {xs : List OD} : isCtr (.lst xs) = true := (rfl)
@[simp] theorem isCtr_dct {xs : List (PyData × OD)} : isCtr (.dct xs) = true := (rfl)
@[simp] theorem isLst_lst {xs : List OD} : isLst (.lst xs) = true := (rfl)
@[simp] theorem isDct_dct {xs : List (PyData × OD)} : isDct (.dct xs) = true := (rfl)
@[simp ↓ 500] theorem sapp_ap : sapp i x ρ = (isC i isLst ρ).bd fun _ => bnd x fun d => bnd (modS i (appO d)) fun _ => ret .nx := bnd_ap
@[simp ↓ 500] theorem sseti_ap : sseti i y x ρ = (x ρ).bd fun d => bnd (isC i isCtr) fun _ => bnd y fun k => bnd (modS i (setO k d)) fun _ => ret .nx := bnd_ap
@[simp ↓ 500] theorem sdflt_ap : sdflt i y x ρ = (isC i isDct ρ).bd fun _ => bnd y fun k => bnd x fun d => bnd (modS i (dfltO k d)) fun _ => ret .nx := bnd_ap
theorem appO_fl {xs : List PyData} (h : xs.length < lim) : appO d (fl xs) = some (fl (xs ++ [d])) := by
  show (if (xs.map OD.frz).length < lim then _ else _) = _
  rw [List.length_map, if_pos h]
  unfold fl
  rw [List.map_append]
  rfl
@[simp ↓ 500] theorem dsq_nil : dsq [] ρ = .ok [] ρ := (rfl)
@[simp ↓ 500] theorem dsq_cons {r : List (M OD)} : dsq (u :: r) ρ = (u ρ).bd fun o => bnd (dsq r) fun os => ret (o :: os) := bnd_ap
@[simp ↓ 500] theorem putL_nil : putL [] [] ρ = .ok () ρ := (rfl)
@[simp ↓ 500] theorem putL_cons {a : Nat × Bool} {ts : List (Nat × Bool)} {os : List OD} : putL (a :: ts) (o :: os) ρ = (putS a.1 (odS a.2 o) ρ).bd fun _ => putL ts os := bnd_ap
@[simp ↓ 500] theorem spar_ap {ts : List (Nat × Bool)} {ms : List (M OD)} : spar ts ms ρ = (dsq ms ρ).bd fun os => bnd (putL ts os) fun _ => ret .nx := bnd_ap
/-! walks -/
@[simp ↓ 500] theorem evS_of : evS (.of x) ρ = (x ρ).bd fun a => lif (itemsD a) := bnd_ap
def rngR : PyData → PyData → M (List PyData)
  | .int m, .int n => if smallI m && (smallI n && decide (n - m ≤ lim)) then ret (upto m n) else fun _ => .stuck
  | _, _ => fun _ => .stuck
@[simp ↓ 500] theorem evS_r1 : evS (.rng1 x) ρ = (x ρ).bd fun a => rngR (.int 0) a := by
  show bnd x _ ρ = _
  rw [bnd_ap]
  cases x ρ with
  | ok a r => cases a with
    | int n =>
      show (if smallI n && decide (n ≤ lim) then ret (upto 0 n) else fun _ => .stuck) r = (if smallI 0 && (smallI n && decide (n - 0 ≤ lim)) then ret (upto 0 n) else fun _ => .stuck) r
      rw [Int.sub_zero]
      rfl
    | _ => rfl
  | _ => rfl
@[simp ↓ 500] theorem evS_r2 : evS (.rng2 x y) ρ = (x ρ).bd fun a => bnd y fun b => rngR a b := by
  show bnd x _ ρ = _
  rw [bnd_ap]
  cases x ρ with
  | ok a r =>
    show bnd y _ r = bnd y _ r
    rw [bnd_ap, bnd_ap]
    cases y r with
    | ok b r => cases a <;> cases b <;> rfl
    | _ => rfl
  | _ => rfl
theorem rngR_ok {m n : Int} (h : (smallI m && (smallI n && decide (n - m ≤ lim))) = true) : rngR (.int m) (.int n) ρ = .ok (upto m n) ρ := by show (if _ then _ else _ : M _) ρ = _; rw [if_pos h]; rfl
@[simp ↓ 500] theorem evS_enm : evS (.enm x) ρ = (x ρ).bd fun a => bnd (lif (lstD a)) fun l => ret (enumD 0 l) := bnd_ap
@[simp ↓ 500] theorem evS_zp : evS (.zp x y) ρ = (x ρ).bd fun a => bnd y fun b => bnd (lif (lstD a)) fun l => bnd (lif (lstD b)) fun m => ret (zipD l m) := bnd_ap
@[simp ↓ 500] theorem evS_scr : evS (.scr i) ρ = match ρ[i]? with
  | some (.scr ns) => .ok (ns.map .int) ρ
  | _ => .stuck := rfl
@[simp ↓ 500] theorem gT_nm : gT (.nm i) d ρ = if okset ρ i then .ok () (ρ.set i (.val d)) else .stuck := by
  show (match bindT (.nm i) d ρ with
    | some ρ' => Res.ok () ρ'
    | none => .stuck) = _
  rw [bindT]
  by_cases h : okset ρ i = true
  · rw [if_pos h, if_pos h]
  · rw [if_neg h, if_neg h]
/-! calls -/
@[simp ↓ 500] theorem hasS_ap : hasS i ρ = match ρ[i]? with
  | some (.unset) => .stuck
  | some (.exn _ _) => .stuck
  | some _ => .ok () ρ
  | none => .stuck := rfl
@[simp ↓ 500] theorem agV_nil : agV [] ρ = .ok [] ρ := (rfl)
@[simp ↓ 500] theorem agV_v {r : List Ag} : agV (.v u :: r) ρ = (fz u ρ).bd fun a => bnd (agV r) fun l => ret (some a :: l) := bnd_ap
@[simp ↓ 500] theorem agV_r {r : List Ag} : agV (.r i :: r) ρ = (hasS i ρ).bd fun _ => bnd (agV r) fun l => ret (none :: l) := bnd_ap
@[simp ↓ 500] theorem agV_l {r : List Ag} : agV (.l i :: r) ρ = (hasS i ρ).bd fun _ => bnd (agV r) fun l => ret (none :: l) := bnd_ap
/-- behind a call -/
def callE (as : List Ag) (ρ : Env) (r : Res OD) : Res.on OD (as, ρ) := match r with
  | .ok o ps' => (match agB as ps' ρ with
    | some ρ' => .ok o ρ'
    | none => .stuck)
  | .exc c a ps' => (match agB as ps' ρ with
    | some ρ' => .exc c a ρ'
    | none => .stuck)
  | .stuck => .stuck
@[simp] theorem callE_ok {as : List Ag} {ps : List SV} : callE as ρ (.ok o ps) = match agB as ps ρ with
    | some ρ' => .ok o ρ'
    | none => .stuck := rfl
@[simp] theorem callE_exc {as : List Ag} {ps : List SV} {c : Nat} {a : Option PyData} : callE as ρ (.exc c a ps) = match agB as ps ρ with
    | some ρ' => .exc c a ρ'
    | none => .stuck := rfl
def callB (cl : Cl) (f : Nat) (as : List Ag) (l : List (Option PyData)) : M OD := fun ρ => match agP ρ 0 0 as l with
  | none => .stuck
  | some ps => callE as ρ (cl f ps)
@[simp ↓ 500] theorem callB_ap {cl : Cl} {f : Nat} {as : List Ag} {l : List (Option PyData)} : callB cl f as l ρ = match agP ρ 0 0 as l with
  | none => .stuck
  | some ps => callE as ρ (cl f ps) := rfl
@[simp ↓ 500] theorem dcall_ap {cl : Cl} {f : Nat} {as : List Ag} : dcall cl f as ρ = (agV as ρ).bd fun l => if agOk as then callB cl f as l else fun _ => .stuck := by
  unfold dcall
  rw [bnd_ap]
  congr 1
  funext l ρ
  cases agOk as with
  | false => rfl
  | true =>
    show (match agP ρ 0 0 as l with
      | none => Res.stuck
      | some ps => _) = callB cl f as l ρ
    unfold callB
    cases agP ρ 0 0 as l with
    | none => rfl
    | some ps =>
      show (match cl f ps with
        | .ok o ps' => _
        | .exc c a ps' => _
        | .stuck => _) = callE as ρ (cl f ps)
      unfold callE
      cases cl f ps <;> rfl
def fin (ps : List SV) (r : Res Fl) : Res.on OD ps := match r with
  | .ok .nx ρ => (match backP ps ρ with
    | some ps' => .ok (.frz .none) ps'
    | none => .stuck)
  | .ok (.rt o) ρ => (match backP ps ρ with
    | some ps' => .ok o ps'
    | none => .stuck)
  | .exc c a ρ => (match backP ps ρ with
    | some ps' => .exc c a ps'
    | none => .stuck)
  | _ => .stuck
@[simp] theorem fin_nx {ps : List SV} : fin ps (.ok .nx ρ) = match backP ps ρ with
    | some ps' => .ok (.frz .none) ps'
    | none => .stuck := rfl
@[simp] theorem fin_rt {ps : List SV} : fin ps (.ok (.rt o) ρ) = match backP ps ρ with
    | some ps' => .ok o ps'
    | none => .stuck := rfl
@[simp] theorem fin_exc {ps : List SV} {c : Nat} {a : Option PyData} : fin ps (.exc c a ρ) = match backP ps ρ with
    | some ps' => .exc c a ps'
    | none => .stuck := rfl
theorem runF_fin {n : Nat} {ps : List SV} : runF n s ps = fin ps (s (ps ++ List.replicate (n - ps.length) .unset)) := rfl
end
/-! data -/
@[simp] theorem plain_atoms : PyData.plain .none = true ∧ (∀ b, PyData.plain (.bool b) = true) ∧ (∀ i, PyData.plain (.int i) = true) ∧ ∀ x, PyData.plain (.str x) = true := ⟨rfl, fun _ => rfl, fun _ => rfl, fun _ => rfl⟩
@[simp] theorem eqD_int {i j : Int} : eqD (.int i) (.int j) = some (i == j) := by simp [eqD, PyData.plain, PyData.depth, PyData.eqv]
@[simp] theorem eqD_str {i j : Str} : eqD (.str i) (.str j) = some (i == j) := by simp [eqD, PyData.plain, PyData.depth, PyData.eqv]
@[simp] theorem eqD_bool {i j : Bool} : eqD (.bool i) (.bool j) = some (i == j) := by simp [eqD, PyData.plain, PyData.depth, PyData.eqv]
@[simp] theorem ltD_int {i j : Int} : ltD (.int i) (.int j) = some (decide (i < j)) := by
  simp [ltD, PyData.plain, PyData.depth, PySem.W.alike, eqS, PySem.W.dataLt_int]
@[simp 500] theorem idxD_list {xs : List PyData} {i : Int} : idxD (.list xs) (.int i) = if smallI i then (ix xs.length i).bind (xs[·]?) else none := (rfl)
@[simp 500] theorem idxD_tuple {xs : List PyData} {i : Int} : idxD (.tuple xs) (.int i) = if smallI i then (ix xs.length i).bind (xs[·]?) else none := (rfl)
@[simp 500] theorem idxD_str {x : Str} {i : Int} : idxD (.str x) (.int i) = if smallI i && decide (x.cps.size ≤ lim) then (ix x.cps.size i).bind fun j => (x.cps[j]?).map fun c => .str ⟨#[c]⟩ else none := (rfl)
@[simp 500] theorem idxD_dict {kvs : List (PyData × PyData)} {i : PyData} : idxD (.dict kvs) i = if kfit kvs i then look kvs i else none := (rfl)
section
variable {b : Bool} {i : Int} {x : Str} {l : List PyData} {q : List (PyData × PyData)}
@[simp] theorem isT_int_none : isT .int .none = false := (rfl)
@[simp] theorem isT_int_bool : isT .int (.bool b) = true := (rfl)
@[simp] theorem isT_int_int : isT .int (.int i) = true := (rfl)
@[simp] theorem isT_int_str : isT .int (.str x) = false := (rfl)
@[simp] theorem isT_int_list : isT .int (.list l) = false := (rfl)
@[simp] theorem isT_int_tuple : isT .int (.tuple l) = false := (rfl)
@[simp] theorem isT_int_dict : isT .int (.dict q) = false := (rfl)
@[simp] theorem isT_bool_none : isT .bool .none = false := (rfl)
@[simp] theorem isT_bool_bool : isT .bool (.bool b) = true := (rfl)
@[simp] theorem isT_bool_int : isT .bool (.int i) = false := (rfl)
@[simp] theorem isT_bool_str : isT .bool (.str x) = false := (rfl)
@[simp] theorem isT_bool_list : isT .bool (.list l) = false := (rfl)
@[simp] theorem isT_bool_tuple : isT .bool (.tuple l) = false := (rfl)
@[simp] theorem isT_bool_dict : isT .bool (.dict q) = false := (rfl)
@[simp] theorem isT_str_none : isT .str .none = false := (rfl)
@[simp] theorem isT_str_bool : isT .str (.bool b) = false := (rfl)
@[simp] theorem isT_str_int : isT .str (.int i) = false := (rfl)
@[simp] theorem isT_str_str : isT .str (.str x) = true := (rfl)
@[simp] theorem isT_str_list : isT .str (.list l) = false := (rfl)
@[simp] theorem isT_str_tuple : isT .str (.tuple l) = false := (rfl)
@[simp] theorem isT_str_dict : isT .str (.dict q) = false := (rfl)
@[simp] theorem isT_list_none : isT .list .none = false := (rfl)
@[simp] theorem isT_list_bool : isT .list (.bool b) = false := (rfl)
@[simp] theorem isT_list_int : isT .list (.int i) = false := (rfl)
@[simp] theorem isT_list_str : isT .list (.str x) = false := (rfl)
@[simp] theorem isT_list_list : isT .list (.list l) = true := (rfl)
@[simp] theorem isT_list_tuple : isT .list (.tuple l) = false := (rfl)
@[simp] theorem isT_list_dict : isT .list (.dict q) = false := (rfl)
@[simp] theorem isT_tuple_none : isT .tuple .none = false := (rfl)
@[simp] theorem isT_tuple_bool : isT .tuple (.bool b) = false := (rfl)
@[simp] theorem isT_tuple_int : isT .tuple (.int i) = false := (rfl)
@[simp] theorem isT_tuple_str : isT .tuple (.str x) = false := (rfl)
@[simp] theorem isT_tuple_list : isT .tuple (.list l) = false := (rfl)
@[simp] theorem isT_tuple_tuple : isT .tuple (.tuple l) = true := (rfl)
@[simp] theorem isT_tuple_dict : isT .tuple (.dict q) = false := (rfl)
@[simp] theorem isT_dict_none : isT .dict .none = false := (rfl)
@[simp] theorem isT_dict_bool : isT .dict (.bool b) = false := (rfl)
@[simp] theorem isT_dict_int : isT .dict (.int i) = false := (rfl)
@[simp] theorem isT_dict_str : isT .dict (.str x) = false := (rfl)
@[simp] theorem isT_dict_list : isT .dict (.list l) = false := (rfl)
@[simp] theorem isT_dict_tuple : isT .dict (.tuple l) = false := (rfl)
@[simp] theorem isT_dict_dict : isT .dict (.dict q) = true := (rfl)
end
end PI

/-! PQ2: loops, blocks and dicts of the meanings (own work). -/
namespace PI
open PySem
section
variable {g : PyData → M Unit} {b : M Fl} {d : PyData} {r : List PyData} {ρ : Env} {i : Nat}
@[simp ↓ 500] theorem forTNil : forT g b [] ρ = .ok .nx ρ := (rfl)
@[simp ↓ 500] theorem forTCons : forT g b (d :: r) ρ = (g d ρ).bd fun _ => bnd b (ctl (forT g b r)) := bnd_ap
theorem forT_nx {ρ1 ρ2 : Env} (h1 : g d ρ = .ok () ρ1) (h2 : b ρ1 = .ok .nx ρ2) : forT g b (d :: r) ρ = forT g b r ρ2 := by rw [forTCons, h1, bd_ok, bnd_ap, h2]; rfl
theorem forT_rt {ρ1 ρ2 : Env} {o : OD} (h1 : g d ρ = .ok () ρ1) (h2 : b ρ1 = .ok (.rt o) ρ2) : forT g b (d :: r) ρ = .ok (.rt o) ρ2 := by rw [forTCons, h1, bd_ok, bnd_ap, h2]; rfl
@[simp] theorem ctl_nx {k : M Fl} : ctl k .nx = k := (rfl)
@[simp] theorem ctl_ct {k : M Fl} : ctl k .ct = k := (rfl)
@[simp] theorem ctl_bk {k : M Fl} : ctl k .bk = ret .nx := (rfl)
@[simp] theorem ctl_rt {k : M Fl} {o : OD} : ctl k (.rt o) = ret (.rt o) := (rfl)
@[simp ↓ 500] theorem cM_none : cM none ρ = .ok true ρ := (rfl)
@[simp ↓ 500] theorem cM_some {c : M Bool} : cM (some c) ρ = c ρ := (rfl)
@[simp ↓ 500] theorem fzo_ap {x : M OD} : fzo x ρ = (x ρ).bd fun o => ret (.frz o.er) := by
  unfold fzo
  rw [bnd_ap, fz_ap]
  cases x ρ <;> rfl
/-- one turn of a block of one name -/
def turn (c : Option (M Bool)) (x : M OD) : M (List OD) := bnd (cM c) fun b => brM b (bnd x fun o => ret [o]) (ret [])
@[simp ↓ 500] theorem turn_ap {c : Option (M Bool)} {x : M OD} : turn c x ρ = (cM c ρ).bd fun b => brM b (bnd x fun o => ret [o]) (ret []) := bnd_ap
theorem lcT_map {c : Option (M Bool)} {x : M OD} {f : PyData → Option PyData} (hi : i < ρ.length) : ∀ l : List PyData, (∀ d ∈ l, turn c x (ρ.set i (.val d)) = .ok ((f d).toList.map OD.frz) (ρ.set i (.val d))) →
    ∃ ρ', lcT (gT (.nm i)) c x [i] l (ρ.set i .unset) = .ok ((l.filterMap f).map OD.frz) ρ' ∧ ∃ w, ρ' = ρ.set i w
  | [], _ => ⟨_, rfl, _, rfl⟩
  | d :: r, h => by
    obtain ⟨ρ', e, w, ew⟩ := lcT_map hi r fun d hd => h d (.tail _ hd)
    refine ⟨ρ', ?_, w, ew⟩
    have h1 := h d (.head _)
    show bnd (gT (.nm i) d) _ (ρ.set i .unset) = _
    rw [bnd_ap, gT_nm]
    have ho : okset (ρ.set i .unset) i = true := by unfold okset; rw [List.getElem?_set_self hi]
    rw [if_pos ho, bd_ok, List.set_set, bnd_ap]
    rw [turn_ap] at h1
    have hw : ∀ ρ1 : Env, ρ1 = ρ.set i (.val d) → wipeS ρ1 [i] = ρ.set i .unset := fun _ z => by rw [z]; show (List.set _ i _) = _; exact List.set_set ..
    cases hc : cM c (ρ.set i (.val d)) with
    | ok b ρ1 =>
      rw [hc] at h1
      rw [bd_ok] at h1 ⊢
      cases b with
      | true =>
        have h2 : bnd x (fun o => ret [o]) ρ1 = .ok ((f d).toList.map OD.frz) (ρ.set i (.val d)) := h1
        show bnd (bnd x fun o => ret [o]) _ ρ1 = _
        rw [bnd_ap, h2, bd_ok]
        show (match lcT (gT (.nm i)) c x [i] r (wipeS (ρ.set i (.val d)) [i]) with
          | .ok os ρ' => Res.ok ((f d).toList.map OD.frz ++ os) ρ'
          | .exc c a ρ' => .exc c a ρ'
          | .stuck => .stuck) = _
        rw [hw _ rfl, e]
        cases hf : f d <;> simp [hf]
      | false =>
        have h2 : Res.ok [] ρ1 = Res.ok ((f d).toList.map OD.frz) (ρ.set i (.val d)) := h1
        injection h2 with h3 h4
        show (match lcT (gT (.nm i)) c x [i] r (wipeS ρ1 [i]) with
          | .ok os ρ' => Res.ok ([] ++ os) ρ'
          | .exc c a ρ' => .exc c a ρ'
          | .stuck => .stuck) = _
        rw [hw _ h4, e]
        cases hf : f d with
        | none => simp [hf]
        | some _ => rw [hf] at h3; exact nomatch h3
    | exc _ _ _ => rw [hc] at h1; exact nomatch h1
    | stuck => rw [hc] at h1; exact nomatch h1
theorem dlc_map {s : Src} {c : Option (M Bool)} {x : M OD} {l : List PyData} (f : PyData → Option PyData) (hs : evS s ρ = .ok l ρ) (hp : plainS ρ [i] = true) (hl : l.length ≤ lim)
    (h : ∀ d ∈ l, turn c x (ρ.set i (.val d)) = .ok ((f d).toList.map OD.frz) (ρ.set i (.val d))) : dlc s (.nm i) c x [i] ρ = .ok (fl (l.filterMap f)) ρ := by
  have hi : i < ρ.length := by
    have hp2 := (Bool.and_eq_true_iff.mp hp).2
    rw [List.all_cons] at hp2
    have hp3 := (Bool.and_eq_true_iff.mp hp2).1
    by_cases q : i < ρ.length
    · exact q
    · rw [List.getElem?_eq_none (Nat.le_of_not_lt q)] at hp3; exact nomatch hp3
  obtain ⟨ρ', e, w, rfl⟩ := lcT_map (c := c) (x := x) (f := f) hi l h
  unfold dlc
  rw [bnd_ap, hs, bd_ok, bnd_ap]
  have e2 : lcB l (.nm i) c x [i] ρ = .ok ((l.filterMap f).map OD.frz) ρ := by
    unfold lcB
    rw [if_pos hp]
    show (match lcT (gT (.nm i)) c x [i] l (ρ.set i .unset) with
      | .ok os ρ' => Res.ok os (backS ρ ρ' [i])
      | _ => .stuck) = _
    rw [e]
    show Res.ok _ ((ρ.set i w).set i (ρ.getD i .unset)) = _
    rw [List.set_set, List.getD_eq_getElem?_getD, List.getElem?_eq_getElem hi, Option.getD_some, List.set_getElem_self]
  rw [e2, bd_ok]
  have : ((l.filterMap f).map OD.frz).length ≤ lim := by rw [List.length_map]; exact Nat.le_trans (List.length_filterMap_le ..) hl
  show (if _ then ret (.lst ((l.filterMap f).map OD.frz)) else _ : M OD) ρ = _
  rw [if_pos this]
  rfl
theorem dlc_all {s : Src} {c : Option (M Bool)} {x : M OD} {l : List PyData} (f : PyData → PyData) (hs : evS s ρ = .ok l ρ) (hp : plainS ρ [i] = true) (hl : l.length ≤ lim)
    (h : ∀ d ∈ l, turn c x (ρ.set i (.val d)) = .ok [.frz (f d)] (ρ.set i (.val d))) : dlc s (.nm i) c x [i] ρ = .ok (fl (l.map f)) ρ := by
  rw [dlc_map (fun d => some (f d)) hs hp hl h]
  have : l.filterMap (fun d => some (f d)) = l.map f := by
    have := congrFun (List.filterMap_eq_map (f := f)) l
    exact this
  rw [this]
theorem dlc_sel {s : Src} {c : Option (M Bool)} {x : M OD} {l : List PyData} (p : PyData → Bool) (hs : evS s ρ = .ok l ρ) (hp : plainS ρ [i] = true) (hl : l.length ≤ lim)
    (h : ∀ d ∈ l, turn c x (ρ.set i (.val d)) = .ok (if p d then [.frz d] else []) (ρ.set i (.val d))) : dlc s (.nm i) c x [i] ρ = .ok (fl (l.filter p)) ρ := by
  rw [dlc_map (fun d => if p d then some d else none) hs hp hl fun d hd => by rw [h d hd]; cases p d <;> rfl]
  have : l.filterMap (fun d => if p d then some d else none) = l.filter p := by
    clear h hl hs
    induction l with
    | nil => rfl
    | cons a r ih => rw [List.filterMap_cons, List.filter_cons, ih]; cases p a <;> rfl
  rw [this]
end
/-! dicts -/
section
variable {kvs : List (PyData × PyData)} {k k' v : PyData}
theorem erkMap : ∀ kvs : List (PyData × PyData), erk (kvs.map fun q => (q.1, OD.frz q.2)) = kvs
  | [] => rfl
  | (k, x) :: r => by show (k, x) :: erk (r.map fun q => (q.1, OD.frz q.2)) = _; rw [erkMap r]
@[simp] theorem erFd : (fd kvs).er = .dict kvs := by unfold fd; rw [OD.er, erkMap]
@[simp] theorem flatFd : (fd kvs).flat = true := by
  show (kvs.map fun q => (q.1, OD.frz q.2)).all (fun q => q.2.isFrz) = true
  rw [List.all_map]
  exact List.all_eq_true.mpr fun _ _ => rfl
@[simp] theorem isCtr_fd : isCtr (fd kvs) = true := (rfl)
@[simp] theorem isDct_fd : isDct (fd kvs) = true := (rfl)
@[simp] theorem odS_fd : odS true (fd kvs) = .own (fd kvs) := (rfl)
theorem fd_nil : OD.dct [] = fd [] := rfl
theorem kfit_map : kfit (kvs.map fun q => (q.1, OD.frz q.2)) k = kfit kvs k := by unfold kfit; rw [List.all_map]; rfl
theorem lookMap : look (kvs.map fun q => (q.1, OD.frz q.2)) k = (look kvs k).map OD.frz := by
  unfold look
  rw [List.find?_map]
  cases h : List.find? (fun q => eqS q.1 k) kvs with
  | none => simp [Function.comp_def, h]
  | some q => simp [Function.comp_def, h]
theorem putMap : put (kvs.map fun q => (q.1, OD.frz q.2)) k (.frz v) = (put kvs k v).map fun q => (q.1, OD.frz q.2) := by
  unfold put
  rw [List.any_map]
  by_cases h : (kvs.any fun q => eqS q.1 k) = true
  · rw [if_pos h]
    rw [if_pos (by exact h), List.map_map, List.map_map]
    refine List.map_congr_left fun q _ => ?_
    show (if eqS q.1 k then _ else _) = _
    by_cases z : eqS q.1 k = true
    · rw [if_pos z]; show _ = ((if eqS q.1 k then (q.1, v) else q).1, OD.frz (if eqS q.1 k then (q.1, v) else q).2); rw [if_pos z]
    · rw [if_neg z]; show _ = ((if eqS q.1 k then (q.1, v) else q).1, OD.frz (if eqS q.1 k then (q.1, v) else q).2); rw [if_neg z]
  · rw [if_neg h, if_neg (by exact h), List.map_append]
    rfl
theorem setO_fd (h : kfit kvs k = true) (hl : kvs.length < lim) : setO k v (fd kvs) = some (fd (put kvs k v)) := by
  show (if (kfit (kvs.map fun q => (q.1, OD.frz q.2)) k && decide ((kvs.map fun q => (q.1, OD.frz q.2)).length < lim)) = true then some (OD.dct (put (kvs.map fun q => (q.1, OD.frz q.2)) k (.frz v))) else none) = _
  rw [kfit_map, List.length_map, h, decide_eq_true hl, putMap]
  rfl
theorem dfltO_fd (h : kfit kvs k = true) (ha : atomK k = true) (hl : kvs.length < lim) : dfltO k v (fd kvs) = some (fd (if (look kvs k).isSome then kvs else put kvs k v)) := by
  show (if (kfit (kvs.map fun q => (q.1, OD.frz q.2)) k && (atomK k && decide ((kvs.map fun q => (q.1, OD.frz q.2)).length < lim))) = true then some (OD.dct (if (look (kvs.map fun q => (q.1, OD.frz q.2)) k).isSome then (kvs.map fun q => (q.1, OD.frz q.2)) else put (kvs.map fun q => (q.1, OD.frz q.2)) k (.frz v))) else none) = _
  rw [kfit_map, List.length_map, h, ha, decide_eq_true hl, putMap, lookMap, Option.isSome_map]
  simp only [Bool.and_self, if_true]
  cases (look kvs k).isSome <;> rfl
mutual
theorem eqSIff : ∀ a b : PyData, eqS a b = true ↔ a = b
  | .none, b => by cases b <;> simp [eqS]
  | .bool _, b => by cases b <;> simp [eqS]
  | .int _, b => by cases b <;> simp [eqS]
  | .str _, b => by cases b <;> simp [eqS]
  | .list xs, b => by cases b <;> simp [eqS, eqSsIff xs]
  | .tuple xs, b => by cases b <;> simp [eqS, eqSsIff xs]
  | .dict xs, b => by cases b <;> simp [eqS, eqSkIff xs]
theorem eqSsIff : ∀ a b : List PyData, eqSs a b = true ↔ a = b
  | [], b => by cases b <;> simp [eqSs]
  | x :: xs, b => by
    cases b with
    | nil => simp [eqSs]
    | cons y ys => simp [eqSs, eqSIff x y, eqSsIff xs ys]
theorem eqSkIff : ∀ a b : List (PyData × PyData), eqSk a b = true ↔ a = b
  | [], b => by cases b <;> simp [eqSk]
  | (x, x') :: xs, b => by
    cases b with
    | nil => simp [eqSk]
    | cons y ys => obtain ⟨y, y'⟩ := y; simp [eqSk, eqSIff x y, eqSIff x' y', eqSkIff xs ys, and_assoc]
end
theorem eqSSelf (a : PyData) : eqS a a = true := (eqSIff a a).mpr rfl
theorem eqSNe {a b : PyData} (h : a ≠ b) : eqS a b = false := by
  cases q : eqS a b with
  | false => rfl
  | true => exact absurd ((eqSIff a b).mp q) h
theorem look_nil {α : Type} : look ([] : List (PyData × α)) k = none := rfl
theorem look_cons {α : Type} {r : List (PyData × α)} {x : α} : look ((k', x) :: r) k = if eqS k' k then some x else look r k := by
  unfold look
  rw [List.find?_cons]
  cases h : eqS k' k <;> simp [h]
theorem look_append {r : List (PyData × PyData)} : look (kvs ++ r) k = (look kvs k).or (look r k) := by
  unfold look
  rw [List.find?_append]
  cases List.find? (fun q => eqS q.1 k) kvs <;> simp
theorem any_look : (kvs.any fun q => eqS q.1 k) = (look kvs k).isSome := by
  induction kvs with
  | nil => rfl
  | cons q r ih =>
    obtain ⟨a, x⟩ := q
    rw [List.any_cons, look_cons, ih]
    cases eqS a k <;> rfl
theorem look_put : look (put kvs k v) k' = if eqS k k' then some v else look kvs k' := by
  unfold put
  rw [any_look]
  by_cases h : (look kvs k).isSome = true
  · rw [if_pos h]
    revert h
    induction kvs with
    | nil => exact fun h => nomatch h
    | cons q r ih =>
      obtain ⟨a, x⟩ := q
      intro h
      rw [List.map_cons]
      cases ha : eqS a k with
      | true =>
        obtain rfl := (eqSIff a k).mp ha
        show look ((a, v) :: _) k' = _
        rw [look_cons, look_cons]
        cases hk : eqS a k' with
        | true => rfl
        | false =>
          clear ih h
          show look (r.map _) k' = look r k'
          induction r with
          | nil => rfl
          | cons q r ih =>
            obtain ⟨b, y⟩ := q
            rw [List.map_cons]
            cases hb : eqS b a with
            | true =>
              obtain rfl := (eqSIff b a).mp hb
              show look ((b, v) :: _) k' = _
              rw [look_cons, look_cons, hk]
              exact ih
            | false =>
              show look ((b, y) :: _) k' = _
              rw [look_cons, look_cons, ih]
      | false =>
        show look ((a, x) :: _) k' = _
        rw [look_cons, ha] at h
        rw [look_cons, look_cons, ih h]
        cases hk : eqS k k' with
        | false => rfl
        | true =>
          obtain rfl := (eqSIff k k').mp hk
          rw [ha]; rfl
  · rw [if_neg h, look_append, look_cons, look_nil]
    cases hk : eqS k k' with
    | true =>
      obtain rfl := (eqSIff k k').mp hk
      cases hq : look kvs k with
      | none => rfl
      | some _ => rw [hq] at h; exact absurd rfl h
    | false => simp
theorem putKeys {P : PyData → Prop} (hk : P k) (h : ∀ q ∈ kvs, P q.1) : ∀ q ∈ put kvs k v, P q.1 := by
  unfold put
  split
  · intro q hq
    obtain ⟨p, hp, rfl⟩ := List.mem_map.mp hq
    split
    · exact h p hp
    · exact h p hp
  · intro q hq
    rcases List.mem_append.mp hq with hq | hq
    · exact h q hq
    · obtain rfl := List.mem_singleton.mp hq; exact hk
theorem put_len : (put kvs k v).length ≤ kvs.length + 1 := by
  unfold put
  split
  · rw [List.length_map]; omega
  · rw [List.length_append]; exact Nat.le_refl _
end
end PI

/-! PQ3: how long a datum's repr is at most (own work). -/
namespace PI
open PySem
mutual
def shG : PyData → Bool
  | .none => true
  | .bool _ => true
  | .int i => decide (i.natAbs < 10 ^ 40)
  | .str x => x.cps.toList.all fun c => decide (c < 1114112)
  | .list xs => shGs xs
  | .tuple xs => shGs xs
  | .dict _ => false
def shGs : List PyData → Bool
  | [] => true
  | x :: xs => shG x && shGs xs
end
mutual
def wd : PyData → Nat
  | .none => 4
  | .bool _ => 5
  | .int _ => 41
  | .str x => 10 * x.cps.size + 2
  | .list xs => 2 + wds xs
  | .tuple xs => 3 + wds xs
  | .dict _ => 0
def wds : List PyData → Nat
  | [] => 0
  | x :: xs => wd x + 2 + wds xs
end
mutual
theorem shG_plain : ∀ d : PyData, shG d = true → d.plain = true ∧ d.hasDict = false ∧ d.showable = true
  | .none, _ => ⟨rfl, rfl, rfl⟩
  | .bool _, _ => ⟨rfl, rfl, rfl⟩
  | .int i, h => ⟨rfl, rfl, by
    rw [shG, decide_eq_true_eq] at h
    rw [PyData.showable, decide_eq_true_eq]
    by_cases z : i.natAbs = 0
    · rw [z]; decide
    · exact (Nat.log2_lt z).mpr (Nat.lt_trans h (by decide))⟩
  | .str _, _ => ⟨rfl, rfl, rfl⟩
  | .list xs, h => by
    obtain ⟨h1, h2, h3⟩ := shGs_plain xs (by rw [shG] at h; exact h)
    exact ⟨by rw [PyData.plain, h1], by rw [PyData.hasDict, h2], by rw [PyData.showable, h3]⟩
  | .tuple xs, h => by
    obtain ⟨h1, h2, h3⟩ := shGs_plain xs (by rw [shG] at h; exact h)
    exact ⟨by rw [PyData.plain, h1], by rw [PyData.hasDict, h2], by rw [PyData.showable, h3]⟩
  | .dict _, h => nomatch h
theorem shGs_plain : ∀ xs : List PyData, shGs xs = true → PyData.plainAll xs = true ∧ PyData.hasDictAll xs = false ∧ PyData.showableAll xs = true
  | [], _ => ⟨rfl, rfl, rfl⟩
  | x :: xs, h => by
    rw [shGs, Bool.and_eq_true] at h
    obtain ⟨h1, h2, h3⟩ := shG_plain x h.1
    obtain ⟨g1, g2, g3⟩ := shGs_plain xs h.2
    exact ⟨by rw [PyData.plainAll, h1, g1]; rfl, by rw [PyData.hasDictAll, h2, g2]; rfl, by rw [PyData.showableAll, h3, g3]; rfl⟩
end
theorem listText_len (ts : List Str) : (listText ts).length ≤ 2 + piled ts := by
  unfold listText
  rw [strLen_append]
  have e1 : (("]" : String) : Str).length = 1 := rfl
  have e2 : (("[" : String) : Str).length = 1 := rfl
  rw [e1]
  cases ts with
  | nil => show 1 + 1 ≤ _; omega
  | cons t r =>
    show (textFrom 1 (("[" : Str) ++ ((if 0 > 0 then ", " else "" : String) : Str) ++ t) r).length + 1 ≤ _
    rw [textFrom_length_pos _ _ _ (by decide), strLen_append, strLen_append, piled_cons, e2]
    have e3 : (((if 0 > 0 then ", " else "" : String) : Str)).length = 0 := rfl
    rw [e3]
    omega
theorem tupleText_len (ts : List Str) : (tupleText ts).length ≤ 3 + piled ts := by
  unfold tupleText
  rw [strLen_append, strLen_append]
  have e1 : ((("(" : String) : Str)).length = 1 := rfl
  have e3 : (((if ts.length == 1 then ",)" else ")" : String) : Str)).length ≤ 2 := by split <;> decide
  rw [e1]
  by_cases h : ts = []
  · subst h; show 1 + 0 + _ ≤ _; omega
  · have := join_length_add ts h
    omega
mutual
theorem shown_len : ∀ d : PyData, shG d = true → d.shown.length ≤ wd d
  | .none, _ => by rw [PyData.shown]; decide
  | .bool b, _ => by rw [PyData.shown, wd]; cases b <;> decide
  | .int i, h => by
    rw [PyData.shown, wd]
    rw [shG, decide_eq_true_eq] at h
    rw [ofString_length]
    exact int_text_length_le10 (k := 40) (by decide) h
  | .str x, h => by
    rw [PyData.shown, wd]
    rw [shG, List.all_eq_true] at h
    exact StrLaws.reprText_len x fun c hc => Nat.lt_trans (of_decide_eq_true (h c hc)) (by decide)
  | .list xs, h => by
    rw [PyData.shown, wd]
    exact Nat.le_trans (listText_len _) (Nat.add_le_add_left (shown_lens xs (by rw [shG] at h; exact h)) _)
  | .tuple xs, h => by
    rw [PyData.shown, wd]
    exact Nat.le_trans (tupleText_len _) (Nat.add_le_add_left (shown_lens xs (by rw [shG] at h; exact h)) _)
  | .dict _, h => nomatch h
theorem shown_lens : ∀ xs : List PyData, shGs xs = true → piled (PyData.shownAll xs) ≤ wds xs
  | [], _ => by rw [PyData.shownAll, wds]; decide
  | x :: xs, h => by
    rw [shGs, Bool.and_eq_true] at h
    rw [PyData.shownAll, piled_cons, wds]
    have := shown_len x h.1
    have := shown_lens xs h.2
    omega
end
theorem repr_list {xs : List PyData} (h : shGs xs = true) (hd : PyData.depthAll xs ≤ 99) (hw : wds xs + 2 ≤ lim) : b1 .repr (.list xs) = some (.frz (.str (PyData.list xs).shown)) := by
  have hs : shG (.list xs) = true := by rw [shG, h]
  obtain ⟨h1, h2, h3⟩ := shG_plain _ hs
  have hl := shown_len _ hs
  rw [wd] at hl
  show (if (PyData.list xs).showable && ((PyData.list xs).plain && (!(PyData.list xs).hasDict && (decide ((PyData.list xs).depth ≤ 100) && decide ((PyData.list xs).shown.length ≤ lim)))) then some (OD.frz (.str (PyData.list xs).shown)) else none) = _
  rw [h1, h2, h3, decide_eq_true (by rw [PyData.depth]; omega), decide_eq_true (by omega)]
  rfl
end PI

set_option maxHeartbeats 4000000
namespace PI.K10
open PySem
def flags : Nat → Option (List Bool) := fun c => if c < 4 then some ((List.range 5).map fun i => i == c) else none
def d_0 (cl : Cl) : M Fl := blk [sret (dand (d1 (.is .int) (cv 0)) (dnot (d1 (.is .bool) (cv 0))))]
def d_1 (cl : Cl) : M Fl := blk [sret (dand (dcall cl 0 [.l 0]) (dch .le .le (fz (dv 1)) (fz (dv 0)) (cv 2)))]
def m_2_0 (cl : Cl) : M OD := dlc (.of (rv 0)) (.nm 1) none (fzo (dor (dch .le .le (fz (dc (.str "a"))) (fz (dv 1)) (fz (dc (.str "z")))) (dch .le .le (fz (dc (.str "0"))) (fz (dv 1)) (fz (dc (.str "9")))))) [1]
def d_2 (cl : Cl) : M Fl := blk [sife (qor (qnot (qof (d1 (.is .str) (cv 0)))) (qor (qnot (qof (dch .le .le (fz (dc (.int 1))) (fz (d1 .len (cv 0))) (fz (dc (.int 12)))))) (qnot (qof (dch .le .le (fz (dc (.str "a"))) (fz (didxL 0 (fz (dc (.int 0))))) (fz (dc (.str "z")))))))) (blk [sret (dc (.bool false))]) (blk []),
    sret (d1 .all (fz (m_2_0 cl)))]
def d_3 (cl : Cl) : M Fl := blk [sife (qnot (qof (dv 0))) (blk [sraise 0]) (blk [])]
def d_4 (cl : Cl) : M Fl := blk [sret (dcall cl 1 [.l 0, .v (dc (.int 1)), .v (dc (.int 9999))])]
def d_5 (cl : Cl) : M Fl := blk [sife (qof (d2 .ne (fz (d1 .len (cv 0))) (fz (dc (.int 3))))) (blk [sret (dtup [(false, fz (dc (.str "form"))), (false, fz (dv 1))])]) (blk []),
    sife (qor (qnot (qof (d1 (.is .str) (fz (didxL 0 (fz (dc (.int 0)))))))) (qof (d2 .notin (fz (didxL 0 (fz (dc (.int 0))))) (fz (dtup [(false, fz (dc (.str "send"))), (false, fz (dc (.str "take")))]))))) (blk [sret (dtup [(false, fz (dc (.str "word"))), (false, fz (dv 1))])]) (blk []),
    sife (qnot (qof (dcall cl 2 [.v (didxL 0 (fz (dc (.int 1))))]))) (blk [sret (dtup [(false, fz (dc (.str "name"))), (false, fz (dv 1))])]) (blk []),
    sret (dite (qof (dcall cl 1 [.v (didxL 0 (fz (dc (.int 2)))), .v (dc (.int 1)), .v (dc (.int 9999))])) (dc .none) (dtup [(false, fz (dc (.str "number"))), (false, fz (dv 1))]))]
def d_6 (cl : Cl) : M Fl := blk [sasgT (.tp [.nm 4, .nm 5, .nm 6]) (fz (dv 0)),
    sife (qof (d2L .eq 4 (fz (dc (.str "send"))))) (blk [sret (dite (qof (d2L .isin 6 (cv 2))) (dtup [(false, fz (dc (.str "again"))), (false, fz (dv 1))]) (dc .none))]) (blk []),
    sife (qof (d2 .isin (fz (dtup [(false, fz (dv 5)), (false, fz (dv 6))])) (cv 3))) (blk [sret (dtup [(false, fz (dc (.str "again"))), (false, fz (dv 1))])]) (blk []),
    sife (qof (d2L .notin 6 (cv 2))) (blk [sret (dtup [(false, fz (dc (.str "unsent"))), (false, fz (dv 1))])]) (blk []),
    sret (dite (qof (d2 .eq (fz (didxL 2 (cv 6))) (cv 5))) (dtup [(false, fz (dc (.str "own"))), (false, fz (dv 1))]) (dc .none))]
def m_7_0 (cl : Cl) : M OD := dlc (.of (rv 0)) (.nm 1) none (fzo (d1 (.is .tuple) (cv 1))) [1]
def l_7_1 (cl : Cl) : M Fl := blk [sasg 6 false (dcall cl 5 [.l 1, .l 5]),
    sife (qof (d1 .isn (cv 6))) (blk [sasg 6 false (dcall cl 6 [.l 1, .l 5, .l 3, .l 4]),
    sife (qof (d2 .eq (fz (didxL 1 (fz (dc (.int 0))))) (fz (dc (.str "send"))))) (blk [sdflt 3 (fz (didxL 1 (fz (dc (.int 2))))) (fz (didxL 1 (fz (dc (.int 1)))))]) (blk [sseti 4 (fz (dtup [(false, fz (didxL 1 (fz (dc (.int 1))))), (false, fz (didxL 1 (fz (dc (.int 2)))))])) (fz (dc (.bool true)))])]) (blk []),
    sife (qof (d1 .notn (cv 6))) (blk [sapp 2 (fz (dv 6))]) (blk [])]
def d_7 (cl : Cl) : M Fl := blk [sex (dcall cl 3 [.v (dand (d1 (.is .list) (cv 0)) (d1 .all (fz (m_7_0 cl))))]),
    spar [(2, true), (3, true), (4, true)] [dlst [], dd0, dd0],
    sife (qof (d2 .gt (fz (d1 .len (cv 0))) (fz (dc (.int 120))))) (blk [sapp 2 (fz (dtup [(false, fz (dc (.str "many"))), (false, fz (d1 .len (cv 0)))]))]) (blk []),
    sfor (.enm (rv 0)) (.tp [.nm 5, .nm 1]) (l_7_1 cl),
    sretv 2]
def d_8 (cl : Cl) : M Fl := blk [sife (qor (qnot (qof (d1 (.is .tuple) (cv 0)))) (qor (qof (d2 .ne (fz (d1 .len (cv 0))) (fz (dc (.int 3))))) (qnot (qof (d1 (.is .str) (fz (didxL 0 (fz (dc (.int 0)))))))))) (blk [sret (dc (.bool false))]) (blk []),
    sret (dand (d2 .isin (fz (didxL 0 (fz (dc (.int 0))))) (fz (dtup [(false, fz (dc (.str "send"))), (false, fz (dc (.str "take")))]))) (dand (dcall cl 2 [.v (didxL 0 (fz (dc (.int 1))))]) (dcall cl 4 [.v (didxL 0 (fz (dc (.int 2))))])))]
def m_9_0 (cl : Cl) : M OD := dlc (.of (rv 0)) (.nm 1) none (fzo (dcall cl 8 [.l 1])) [1]
def l_9_1 (cl : Cl) : M Fl := blk [sife (qof (d2L .eq 4 (fz (dc (.str "send"))))) (blk [sife (qof (d2L .isin 6 (cv 2))) (blk [sret (dc (.bool false))]) (blk []),
    sseti 2 (fz (dv 6)) (fz (dv 5))]) (blk [sife (qor (qof (d2L .notin 6 (cv 2))) (qor (qof (d2 .eq (fz (didxL 2 (cv 6))) (cv 5))) (qof (d2 .isin (fz (dtup [(false, fz (dv 5)), (false, fz (dv 6))])) (cv 3))))) (blk [sret (dc (.bool false))]) (blk []),
    sseti 3 (fz (dtup [(false, fz (dv 5)), (false, fz (dv 6))])) (fz (dc (.bool true)))])]
def d_9 (cl : Cl) : M Fl := blk [sife (qor (qnot (qof (d1 (.is .list) (cv 0)))) (qor (qof (d2 .gt (fz (d1 .len (cv 0))) (fz (dc (.int 120))))) (qnot (qof (d1 .all (fz (m_9_0 cl))))))) (blk [sret (dc (.bool false))]) (blk []),
    spar [(2, true), (3, true)] [dd0, dd0],
    sfor (.of (rv 0)) (.tp [.nm 4, .nm 5, .nm 6]) (l_9_1 cl),
    sret (dc (.bool true))]
def l_10_0 (cl : Cl) : M Fl := blk [sife (qof (d2L .gt 4 (fz (dc (.int 0))))) (blk [sapp 1 (fz (d2 .mod (fz (d1 .int (cv 4))) (fz (dc (.int 997))))),
    sasg 4 false (d2L .fdiv 4 (fz (dc (.int 997))))]) (blk [])]
def l_10_1 (cl : Cl) : M Fl := blk [sasg 4 false (d1 .abs (fz (d1 .int (cv 3)))),
    sasg 2 false (d2 .mod (fz (d1 .int (fz (d2 .add (fz (d2 .add (fz (d2L .mul 2 (fz (dc (.int 48271))))) (cv 4))) (fz (dc (.int 1))))))) (fz (dc (.int 2147483647)))),
    sife (qof (d2L .lt 4 (fz (d2 .pow (fz (dc (.int 10))) (fz (dc (.int 18))))))) (blk [sapp 1 (fz (d2 .mod (fz (d1 .int (cv 4))) (fz (dc (.int 997))))),
    sapp 1 (fz (d2 .mod (fz (d1 .int (cv 2))) (fz (dc (.int 65521))))),
    sasg 4 false (dc (.int 0))]) (blk []),
    sfor (.rng1 (fz (dc (.int 60)))) (.nm 5) (l_10_0 cl)]
def l_10_2 (cl : Cl) : M Fl := blk [sasg 2 false (d2 .mod (fz (d1 .int (fz (d2 .add (fz (d2L .mul 2 (fz (dc (.int 48271))))) (fz (dc (.int 69621))))))) (fz (dc (.int 2147483647)))),
    sapp 1 (fz (d2L .fdiv 2 (fz (dc (.int 5)))))]
def d_10 (cl : Cl) : M Fl := blk [sasg 1 true (dlst []),
    sasg 2 false (dc (.int 11)),
    sfor (.scr 0) (.nm 3) (l_10_1 cl),
    sfor (.rng1 (fz (dc (.int 1600)))) (.nm 5) (l_10_2 cl),
    sret (d1 .rev (cv 1))]
def d_11 (cl : Cl) : M Fl := blk [sife (qof (d2 .eq (fz (d1 .len (cv 0))) (fz (dc (.int 0))))) (blk [sret (dc (.int 0))]) (blk []),
    sret (d2 .mod (fz (d1 .int (fz (dpop 0)))) (cv 1))]
def d_12 (cl : Cl) : M Fl := blk [sret (didxL 1 (fz (dcall cl 11 [.r 0, .v (d1 .len (cv 1))])))]
def l_13_0 (cl : Cl) : M Fl := blk [sife (qnot (qof (dcall cl 13 [.v (didxL 0 (cv 2)), .v (didxL 1 (cv 2))]))) (blk [sret (dc (.bool false))]) (blk [])]
def m_13_1 (cl : Cl) : M OD := dlc (.of (rv 1)) (.nm 3) (some (qor (qof (d2L .notin 3 (cv 0))) (qnot (qof (dcall cl 13 [.v (didxL 0 (cv 3)), .v (didxL 1 (cv 3))]))))) (fzo (dv 3)) [3]
def d_13 (cl : Cl) : M Fl := blk [sife (qof (d1 .isn (cv 1))) (blk [sret (d1 .isn (cv 0))]) (blk []),
    sife (qor (qof (d1 (.is .tuple) (cv 1))) (qof (d1 (.is .list) (cv 1)))) (blk [sife (qor (qof (d2 .ne (fz (d1 (.is .tuple) (cv 1))) (fz (d1 (.is .tuple) (cv 0))))) (qof (d2 .ne (fz (d1 (.is .list) (cv 1))) (fz (d1 (.is .list) (cv 0)))))) (blk [sret (dc (.bool false))]) (blk []),
    sife (qof (d2 .ne (fz (d1 .len (cv 0))) (fz (d1 .len (cv 1))))) (blk [sret (dc (.bool false))]) (blk []),
    sfor (.rng1 (fz (d1 .len (cv 1)))) (.nm 2) (l_13_0 cl),
    sret (dc (.bool true))]) (blk []),
    sife (qof (d1 (.is .dict) (cv 1))) (blk [sife (qor (qnot (qof (d1 (.is .dict) (cv 0)))) (qof (d2 .ne (fz (d1 .len (cv 0))) (fz (d1 .len (cv 1)))))) (blk [sret (dc (.bool false))]) (blk []),
    sret (d2 .eq (fz (m_13_1 cl)) (fz (dlst [])))]) (blk []),
    sife (qof (d2 .ne (fz (d1 (.is .bool) (cv 1))) (fz (d1 (.is .bool) (cv 0))))) (blk [sret (dc (.bool false))]) (blk []),
    sife (qor (qof (d2 .ne (fz (d1 (.is .int) (cv 1))) (fz (d1 (.is .int) (cv 0))))) (qof (d2 .ne (fz (d1 (.is .str) (cv 1))) (fz (d1 (.is .str) (cv 0)))))) (blk [sret (dc (.bool false))]) (blk []),
    sret (d2L .eq 0 (cv 1))]
def m_14_0 (cl : Cl) : M OD := dlc (.of (rv 0)) (.nm 1) (some (qof (d2L .notin 1 (fz (dc (.str "abcdefghijklmnopqrstuvwxyz0123456789")))))) (fzo (dv 1)) [1]
def d_14 (cl : Cl) : M Fl := blk [sife (qor (qnot (qof (d1 (.is .str) (cv 0)))) (qor (qnot (qof (dch .le .le (fz (dc (.int 1))) (fz (d1 .len (cv 0))) (fz (dc (.int 12)))))) (qof (d2 .notin (fz (didxL 0 (fz (dc (.int 0))))) (fz (dc (.str "abcdefghijklmnopqrstuvwxyz"))))))) (blk [sret (dc (.bool false))]) (blk []),
    sret (d2 .eq (fz (m_14_0 cl)) (fz (dlst [])))]
def d_15 (cl : Cl) : M Fl := blk [stry 1 flags (blk [sret (dcall cl 7 [.l 0])])]
def d_16 (cl : Cl) : M Fl := blk [sife (qof (d2 .ne (fz (d1 .len (cv 0))) (fz (dc (.int 3))))) (blk [sret (dc (.str "form"))]) (blk []),
    sife (qof (d2 .notin (fz (didxL 0 (fz (dc (.int 0))))) (fz (dlst [(false, fz (dc (.str "send"))), (false, fz (dc (.str "take")))])))) (blk [sret (dc (.str "word"))]) (blk []),
    sife (qnot (qof (dcall cl 14 [.v (didxL 0 (fz (dc (.int 1))))]))) (blk [sret (dc (.str "name"))]) (blk []),
    sife (qor (qnot (qof (d1 (.is .int) (fz (didxL 0 (fz (dc (.int 2)))))))) (qor (qof (d1 (.is .bool) (fz (didxL 0 (fz (dc (.int 2))))))) (qnot (qof (dch .le .le (fz (dc (.int 1))) (fz (didxL 0 (fz (dc (.int 2))))) (fz (dc (.int 9999)))))))) (blk [sret (dc (.str "number"))]) (blk []),
    sret (dc .none)]
def m_17_0 (cl : Cl) : M OD := dlc (.of (fz (dsli (fz (dv 0)) none (some (fz (dv 2)))))) (.nm 5) (some (qof (d1 .isn (fz (dcall cl 16 [.l 5]))))) (fzo (dv 5)) [5]
def m_17_1 (cl : Cl) : M OD := dlc (.of (rv 4)) (.nm 5) (some (qand (qof (d2 .eq (fz (didxL 5 (fz (dc (.int 0))))) (fz (dc (.str "send"))))) (qof (d2 .eq (fz (didxL 5 (fz (dc (.int 2))))) (fz (didx (fz (didxL 0 (cv 2))) (fz (dc (.int 2))))))))) (fzo (dv 5)) [5]
def l_17_2 (cl : Cl) : M Fl := blk [spar [(3, false), (4, false)] [dcall cl 16 [.v (didxL 0 (cv 2))], m_17_0 cl],
    sife (qof (d1 .isn (cv 3))) (blk [sasg 6 false (m_17_1 cl),
    sife (qof (d2 .eq (fz (didx (fz (didxL 0 (cv 2))) (fz (dc (.int 0))))) (fz (dc (.str "send"))))) (blk [sasg 3 false (didx (fz (dlst [(false, fz (dc .none)), (false, fz (dc (.str "again")))])) (fz (d1 .int (fz (d2L .ne 6 (fz (dlst [])))))))]) (blk [sife (qof (d2 .isin (fz (didxL 0 (cv 2))) (cv 4))) (blk [sasg 3 false (dc (.str "again"))]) (blk [sife (qof (d2L .eq 6 (fz (dlst [])))) (blk [sasg 3 false (dc (.str "unsent"))]) (blk [sife (qof (d2 .eq (fz (didx (fz (didxL 6 (fz (dc (.int 0))))) (fz (dc (.int 1))))) (fz (didx (fz (didxL 0 (cv 2))) (fz (dc (.int 1))))))) (blk [sasg 3 false (dc (.str "own"))]) (blk [])])])])]) (blk []),
    sife (qof (d1 .notn (cv 3))) (blk [sapp 1 (fz (dtup [(false, fz (dv 3)), (false, fz (dv 2))]))]) (blk [])]
def d_17 (cl : Cl) : M Fl := blk [sasg 1 true (d2 .mul (fz (dlst [(false, fz (dtup [(false, fz (dc (.str "many"))), (false, fz (d1 .len (cv 0)))]))])) (fz (d1 .int (fz (d2 .gt (fz (d1 .len (cv 0))) (fz (dc (.int 120)))))))),
    sfor (.rng1 (fz (d1 .len (cv 0)))) (.nm 2) (l_17_2 cl),
    sretv 1]
def m_18_0 (cl : Cl) : M OD := dlc (.of (fz (dlst [(false, fz (dc (.int 0))), (false, fz (dc (.int 10000))), (false, fz (dc (.bool true))), (false, fz (dc .none)), (false, fz (dc (.str "1")))]))) (.nm 10) none (fzo (d2 .add (fz (dsli (fz (dv 8)) none (some (fz (dc (.int 2)))))) (fz (dtup [(false, fz (dv 10))])))) [10]
def l_18_1 (cl : Cl) : M Fl := blk [spar [(6, false), (7, false)] [dcall cl 12 [.r 0, .v (dlst [(false, fz (dc (.str "ann"))), (false, fz (dc (.str "bob"))), (false, fz (dc (.str "cy"))), (false, fz (dc (.str "d2")))])], dcall cl 11 [.r 0, .v (dc (.int 12))]],
    sasg 8 false (dtup [(false, fz (dc (.str "send"))), (false, fz (dv 6)), (false, fz (dv 4))]),
    sife (qand (qof (d2L .ne 3 (fz (dlst [])))) (qof (d2 .gt (fz (dcall cl 11 [.r 0, .v (dc (.int 3))])) (fz (dc (.int 0)))))) (blk [sasg 8 false (dtup [(false, fz (dc (.str "take"))), (false, fz (dv 6)), (false, fz (dcall cl 12 [.r 0, .l 3]))])]) (blk []),
    sife (qof (d2 .eq (fz (didxL 8 (fz (dc (.int 0))))) (fz (dc (.str "send"))))) (blk [spar [(3, false), (4, false)] [d2L .add 3 (fz (dlst [(false, fz (dv 4))])), d2 .add (fz (d2L .add 4 (fz (dc (.int 1))))) (fz (dcall cl 11 [.r 0, .v (dc (.int 2))]))]]) (blk []),
    sife (qof (d2L .eq 7 (fz (dc (.int 0))))) (blk [sasg 9 false (dlst [(false, fz (dtup [])), (false, fz (dsli (fz (dv 8)) none (some (fz (dc (.int 2)))))), (false, fz (d2L .add 8 (fz (dtup [(false, fz (dc (.int 1)))])))), (false, fz (d2 .add (fz (dtup [(false, fz (dc (.str "give")))])) (fz (dsli (fz (dv 8)) (some (fz (dc (.int 1)))) none)))), (false, fz (d2 .add (fz (dtup [(false, fz (dc .none))])) (fz (dsli (fz (dv 8)) (some (fz (dc (.int 1)))) none)))), (false, fz (dtup [(false, fz (didxL 8 (fz (dc (.int 0))))), (false, fz (dc (.str "Ann"))), (false, fz (didxL 8 (fz (dc (.int 2)))))])), (false, fz (dtup [(false, fz (didxL 8 (fz (dc (.int 0))))), (false, fz (dc .none)), (false, fz (didxL 8 (fz (dc (.int 2)))))]))]),
    sasg 8 false (dcall cl 12 [.r 0, .v (d2L .add 9 (fz (m_18_0 cl)))])]) (blk []),
    sife (qand (qof (d2L .eq 7 (fz (dc (.int 1))))) (qof (d2L .ne 2 (fz (dlst []))))) (blk [sasg 8 false (dcall cl 12 [.r 0, .l 2])]) (blk []),
    sife (qof (d2L .eq 7 (fz (dc (.int 2))))) (blk [sasg 8 false (dtup [(false, fz (dc (.str "take"))), (false, fz (dv 6)), (false, fz (d2 .add (fz (dc (.int 500))) (fz (dcall cl 11 [.r 0, .v (dc (.int 3))]))))])]) (blk []),
    sapp 2 (fz (dv 8))]
def d_18 (cl : Cl) : M Fl := blk [spar [(2, true), (3, false), (4, false)] [dlst [], dlst [], d2 .add (fz (dc (.int 1))) (fz (dcall cl 11 [.r 0, .v (dc (.int 9))]))],
    sfor (.rng1 (fz (dv 1))) (.nm 5) (l_18_1 cl),
    sretv 2]
def l_19_0 (cl : Cl) : M Fl := blk [sasg 4 false (dcall cl 18 [.r 1, .l 3]),
    spar [(5, false), (6, false)] [d1 .repr (cv 4), dcall cl 17 [.l 4]],
    sasg 7 true (dcall cl 15 [.l 4]),
    sife (qor (qnot (qof (dcall cl 13 [.l 7, .l 6]))) (qor (qnot (qof (dcall cl 13 [.v (dcall cl 9 [.l 4]), .v (d2L .eq 6 (fz (dlst [])))]))) (qof (d2 .ne (fz (d1 .repr (cv 4))) (cv 5))))) (blk [sret (dc (.bool false))]) (blk []),
    sapp 7 (fz (dc (.str "more")))]
def l_19_1 (cl : Cl) : M Fl := blk [sfor (.of (fz (dlst [(false, fz (dcall cl 11 [.r 1, .v (dc (.int 6))])), (false, fz (dcall cl 11 [.r 1, .v (dc (.int 30))]))]))) (.nm 3) (l_19_0 cl)]
def m_19_2 (cl : Cl) : M OD := dlc (.rng2 (fz (dc (.int 1))) (fz (d2 .add (fz (dc (.int 1))) (fz (dcall cl 12 [.r 1, .v (dlst [(false, fz (dc (.int 120))), (false, fz (dc (.int 121)))])]))))) (.nm 9) none (fzo (dtup [(false, fz (dc (.str "send"))), (false, fz (dc (.str "ann"))), (false, fz (dv 9))])) [9]
def m_19_3 (cl : Cl) : M OD := dlc (.of (rv 10)) (.nm 11) none (fzo (dcall cl 15 [.l 11])) [11]
def d_19 (cl : Cl) : M Fl := blk [sasg 1 true (dcall cl 10 [.l 0]),
    sfor (.rng1 (fz (dc (.int 4)))) (.nm 2) (l_19_1 cl),
    sasg 8 false (m_19_2 cl),
    sife (qnot (qof (dcall cl 13 [.v (dlst [(false, fz (dcall cl 15 [.l 8])), (false, fz (dcall cl 9 [.l 8]))]), .v (dlst [(false, fz (d2 .mul (fz (dlst [(false, fz (dtup [(false, fz (dc (.str "many"))), (false, fz (dc (.int 121)))]))])) (fz (d1 .int (fz (d2 .gt (fz (d1 .len (cv 8))) (fz (dc (.int 120))))))))), (false, fz (d2 .lt (fz (d1 .len (cv 8))) (fz (dc (.int 121)))))])]))) (blk [sret (dc (.bool false))]) (blk []),
    sasg 10 false (dlst [(false, fz (dc .none)), (false, fz (dtup [])), (false, fz (dtup [(false, fz (dtup [(false, fz (dc (.str "send"))), (false, fz (dc (.str "ann"))), (false, fz (dc (.int 1)))]))])), (false, fz (dlst [(false, fz (dlst [(false, fz (dc (.str "send"))), (false, fz (dc (.str "ann"))), (false, fz (dc (.int 1)))]))])), (false, fz (dlst [(false, fz (dc .none))])), (false, fz (dc (.str "text"))), (false, fz (dd0))]),
    sife (qnot (qof (dcall cl 13 [.v (m_19_3 cl), .v (d2 .mul (fz (dlst [(false, fz (dlst [(false, fz (dc (.bool true))), (false, fz (dc (.bool false))), (false, fz (dc (.bool false))), (false, fz (dc (.bool false))), (false, fz (dc (.bool false)))]))])) (fz (dc (.int 7))))]))) (blk [sret (dc (.bool false))]) (blk []),
    sasg 7 true (dlst [(false, fz (dcall cl 7 [.v (dlst [(false, fz (dtup [(false, fz (dc (.str "take"))), (false, fz (dc (.str "ann"))), (false, fz (dc (.int 1)))])), (false, fz (dtup [(false, fz (dc (.str "send"))), (false, fz (dc (.str "bob"))), (false, fz (dc (.int 2)))])), (false, fz (dtup [(false, fz (dc (.str "take"))), (false, fz (dc (.str "bob"))), (false, fz (dc (.int 2)))])), (false, fz (dtup [(false, fz (dc (.str "send"))), (false, fz (dc (.str "cy"))), (false, fz (dc (.int 2)))])), (false, fz (dtup [(false, fz (dc (.str "send"))), (false, fz (dc (.str "dee"))), (false, fz (dc (.int 0)))]))])]))]),
    sasg 7 true (d2L .add 7 (fz (dlst [(false, fz (dcall cl 7 [.v (dlst [(false, fz (dtup [(false, fz (dc (.str "take"))), (false, fz (dc (.str "ann"))), (false, fz (dc (.int 1)))])), (false, fz (dtup [(false, fz (dc (.str "send"))), (false, fz (dc (.str "bob"))), (false, fz (dc (.int 1)))])), (false, fz (dtup [(false, fz (dc (.str "take"))), (false, fz (dc (.str "ann"))), (false, fz (dc (.int 1)))])), (false, fz (dtup [(false, fz (dc (.str "take"))), (false, fz (dc (.str "bob"))), (false, fz (dc (.int 1)))])), (false, fz (dtup [(false, fz (dc (.str "take"))), (false, fz (dc (.str "bob"))), (false, fz (dc (.int 1)))]))])]))]))),
    sasg 7 true (d2L .add 7 (fz (dlst [(false, fz (dcall cl 7 [.v (dlst [])]))]))),
    sret (dcall cl 13 [.l 7, .v (dlst [(false, fz (dlst [(false, fz (dtup [(false, fz (dc (.str "unsent"))), (false, fz (dc (.int 0)))])), (false, fz (dtup [(false, fz (dc (.str "own"))), (false, fz (dc (.int 2)))])), (false, fz (dtup [(false, fz (dc (.str "again"))), (false, fz (dc (.int 3)))])), (false, fz (dtup [(false, fz (dc (.str "number"))), (false, fz (dc (.int 4)))]))])), (false, fz (dlst [(false, fz (dtup [(false, fz (dc (.str "unsent"))), (false, fz (dc (.int 0)))])), (false, fz (dtup [(false, fz (dc (.str "again"))), (false, fz (dc (.int 2)))])), (false, fz (dtup [(false, fz (dc (.str "own"))), (false, fz (dc (.int 3)))])), (false, fz (dtup [(false, fz (dc (.str "again"))), (false, fz (dc (.int 4)))]))])), (false, fz (dlst []))])])]
def bodies (cl : Cl) : Cl := fun f ps => match f with
  | 0 => runF 1 (d_0 cl) ps
  | 1 => runF 3 (d_1 cl) ps
  | 2 => runF 2 (d_2 cl) ps
  | 3 => runF 1 (d_3 cl) ps
  | 4 => runF 1 (d_4 cl) ps
  | 5 => runF 2 (d_5 cl) ps
  | 6 => runF 7 (d_6 cl) ps
  | 7 => runF 7 (d_7 cl) ps
  | 8 => runF 1 (d_8 cl) ps
  | 9 => runF 7 (d_9 cl) ps
  | 10 => runF 6 (d_10 cl) ps
  | 11 => runF 2 (d_11 cl) ps
  | 12 => runF 2 (d_12 cl) ps
  | 13 => runF 4 (d_13 cl) ps
  | 14 => runF 2 (d_14 cl) ps
  | 15 => runF 2 (d_15 cl) ps
  | 16 => runF 1 (d_16 cl) ps
  | 17 => runF 7 (d_17 cl) ps
  | 18 => runF 11 (d_18 cl) ps
  | 19 => runF 12 (d_19 cl) ps
  | _ => .stuck
def CL : Nat → Cl
  | 0 => fun _ _ => .stuck
  | n + 1 => bodies (CL n)
theorem c_0 {n : Nat} {s0 : SV} : CL (n + 1) 0 [s0] = fin [s0] (d_0 (CL n) [s0]) := rfl
theorem c_1 {n : Nat} {s0 s1 s2 : SV} : CL (n + 1) 1 [s0, s1, s2] = fin [s0, s1, s2] (d_1 (CL n) [s0, s1, s2]) := rfl
theorem c_2 {n : Nat} {s0 : SV} : CL (n + 1) 2 [s0] = fin [s0] (d_2 (CL n) [s0, .unset]) := rfl
theorem c_3 {n : Nat} {s0 : SV} : CL (n + 1) 3 [s0] = fin [s0] (d_3 (CL n) [s0]) := rfl
theorem c_4 {n : Nat} {s0 : SV} : CL (n + 1) 4 [s0] = fin [s0] (d_4 (CL n) [s0]) := rfl
theorem c_5 {n : Nat} {s0 s1 : SV} : CL (n + 1) 5 [s0, s1] = fin [s0, s1] (d_5 (CL n) [s0, s1]) := rfl
theorem c_6 {n : Nat} {s0 s1 s2 s3 : SV} : CL (n + 1) 6 [s0, s1, s2, s3] = fin [s0, s1, s2, s3] (d_6 (CL n) [s0, s1, s2, s3, .unset, .unset, .unset]) := rfl
theorem c_7 {n : Nat} {s0 : SV} : CL (n + 1) 7 [s0] = fin [s0] (d_7 (CL n) [s0, .unset, .unset, .unset, .unset, .unset, .unset]) := rfl
theorem c_8 {n : Nat} {s0 : SV} : CL (n + 1) 8 [s0] = fin [s0] (d_8 (CL n) [s0]) := rfl
theorem c_9 {n : Nat} {s0 : SV} : CL (n + 1) 9 [s0] = fin [s0] (d_9 (CL n) [s0, .unset, .unset, .unset, .unset, .unset, .unset]) := rfl
theorem c_10 {n : Nat} {s0 : SV} : CL (n + 1) 10 [s0] = fin [s0] (d_10 (CL n) [s0, .unset, .unset, .unset, .unset, .unset]) := rfl
theorem c_11 {n : Nat} {s0 s1 : SV} : CL (n + 1) 11 [s0, s1] = fin [s0, s1] (d_11 (CL n) [s0, s1]) := rfl
theorem c_12 {n : Nat} {s0 s1 : SV} : CL (n + 1) 12 [s0, s1] = fin [s0, s1] (d_12 (CL n) [s0, s1]) := rfl
theorem c_13 {n : Nat} {s0 s1 : SV} : CL (n + 1) 13 [s0, s1] = fin [s0, s1] (d_13 (CL n) [s0, s1, .unset, .unset]) := rfl
theorem c_14 {n : Nat} {s0 : SV} : CL (n + 1) 14 [s0] = fin [s0] (d_14 (CL n) [s0, .unset]) := rfl
theorem c_15 {n : Nat} {s0 : SV} : CL (n + 1) 15 [s0] = fin [s0] (d_15 (CL n) [s0, .unset]) := rfl
theorem c_16 {n : Nat} {s0 : SV} : CL (n + 1) 16 [s0] = fin [s0] (d_16 (CL n) [s0]) := rfl
theorem c_17 {n : Nat} {s0 : SV} : CL (n + 1) 17 [s0] = fin [s0] (d_17 (CL n) [s0, .unset, .unset, .unset, .unset, .unset, .unset]) := rfl
theorem c_18 {n : Nat} {s0 s1 : SV} : CL (n + 1) 18 [s0, s1] = fin [s0, s1] (d_18 (CL n) [s0, s1, .unset, .unset, .unset, .unset, .unset, .unset, .unset, .unset, .unset]) := rfl
theorem c_19 {n : Nat} {s0 : SV} : CL (n + 1) 19 [s0] = fin [s0] (d_19 (CL n) [s0, .unset, .unset, .unset, .unset, .unset, .unset, .unset, .unset, .unset, .unset, .unset]) := rfl
end PI.K10

namespace PI.K10
open PySem PySem.Spec PyProof.Rows L2
def top (i : Nat) : Stmt := PySem.Challenge.pw_relayward_k10_whole_faults_of_events.main.body.getD i (.Pass ⟨0, 0, 0, 0⟩)
/-- the names of the text -/
structure Glo (T : Th) (mg : Str → Option Value) : Prop where
  n_abs : mg "abs" = none
  n_all : mg "all" = none
  n_bool : mg "bool" = none
  n_dict : mg "dict" = none
  n_enumerate : mg "enumerate" = none
  n_int : mg "int" = none
  n_isinstance : mg "isinstance" = none
  n_len : mg "len" = none
  n_list : mg "list" = none
  n_range : mg "range" = none
  n_repr : mg "repr" = none
  n_reversed : mg "reversed" = none
  n_str : mg "str" = none
  n_tuple : mg "tuple" = none
  n_MOST_EVENTS_orders : ∃ t, mg "MOST_EVENTS_orders" = some (.int 120 t)
  n_MOST_EVENTS_sheets : ∃ t, mg "MOST_EVENTS_sheets" = some (.int 120 t)
  n_MOST_NUMBER_copies : ∃ t, mg "MOST_NUMBER_copies" = some (.int 9999 t)
  n_MOST_NUMBER_sheets : ∃ t, mg "MOST_NUMBER_sheets" = some (.int 9999 t)
  n_MOST_SIGNS : ∃ t, mg "MOST_SIGNS" = some (.int 12 t)
  n_SEND_orders : ∃ t, mg "SEND_orders" = some (.str "send" t)
  n_SEND_sheets : ∃ t, mg "SEND_sheets" = some (.str "send" t)
  n_TAKE_orders : ∃ t, mg "TAKE_orders" = some (.str "take" t)
  n_TAKE_sheets : ∃ t, mg "TAKE_sheets" = some (.str "take" t)
  gR : mg "RelayError" = some (.ref (He.ga T.K "RelayError"))
  g0 : mg "NotRight" = some (.ref (He.ga T.K "NotRight"))
  x0 : T.xc 0 = .ref (He.ga T.K "NotRight")
  q0 : PySem.W.excIn T.K (He.ga T.K "NotRight") He.veBase "ValueError.__new__" = true
  k0 : PySem.W.keepIn T.K (.ref (He.ga T.K "NotRight")) = true
  s0 : PySem.W.subIn T.K (.ref (He.ga T.K "NotRight")) (.type "BaseException") = some true
  t0 : PySem.W.typeIn T.K (.ref (He.ga T.K "NotRight")) = some (.type "type")
  m0 : PySem.W.exmOne T.K (.ref (He.ga T.K "NotRight")) (.ref (He.ga T.K "RelayError")) = some true
  d0 : Kinds T.K (He.ga T.K "NotRight") ((["NotRight", "NotThere", "NoAnswer", "TooLarge", "Malformed"] : List Str).map (He.ga T.K)) ((List.range 5).map fun i => i == 0)
  g1 : mg "NotThere" = some (.ref (He.ga T.K "NotThere"))
  x1 : T.xc 1 = .ref (He.ga T.K "NotThere")
  q1 : PySem.W.excIn T.K (He.ga T.K "NotThere") He.veBase "ValueError.__new__" = true
  k1 : PySem.W.keepIn T.K (.ref (He.ga T.K "NotThere")) = true
  s1 : PySem.W.subIn T.K (.ref (He.ga T.K "NotThere")) (.type "BaseException") = some true
  t1 : PySem.W.typeIn T.K (.ref (He.ga T.K "NotThere")) = some (.type "type")
  m1 : PySem.W.exmOne T.K (.ref (He.ga T.K "NotThere")) (.ref (He.ga T.K "RelayError")) = some true
  d1 : Kinds T.K (He.ga T.K "NotThere") ((["NotRight", "NotThere", "NoAnswer", "TooLarge", "Malformed"] : List Str).map (He.ga T.K)) ((List.range 5).map fun i => i == 1)
  g2 : mg "NoAnswer" = some (.ref (He.ga T.K "NoAnswer"))
  x2 : T.xc 2 = .ref (He.ga T.K "NoAnswer")
  q2 : PySem.W.excIn T.K (He.ga T.K "NoAnswer") He.veBase "ValueError.__new__" = true
  k2 : PySem.W.keepIn T.K (.ref (He.ga T.K "NoAnswer")) = true
  s2 : PySem.W.subIn T.K (.ref (He.ga T.K "NoAnswer")) (.type "BaseException") = some true
  t2 : PySem.W.typeIn T.K (.ref (He.ga T.K "NoAnswer")) = some (.type "type")
  m2 : PySem.W.exmOne T.K (.ref (He.ga T.K "NoAnswer")) (.ref (He.ga T.K "RelayError")) = some true
  d2 : Kinds T.K (He.ga T.K "NoAnswer") ((["NotRight", "NotThere", "NoAnswer", "TooLarge", "Malformed"] : List Str).map (He.ga T.K)) ((List.range 5).map fun i => i == 2)
  g3 : mg "TooLarge" = some (.ref (He.ga T.K "TooLarge"))
  x3 : T.xc 3 = .ref (He.ga T.K "TooLarge")
  q3 : PySem.W.excIn T.K (He.ga T.K "TooLarge") He.veBase "ValueError.__new__" = true
  k3 : PySem.W.keepIn T.K (.ref (He.ga T.K "TooLarge")) = true
  s3 : PySem.W.subIn T.K (.ref (He.ga T.K "TooLarge")) (.type "BaseException") = some true
  t3 : PySem.W.typeIn T.K (.ref (He.ga T.K "TooLarge")) = some (.type "type")
  m3 : PySem.W.exmOne T.K (.ref (He.ga T.K "TooLarge")) (.ref (He.ga T.K "RelayError")) = some true
  d3 : Kinds T.K (He.ga T.K "TooLarge") ((["NotRight", "NotThere", "NoAnswer", "TooLarge", "Malformed"] : List Str).map (He.ga T.K)) ((List.range 5).map fun i => i == 3)
  g4 : mg "Malformed" = some (.ref (He.ga T.K "Malformed"))
/-- the defs of the text -/
structure Fs (T : Th) (mg : Str → Option Value) (fd : Nat → FuncData) : Prop where
  f0 : FunD T.K "is_integer" "is_integer" (defArgs (top 8)) (defBody (top 8)) (defScope (top 8)) [] [] (He.ga T.K "is_integer") (fd 0)
  g0 : mg "is_integer" = some (.ref (He.ga T.K "is_integer"))
  f1 : FunD T.K "is_within" "is_within" (defArgs (top 9)) (defBody (top 9)) (defScope (top 9)) [] [] (He.ga T.K "is_within") (fd 1)
  g1 : mg "is_within" = some (.ref (He.ga T.K "is_within"))
  f2 : FunD T.K "is_name" "is_name" (defArgs (top 10)) (defBody (top 10)) (defScope (top 10)) [] [] (He.ga T.K "is_name") (fd 2)
  g2 : mg "is_name" = some (.ref (He.ga T.K "is_name"))
  f3 : FunD T.K "check" "check" (defArgs (top 11)) (defBody (top 11)) (defScope (top 11)) [] [] (He.ga T.K "check") (fd 3)
  g3 : mg "check" = some (.ref (He.ga T.K "check"))
  f4 : FunD T.K "is_number" "is_number" (defArgs (top 14)) (defBody (top 14)) (defScope (top 14)) [] [] (He.ga T.K "is_number") (fd 4)
  g4 : mg "is_number" = some (.ref (He.ga T.K "is_number"))
  f5 : FunD T.K "kind_of" "kind_of" (defArgs (top 20)) (defBody (top 20)) (defScope (top 20)) [] [] (He.ga T.K "kind_of") (fd 5)
  g5 : mg "kind_of" = some (.ref (He.ga T.K "kind_of"))
  f6 : FunD T.K "fault_of" "fault_of" (defArgs (top 21)) (defBody (top 21)) (defScope (top 21)) [] [] (He.ga T.K "fault_of") (fd 6)
  g6 : mg "fault_of" = some (.ref (He.ga T.K "fault_of"))
  f7 : FunD T.K "event_faults" "event_faults" (defArgs (top 22)) (defBody (top 22)) (defScope (top 22)) [] [] (He.ga T.K "event_faults") (fd 7)
  g7 : mg "event_faults" = some (.ref (He.ga T.K "event_faults"))
  f8 : FunD T.K "is_event" "is_event" (defArgs (top 27)) (defBody (top 27)) (defScope (top 27)) [] [] (He.ga T.K "is_event") (fd 8)
  g8 : mg "is_event" = some (.ref (He.ga T.K "is_event"))
  f9 : FunD T.K "are_events" "are_events" (defArgs (top 28)) (defBody (top 28)) (defScope (top 28)) [] [] (He.ga T.K "are_events") (fd 9)
  g9 : mg "are_events" = some (.ref (He.ga T.K "are_events"))
  f10 : FunD T.K "_law_draws" "_law_draws" (defArgs (top 30)) (defBody (top 30)) (defScope (top 30)) [] [] (He.ga T.K "_law_draws") (fd 10)
  g10 : mg "_law_draws" = some (.ref (He.ga T.K "_law_draws"))
  f11 : FunD T.K "_law_take" "_law_take" (defArgs (top 31)) (defBody (top 31)) (defScope (top 31)) [] [] (He.ga T.K "_law_take") (fd 11)
  g11 : mg "_law_take" = some (.ref (He.ga T.K "_law_take"))
  f12 : FunD T.K "_law_pick" "_law_pick" (defArgs (top 32)) (defBody (top 32)) (defScope (top 32)) [] [] (He.ga T.K "_law_pick") (fd 12)
  g12 : mg "_law_pick" = some (.ref (He.ga T.K "_law_pick"))
  f13 : FunD T.K "_law_same" "_law_same" (defArgs (top 33)) (defBody (top 33)) (defScope (top 33)) [] [] (He.ga T.K "_law_same") (fd 13)
  g13 : mg "_law_same" = some (.ref (He.ga T.K "_law_same"))
  f14 : FunD T.K "_law_is_name" "_law_is_name" (defArgs (top 35)) (defBody (top 35)) (defScope (top 35)) [] [] (He.ga T.K "_law_is_name") (fd 14)
  g14 : mg "_law_is_name" = some (.ref (He.ga T.K "_law_is_name"))
  f15 : FunD T.K "_law_told" "_law_told" (defArgs (top 36)) (defBody (top 36)) (defScope (top 36)) [] [] (He.ga T.K "_law_told") (fd 15)
  g15 : mg "_law_told" = some (.ref (He.ga T.K "_law_told"))
  f16 : FunD T.K "_law_kind" "_law_kind" (defArgs (top 37)) (defBody (top 37)) (defScope (top 37)) [] [] (He.ga T.K "_law_kind") (fd 16)
  g16 : mg "_law_kind" = some (.ref (He.ga T.K "_law_kind"))
  f17 : FunD T.K "_law_faults" "_law_faults" (defArgs (top 38)) (defBody (top 38)) (defScope (top 38)) [] [] (He.ga T.K "_law_faults") (fd 17)
  g17 : mg "_law_faults" = some (.ref (He.ga T.K "_law_faults"))
  f18 : FunD T.K "_law_draft" "_law_draft" (defArgs (top 39)) (defBody (top 39)) (defScope (top 39)) [] [] (He.ga T.K "_law_draft") (fd 18)
  g18 : mg "_law_draft" = some (.ref (He.ga T.K "_law_draft"))
  f19 : FunD T.K "law" "law" (defArgs (top 40)) (defBody (top 40)) (defScope (top 40)) [] [] (He.ga T.K "law") (fd 19)
  g19 : mg "law" = some (.ref (He.ga T.K "law"))
  fF : FunD T.K "_law_flags" "_law_flags" (defArgs (top 34)) (defBody (top 34)) (defScope (top 34)) [] [] (He.ga T.K "_law_flags") (fd 20)
  gF : mg "_law_flags" = some (.ref (He.ga T.K "_law_flags"))
section
variable {P : Program} {w : World} {T : Th} {mg : Str → Option Value} {base : Heap} {fd : Nat → FuncData} {n : Nat}
def Pr (T : Th) (n f : Nat) (ps : List Str) : Sp := fun us H Q E => us.length = ps.length ∧ tX T (fun c d _ H => E c d H) (CL n f) (us.map some) H Q
structure All (P : Program) (w : World) (T : Th) (mg : Str → Option Value) (base : Heap) (fd : Nat → FuncData) (n : Nat) : Prop where
  a0 : FnG P w T.K mg base (n + 1) (He.ga T.K "is_integer") (fd 0) (["value"] : List Str) (Pr T n 0 (["value"] : List Str))
  a1 : FnG P w T.K mg base (n + 1) (He.ga T.K "is_within") (fd 1) (["value", "low", "high"] : List Str) (Pr T n 1 (["value", "low", "high"] : List Str))
  a2 : FnG P w T.K mg base (n + 1) (He.ga T.K "is_name") (fd 2) (["value"] : List Str) (Pr T n 2 (["value"] : List Str))
  a3 : FnG P w T.K mg base (n + 1) (He.ga T.K "check") (fd 3) (["is_right"] : List Str) (Pr T n 3 (["is_right"] : List Str))
  a4 : FnG P w T.K mg base (n + 1) (He.ga T.K "is_number") (fd 4) (["value"] : List Str) (Pr T n 4 (["value"] : List Str))
  a5 : FnG P w T.K mg base (n + 1) (He.ga T.K "kind_of") (fd 5) (["event", "at"] : List Str) (Pr T n 5 (["event", "at"] : List Str))
  a6 : FnG P w T.K mg base (n + 1) (He.ga T.K "fault_of") (fd 6) (["event", "at", "senders", "takers"] : List Str) (Pr T n 6 (["event", "at", "senders", "takers"] : List Str))
  a7 : FnG P w T.K mg base (n + 1) (He.ga T.K "event_faults") (fd 7) (["draft"] : List Str) (Pr T n 7 (["draft"] : List Str))
  a8 : FnG P w T.K mg base (n + 1) (He.ga T.K "is_event") (fd 8) (["value"] : List Str) (Pr T n 8 (["value"] : List Str))
  a9 : FnG P w T.K mg base (n + 1) (He.ga T.K "are_events") (fd 9) (["value"] : List Str) (Pr T n 9 (["value"] : List Str))
  a10 : FnG P w T.K mg base (n + 1) (He.ga T.K "_law_draws") (fd 10) (["script"] : List Str) (Pr T n 10 (["script"] : List Str))
  a11 : FnG P w T.K mg base (n + 1) (He.ga T.K "_law_take") (fd 11) (["draws", "bound"] : List Str) (Pr T n 11 (["draws", "bound"] : List Str))
  a12 : FnG P w T.K mg base (n + 1) (He.ga T.K "_law_pick") (fd 12) (["draws", "some"] : List Str) (Pr T n 12 (["draws", "some"] : List Str))
  a13 : FnG P w T.K mg base (n + 1) (He.ga T.K "_law_same") (fd 13) (["actual", "due"] : List Str) (Pr T n 13 (["actual", "due"] : List Str))
  a14 : FnG P w T.K mg base (n + 1) (He.ga T.K "_law_is_name") (fd 14) (["value"] : List Str) (Pr T n 14 (["value"] : List Str))
  a15 : FnG P w T.K mg base (n + 1) (He.ga T.K "_law_told") (fd 15) (["value"] : List Str) (Pr T n 15 (["value"] : List Str))
  a16 : FnG P w T.K mg base (n + 1) (He.ga T.K "_law_kind") (fd 16) (["event"] : List Str) (Pr T n 16 (["event"] : List Str))
  a17 : FnG P w T.K mg base (n + 1) (He.ga T.K "_law_faults") (fd 17) (["draft"] : List Str) (Pr T n 17 (["draft"] : List Str))
  a18 : FnG P w T.K mg base (n + 1) (He.ga T.K "_law_draft") (fd 18) (["draws", "much"] : List Str) (Pr T n 18 (["draws", "much"] : List Str))
  a19 : FnG P w T.K mg base (n + 1) (He.ga T.K "law") (fd 19) (["script"] : List Str) (Pr T n 19 (["script"] : List Str))
theorem b_0 (S : Fs T mg fd) : Binds T.K (fd 0) (["value"] : List Str) [] := S.f0.bindsN fun _ _ _ _ _ _ us hl => match us, hl with | [_], _ => rfl
theorem b_1 (S : Fs T mg fd) : Binds T.K (fd 1) (["value", "low", "high"] : List Str) [] := S.f1.bindsN fun _ _ _ _ _ _ us hl => match us, hl with | [_, _, _], _ => rfl
theorem b_2 (S : Fs T mg fd) : Binds T.K (fd 2) (["value"] : List Str) [] := S.f2.bindsN fun _ _ _ _ _ _ us hl => match us, hl with | [_], _ => rfl
theorem b_3 (S : Fs T mg fd) : Binds T.K (fd 3) (["is_right"] : List Str) [] := S.f3.bindsN fun _ _ _ _ _ _ us hl => match us, hl with | [_], _ => rfl
theorem b_4 (S : Fs T mg fd) : Binds T.K (fd 4) (["value"] : List Str) [] := S.f4.bindsN fun _ _ _ _ _ _ us hl => match us, hl with | [_], _ => rfl
theorem b_5 (S : Fs T mg fd) : Binds T.K (fd 5) (["event", "at"] : List Str) [] := S.f5.bindsN fun _ _ _ _ _ _ us hl => match us, hl with | [_, _], _ => rfl
theorem b_6 (S : Fs T mg fd) : Binds T.K (fd 6) (["event", "at", "senders", "takers"] : List Str) [] := S.f6.bindsN fun _ _ _ _ _ _ us hl => match us, hl with | [_, _, _, _], _ => rfl
theorem b_7 (S : Fs T mg fd) : Binds T.K (fd 7) (["draft"] : List Str) [] := S.f7.bindsN fun _ _ _ _ _ _ us hl => match us, hl with | [_], _ => rfl
theorem b_8 (S : Fs T mg fd) : Binds T.K (fd 8) (["value"] : List Str) [] := S.f8.bindsN fun _ _ _ _ _ _ us hl => match us, hl with | [_], _ => rfl
theorem b_9 (S : Fs T mg fd) : Binds T.K (fd 9) (["value"] : List Str) [] := S.f9.bindsN fun _ _ _ _ _ _ us hl => match us, hl with | [_], _ => rfl
theorem b_10 (S : Fs T mg fd) : Binds T.K (fd 10) (["script"] : List Str) [] := S.f10.bindsN fun _ _ _ _ _ _ us hl => match us, hl with | [_], _ => rfl
theorem b_11 (S : Fs T mg fd) : Binds T.K (fd 11) (["draws", "bound"] : List Str) [] := S.f11.bindsN fun _ _ _ _ _ _ us hl => match us, hl with | [_, _], _ => rfl
theorem b_12 (S : Fs T mg fd) : Binds T.K (fd 12) (["draws", "some"] : List Str) [] := S.f12.bindsN fun _ _ _ _ _ _ us hl => match us, hl with | [_, _], _ => rfl
theorem b_13 (S : Fs T mg fd) : Binds T.K (fd 13) (["actual", "due"] : List Str) [] := S.f13.bindsN fun _ _ _ _ _ _ us hl => match us, hl with | [_, _], _ => rfl
theorem b_14 (S : Fs T mg fd) : Binds T.K (fd 14) (["value"] : List Str) [] := S.f14.bindsN fun _ _ _ _ _ _ us hl => match us, hl with | [_], _ => rfl
theorem b_15 (S : Fs T mg fd) : Binds T.K (fd 15) (["value"] : List Str) [] := S.f15.bindsN fun _ _ _ _ _ _ us hl => match us, hl with | [_], _ => rfl
theorem b_16 (S : Fs T mg fd) : Binds T.K (fd 16) (["event"] : List Str) [] := S.f16.bindsN fun _ _ _ _ _ _ us hl => match us, hl with | [_], _ => rfl
theorem b_17 (S : Fs T mg fd) : Binds T.K (fd 17) (["draft"] : List Str) [] := S.f17.bindsN fun _ _ _ _ _ _ us hl => match us, hl with | [_], _ => rfl
theorem b_18 (S : Fs T mg fd) : Binds T.K (fd 18) (["draws", "much"] : List Str) [] := S.f18.bindsN fun _ _ _ _ _ _ us hl => match us, hl with | [_, _], _ => rfl
theorem b_19 (S : Fs T mg fd) : Binds T.K (fd 19) (["script"] : List Str) [] := S.f19.bindsN fun _ _ _ _ _ _ us hl => match us, hl with | [_], _ => rfl
theorem b_F (S : Fs T mg fd) : Binds T.K (fd 20) ["e"] [] := S.fF.bindsN fun _ _ _ _ _ _ us hl => match us, hl with | [_], _ => rfl
theorem sc_0 : FnScope (["value"] : List Str) (["value"] : List Str) (defScope (top 8)) := ⟨rfl, rfl, rfl, by decide +kernel, rfl, by decide +kernel, by decide +kernel⟩
theorem sc_1 : FnScope (["value", "low", "high"] : List Str) (["value", "low", "high"] : List Str) (defScope (top 9)) := ⟨rfl, rfl, rfl, by decide +kernel, rfl, by decide +kernel, by decide +kernel⟩
theorem sc_2 : FnScope (["value", "sign"] : List Str) (["value"] : List Str) (defScope (top 10)) := ⟨rfl, rfl, rfl, by decide +kernel, rfl, by decide +kernel, by decide +kernel⟩
theorem sc_3 : FnScope (["is_right"] : List Str) (["is_right"] : List Str) (defScope (top 11)) := ⟨rfl, rfl, rfl, by decide +kernel, rfl, by decide +kernel, by decide +kernel⟩
theorem sc_4 : FnScope (["value"] : List Str) (["value"] : List Str) (defScope (top 14)) := ⟨rfl, rfl, rfl, by decide +kernel, rfl, by decide +kernel, by decide +kernel⟩
theorem sc_5 : FnScope (["event", "at"] : List Str) (["event", "at"] : List Str) (defScope (top 20)) := ⟨rfl, rfl, rfl, by decide +kernel, rfl, by decide +kernel, by decide +kernel⟩
theorem sc_6 : FnScope (["event", "at", "senders", "takers", "word", "name", "number"] : List Str) (["event", "at", "senders", "takers"] : List Str) (defScope (top 21)) := ⟨rfl, rfl, rfl, by decide +kernel, rfl, by decide +kernel, by decide +kernel⟩
theorem sc_7 : FnScope (["draft", "event", "found", "senders", "takers", "at", "fault"] : List Str) (["draft"] : List Str) (defScope (top 22)) := ⟨rfl, rfl, rfl, by decide +kernel, rfl, by decide +kernel, by decide +kernel⟩
theorem sc_8 : FnScope (["value"] : List Str) (["value"] : List Str) (defScope (top 27)) := ⟨rfl, rfl, rfl, by decide +kernel, rfl, by decide +kernel, by decide +kernel⟩
theorem sc_9 : FnScope (["value", "event", "sender", "taken", "word", "name", "number"] : List Str) (["value"] : List Str) (defScope (top 28)) := ⟨rfl, rfl, rfl, by decide +kernel, rfl, by decide +kernel, by decide +kernel⟩
theorem sc_10 : FnScope (["script", "draws", "seed", "cell", "number", "k"] : List Str) (["script"] : List Str) (defScope (top 30)) := ⟨rfl, rfl, rfl, by decide +kernel, rfl, by decide +kernel, by decide +kernel⟩
theorem sc_11 : FnScope (["draws", "bound"] : List Str) (["draws", "bound"] : List Str) (defScope (top 31)) := ⟨rfl, rfl, rfl, by decide +kernel, rfl, by decide +kernel, by decide +kernel⟩
theorem sc_12 : FnScope (["draws", "some"] : List Str) (["draws", "some"] : List Str) (defScope (top 32)) := ⟨rfl, rfl, rfl, by decide +kernel, rfl, by decide +kernel, by decide +kernel⟩
theorem sc_13 : FnScope (["actual", "due", "k", "key"] : List Str) (["actual", "due"] : List Str) (defScope (top 33)) := ⟨rfl, rfl, rfl, by decide +kernel, rfl, by decide +kernel, by decide +kernel⟩
theorem sc_14 : FnScope (["value", "sign"] : List Str) (["value"] : List Str) (defScope (top 35)) := ⟨rfl, rfl, rfl, by decide +kernel, rfl, by decide +kernel, by decide +kernel⟩
theorem sc_15 : FnScope (["value", "e"] : List Str) (["value"] : List Str) (defScope (top 36)) := ⟨rfl, rfl, rfl, by decide +kernel, rfl, by decide +kernel, by decide +kernel⟩
theorem sc_16 : FnScope (["event"] : List Str) (["event"] : List Str) (defScope (top 37)) := ⟨rfl, rfl, rfl, by decide +kernel, rfl, by decide +kernel, by decide +kernel⟩
theorem sc_17 : FnScope (["draft", "found", "k", "word", "ahead", "one", "sends"] : List Str) (["draft"] : List Str) (defScope (top 38)) := ⟨rfl, rfl, rfl, by decide +kernel, rfl, by decide +kernel, by decide +kernel⟩
theorem sc_18 : FnScope (["draws", "much", "found", "sent", "fresh", "k", "name", "odd", "event", "odds", "own"] : List Str) (["draws", "much"] : List Str) (defScope (top 39)) := ⟨rfl, rfl, rfl, by decide +kernel, rfl, by decide +kernel, by decide +kernel⟩
theorem sc_19 : FnScope (["script", "draws", "turn", "much", "draft", "kept", "due", "got", "many", "k", "values", "value"] : List Str) (["script"] : List Str) (defScope (top 40)) := ⟨rfl, rfl, rfl, by decide +kernel, rfl, by decide +kernel, by decide +kernel⟩
theorem sc_F : FnScope ["e"] ["e"] (defScope (top 34)) := ⟨rfl, rfl, rfl, by decide +kernel, rfl, by decide +kernel, by decide +kernel⟩
theorem fl_ok (G : Glo T mg) (S : Fs T mg fd) : FnF P w T.K mg base 1 (He.ga T.K "_law_flags") (fd 20) ((["NotRight", "NotThere", "NoAnswer", "TooLarge", "Malformed"] : List Str).map (He.ga T.K)) :=
  flags_ok S.fF sc_F fun cdv A outer s H p D bs zc hf kd => match bs, kd.len, kd with
    | [b0, b1, b2, b3, b4], _, kd => fl_ret (Nat.le_refl _) (fl_cons (isi_pin kd.exc zc hf (List.mem_singleton.mpr rfl) (kd.is 0 _ _ rfl rfl) (by rfl) G.n_isinstance (by rfl) (.inl rfl) (by rfl) G.g0) (fl_cons (isi_pin kd.exc zc hf (List.mem_singleton.mpr rfl) (kd.is 1 _ _ rfl rfl) (by rfl) G.n_isinstance (by rfl) (.inl rfl) (by rfl) G.g1) (fl_cons (isi_pin kd.exc zc hf (List.mem_singleton.mpr rfl) (kd.is 2 _ _ rfl rfl) (by rfl) G.n_isinstance (by rfl) (.inl rfl) (by rfl) G.g2) (fl_cons (isi_pin kd.exc zc hf (List.mem_singleton.mpr rfl) (kd.is 3 _ _ rfl rfl) (by rfl) G.n_isinstance (by rfl) (.inl rfl) (by rfl) G.g3) (fl_cons (isi_pin kd.exc zc hf (List.mem_singleton.mpr rfl) (kd.is 4 _ _ rfl rfl) (by rfl) G.n_isinstance (by rfl) (.inl rfl) (by rfl) G.g4) (fl_nil))))))
theorem cat_ok (G : Glo T mg) (S : Fs T mg fd) {X : Cx} (hP : X.prog = P) (hw : X.w = w) (hK : X.K = T.K) (hm : X.mg = mg) (hr : Room (n + 1) X.A) : Catch T X "_law_flags" flags (.ref (He.ga T.K "RelayError")) := by
  subst hP hw hm
  refine ⟨_, _, _, 1, by rw [hK]; exact fl_ok G S, S.gF, by rw [hK]; exact S.fF.kp, by rw [hK]; exact b_F S, hr.mono (by omega), fun c bs h => ?_⟩
  rw [hK]
  unfold flags at h
  split at h
  · rename_i hc
    cases h
    match c, hc with
    | 0, _ => exact ⟨_, G.x0, G.d0, G.m0⟩
    | 1, _ => exact ⟨_, G.x1, G.d1, G.m1⟩
    | 2, _ => exact ⟨_, G.x2, G.d2, G.m2⟩
    | 3, _ => exact ⟨_, G.x3, G.d3, G.m3⟩
    | c + 4, hc => omega
  · exact nomatch h
theorem der_0 (G : Glo T mg) (S : Fs T mg fd) (hA : All P w T mg base fd n) (cdv : Value) (A : Around) (outer : List PySem.Env) (s : Shared) (H : Hp) (E : XK) (room : Room (n + 1) (A.deeper (envOfC "is_integer" (defScope (top 8)) s.heap.objs.size (He.ga T.K "is_integer") cdv)))
    (ok : Ok T (fun c d _ H => E c d H) (cxOf (L2.CX P w) P w T.K mg base (["value"] : List Str) "is_integer" (defScope (top 8)) (He.ga T.K "is_integer") cdv A outer s H E)) : PSs (cxOf (L2.CX P w) P w T.K mg base (["value"] : List Str) "is_integer" (defScope (top 8)) (He.ga T.K "is_integer") cdv A outer s H E) (defBody (top 8)) (tSt T (fun c d _ H => E c d H) (d_0 (CL n))) := by
  have hu1 := show (cxOf (L2.CX P w) P w T.K mg base (["value"] : List Str) "is_integer" (defScope (top 8)) (He.ga T.K "is_integer") cdv A outer s H E).A.units + 1 < cLine from Nat.lt_of_le_of_lt (Nat.add_le_add_left (by decide) _) ok.hu
  exact pst_one (pst_ret (px_and (px_isi (t := .int) (by rfl) G.n_isinstance (pk_var (i := 0) (by rfl) (.inl (by kernel_rfl))) (by rfl) G.n_int (by decide +kernel)) (pe_one (px_not (px_isi (t := .bool) (by rfl) G.n_isinstance (pk_var (i := 0) (by rfl) (.inl (by kernel_rfl))) (by rfl) G.n_bool (by decide +kernel))))))
theorem der_1 (G : Glo T mg) (S : Fs T mg fd) (hA : All P w T mg base fd n) (cdv : Value) (A : Around) (outer : List PySem.Env) (s : Shared) (H : Hp) (E : XK) (room : Room (n + 1) (A.deeper (envOfC "is_within" (defScope (top 9)) s.heap.objs.size (He.ga T.K "is_within") cdv)))
    (ok : Ok T (fun c d _ H => E c d H) (cxOf (L2.CX P w) P w T.K mg base (["value", "low", "high"] : List Str) "is_within" (defScope (top 9)) (He.ga T.K "is_within") cdv A outer s H E)) : PSs (cxOf (L2.CX P w) P w T.K mg base (["value", "low", "high"] : List Str) "is_within" (defScope (top 9)) (He.ga T.K "is_within") cdv A outer s H E) (defBody (top 9)) (tSt T (fun c d _ H => E c d H) (d_1 (CL n))) := by
  have hu1 := show (cxOf (L2.CX P w) P w T.K mg base (["value", "low", "high"] : List Str) "is_within" (defScope (top 9)) (He.ga T.K "is_within") cdv A outer s H E).A.units + 1 < cLine from Nat.lt_of_le_of_lt (Nat.add_le_add_left (by decide) _) ok.hu
  have h0 : Has T (CL n) (cxOf (L2.CX P w) P w T.K mg base (["value", "low", "high"] : List Str) "is_within" (defScope (top 9)) (He.ga T.K "is_within") cdv A outer s H E) 0 "is_integer" (["value"] : List Str) := ⟨_, _, _, S.g0, S.f0.kp, b_0 S, room, hA.a0⟩
  exact pst_one (pst_ret (px_and (px_call ok.toOkE h0 (pg_l (i := 0) (pg_nil') (by rfl) (.inl (by kernel_rfl)))) (pe_one (px_chain (o := .le) (p := .le) (opx_le ok.K ok.hu) (opx_le ok.K ok.hu) (pf_of (px_var (i := 1) (by rfl) (.inl (by kernel_rfl)))) (pf_of (px_var (i := 0) (by rfl) (.inl (by kernel_rfl)))) (pk_var (i := 2) (by rfl) (.inl (by kernel_rfl)))))))
theorem der_2 (G : Glo T mg) (S : Fs T mg fd) (hA : All P w T mg base fd n) (cdv : Value) (A : Around) (outer : List PySem.Env) (s : Shared) (H : Hp) (E : XK) (room : Room (n + 1) (A.deeper (envOfC "is_name" (defScope (top 10)) s.heap.objs.size (He.ga T.K "is_name") cdv)))
    (ok : Ok T (fun c d _ H => E c d H) (cxOf (L2.CX P w) P w T.K mg base (["value", "sign"] : List Str) "is_name" (defScope (top 10)) (He.ga T.K "is_name") cdv A outer s H E)) : PSs (cxOf (L2.CX P w) P w T.K mg base (["value", "sign"] : List Str) "is_name" (defScope (top 10)) (He.ga T.K "is_name") cdv A outer s H E) (defBody (top 10)) (tSt T (fun c d _ H => E c d H) (d_2 (CL n))) := by
  have hu1 := show (cxOf (L2.CX P w) P w T.K mg base (["value", "sign"] : List Str) "is_name" (defScope (top 10)) (He.ga T.K "is_name") cdv A outer s H E).A.units + 1 < cLine from Nat.lt_of_le_of_lt (Nat.add_le_add_left (by decide) _) ok.hu
  exact pst_cons (pst_if (PW.pt (pq_or (pq_not (pt_of (px_isi (t := .str) (by rfl) G.n_isinstance (pk_var (i := 0) (by rfl) (.inl (by kernel_rfl))) (by rfl) G.n_str (by decide +kernel)))) (pq_or (pq_not (pt_chain' (o := .le) (p := .le) (opx_le ok.K ok.hu) (opx_le ok.K ok.hu) (pf_of (px_int)) (pf_of (px_callB (o := .len) (c_len) (by rfl) G.n_len (by decide +kernel) (pk_var (i := 0) (by rfl) (.inl (by kernel_rfl))))) (pk_of (pf_of (px_gint G.n_MOST_SIGNS.choose_spec))))) (pq_one (pq_not (pt_chain' (o := .le) (p := .le) (opx_le ok.K ok.hu) (opx_le ok.K ok.hu) (pf_of (px_str)) (pf_of (px_idxL ok.hu (pe_var (i := 0) rfl (.inl (by kernel_rfl)) (by decide) (by decide)) (pk_of (pf_of (px_int))))) (pk_of (pf_of (px_str))))))))) (pst_one (pst_ret (px_bl))) (pst_nil)) (pst_one (pst_ret (px_callB (o := .all) (c_all ok.calm) (by rfl) G.n_all (by decide +kernel) (pk_of (pf_of (px_lc (own := [(("sign" : Str), 1)]) ok.calm ok.nd (pi_of ok.K (pn_var (i := 0) (by rfl) (.inl (by kernel_rfl)))) (show BlkOk (["value", "sign"] : List Str) (defScope (top 10)) _ [(("sign" : Str), 1)] from ⟨rfl, by decide +kernel, by decide +kernel, by decide +kernel, by decide +kernel⟩) (fun _ _ _ _ _ => pgd_nm (i := 1) ok.nd (by rfl) (.inl (by kernel_rfl)) (.inr (by kernel_rfl))) (fun _ _ _ _ _ => pif_none) (fun _ _ _ _ _ => px_fzo (px_or (px_chain (o := .le) (p := .le) (opx_le ok.K ok.hu) (opx_le ok.K ok.hu) (pf_of (px_str)) (pf_of (px_var (i := 1) (by rfl) (.inl (by kernel_rfl)))) (pk_of (pf_of (px_str)))) (pe_one (px_chain (o := .le) (p := .le) (opx_le ok.K ok.hu) (opx_le ok.K ok.hu) (pf_of (px_str)) (pf_of (px_var (i := 1) (by rfl) (.inl (by kernel_rfl)))) (pk_of (pf_of (px_str))))))) (by decide)))))))
theorem der_3 (G : Glo T mg) (S : Fs T mg fd) (hA : All P w T mg base fd n) (cdv : Value) (A : Around) (outer : List PySem.Env) (s : Shared) (H : Hp) (E : XK) (room : Room (n + 1) (A.deeper (envOfC "check" (defScope (top 11)) s.heap.objs.size (He.ga T.K "check") cdv)))
    (ok : Ok T (fun c d _ H => E c d H) (cxOf (L2.CX P w) P w T.K mg base (["is_right"] : List Str) "check" (defScope (top 11)) (He.ga T.K "check") cdv A outer s H E)) : PSs (cxOf (L2.CX P w) P w T.K mg base (["is_right"] : List Str) "check" (defScope (top 11)) (He.ga T.K "check") cdv A outer s H E) (defBody (top 11)) (tSt T (fun c d _ H => E c d H) (d_3 (CL n))) := by
  have hu1 := show (cxOf (L2.CX P w) P w T.K mg base (["is_right"] : List Str) "check" (defScope (top 11)) (He.ga T.K "check") cdv A outer s H E).A.units + 1 < cLine from Nat.lt_of_le_of_lt (Nat.add_le_add_left (by decide) _) ok.hu
  exact pst_one (pst_if (pq_not (pt_of (px_var (i := 0) (by rfl) (.inl (by kernel_rfl))))) (pst_one (pst_raise ok.calm ok.tk (G.x0) PySem.F.excBase_ValueError (G.q0) (G.g0) (G.k0) (raises_own G.s0 G.t0) (by rfl))) (pst_nil))
theorem der_4 (G : Glo T mg) (S : Fs T mg fd) (hA : All P w T mg base fd n) (cdv : Value) (A : Around) (outer : List PySem.Env) (s : Shared) (H : Hp) (E : XK) (room : Room (n + 1) (A.deeper (envOfC "is_number" (defScope (top 14)) s.heap.objs.size (He.ga T.K "is_number") cdv)))
    (ok : Ok T (fun c d _ H => E c d H) (cxOf (L2.CX P w) P w T.K mg base (["value"] : List Str) "is_number" (defScope (top 14)) (He.ga T.K "is_number") cdv A outer s H E)) : PSs (cxOf (L2.CX P w) P w T.K mg base (["value"] : List Str) "is_number" (defScope (top 14)) (He.ga T.K "is_number") cdv A outer s H E) (defBody (top 14)) (tSt T (fun c d _ H => E c d H) (d_4 (CL n))) := by
  have hu1 := show (cxOf (L2.CX P w) P w T.K mg base (["value"] : List Str) "is_number" (defScope (top 14)) (He.ga T.K "is_number") cdv A outer s H E).A.units + 1 < cLine from Nat.lt_of_le_of_lt (Nat.add_le_add_left (by decide) _) ok.hu
  have h1 : Has T (CL n) (cxOf (L2.CX P w) P w T.K mg base (["value"] : List Str) "is_number" (defScope (top 14)) (He.ga T.K "is_number") cdv A outer s H E) 1 "is_within" (["value", "low", "high"] : List Str) := ⟨_, _, _, S.g1, S.f1.kp, b_1 S, room, hA.a1⟩
  exact pst_one (pst_ret (px_call ok.toOkE h1 (pg_l (i := 0) (pg_v (px_int) (pg_v (px_gint G.n_MOST_NUMBER_copies.choose_spec) (pg_nil') ) ) (by rfl) (.inl (by kernel_rfl)))))
theorem der_5 (G : Glo T mg) (S : Fs T mg fd) (hA : All P w T mg base fd n) (cdv : Value) (A : Around) (outer : List PySem.Env) (s : Shared) (H : Hp) (E : XK) (room : Room (n + 1) (A.deeper (envOfC "kind_of" (defScope (top 20)) s.heap.objs.size (He.ga T.K "kind_of") cdv)))
    (ok : Ok T (fun c d _ H => E c d H) (cxOf (L2.CX P w) P w T.K mg base (["event", "at"] : List Str) "kind_of" (defScope (top 20)) (He.ga T.K "kind_of") cdv A outer s H E)) : PSs (cxOf (L2.CX P w) P w T.K mg base (["event", "at"] : List Str) "kind_of" (defScope (top 20)) (He.ga T.K "kind_of") cdv A outer s H E) (defBody (top 20)) (tSt T (fun c d _ H => E c d H) (d_5 (CL n))) := by
  have hu1 := show (cxOf (L2.CX P w) P w T.K mg base (["event", "at"] : List Str) "kind_of" (defScope (top 20)) (He.ga T.K "kind_of") cdv A outer s H E).A.units + 1 < cLine from Nat.lt_of_le_of_lt (Nat.add_le_add_left (by decide) _) ok.hu
  have h2 : Has T (CL n) (cxOf (L2.CX P w) P w T.K mg base (["event", "at"] : List Str) "kind_of" (defScope (top 20)) (He.ga T.K "kind_of") cdv A outer s H E) 2 "is_name" (["value"] : List Str) := ⟨_, _, _, S.g2, S.f2.kp, b_2 S, room, hA.a2⟩
  have h1 : Has T (CL n) (cxOf (L2.CX P w) P w T.K mg base (["event", "at"] : List Str) "kind_of" (defScope (top 20)) (He.ga T.K "kind_of") cdv A outer s H E) 1 "is_within" (["value", "low", "high"] : List Str) := ⟨_, _, _, S.g1, S.f1.kp, b_1 S, room, hA.a1⟩
  exact pst_cons (pst_if (pt_cmp' (o := .ne) (opx_ne ok.K ok.hu) (pf_of (px_callB (o := .len) (c_len) (by rfl) G.n_len (by decide +kernel) (pk_var (i := 0) (by rfl) (.inl (by kernel_rfl))))) (pk_of (pf_of (px_int)))) (pst_one (pst_ret (px_tup (pd_cons (pf_of (px_str)) (pd_cons (pf_of (px_var (i := 1) (by rfl) (.inl (by kernel_rfl)))) (pd_nil)))))) (pst_nil)) (pst_cons (pst_if (PW.pt (pq_or (pq_not (pt_of (px_isi (t := .str) (by rfl) G.n_isinstance (pk_of (pf_of (px_idxL ok.hu (pe_var (i := 0) rfl (.inl (by kernel_rfl)) (by decide) (by decide)) (pk_of (pf_of (px_int)))))) (by rfl) G.n_str (by decide +kernel)))) (pq_one (pt_cmp' (o := .notin) (opx_notin ok.K ok.hu) (pf_of (px_idxL ok.hu (pe_var (i := 0) rfl (.inl (by kernel_rfl)) (by decide) (by decide)) (pk_of (pf_of (px_int))))) (pk_of (pf_of (px_tup (pd_cons (pf_of (px_gstr G.n_SEND_sheets.choose_spec)) (pd_cons (pf_of (px_gstr G.n_TAKE_sheets.choose_spec)) (pd_nil)))))))))) (pst_one (pst_ret (px_tup (pd_cons (pf_of (px_str)) (pd_cons (pf_of (px_var (i := 1) (by rfl) (.inl (by kernel_rfl)))) (pd_nil)))))) (pst_nil)) (pst_cons (pst_if (pq_not (pt_of (px_call ok.toOkE h2 (pg_v (px_idxL ok.hu (pe_var (i := 0) rfl (.inl (by kernel_rfl)) (by decide) (by decide)) (pk_of (pf_of (px_int)))) (pg_nil') )))) (pst_one (pst_ret (px_tup (pd_cons (pf_of (px_str)) (pd_cons (pf_of (px_var (i := 1) (by rfl) (.inl (by kernel_rfl)))) (pd_nil)))))) (pst_nil)) (pst_one (pst_ret (px_ite (pt_of (px_call ok.toOkE h1 (pg_v (px_idxL ok.hu (pe_var (i := 0) rfl (.inl (by kernel_rfl)) (by decide) (by decide)) (pk_of (pf_of (px_int)))) (pg_v (px_int) (pg_v (px_gint G.n_MOST_NUMBER_sheets.choose_spec) (pg_nil') ) ) ))) (px_non) (px_tup (pd_cons (pf_of (px_str)) (pd_cons (pf_of (px_var (i := 1) (by rfl) (.inl (by kernel_rfl)))) (pd_nil)))))))))
theorem der_6 (G : Glo T mg) (S : Fs T mg fd) (hA : All P w T mg base fd n) (cdv : Value) (A : Around) (outer : List PySem.Env) (s : Shared) (H : Hp) (E : XK) (room : Room (n + 1) (A.deeper (envOfC "fault_of" (defScope (top 21)) s.heap.objs.size (He.ga T.K "fault_of") cdv)))
    (ok : Ok T (fun c d _ H => E c d H) (cxOf (L2.CX P w) P w T.K mg base (["event", "at", "senders", "takers", "word", "name", "number"] : List Str) "fault_of" (defScope (top 21)) (He.ga T.K "fault_of") cdv A outer s H E)) : PSs (cxOf (L2.CX P w) P w T.K mg base (["event", "at", "senders", "takers", "word", "name", "number"] : List Str) "fault_of" (defScope (top 21)) (He.ga T.K "fault_of") cdv A outer s H E) (defBody (top 21)) (tSt T (fun c d _ H => E c d H) (d_6 (CL n))) := by
  have hu1 := show (cxOf (L2.CX P w) P w T.K mg base (["event", "at", "senders", "takers", "word", "name", "number"] : List Str) "fault_of" (defScope (top 21)) (He.ga T.K "fault_of") cdv A outer s H E).A.units + 1 < cLine from Nat.lt_of_le_of_lt (Nat.add_le_add_left (by decide) _) ok.hu
  exact pst_cons (pst_asgT (pf_of (px_var (i := 0) (by rfl) (.inl (by kernel_rfl)))) (pgd_tp ok.calm ok.K (pgd_cons (pgd_nm (i := 4) ok.nd (by rfl) (.inl (by kernel_rfl)) (.inl rfl)) (pgd_cons (pgd_nm (i := 5) ok.nd (by rfl) (.inl (by kernel_rfl)) (.inl rfl)) (pgd_cons (pgd_nm (i := 6) ok.nd (by rfl) (.inl (by kernel_rfl)) (.inl rfl)) (pgd_nil)))))) (pst_cons (pst_if (pt_cmpL' (o := .eq) (opx_eq ok.K ok.hu) (pe_var (i := 4) rfl (.inl (by kernel_rfl)) (by decide) (by decide)) (pk_of (pf_of (px_gstr G.n_SEND_sheets.choose_spec)))) (pst_one (pst_ret (px_ite (pt_cmpL' (o := .isin) (opx_in ok.K ok.hu) (pe_var (i := 6) rfl (.inl (by kernel_rfl)) (by decide) (by decide)) (pk_var (i := 2) (by rfl) (.inl (by kernel_rfl)))) (px_tup (pd_cons (pf_of (px_str)) (pd_cons (pf_of (px_var (i := 1) (by rfl) (.inl (by kernel_rfl)))) (pd_nil)))) (px_non)))) (pst_nil)) (pst_cons (pst_if (pt_cmp' (o := .isin) (opx_in ok.K ok.hu) (pf_of (px_tup (pd_cons (pf_of (px_var (i := 5) (by rfl) (.inl (by kernel_rfl)))) (pd_cons (pf_of (px_var (i := 6) (by rfl) (.inl (by kernel_rfl)))) (pd_nil))))) (pk_var (i := 3) (by rfl) (.inl (by kernel_rfl)))) (pst_one (pst_ret (px_tup (pd_cons (pf_of (px_str)) (pd_cons (pf_of (px_var (i := 1) (by rfl) (.inl (by kernel_rfl)))) (pd_nil)))))) (pst_nil)) (pst_cons (pst_if (pt_cmpL' (o := .notin) (opx_notin ok.K ok.hu) (pe_var (i := 6) rfl (.inl (by kernel_rfl)) (by decide) (by decide)) (pk_var (i := 2) (by rfl) (.inl (by kernel_rfl)))) (pst_one (pst_ret (px_tup (pd_cons (pf_of (px_str)) (pd_cons (pf_of (px_var (i := 1) (by rfl) (.inl (by kernel_rfl)))) (pd_nil)))))) (pst_nil)) (pst_one (pst_ret (px_ite (pt_cmp' (o := .eq) (opx_eq ok.K ok.hu) (pf_of (px_idxL ok.hu (pe_var (i := 2) rfl (.inl (by kernel_rfl)) (by decide) (by decide)) (pk_var (i := 6) (by rfl) (.inl (by kernel_rfl))))) (pk_var (i := 5) (by rfl) (.inl (by kernel_rfl)))) (px_tup (pd_cons (pf_of (px_str)) (pd_cons (pf_of (px_var (i := 1) (by rfl) (.inl (by kernel_rfl)))) (pd_nil)))) (px_non)))))))
theorem der_7 (G : Glo T mg) (S : Fs T mg fd) (hA : All P w T mg base fd n) (cdv : Value) (A : Around) (outer : List PySem.Env) (s : Shared) (H : Hp) (E : XK) (room : Room (n + 1) (A.deeper (envOfC "event_faults" (defScope (top 22)) s.heap.objs.size (He.ga T.K "event_faults") cdv)))
    (ok : Ok T (fun c d _ H => E c d H) (cxOf (L2.CX P w) P w T.K mg base (["draft", "event", "found", "senders", "takers", "at", "fault"] : List Str) "event_faults" (defScope (top 22)) (He.ga T.K "event_faults") cdv A outer s H E)) : PSs (cxOf (L2.CX P w) P w T.K mg base (["draft", "event", "found", "senders", "takers", "at", "fault"] : List Str) "event_faults" (defScope (top 22)) (He.ga T.K "event_faults") cdv A outer s H E) (defBody (top 22)) (tSt T (fun c d _ H => E c d H) (d_7 (CL n))) := by
  have hu1 := show (cxOf (L2.CX P w) P w T.K mg base (["draft", "event", "found", "senders", "takers", "at", "fault"] : List Str) "event_faults" (defScope (top 22)) (He.ga T.K "event_faults") cdv A outer s H E).A.units + 1 < cLine from Nat.lt_of_le_of_lt (Nat.add_le_add_left (by decide) _) ok.hu
  have h3 : Has T (CL n) (cxOf (L2.CX P w) P w T.K mg base (["draft", "event", "found", "senders", "takers", "at", "fault"] : List Str) "event_faults" (defScope (top 22)) (He.ga T.K "event_faults") cdv A outer s H E) 3 "check" (["is_right"] : List Str) := ⟨_, _, _, S.g3, S.f3.kp, b_3 S, room, hA.a3⟩
  have h5 : Has T (CL n) (cxOf (L2.CX P w) P w T.K mg base (["draft", "event", "found", "senders", "takers", "at", "fault"] : List Str) "event_faults" (defScope (top 22)) (He.ga T.K "event_faults") cdv A outer s H E) 5 "kind_of" (["event", "at"] : List Str) := ⟨_, _, _, S.g5, S.f5.kp, b_5 S, room, hA.a5⟩
  have h6 : Has T (CL n) (cxOf (L2.CX P w) P w T.K mg base (["draft", "event", "found", "senders", "takers", "at", "fault"] : List Str) "event_faults" (defScope (top 22)) (He.ga T.K "event_faults") cdv A outer s H E) 6 "fault_of" (["event", "at", "senders", "takers"] : List Str) := ⟨_, _, _, S.g6, S.f6.kp, b_6 S, room, hA.a6⟩
  exact pst_cons (pst_ex (px_call ok.toOkE h3 (pg_v (px_and (px_isi (t := .list) (by rfl) G.n_isinstance (pk_var (i := 0) (by rfl) (.inl (by kernel_rfl))) (by rfl) G.n_list (by decide +kernel)) (pe_one (px_callB (o := .all) (c_all ok.calm) (by rfl) G.n_all (by decide +kernel) (pk_of (pf_of (px_lc (own := [(("event" : Str), 1)]) ok.calm ok.nd (pi_of ok.K (pn_var (i := 0) (by rfl) (.inl (by kernel_rfl)))) (show BlkOk (["draft", "event", "found", "senders", "takers", "at", "fault"] : List Str) (defScope (top 22)) _ [(("event" : Str), 1)] from ⟨rfl, by decide +kernel, by decide +kernel, by decide +kernel, by decide +kernel⟩) (fun _ _ _ _ _ => pgd_nm (i := 1) ok.nd (by rfl) (.inl (by kernel_rfl)) (.inr (by kernel_rfl))) (fun _ _ _ _ _ => pif_none) (fun _ _ _ _ _ => px_fzo (px_isi (t := .tuple) (by rfl) G.n_isinstance (pk_var (i := 1) (by rfl) (.inl (by kernel_rfl))) (by rfl) G.n_tuple (by decide +kernel))) (by decide))))))) (pg_nil') ))) (pst_cons (pst_par3 (i := 2) (j := 3) (l := 4) (oi := true) (oj := true) (ol := true) ok.calm ok.nd (by rfl) (by rfl) (by rfl) (by decide) (by decide) (by decide) (by rfl) (by rfl) (by rfl) (po_cons (px_lst (pd_nil)) (po_cons (px_dd0) (po_cons (px_dd0) (po_nil)))) (by rfl)) (pst_cons (pst_if (pt_cmp' (o := .gt) (opx_gt ok.K ok.hu) (pf_of (px_callB (o := .len) (c_len) (by rfl) G.n_len (by decide +kernel) (pk_var (i := 0) (by rfl) (.inl (by kernel_rfl))))) (pk_of (pf_of (px_gint G.n_MOST_EVENTS_sheets.choose_spec)))) (pst_one (pst_app (i := 2) (by rfl) (.inl (by kernel_rfl)) (pf_of (px_tup (pd_cons (pf_of (px_str)) (pd_cons (pf_of (px_callB (o := .len) (c_len) (by rfl) G.n_len (by decide +kernel) (pk_var (i := 0) (by rfl) (.inl (by kernel_rfl))))) (pd_nil))))))) (pst_nil)) (pst_cons (pst_for ok.own ok.calm (pi_enm ok.K (by rfl) G.n_enumerate (pn_var (i := 0) (by rfl) (.inl (by kernel_rfl)))) (pgd_tp ok.calm ok.K (pgd_cons (pgd_nm (i := 5) ok.nd (by rfl) (.inl (by kernel_rfl)) (.inl rfl)) (pgd_cons (pgd_nm (i := 1) ok.nd (by rfl) (.inl (by kernel_rfl)) (.inl rfl)) (pgd_nil)))) (pst_cons (pst_asg (i := 6) (own := false) ok.nd (by rfl) (.inl (by kernel_rfl)) (px_call ok.toOkE h5 (pg_l (i := 1) (pg_l (i := 5) (pg_nil') (by rfl) (.inl (by kernel_rfl))) (by rfl) (.inl (by kernel_rfl))))) (pst_cons (pst_if (pt_isn (pk_var (i := 6) (by rfl) (.inl (by kernel_rfl)))) (pst_cons (pst_asg (i := 6) (own := false) ok.nd (by rfl) (.inl (by kernel_rfl)) (px_call ok.toOkE h6 (pg_l (i := 1) (pg_l (i := 5) (pg_l (i := 3) (pg_l (i := 4) (pg_nil') (by rfl) (.inl (by kernel_rfl))) (by rfl) (.inl (by kernel_rfl))) (by rfl) (.inl (by kernel_rfl))) (by rfl) (.inl (by kernel_rfl))))) (pst_one (pst_if (pt_cmp' (o := .eq) (opx_eq ok.K ok.hu) (pf_of (px_idxL ok.hu (pe_var (i := 1) rfl (.inl (by kernel_rfl)) (by decide) (by decide)) (pk_of (pf_of (px_int))))) (pk_of (pf_of (px_gstr G.n_SEND_sheets.choose_spec)))) (pst_one (pst_dflt (i := 3) (by rfl) (.inl (by kernel_rfl)) (pf_of (px_idxL ok.hu (pe_var (i := 1) rfl (.inl (by kernel_rfl)) (by decide) (by decide)) (pk_of (pf_of (px_int))))) (pf_of (px_idxL ok.hu (pe_var (i := 1) rfl (.inl (by kernel_rfl)) (by decide) (by decide)) (pk_of (pf_of (px_int))))))) (pst_one (pst_seti (i := 4) hu1 (by rfl) (.inl (by kernel_rfl)) (pf_of (px_bl)) (pf_of (px_tup (pd_cons (pf_of (px_idxL ok.hu (pe_var (i := 1) rfl (.inl (by kernel_rfl)) (by decide) (by decide)) (pk_of (pf_of (px_int))))) (pd_cons (pf_of (px_idxL ok.hu (pe_var (i := 1) rfl (.inl (by kernel_rfl)) (by decide) (by decide)) (pk_of (pf_of (px_int))))) (pd_nil)))))))))) (pst_nil)) (pst_one (pst_if (pt_notn (pk_var (i := 6) (by rfl) (.inl (by kernel_rfl)))) (pst_one (pst_app (i := 2) (by rfl) (.inl (by kernel_rfl)) (pf_of (px_var (i := 6) (by rfl) (.inl (by kernel_rfl)))))) (pst_nil)))))) (pst_one (pst_retv (i := 2) (by rfl) (.inl (by kernel_rfl)))))))
theorem der_8 (G : Glo T mg) (S : Fs T mg fd) (hA : All P w T mg base fd n) (cdv : Value) (A : Around) (outer : List PySem.Env) (s : Shared) (H : Hp) (E : XK) (room : Room (n + 1) (A.deeper (envOfC "is_event" (defScope (top 27)) s.heap.objs.size (He.ga T.K "is_event") cdv)))
    (ok : Ok T (fun c d _ H => E c d H) (cxOf (L2.CX P w) P w T.K mg base (["value"] : List Str) "is_event" (defScope (top 27)) (He.ga T.K "is_event") cdv A outer s H E)) : PSs (cxOf (L2.CX P w) P w T.K mg base (["value"] : List Str) "is_event" (defScope (top 27)) (He.ga T.K "is_event") cdv A outer s H E) (defBody (top 27)) (tSt T (fun c d _ H => E c d H) (d_8 (CL n))) := by
  have hu1 := show (cxOf (L2.CX P w) P w T.K mg base (["value"] : List Str) "is_event" (defScope (top 27)) (He.ga T.K "is_event") cdv A outer s H E).A.units + 1 < cLine from Nat.lt_of_le_of_lt (Nat.add_le_add_left (by decide) _) ok.hu
  have h2 : Has T (CL n) (cxOf (L2.CX P w) P w T.K mg base (["value"] : List Str) "is_event" (defScope (top 27)) (He.ga T.K "is_event") cdv A outer s H E) 2 "is_name" (["value"] : List Str) := ⟨_, _, _, S.g2, S.f2.kp, b_2 S, room, hA.a2⟩
  have h4 : Has T (CL n) (cxOf (L2.CX P w) P w T.K mg base (["value"] : List Str) "is_event" (defScope (top 27)) (He.ga T.K "is_event") cdv A outer s H E) 4 "is_number" (["value"] : List Str) := ⟨_, _, _, S.g4, S.f4.kp, b_4 S, room, hA.a4⟩
  exact pst_cons (pst_if (PW.pt (pq_or (pq_not (pt_of (px_isi (t := .tuple) (by rfl) G.n_isinstance (pk_var (i := 0) (by rfl) (.inl (by kernel_rfl))) (by rfl) G.n_tuple (by decide +kernel)))) (pq_or (pt_cmp' (o := .ne) (opx_ne ok.K ok.hu) (pf_of (px_callB (o := .len) (c_len) (by rfl) G.n_len (by decide +kernel) (pk_var (i := 0) (by rfl) (.inl (by kernel_rfl))))) (pk_of (pf_of (px_int)))) (pq_one (pq_not (pt_of (px_isi (t := .str) (by rfl) G.n_isinstance (pk_of (pf_of (px_idxL ok.hu (pe_var (i := 0) rfl (.inl (by kernel_rfl)) (by decide) (by decide)) (pk_of (pf_of (px_int)))))) (by rfl) G.n_str (by decide +kernel)))))))) (pst_one (pst_ret (px_bl))) (pst_nil)) (pst_one (pst_ret (px_and (px_cmp (o := .isin) (opx_in ok.K ok.hu) (pf_of (px_idxL ok.hu (pe_var (i := 0) rfl (.inl (by kernel_rfl)) (by decide) (by decide)) (pk_of (pf_of (px_int))))) (pk_of (pf_of (px_tup (pd_cons (pf_of (px_gstr G.n_SEND_orders.choose_spec)) (pd_cons (pf_of (px_gstr G.n_TAKE_orders.choose_spec)) (pd_nil))))))) (px_and (px_call ok.toOkE h2 (pg_v (px_idxL ok.hu (pe_var (i := 0) rfl (.inl (by kernel_rfl)) (by decide) (by decide)) (pk_of (pf_of (px_int)))) (pg_nil') )) (pe_one (px_call ok.toOkE h4 (pg_v (px_idxL ok.hu (pe_var (i := 0) rfl (.inl (by kernel_rfl)) (by decide) (by decide)) (pk_of (pf_of (px_int)))) (pg_nil') )))))))
theorem der_9 (G : Glo T mg) (S : Fs T mg fd) (hA : All P w T mg base fd n) (cdv : Value) (A : Around) (outer : List PySem.Env) (s : Shared) (H : Hp) (E : XK) (room : Room (n + 1) (A.deeper (envOfC "are_events" (defScope (top 28)) s.heap.objs.size (He.ga T.K "are_events") cdv)))
    (ok : Ok T (fun c d _ H => E c d H) (cxOf (L2.CX P w) P w T.K mg base (["value", "event", "sender", "taken", "word", "name", "number"] : List Str) "are_events" (defScope (top 28)) (He.ga T.K "are_events") cdv A outer s H E)) : PSs (cxOf (L2.CX P w) P w T.K mg base (["value", "event", "sender", "taken", "word", "name", "number"] : List Str) "are_events" (defScope (top 28)) (He.ga T.K "are_events") cdv A outer s H E) (defBody (top 28)) (tSt T (fun c d _ H => E c d H) (d_9 (CL n))) := by
  have hu1 := show (cxOf (L2.CX P w) P w T.K mg base (["value", "event", "sender", "taken", "word", "name", "number"] : List Str) "are_events" (defScope (top 28)) (He.ga T.K "are_events") cdv A outer s H E).A.units + 1 < cLine from Nat.lt_of_le_of_lt (Nat.add_le_add_left (by decide) _) ok.hu
  have h8 : Has T (CL n) (cxOf (L2.CX P w) P w T.K mg base (["value", "event", "sender", "taken", "word", "name", "number"] : List Str) "are_events" (defScope (top 28)) (He.ga T.K "are_events") cdv A outer s H E) 8 "is_event" (["value"] : List Str) := ⟨_, _, _, S.g8, S.f8.kp, b_8 S, room, hA.a8⟩
  exact pst_cons (pst_if (PW.pt (pq_or (pq_not (pt_of (px_isi (t := .list) (by rfl) G.n_isinstance (pk_var (i := 0) (by rfl) (.inl (by kernel_rfl))) (by rfl) G.n_list (by decide +kernel)))) (pq_or (pt_cmp' (o := .gt) (opx_gt ok.K ok.hu) (pf_of (px_callB (o := .len) (c_len) (by rfl) G.n_len (by decide +kernel) (pk_var (i := 0) (by rfl) (.inl (by kernel_rfl))))) (pk_of (pf_of (px_gint G.n_MOST_EVENTS_orders.choose_spec)))) (pq_one (pq_not (pt_of (px_callB (o := .all) (c_all ok.calm) (by rfl) G.n_all (by decide +kernel) (pk_of (pf_of (px_lc (own := [(("event" : Str), 1)]) ok.calm ok.nd (pi_of ok.K (pn_var (i := 0) (by rfl) (.inl (by kernel_rfl)))) (show BlkOk (["value", "event", "sender", "taken", "word", "name", "number"] : List Str) (defScope (top 28)) _ [(("event" : Str), 1)] from ⟨rfl, by decide +kernel, by decide +kernel, by decide +kernel, by decide +kernel⟩) (fun _ _ _ _ _ => pgd_nm (i := 1) ok.nd (by rfl) (.inl (by kernel_rfl)) (.inr (by kernel_rfl))) (fun _ _ _ _ _ => pif_none) (fun _ _ _ _ _ => px_fzo (px_call (OkE.blk ok.toOkE _ _ _ _ _) h8 (pg_l (i := 1) (pg_nil') (by rfl) (.inl (by kernel_rfl))))) (by decide))))))))))) (pst_one (pst_ret (px_bl))) (pst_nil)) (pst_cons (pst_par2 (i := 2) (j := 3) (oi := true) (oj := true) ok.calm ok.nd (by rfl) (by rfl) (by decide) (by rfl) (by rfl) (po_cons (px_dd0) (po_cons (px_dd0) (po_nil))) (by rfl)) (pst_cons (pst_for ok.own ok.calm (pi_of ok.K (pn_var (i := 0) (by rfl) (.inl (by kernel_rfl)))) (pgd_tp ok.calm ok.K (pgd_cons (pgd_nm (i := 4) ok.nd (by rfl) (.inl (by kernel_rfl)) (.inl rfl)) (pgd_cons (pgd_nm (i := 5) ok.nd (by rfl) (.inl (by kernel_rfl)) (.inl rfl)) (pgd_cons (pgd_nm (i := 6) ok.nd (by rfl) (.inl (by kernel_rfl)) (.inl rfl)) (pgd_nil))))) (pst_one (pst_if (pt_cmpL' (o := .eq) (opx_eq ok.K ok.hu) (pe_var (i := 4) rfl (.inl (by kernel_rfl)) (by decide) (by decide)) (pk_of (pf_of (px_gstr G.n_SEND_orders.choose_spec)))) (pst_cons (pst_if (pt_cmpL' (o := .isin) (opx_in ok.K ok.hu) (pe_var (i := 6) rfl (.inl (by kernel_rfl)) (by decide) (by decide)) (pk_var (i := 2) (by rfl) (.inl (by kernel_rfl)))) (pst_one (pst_ret (px_bl))) (pst_nil)) (pst_one (pst_seti (i := 2) hu1 (by rfl) (.inl (by kernel_rfl)) (pf_of (px_var (i := 5) (by rfl) (.inl (by kernel_rfl)))) (pf_of (px_var (i := 6) (by rfl) (.inl (by kernel_rfl))))))) (pst_cons (pst_if (PW.pt (pq_or (pt_cmpL' (o := .notin) (opx_notin ok.K ok.hu) (pe_var (i := 6) rfl (.inl (by kernel_rfl)) (by decide) (by decide)) (pk_var (i := 2) (by rfl) (.inl (by kernel_rfl)))) (pq_or (pt_cmp' (o := .eq) (opx_eq ok.K ok.hu) (pf_of (px_idxL ok.hu (pe_var (i := 2) rfl (.inl (by kernel_rfl)) (by decide) (by decide)) (pk_var (i := 6) (by rfl) (.inl (by kernel_rfl))))) (pk_var (i := 5) (by rfl) (.inl (by kernel_rfl)))) (pq_one (pt_cmp' (o := .isin) (opx_in ok.K ok.hu) (pf_of (px_tup (pd_cons (pf_of (px_var (i := 5) (by rfl) (.inl (by kernel_rfl)))) (pd_cons (pf_of (px_var (i := 6) (by rfl) (.inl (by kernel_rfl)))) (pd_nil))))) (pk_var (i := 3) (by rfl) (.inl (by kernel_rfl)))))))) (pst_one (pst_ret (px_bl))) (pst_nil)) (pst_one (pst_seti (i := 3) hu1 (by rfl) (.inl (by kernel_rfl)) (pf_of (px_bl)) (pf_of (px_tup (pd_cons (pf_of (px_var (i := 5) (by rfl) (.inl (by kernel_rfl)))) (pd_cons (pf_of (px_var (i := 6) (by rfl) (.inl (by kernel_rfl)))) (pd_nil))))))))))) (pst_one (pst_ret (px_bl)))))
theorem der_10 (G : Glo T mg) (S : Fs T mg fd) (hA : All P w T mg base fd n) (cdv : Value) (A : Around) (outer : List PySem.Env) (s : Shared) (H : Hp) (E : XK) (room : Room (n + 1) (A.deeper (envOfC "_law_draws" (defScope (top 30)) s.heap.objs.size (He.ga T.K "_law_draws") cdv)))
    (ok : Ok T (fun c d _ H => E c d H) (cxOf (L2.CX P w) P w T.K mg base (["script", "draws", "seed", "cell", "number", "k"] : List Str) "_law_draws" (defScope (top 30)) (He.ga T.K "_law_draws") cdv A outer s H E)) : PSs (cxOf (L2.CX P w) P w T.K mg base (["script", "draws", "seed", "cell", "number", "k"] : List Str) "_law_draws" (defScope (top 30)) (He.ga T.K "_law_draws") cdv A outer s H E) (defBody (top 30)) (tSt T (fun c d _ H => E c d H) (d_10 (CL n))) := by
  have hu1 := show (cxOf (L2.CX P w) P w T.K mg base (["script", "draws", "seed", "cell", "number", "k"] : List Str) "_law_draws" (defScope (top 30)) (He.ga T.K "_law_draws") cdv A outer s H E).A.units + 1 < cLine from Nat.lt_of_le_of_lt (Nat.add_le_add_left (by decide) _) ok.hu
  exact pst_cons (pst_asg (i := 1) (own := true) ok.nd (by rfl) (.inl (by kernel_rfl)) (px_lst (pd_nil))) (pst_cons (pst_asg (i := 2) (own := false) ok.nd (by rfl) (.inl (by kernel_rfl)) (px_int)) (pst_cons (pst_for ok.own ok.calm (pi_scr (i := 0) ok.K (by rfl) (.inl (by kernel_rfl))) (pgd_nm (i := 3) ok.nd (by rfl) (.inl (by kernel_rfl)) (.inl rfl)) (pst_cons (pst_asg (i := 4) (own := false) ok.nd (by rfl) (.inl (by kernel_rfl)) (px_callB (o := .abs) (c_abs) (by rfl) G.n_abs (by decide +kernel) (pk_of (pf_of (px_callTy (o := .int) (c_int) (by rfl) G.n_int (by decide +kernel) (pk_var (i := 3) (by rfl) (.inl (by kernel_rfl)))))))) (pst_cons (pst_asg (i := 2) (own := false) ok.nd (by rfl) (.inl (by kernel_rfl)) (px_bin (o := .mod) opx_mod (pf_of (px_callTy (o := .int) (c_int) (by rfl) G.n_int (by decide +kernel) (pk_of (pf_of (px_bin (o := .add) opx_add (pf_of (px_bin (o := .add) opx_add (pf_of (px_binL (o := .mul) opx_mul (pe_var (i := 2) rfl (.inl (by kernel_rfl)) (by decide) (by decide)) (pk_of (pf_of (px_int))))) (pk_var (i := 4) (by rfl) (.inl (by kernel_rfl))))) (pk_of (pf_of (px_int)))))))) (pk_of (pf_of (px_int))))) (pst_cons (pst_if (pt_cmpL' (o := .lt) (opx_lt ok.K ok.hu) (pe_var (i := 4) rfl (.inl (by kernel_rfl)) (by decide) (by decide)) (pk_of (pf_of (px_bin (o := .pow) opx_pow (pf_of (px_int)) (pk_of (pf_of (px_int))))))) (pst_cons (pst_app (i := 1) (by rfl) (.inl (by kernel_rfl)) (pf_of (px_bin (o := .mod) opx_mod (pf_of (px_callTy (o := .int) (c_int) (by rfl) G.n_int (by decide +kernel) (pk_var (i := 4) (by rfl) (.inl (by kernel_rfl))))) (pk_of (pf_of (px_int)))))) (pst_cons (pst_app (i := 1) (by rfl) (.inl (by kernel_rfl)) (pf_of (px_bin (o := .mod) opx_mod (pf_of (px_callTy (o := .int) (c_int) (by rfl) G.n_int (by decide +kernel) (pk_var (i := 2) (by rfl) (.inl (by kernel_rfl))))) (pk_of (pf_of (px_int)))))) (pst_one (pst_asg (i := 4) (own := false) ok.nd (by rfl) (.inl (by kernel_rfl)) (px_int))))) (pst_nil)) (pst_one (pst_for ok.own ok.calm (pi_rng1 (by rfl) G.n_range (pf_of (px_int))) (pgd_nm (i := 5) ok.nd (by rfl) (.inl (by kernel_rfl)) (.inl rfl)) (pst_one (pst_if (pt_cmpL' (o := .gt) (opx_gt ok.K ok.hu) (pe_var (i := 4) rfl (.inl (by kernel_rfl)) (by decide) (by decide)) (pk_of (pf_of (px_int)))) (pst_cons (pst_app (i := 1) (by rfl) (.inl (by kernel_rfl)) (pf_of (px_bin (o := .mod) opx_mod (pf_of (px_callTy (o := .int) (c_int) (by rfl) G.n_int (by decide +kernel) (pk_var (i := 4) (by rfl) (.inl (by kernel_rfl))))) (pk_of (pf_of (px_int)))))) (pst_one (pst_asg (i := 4) (own := false) ok.nd (by rfl) (.inl (by kernel_rfl)) (px_binL (o := .fdiv) opx_fdiv (pe_var (i := 4) rfl (.inl (by kernel_rfl)) (by decide) (by decide)) (pk_of (pf_of (px_int))))))) (pst_nil))))))))) (pst_cons (pst_for ok.own ok.calm (pi_rng1 (by rfl) G.n_range (pf_of (px_int))) (pgd_nm (i := 5) ok.nd (by rfl) (.inl (by kernel_rfl)) (.inl rfl)) (pst_cons (pst_asg (i := 2) (own := false) ok.nd (by rfl) (.inl (by kernel_rfl)) (px_bin (o := .mod) opx_mod (pf_of (px_callTy (o := .int) (c_int) (by rfl) G.n_int (by decide +kernel) (pk_of (pf_of (px_bin (o := .add) opx_add (pf_of (px_binL (o := .mul) opx_mul (pe_var (i := 2) rfl (.inl (by kernel_rfl)) (by decide) (by decide)) (pk_of (pf_of (px_int))))) (pk_of (pf_of (px_int)))))))) (pk_of (pf_of (px_int))))) (pst_one (pst_app (i := 1) (by rfl) (.inl (by kernel_rfl)) (pf_of (px_binL (o := .fdiv) opx_fdiv (pe_var (i := 2) rfl (.inl (by kernel_rfl)) (by decide) (by decide)) (pk_of (pf_of (px_int))))))))) (pst_one (pst_ret (px_lrev ok.calm (by rfl) G.n_list (by rfl) G.n_reversed (pk_var (i := 1) (by rfl) (.inl (by kernel_rfl)))))))))
theorem der_11 (G : Glo T mg) (S : Fs T mg fd) (hA : All P w T mg base fd n) (cdv : Value) (A : Around) (outer : List PySem.Env) (s : Shared) (H : Hp) (E : XK) (room : Room (n + 1) (A.deeper (envOfC "_law_take" (defScope (top 31)) s.heap.objs.size (He.ga T.K "_law_take") cdv)))
    (ok : Ok T (fun c d _ H => E c d H) (cxOf (L2.CX P w) P w T.K mg base (["draws", "bound"] : List Str) "_law_take" (defScope (top 31)) (He.ga T.K "_law_take") cdv A outer s H E)) : PSs (cxOf (L2.CX P w) P w T.K mg base (["draws", "bound"] : List Str) "_law_take" (defScope (top 31)) (He.ga T.K "_law_take") cdv A outer s H E) (defBody (top 31)) (tSt T (fun c d _ H => E c d H) (d_11 (CL n))) := by
  have hu1 := show (cxOf (L2.CX P w) P w T.K mg base (["draws", "bound"] : List Str) "_law_take" (defScope (top 31)) (He.ga T.K "_law_take") cdv A outer s H E).A.units + 1 < cLine from Nat.lt_of_le_of_lt (Nat.add_le_add_left (by decide) _) ok.hu
  exact pst_cons (pst_if (pt_cmp' (o := .eq) (opx_eq ok.K ok.hu) (pf_of (px_callB (o := .len) (c_len) (by rfl) G.n_len (by decide +kernel) (pk_var (i := 0) (by rfl) (.inl (by kernel_rfl))))) (pk_of (pf_of (px_int)))) (pst_one (pst_ret (px_int))) (pst_nil)) (pst_one (pst_ret (px_bin (o := .mod) opx_mod (pf_of (px_callTy (o := .int) (c_int) (by rfl) G.n_int (by decide +kernel) (pk_of (pf_of (px_pop (i := 0) (by rfl) (.inl (by kernel_rfl))))))) (pk_var (i := 1) (by rfl) (.inl (by kernel_rfl))))))
theorem der_12 (G : Glo T mg) (S : Fs T mg fd) (hA : All P w T mg base fd n) (cdv : Value) (A : Around) (outer : List PySem.Env) (s : Shared) (H : Hp) (E : XK) (room : Room (n + 1) (A.deeper (envOfC "_law_pick" (defScope (top 32)) s.heap.objs.size (He.ga T.K "_law_pick") cdv)))
    (ok : Ok T (fun c d _ H => E c d H) (cxOf (L2.CX P w) P w T.K mg base (["draws", "some"] : List Str) "_law_pick" (defScope (top 32)) (He.ga T.K "_law_pick") cdv A outer s H E)) : PSs (cxOf (L2.CX P w) P w T.K mg base (["draws", "some"] : List Str) "_law_pick" (defScope (top 32)) (He.ga T.K "_law_pick") cdv A outer s H E) (defBody (top 32)) (tSt T (fun c d _ H => E c d H) (d_12 (CL n))) := by
  have hu1 := show (cxOf (L2.CX P w) P w T.K mg base (["draws", "some"] : List Str) "_law_pick" (defScope (top 32)) (He.ga T.K "_law_pick") cdv A outer s H E).A.units + 1 < cLine from Nat.lt_of_le_of_lt (Nat.add_le_add_left (by decide) _) ok.hu
  have h11 : Has T (CL n) (cxOf (L2.CX P w) P w T.K mg base (["draws", "some"] : List Str) "_law_pick" (defScope (top 32)) (He.ga T.K "_law_pick") cdv A outer s H E) 11 "_law_take" (["draws", "bound"] : List Str) := ⟨_, _, _, S.g11, S.f11.kp, b_11 S, room, hA.a11⟩
  exact pst_one (pst_ret (px_idxL ok.hu (pe_var (i := 1) rfl (.inl (by kernel_rfl)) (by decide) (by decide)) (pk_of (pf_of (px_call ok.toOkE h11 (pg_r (i := 0) (pg_v (px_callB (o := .len) (c_len) (by rfl) G.n_len (by decide +kernel) (pk_var (i := 1) (by rfl) (.inl (by kernel_rfl)))) (pg_nil') ) (by rfl) (.inl (by kernel_rfl))))))))
theorem der_13 (G : Glo T mg) (S : Fs T mg fd) (hA : All P w T mg base fd n) (cdv : Value) (A : Around) (outer : List PySem.Env) (s : Shared) (H : Hp) (E : XK) (room : Room (n + 1) (A.deeper (envOfC "_law_same" (defScope (top 33)) s.heap.objs.size (He.ga T.K "_law_same") cdv)))
    (ok : Ok T (fun c d _ H => E c d H) (cxOf (L2.CX P w) P w T.K mg base (["actual", "due", "k", "key"] : List Str) "_law_same" (defScope (top 33)) (He.ga T.K "_law_same") cdv A outer s H E)) : PSs (cxOf (L2.CX P w) P w T.K mg base (["actual", "due", "k", "key"] : List Str) "_law_same" (defScope (top 33)) (He.ga T.K "_law_same") cdv A outer s H E) (defBody (top 33)) (tSt T (fun c d _ H => E c d H) (d_13 (CL n))) := by
  have hu1 := show (cxOf (L2.CX P w) P w T.K mg base (["actual", "due", "k", "key"] : List Str) "_law_same" (defScope (top 33)) (He.ga T.K "_law_same") cdv A outer s H E).A.units + 1 < cLine from Nat.lt_of_le_of_lt (Nat.add_le_add_left (by decide) _) ok.hu
  have h13 : Has T (CL n) (cxOf (L2.CX P w) P w T.K mg base (["actual", "due", "k", "key"] : List Str) "_law_same" (defScope (top 33)) (He.ga T.K "_law_same") cdv A outer s H E) 13 "_law_same" (["actual", "due"] : List Str) := ⟨_, _, _, S.g13, S.f13.kp, b_13 S, room, hA.a13⟩
  exact pst_cons (pst_if (pt_isn (pk_var (i := 1) (by rfl) (.inr (.inl (by kernel_rfl))))) (pst_one (pst_ret (px_isn (pk_var (i := 0) (by rfl) (.inr (.inl (by kernel_rfl))))))) (pst_nil)) (pst_cons (pst_if (PW.pt (pq_or (pt_of (px_isi (t := .tuple) (by rfl) G.n_isinstance (pk_var (i := 1) (by rfl) (.inr (.inl (by kernel_rfl)))) (by rfl) G.n_tuple (by decide +kernel))) (pq_one (pt_of (px_isi (t := .list) (by rfl) G.n_isinstance (pk_var (i := 1) (by rfl) (.inr (.inl (by kernel_rfl)))) (by rfl) G.n_list (by decide +kernel)))))) (pst_cons (pst_if (PW.pt (pq_or (pt_cmp' (o := .ne) (opx_ne ok.K ok.hu) (pf_of (px_isi (t := .tuple) (by rfl) G.n_isinstance (pk_var (i := 1) (by rfl) (.inr (.inl (by kernel_rfl)))) (by rfl) G.n_tuple (by decide +kernel))) (pk_of (pf_of (px_isi (t := .tuple) (by rfl) G.n_isinstance (pk_var (i := 0) (by rfl) (.inr (.inl (by kernel_rfl)))) (by rfl) G.n_tuple (by decide +kernel))))) (pq_one (pt_cmp' (o := .ne) (opx_ne ok.K ok.hu) (pf_of (px_isi (t := .list) (by rfl) G.n_isinstance (pk_var (i := 1) (by rfl) (.inr (.inl (by kernel_rfl)))) (by rfl) G.n_list (by decide +kernel))) (pk_of (pf_of (px_isi (t := .list) (by rfl) G.n_isinstance (pk_var (i := 0) (by rfl) (.inr (.inl (by kernel_rfl)))) (by rfl) G.n_list (by decide +kernel)))))))) (pst_one (pst_ret (px_bl))) (pst_nil)) (pst_cons (pst_if (pt_cmp' (o := .ne) (opx_ne ok.K ok.hu) (pf_of (px_callB (o := .len) (c_len) (by rfl) G.n_len (by decide +kernel) (pk_var (i := 0) (by rfl) (.inr (.inl (by kernel_rfl)))))) (pk_of (pf_of (px_callB (o := .len) (c_len) (by rfl) G.n_len (by decide +kernel) (pk_var (i := 1) (by rfl) (.inr (.inl (by kernel_rfl)))))))) (pst_one (pst_ret (px_bl))) (pst_nil)) (pst_cons (pst_for ok.own ok.calm (pi_rng1 (by rfl) G.n_range (pf_of (px_callB (o := .len) (c_len) (by rfl) G.n_len (by decide +kernel) (pk_var (i := 1) (by rfl) (.inr (.inl (by kernel_rfl))))))) (pgd_nm (i := 2) ok.nd (by rfl) (.inl (by kernel_rfl)) (.inl rfl)) (pst_one (pst_if (pq_not (pt_of (px_call ok.toOkE h13 (pg_v (px_idxL ok.hu (pe_var (i := 0) rfl (.inr (.inl (by kernel_rfl))) (by decide) (by decide)) (pk_var (i := 2) (by rfl) (.inl (by kernel_rfl)))) (pg_v (px_idxL ok.hu (pe_var (i := 1) rfl (.inr (.inl (by kernel_rfl))) (by decide) (by decide)) (pk_var (i := 2) (by rfl) (.inl (by kernel_rfl)))) (pg_nil') ) )))) (pst_one (pst_ret (px_bl))) (pst_nil)))) (pst_one (pst_ret (px_bl)))))) (pst_nil)) (pst_cons (pst_if (pt_of (px_isi (t := .dict) (by rfl) G.n_isinstance (pk_var (i := 1) (by rfl) (.inr (.inl (by kernel_rfl)))) (by rfl) G.n_dict (by decide +kernel))) (pst_cons (pst_if (PW.pt (pq_or (pq_not (pt_of (px_isi (t := .dict) (by rfl) G.n_isinstance (pk_var (i := 0) (by rfl) (.inr (.inl (by kernel_rfl)))) (by rfl) G.n_dict (by decide +kernel)))) (pq_one (pt_cmp' (o := .ne) (opx_ne ok.K ok.hu) (pf_of (px_callB (o := .len) (c_len) (by rfl) G.n_len (by decide +kernel) (pk_var (i := 0) (by rfl) (.inr (.inl (by kernel_rfl)))))) (pk_of (pf_of (px_callB (o := .len) (c_len) (by rfl) G.n_len (by decide +kernel) (pk_var (i := 1) (by rfl) (.inr (.inl (by kernel_rfl))))))))))) (pst_one (pst_ret (px_bl))) (pst_nil)) (pst_one (pst_ret (px_cmp (o := .eq) (opx_eq ok.K ok.hu) (pf_of (px_lc (own := [(("key" : Str), 3)]) ok.calm ok.nd (pi_of ok.K (pn_var (i := 1) (by rfl) (.inr (.inl (by kernel_rfl))))) (show BlkOk (["actual", "due", "k", "key"] : List Str) (defScope (top 33)) _ [(("key" : Str), 3)] from ⟨rfl, by decide +kernel, by decide +kernel, by decide +kernel, by decide +kernel⟩) (fun _ _ _ _ _ => pgd_nm (i := 3) ok.nd (by rfl) (.inl (by kernel_rfl)) (.inr (by kernel_rfl))) (fun _ _ _ _ _ => pif_one (PW.pt (pq_or (pt_cmpL' (o := .notin) (opx_notin ok.K ok.hu) (pe_var (i := 3) rfl (.inl (by kernel_rfl)) (by decide) (by decide)) (pk_var (i := 0) (by rfl) (.inr (.inl (by kernel_rfl))))) (pq_one (pq_not (pt_of (px_call (OkE.blk ok.toOkE _ _ _ _ _) h13 (pg_v (px_idxL ok.hu (pe_var (i := 0) rfl (.inr (.inl (by kernel_rfl))) (by decide) (by decide)) (pk_var (i := 3) (by rfl) (.inl (by kernel_rfl)))) (pg_v (px_idxL ok.hu (pe_var (i := 1) rfl (.inr (.inl (by kernel_rfl))) (by decide) (by decide)) (pk_var (i := 3) (by rfl) (.inl (by kernel_rfl)))) (pg_nil') ) )))))))) (fun _ _ _ _ _ => px_fzo (px_var (i := 3) (by rfl) (.inl (by kernel_rfl)))) (by decide))) (pk_of (pf_of (px_lst (pd_nil)))))))) (pst_nil)) (pst_cons (pst_if (pt_cmp' (o := .ne) (opx_ne ok.K ok.hu) (pf_of (px_isi (t := .bool) (by rfl) G.n_isinstance (pk_var (i := 1) (by rfl) (.inr (.inl (by kernel_rfl)))) (by rfl) G.n_bool (by decide +kernel))) (pk_of (pf_of (px_isi (t := .bool) (by rfl) G.n_isinstance (pk_var (i := 0) (by rfl) (.inr (.inl (by kernel_rfl)))) (by rfl) G.n_bool (by decide +kernel))))) (pst_one (pst_ret (px_bl))) (pst_nil)) (pst_cons (pst_if (PW.pt (pq_or (pt_cmp' (o := .ne) (opx_ne ok.K ok.hu) (pf_of (px_isi (t := .int) (by rfl) G.n_isinstance (pk_var (i := 1) (by rfl) (.inr (.inl (by kernel_rfl)))) (by rfl) G.n_int (by decide +kernel))) (pk_of (pf_of (px_isi (t := .int) (by rfl) G.n_isinstance (pk_var (i := 0) (by rfl) (.inr (.inl (by kernel_rfl)))) (by rfl) G.n_int (by decide +kernel))))) (pq_one (pt_cmp' (o := .ne) (opx_ne ok.K ok.hu) (pf_of (px_isi (t := .str) (by rfl) G.n_isinstance (pk_var (i := 1) (by rfl) (.inr (.inl (by kernel_rfl)))) (by rfl) G.n_str (by decide +kernel))) (pk_of (pf_of (px_isi (t := .str) (by rfl) G.n_isinstance (pk_var (i := 0) (by rfl) (.inr (.inl (by kernel_rfl)))) (by rfl) G.n_str (by decide +kernel)))))))) (pst_one (pst_ret (px_bl))) (pst_nil)) (pst_one (pst_ret (px_cmpL (o := .eq) (opx_eq ok.K ok.hu) (pe_var (i := 0) rfl (.inr (.inl (by kernel_rfl))) (by decide) (by decide)) (pk_var (i := 1) (by rfl) (.inr (.inl (by kernel_rfl)))))))))))
theorem der_14 (G : Glo T mg) (S : Fs T mg fd) (hA : All P w T mg base fd n) (cdv : Value) (A : Around) (outer : List PySem.Env) (s : Shared) (H : Hp) (E : XK) (room : Room (n + 1) (A.deeper (envOfC "_law_is_name" (defScope (top 35)) s.heap.objs.size (He.ga T.K "_law_is_name") cdv)))
    (ok : Ok T (fun c d _ H => E c d H) (cxOf (L2.CX P w) P w T.K mg base (["value", "sign"] : List Str) "_law_is_name" (defScope (top 35)) (He.ga T.K "_law_is_name") cdv A outer s H E)) : PSs (cxOf (L2.CX P w) P w T.K mg base (["value", "sign"] : List Str) "_law_is_name" (defScope (top 35)) (He.ga T.K "_law_is_name") cdv A outer s H E) (defBody (top 35)) (tSt T (fun c d _ H => E c d H) (d_14 (CL n))) := by
  have hu1 := show (cxOf (L2.CX P w) P w T.K mg base (["value", "sign"] : List Str) "_law_is_name" (defScope (top 35)) (He.ga T.K "_law_is_name") cdv A outer s H E).A.units + 1 < cLine from Nat.lt_of_le_of_lt (Nat.add_le_add_left (by decide) _) ok.hu
  exact pst_cons (pst_if (PW.pt (pq_or (pq_not (pt_of (px_isi (t := .str) (by rfl) G.n_isinstance (pk_var (i := 0) (by rfl) (.inl (by kernel_rfl))) (by rfl) G.n_str (by decide +kernel)))) (pq_or (pq_not (pt_chain' (o := .le) (p := .le) (opx_le ok.K ok.hu) (opx_le ok.K ok.hu) (pf_of (px_int)) (pf_of (px_callB (o := .len) (c_len) (by rfl) G.n_len (by decide +kernel) (pk_var (i := 0) (by rfl) (.inl (by kernel_rfl))))) (pk_of (pf_of (px_int))))) (pq_one (pt_cmp' (o := .notin) (opx_notin ok.K ok.hu) (pf_of (px_idxL ok.hu (pe_var (i := 0) rfl (.inl (by kernel_rfl)) (by decide) (by decide)) (pk_of (pf_of (px_int))))) (pk_of (pf_of (px_str)))))))) (pst_one (pst_ret (px_bl))) (pst_nil)) (pst_one (pst_ret (px_cmp (o := .eq) (opx_eq ok.K ok.hu) (pf_of (px_lc (own := [(("sign" : Str), 1)]) ok.calm ok.nd (pi_of ok.K (pn_var (i := 0) (by rfl) (.inl (by kernel_rfl)))) (show BlkOk (["value", "sign"] : List Str) (defScope (top 35)) _ [(("sign" : Str), 1)] from ⟨rfl, by decide +kernel, by decide +kernel, by decide +kernel, by decide +kernel⟩) (fun _ _ _ _ _ => pgd_nm (i := 1) ok.nd (by rfl) (.inl (by kernel_rfl)) (.inr (by kernel_rfl))) (fun _ _ _ _ _ => pif_one (pt_cmpL' (o := .notin) (opx_notin ok.K ok.hu) (pe_var (i := 1) rfl (.inl (by kernel_rfl)) (by decide) (by decide)) (pk_of (pf_of (px_str))))) (fun _ _ _ _ _ => px_fzo (px_var (i := 1) (by rfl) (.inl (by kernel_rfl)))) (by decide))) (pk_of (pf_of (px_lst (pd_nil)))))))
theorem der_15 (G : Glo T mg) (S : Fs T mg fd) (hA : All P w T mg base fd n) (cdv : Value) (A : Around) (outer : List PySem.Env) (s : Shared) (H : Hp) (E : XK) (room : Room (n + 1) (A.deeper (envOfC "_law_told" (defScope (top 36)) s.heap.objs.size (He.ga T.K "_law_told") cdv)))
    (ok : Ok T (fun c d _ H => E c d H) (cxOf (L2.CX P w) P w T.K mg base (["value", "e"] : List Str) "_law_told" (defScope (top 36)) (He.ga T.K "_law_told") cdv A outer s H E)) : PSs (cxOf (L2.CX P w) P w T.K mg base (["value", "e"] : List Str) "_law_told" (defScope (top 36)) (He.ga T.K "_law_told") cdv A outer s H E) (defBody (top 36)) (tSt T (fun c d _ H => E c d H) (d_15 (CL n))) := by
  have hu1 := show (cxOf (L2.CX P w) P w T.K mg base (["value", "e"] : List Str) "_law_told" (defScope (top 36)) (He.ga T.K "_law_told") cdv A outer s H E).A.units + 1 < cLine from Nat.lt_of_le_of_lt (Nat.add_le_add_left (by decide) _) ok.hu
  have h7 : Has T (CL n) (cxOf (L2.CX P w) P w T.K mg base (["value", "e"] : List Str) "_law_told" (defScope (top 36)) (He.ga T.K "_law_told") cdv A outer s H E) 7 "event_faults" (["draft"] : List Str) := ⟨_, _, _, S.g7, S.f7.kp, b_7 S, room, hA.a7⟩
  have hC : Catch T (cxOf (L2.CX P w) P w T.K mg base (["value", "e"] : List Str) "_law_told" (defScope (top 36)) (He.ga T.K "_law_told") cdv A outer s H E) "_law_flags" flags (.ref (He.ga T.K "RelayError")) := cat_ok G S rfl rfl rfl rfl room
  exact pst_one (pst_try ok rfl rfl (by rfl) (by rfl) ⟨by rfl, by decide, .inl G.gR⟩ hC (fun W pn xe ok' => pst_one (pst_ret (px_call ok'.toOkE h7 (pg_l (i := 0) (pg_nil') (by rfl) (.inl (by kernel_rfl)))))) (by rfl) (by decide) (by decide) (by decide))
theorem der_16 (G : Glo T mg) (S : Fs T mg fd) (hA : All P w T mg base fd n) (cdv : Value) (A : Around) (outer : List PySem.Env) (s : Shared) (H : Hp) (E : XK) (room : Room (n + 1) (A.deeper (envOfC "_law_kind" (defScope (top 37)) s.heap.objs.size (He.ga T.K "_law_kind") cdv)))
    (ok : Ok T (fun c d _ H => E c d H) (cxOf (L2.CX P w) P w T.K mg base (["event"] : List Str) "_law_kind" (defScope (top 37)) (He.ga T.K "_law_kind") cdv A outer s H E)) : PSs (cxOf (L2.CX P w) P w T.K mg base (["event"] : List Str) "_law_kind" (defScope (top 37)) (He.ga T.K "_law_kind") cdv A outer s H E) (defBody (top 37)) (tSt T (fun c d _ H => E c d H) (d_16 (CL n))) := by
  have hu1 := show (cxOf (L2.CX P w) P w T.K mg base (["event"] : List Str) "_law_kind" (defScope (top 37)) (He.ga T.K "_law_kind") cdv A outer s H E).A.units + 1 < cLine from Nat.lt_of_le_of_lt (Nat.add_le_add_left (by decide) _) ok.hu
  have h14 : Has T (CL n) (cxOf (L2.CX P w) P w T.K mg base (["event"] : List Str) "_law_kind" (defScope (top 37)) (He.ga T.K "_law_kind") cdv A outer s H E) 14 "_law_is_name" (["value"] : List Str) := ⟨_, _, _, S.g14, S.f14.kp, b_14 S, room, hA.a14⟩
  exact pst_cons (pst_if (pt_cmp' (o := .ne) (opx_ne ok.K ok.hu) (pf_of (px_callB (o := .len) (c_len) (by rfl) G.n_len (by decide +kernel) (pk_var (i := 0) (by rfl) (.inl (by kernel_rfl))))) (pk_of (pf_of (px_int)))) (pst_one (pst_ret (px_str))) (pst_nil)) (pst_cons (pst_if (pt_cmp' (o := .notin) (opx_notin ok.K ok.hu) (pf_of (px_idxL ok.hu (pe_var (i := 0) rfl (.inl (by kernel_rfl)) (by decide) (by decide)) (pk_of (pf_of (px_int))))) (pk_of (pf_of (px_lst (pd_cons (pf_of (px_str)) (pd_cons (pf_of (px_str)) (pd_nil))))))) (pst_one (pst_ret (px_str))) (pst_nil)) (pst_cons (pst_if (pq_not (pt_of (px_call ok.toOkE h14 (pg_v (px_idxL ok.hu (pe_var (i := 0) rfl (.inl (by kernel_rfl)) (by decide) (by decide)) (pk_of (pf_of (px_int)))) (pg_nil') )))) (pst_one (pst_ret (px_str))) (pst_nil)) (pst_cons (pst_if (PW.pt (pq_or (pq_not (pt_of (px_isi (t := .int) (by rfl) G.n_isinstance (pk_of (pf_of (px_idxL ok.hu (pe_var (i := 0) rfl (.inl (by kernel_rfl)) (by decide) (by decide)) (pk_of (pf_of (px_int)))))) (by rfl) G.n_int (by decide +kernel)))) (pq_or (pt_of (px_isi (t := .bool) (by rfl) G.n_isinstance (pk_of (pf_of (px_idxL ok.hu (pe_var (i := 0) rfl (.inl (by kernel_rfl)) (by decide) (by decide)) (pk_of (pf_of (px_int)))))) (by rfl) G.n_bool (by decide +kernel))) (pq_one (pq_not (pt_chain' (o := .le) (p := .le) (opx_le ok.K ok.hu) (opx_le ok.K ok.hu) (pf_of (px_int)) (pf_of (px_idxL ok.hu (pe_var (i := 0) rfl (.inl (by kernel_rfl)) (by decide) (by decide)) (pk_of (pf_of (px_int))))) (pk_of (pf_of (px_int))))))))) (pst_one (pst_ret (px_str))) (pst_nil)) (pst_one (pst_ret (px_non))))))
theorem der_17 (G : Glo T mg) (S : Fs T mg fd) (hA : All P w T mg base fd n) (cdv : Value) (A : Around) (outer : List PySem.Env) (s : Shared) (H : Hp) (E : XK) (room : Room (n + 1) (A.deeper (envOfC "_law_faults" (defScope (top 38)) s.heap.objs.size (He.ga T.K "_law_faults") cdv)))
    (ok : Ok T (fun c d _ H => E c d H) (cxOf (L2.CX P w) P w T.K mg base (["draft", "found", "k", "word", "ahead", "one", "sends"] : List Str) "_law_faults" (defScope (top 38)) (He.ga T.K "_law_faults") cdv A outer s H E)) : PSs (cxOf (L2.CX P w) P w T.K mg base (["draft", "found", "k", "word", "ahead", "one", "sends"] : List Str) "_law_faults" (defScope (top 38)) (He.ga T.K "_law_faults") cdv A outer s H E) (defBody (top 38)) (tSt T (fun c d _ H => E c d H) (d_17 (CL n))) := by
  have hu1 := show (cxOf (L2.CX P w) P w T.K mg base (["draft", "found", "k", "word", "ahead", "one", "sends"] : List Str) "_law_faults" (defScope (top 38)) (He.ga T.K "_law_faults") cdv A outer s H E).A.units + 1 < cLine from Nat.lt_of_le_of_lt (Nat.add_le_add_left (by decide) _) ok.hu
  have h16 : Has T (CL n) (cxOf (L2.CX P w) P w T.K mg base (["draft", "found", "k", "word", "ahead", "one", "sends"] : List Str) "_law_faults" (defScope (top 38)) (He.ga T.K "_law_faults") cdv A outer s H E) 16 "_law_kind" (["event"] : List Str) := ⟨_, _, _, S.g16, S.f16.kp, b_16 S, room, hA.a16⟩
  exact pst_cons (pst_asg (i := 1) (own := true) ok.nd (by rfl) (.inl (by kernel_rfl)) (px_bin (o := .mul) opx_mul (pf_of (px_lst (pd_cons (pf_of (px_tup (pd_cons (pf_of (px_str)) (pd_cons (pf_of (px_callB (o := .len) (c_len) (by rfl) G.n_len (by decide +kernel) (pk_var (i := 0) (by rfl) (.inr (.inl (by kernel_rfl)))))) (pd_nil))))) (pd_nil)))) (pk_of (pf_of (px_callTy (o := .int) (c_int) (by rfl) G.n_int (by decide +kernel) (pk_of (pf_of (px_cmp (o := .gt) (opx_gt ok.K ok.hu) (pf_of (px_callB (o := .len) (c_len) (by rfl) G.n_len (by decide +kernel) (pk_var (i := 0) (by rfl) (.inr (.inl (by kernel_rfl)))))) (pk_of (pf_of (px_int))))))))))) (pst_cons (pst_for ok.own ok.calm (pi_rng1 (by rfl) G.n_range (pf_of (px_callB (o := .len) (c_len) (by rfl) G.n_len (by decide +kernel) (pk_var (i := 0) (by rfl) (.inr (.inl (by kernel_rfl))))))) (pgd_nm (i := 2) ok.nd (by rfl) (.inr (by kernel_rfl)) (.inl rfl)) (pst_cons (pst_par2 (i := 3) (j := 4) (oi := false) (oj := false) ok.calm ok.nd (by rfl) (by rfl) (by decide) (by rfl) (by rfl) (po_cons (px_call ok.toOkE h16 (pg_v (px_idxL ok.hu (pe_var (i := 0) rfl (.inr (.inl (by kernel_rfl))) (by decide) (by decide)) (pk_var (i := 2) (by rfl) (.inr (.inl (by kernel_rfl))))) (pg_nil') )) (po_cons (px_lc (own := [(("one" : Str), 5)]) ok.calm ok.nd (pi_of ok.K (pn_of (pf_of (px_sli (pf_of (px_var (i := 0) (by rfl) (.inr (.inl (by kernel_rfl))))) pp_none (pp_some (pf_of (px_var (i := 2) (by rfl) (.inr (.inl (by kernel_rfl)))))))))) (show BlkOk (["draft", "found", "k", "word", "ahead", "one", "sends"] : List Str) (defScope (top 38)) _ [(("one" : Str), 5)] from ⟨rfl, by decide +kernel, by decide +kernel, by decide +kernel, by decide +kernel⟩) (fun _ _ _ _ _ => pgd_nm (i := 5) ok.nd (by rfl) (.inl (by kernel_rfl)) (.inr (by kernel_rfl))) (fun _ _ _ _ _ => pif_one (pt_isn (pk_of (pf_of (px_call (OkE.blk ok.toOkE _ _ _ _ _) h16 (pg_l (i := 5) (pg_nil') (by rfl) (.inl (by kernel_rfl)))))))) (fun _ _ _ _ _ => px_fzo (px_var (i := 5) (by rfl) (.inl (by kernel_rfl)))) (by decide)) (po_nil))) (by rfl)) (pst_cons (pst_if (pt_isn (pk_var (i := 3) (by rfl) (.inl (by kernel_rfl)))) (pst_cons (pst_asgLc (i := 6) (own := false) (ow := [(("one" : Str), 5)]) ok.calm ok.nd (by rfl) (by rfl) (by rfl) (pi_of ok.K (pn_var (i := 4) (by rfl) (.inl (by kernel_rfl)))) (show BlkOk (["draft", "found", "k", "word", "ahead", "one", "sends"] : List Str) (defScope (top 38)) _ [(("one" : Str), 5)] from ⟨rfl, by decide +kernel, by decide +kernel, by decide +kernel, by decide +kernel⟩) (fun _ _ _ _ _ => pgd_nm (i := 5) ok.nd (by rfl) (.inl (by kernel_rfl)) (.inr (by kernel_rfl))) (fun _ _ _ _ _ => pif_one (PW.pt (pq_and (pt_cmp' (o := .eq) (opx_eq ok.K ok.hu) (pf_of (px_idxL ok.hu (pe_var (i := 5) rfl (.inl (by kernel_rfl)) (by decide) (by decide)) (pk_of (pf_of (px_int))))) (pk_of (pf_of (px_str)))) (pq_one (pt_cmp' (o := .eq) (opx_eq ok.K ok.hu) (pf_of (px_idxL ok.hu (pe_var (i := 5) rfl (.inl (by kernel_rfl)) (by decide) (by decide)) (pk_of (pf_of (px_int))))) (pk_of (pf_of (px_idx ok.hu (pf_of (px_idxL ok.hu (pe_var (i := 0) rfl (.inr (.inl (by kernel_rfl))) (by decide) (by decide)) (pk_var (i := 2) (by rfl) (.inr (.inl (by kernel_rfl)))))) (pk_of (pf_of (px_int))))))))))) (fun _ _ _ _ _ => px_fzo (px_var (i := 5) (by rfl) (.inl (by kernel_rfl)))) (by decide)) (pst_one (pst_if (pt_cmp' (o := .eq) (opx_eq ok.K ok.hu) (pf_of (px_idx ok.hu (pf_of (px_idxL ok.hu (pe_var (i := 0) rfl (.inr (.inl (by kernel_rfl))) (by decide) (by decide)) (pk_var (i := 2) (by rfl) (.inr (.inl (by kernel_rfl)))))) (pk_of (pf_of (px_int))))) (pk_of (pf_of (px_str)))) (pst_one (pst_asg (i := 3) (own := false) ok.nd (by rfl) (.inl (by kernel_rfl)) (px_idx ok.hu (pf_of (px_lst (pd_cons (pf_of (px_non)) (pd_cons (pf_of (px_str)) (pd_nil))))) (pk_of (pf_of (px_callTy (o := .int) (c_int) (by rfl) G.n_int (by decide +kernel) (pk_of (pf_of (px_cmpL (o := .ne) (opx_ne ok.K ok.hu) (pe_var (i := 6) rfl (.inl (by kernel_rfl)) (by decide) (by decide)) (pk_of (pf_of (px_lst (pd_nil))))))))))))) (pst_one (pst_if (pt_cmp' (o := .isin) (opx_in ok.K ok.hu) (pf_of (px_idxL ok.hu (pe_var (i := 0) rfl (.inr (.inl (by kernel_rfl))) (by decide) (by decide)) (pk_var (i := 2) (by rfl) (.inr (.inl (by kernel_rfl)))))) (pk_var (i := 4) (by rfl) (.inl (by kernel_rfl)))) (pst_one (pst_asg (i := 3) (own := false) ok.nd (by rfl) (.inl (by kernel_rfl)) (px_str))) (pst_one (pst_if (pt_cmpL' (o := .eq) (opx_eq ok.K ok.hu) (pe_var (i := 6) rfl (.inl (by kernel_rfl)) (by decide) (by decide)) (pk_of (pf_of (px_lst (pd_nil))))) (pst_one (pst_asg (i := 3) (own := false) ok.nd (by rfl) (.inl (by kernel_rfl)) (px_str))) (pst_one (pst_if (pt_cmp' (o := .eq) (opx_eq ok.K ok.hu) (pf_of (px_idx ok.hu (pf_of (px_idxL ok.hu (pe_var (i := 6) rfl (.inl (by kernel_rfl)) (by decide) (by decide)) (pk_of (pf_of (px_int))))) (pk_of (pf_of (px_int))))) (pk_of (pf_of (px_idx ok.hu (pf_of (px_idxL ok.hu (pe_var (i := 0) rfl (.inr (.inl (by kernel_rfl))) (by decide) (by decide)) (pk_var (i := 2) (by rfl) (.inr (.inl (by kernel_rfl)))))) (pk_of (pf_of (px_int))))))) (pst_one (pst_asg (i := 3) (own := false) ok.nd (by rfl) (.inl (by kernel_rfl)) (px_str))) (pst_nil)))))))))) (pst_nil)) (pst_one (pst_if (pt_notn (pk_var (i := 3) (by rfl) (.inl (by kernel_rfl)))) (pst_one (pst_app (i := 1) (by rfl) (.inl (by kernel_rfl)) (pf_of (px_tup (pd_cons (pf_of (px_var (i := 3) (by rfl) (.inl (by kernel_rfl)))) (pd_cons (pf_of (px_var (i := 2) (by rfl) (.inr (.inl (by kernel_rfl))))) (pd_nil))))))) (pst_nil)))))) (pst_one (pst_retv (i := 1) (by rfl) (.inl (by kernel_rfl)))))
theorem der_18 (G : Glo T mg) (S : Fs T mg fd) (hA : All P w T mg base fd n) (cdv : Value) (A : Around) (outer : List PySem.Env) (s : Shared) (H : Hp) (E : XK) (room : Room (n + 1) (A.deeper (envOfC "_law_draft" (defScope (top 39)) s.heap.objs.size (He.ga T.K "_law_draft") cdv)))
    (ok : Ok T (fun c d _ H => E c d H) (cxOf (L2.CX P w) P w T.K mg base (["draws", "much", "found", "sent", "fresh", "k", "name", "odd", "event", "odds", "own"] : List Str) "_law_draft" (defScope (top 39)) (He.ga T.K "_law_draft") cdv A outer s H E)) : PSs (cxOf (L2.CX P w) P w T.K mg base (["draws", "much", "found", "sent", "fresh", "k", "name", "odd", "event", "odds", "own"] : List Str) "_law_draft" (defScope (top 39)) (He.ga T.K "_law_draft") cdv A outer s H E) (defBody (top 39)) (tSt T (fun c d _ H => E c d H) (d_18 (CL n))) := by
  have hu1 := show (cxOf (L2.CX P w) P w T.K mg base (["draws", "much", "found", "sent", "fresh", "k", "name", "odd", "event", "odds", "own"] : List Str) "_law_draft" (defScope (top 39)) (He.ga T.K "_law_draft") cdv A outer s H E).A.units + 1 < cLine from Nat.lt_of_le_of_lt (Nat.add_le_add_left (by decide) _) ok.hu
  have h11 : Has T (CL n) (cxOf (L2.CX P w) P w T.K mg base (["draws", "much", "found", "sent", "fresh", "k", "name", "odd", "event", "odds", "own"] : List Str) "_law_draft" (defScope (top 39)) (He.ga T.K "_law_draft") cdv A outer s H E) 11 "_law_take" (["draws", "bound"] : List Str) := ⟨_, _, _, S.g11, S.f11.kp, b_11 S, room, hA.a11⟩
  have h12 : Has T (CL n) (cxOf (L2.CX P w) P w T.K mg base (["draws", "much", "found", "sent", "fresh", "k", "name", "odd", "event", "odds", "own"] : List Str) "_law_draft" (defScope (top 39)) (He.ga T.K "_law_draft") cdv A outer s H E) 12 "_law_pick" (["draws", "some"] : List Str) := ⟨_, _, _, S.g12, S.f12.kp, b_12 S, room, hA.a12⟩
  exact pst_cons (pst_par3 (i := 2) (j := 3) (l := 4) (oi := true) (oj := false) (ol := false) ok.calm ok.nd (by rfl) (by rfl) (by rfl) (by decide) (by decide) (by decide) (by rfl) (by rfl) (by rfl) (po_cons (px_lst (pd_nil)) (po_cons (px_lst (pd_nil)) (po_cons (px_bin (o := .add) opx_add (pf_of (px_int)) (pk_of (pf_of (px_call ok.toOkE h11 (pg_r (i := 0) (pg_v (px_int) (pg_nil') ) (by rfl) (.inl (by kernel_rfl))))))) (po_nil)))) (by rfl)) (pst_cons (pst_for ok.own ok.calm (pi_rng1 (by rfl) G.n_range (pf_of (px_var (i := 1) (by rfl) (.inl (by kernel_rfl))))) (pgd_nm (i := 5) ok.nd (by rfl) (.inl (by kernel_rfl)) (.inl rfl)) (pst_cons (pst_par2 (i := 6) (j := 7) (oi := false) (oj := false) ok.calm ok.nd (by rfl) (by rfl) (by decide) (by rfl) (by rfl) (po_cons (px_call ok.toOkE h12 (pg_r (i := 0) (pg_v (px_lst (pd_cons (pf_of (px_str)) (pd_cons (pf_of (px_str)) (pd_cons (pf_of (px_str)) (pd_cons (pf_of (px_str)) (pd_nil)))))) (pg_nil') ) (by rfl) (.inl (by kernel_rfl)))) (po_cons (px_call ok.toOkE h11 (pg_r (i := 0) (pg_v (px_int) (pg_nil') ) (by rfl) (.inl (by kernel_rfl)))) (po_nil))) (by rfl)) (pst_cons (pst_asg (i := 8) (own := false) ok.nd (by rfl) (.inr (by kernel_rfl)) (px_tup (pd_cons (pf_of (px_str)) (pd_cons (pf_of (px_var (i := 6) (by rfl) (.inl (by kernel_rfl)))) (pd_cons (pf_of (px_var (i := 4) (by rfl) (.inl (by kernel_rfl)))) (pd_nil)))))) (pst_cons (pst_if (PW.pt (pq_and (pt_cmpL' (o := .ne) (opx_ne ok.K ok.hu) (pe_var (i := 3) rfl (.inl (by kernel_rfl)) (by decide) (by decide)) (pk_of (pf_of (px_lst (pd_nil))))) (pq_one (pt_cmp' (o := .gt) (opx_gt ok.K ok.hu) (pf_of (px_call ok.toOkE h11 (pg_r (i := 0) (pg_v (px_int) (pg_nil') ) (by rfl) (.inl (by kernel_rfl))))) (pk_of (pf_of (px_int))))))) (pst_one (pst_asg (i := 8) (own := false) ok.nd (by rfl) (.inr (by kernel_rfl)) (px_tup (pd_cons (pf_of (px_str)) (pd_cons (pf_of (px_var (i := 6) (by rfl) (.inl (by kernel_rfl)))) (pd_cons (pf_of (px_call ok.toOkE h12 (pg_r (i := 0) (pg_l (i := 3) (pg_nil') (by rfl) (.inl (by kernel_rfl))) (by rfl) (.inl (by kernel_rfl))))) (pd_nil))))))) (pst_nil)) (pst_cons (pst_if (pt_cmp' (o := .eq) (opx_eq ok.K ok.hu) (pf_of (px_idxL ok.hu (pe_var (i := 8) rfl (.inr (.inl (by kernel_rfl))) (by decide) (by decide)) (pk_of (pf_of (px_int))))) (pk_of (pf_of (px_str)))) (pst_one (pst_par2 (i := 3) (j := 4) (oi := false) (oj := false) ok.calm ok.nd (by rfl) (by rfl) (by decide) (by rfl) (by rfl) (po_cons (px_binL (o := .add) opx_add (pe_var (i := 3) rfl (.inl (by kernel_rfl)) (by decide) (by decide)) (pk_of (pf_of (px_lst (pd_cons (pf_of (px_var (i := 4) (by rfl) (.inl (by kernel_rfl)))) (pd_nil)))))) (po_cons (px_bin (o := .add) opx_add (pf_of (px_binL (o := .add) opx_add (pe_var (i := 4) rfl (.inl (by kernel_rfl)) (by decide) (by decide)) (pk_of (pf_of (px_int))))) (pk_of (pf_of (px_call ok.toOkE h11 (pg_r (i := 0) (pg_v (px_int) (pg_nil') ) (by rfl) (.inl (by kernel_rfl))))))) (po_nil))) (by rfl))) (pst_nil)) (pst_cons (pst_if (pt_cmpL' (o := .eq) (opx_eq ok.K ok.hu) (pe_var (i := 7) rfl (.inl (by kernel_rfl)) (by decide) (by decide)) (pk_of (pf_of (px_int)))) (pst_cons (pst_asg (i := 9) (own := false) ok.nd (by rfl) (.inl (by kernel_rfl)) (px_lst (pd_cons (pf_of (px_tup (pd_nil))) (pd_cons (pf_of (px_sli (pf_of (px_var (i := 8) (by rfl) (.inr (.inl (by kernel_rfl))))) pp_none (pp_some (pf_of (px_int))))) (pd_cons (pf_of (px_binL (o := .add) opx_add (pe_var (i := 8) rfl (.inr (.inl (by kernel_rfl))) (by decide) (by decide)) (pk_of (pf_of (px_tup (pd_cons (pf_of (px_int)) (pd_nil))))))) (pd_cons (pf_of (px_bin (o := .add) opx_add (pf_of (px_tup (pd_cons (pf_of (px_str)) (pd_nil)))) (pk_of (pf_of (px_sli (pf_of (px_var (i := 8) (by rfl) (.inr (.inl (by kernel_rfl))))) (pp_some (pf_of (px_int))) pp_none))))) (pd_cons (pf_of (px_bin (o := .add) opx_add (pf_of (px_tup (pd_cons (pf_of (px_non)) (pd_nil)))) (pk_of (pf_of (px_sli (pf_of (px_var (i := 8) (by rfl) (.inr (.inl (by kernel_rfl))))) (pp_some (pf_of (px_int))) pp_none))))) (pd_cons (pf_of (px_tup (pd_cons (pf_of (px_idxL ok.hu (pe_var (i := 8) rfl (.inr (.inl (by kernel_rfl))) (by decide) (by decide)) (pk_of (pf_of (px_int))))) (pd_cons (pf_of (px_str)) (pd_cons (pf_of (px_idxL ok.hu (pe_var (i := 8) rfl (.inr (.inl (by kernel_rfl))) (by decide) (by decide)) (pk_of (pf_of (px_int))))) (pd_nil)))))) (pd_cons (pf_of (px_tup (pd_cons (pf_of (px_idxL ok.hu (pe_var (i := 8) rfl (.inr (.inl (by kernel_rfl))) (by decide) (by decide)) (pk_of (pf_of (px_int))))) (pd_cons (pf_of (px_non)) (pd_cons (pf_of (px_idxL ok.hu (pe_var (i := 8) rfl (.inr (.inl (by kernel_rfl))) (by decide) (by decide)) (pk_of (pf_of (px_int))))) (pd_nil)))))) (pd_nil)))))))))) (pst_one (pst_asg (i := 8) (own := false) ok.nd (by rfl) (.inr (by kernel_rfl)) (px_call ok.toOkE h12 (pg_r (i := 0) (pg_v (px_binL (o := .add) opx_add (pe_var (i := 9) rfl (.inl (by kernel_rfl)) (by decide) (by decide)) (pk_of (pf_of (px_lc (own := [(("own" : Str), 10)]) ok.calm ok.nd (pi_of ok.K (pn_of (pf_of (px_lst (pd_cons (pf_of (px_int)) (pd_cons (pf_of (px_int)) (pd_cons (pf_of (px_bl)) (pd_cons (pf_of (px_non)) (pd_cons (pf_of (px_str)) (pd_nil)))))))))) (show BlkOk (["draws", "much", "found", "sent", "fresh", "k", "name", "odd", "event", "odds", "own"] : List Str) (defScope (top 39)) _ [(("own" : Str), 10)] from ⟨rfl, by decide +kernel, by decide +kernel, by decide +kernel, by decide +kernel⟩) (fun _ _ _ _ _ => pgd_nm (i := 10) ok.nd (by rfl) (.inl (by kernel_rfl)) (.inr (by kernel_rfl))) (fun _ _ _ _ _ => pif_none) (fun _ _ _ _ _ => px_fzo (px_bin (o := .add) opx_add (pf_of (px_sli (pf_of (px_var (i := 8) (by rfl) (.inr (.inl (by kernel_rfl))))) pp_none (pp_some (pf_of (px_int))))) (pk_of (pf_of (px_tup (pd_cons (pf_of (px_var (i := 10) (by rfl) (.inl (by kernel_rfl)))) (pd_nil))))))) (by decide))))) (pg_nil') ) (by rfl) (.inl (by kernel_rfl))))))) (pst_nil)) (pst_cons (pst_if (PW.pt (pq_and (pt_cmpL' (o := .eq) (opx_eq ok.K ok.hu) (pe_var (i := 7) rfl (.inl (by kernel_rfl)) (by decide) (by decide)) (pk_of (pf_of (px_int)))) (pq_one (pt_cmpL' (o := .ne) (opx_ne ok.K ok.hu) (pe_var (i := 2) rfl (.inl (by kernel_rfl)) (by decide) (by decide)) (pk_of (pf_of (px_lst (pd_nil)))))))) (pst_one (pst_asg (i := 8) (own := false) ok.nd (by rfl) (.inr (by kernel_rfl)) (px_call ok.toOkE h12 (pg_r (i := 0) (pg_l (i := 2) (pg_nil') (by rfl) (.inl (by kernel_rfl))) (by rfl) (.inl (by kernel_rfl)))))) (pst_nil)) (pst_cons (pst_if (pt_cmpL' (o := .eq) (opx_eq ok.K ok.hu) (pe_var (i := 7) rfl (.inl (by kernel_rfl)) (by decide) (by decide)) (pk_of (pf_of (px_int)))) (pst_one (pst_asg (i := 8) (own := false) ok.nd (by rfl) (.inr (by kernel_rfl)) (px_tup (pd_cons (pf_of (px_str)) (pd_cons (pf_of (px_var (i := 6) (by rfl) (.inl (by kernel_rfl)))) (pd_cons (pf_of (px_bin (o := .add) opx_add (pf_of (px_int)) (pk_of (pf_of (px_call ok.toOkE h11 (pg_r (i := 0) (pg_v (px_int) (pg_nil') ) (by rfl) (.inl (by kernel_rfl)))))))) (pd_nil))))))) (pst_nil)) (pst_one (pst_app (i := 2) (by rfl) (.inl (by kernel_rfl)) (pf_of (px_var (i := 8) (by rfl) (.inr (.inl (by kernel_rfl))))))))))))))) (pst_one (pst_retv (i := 2) (by rfl) (.inl (by kernel_rfl)))))
theorem der_19 (G : Glo T mg) (S : Fs T mg fd) (hA : All P w T mg base fd n) (cdv : Value) (A : Around) (outer : List PySem.Env) (s : Shared) (H : Hp) (E : XK) (room : Room (n + 1) (A.deeper (envOfC "law" (defScope (top 40)) s.heap.objs.size (He.ga T.K "law") cdv)))
    (ok : Ok T (fun c d _ H => E c d H) (cxOf (L2.CX P w) P w T.K mg base (["script", "draws", "turn", "much", "draft", "kept", "due", "got", "many", "k", "values", "value"] : List Str) "law" (defScope (top 40)) (He.ga T.K "law") cdv A outer s H E)) : PSs (cxOf (L2.CX P w) P w T.K mg base (["script", "draws", "turn", "much", "draft", "kept", "due", "got", "many", "k", "values", "value"] : List Str) "law" (defScope (top 40)) (He.ga T.K "law") cdv A outer s H E) (defBody (top 40)) (tSt T (fun c d _ H => E c d H) (d_19 (CL n))) := by
  have hu1 := show (cxOf (L2.CX P w) P w T.K mg base (["script", "draws", "turn", "much", "draft", "kept", "due", "got", "many", "k", "values", "value"] : List Str) "law" (defScope (top 40)) (He.ga T.K "law") cdv A outer s H E).A.units + 1 < cLine from Nat.lt_of_le_of_lt (Nat.add_le_add_left (by decide) _) ok.hu
  have h10 : Has T (CL n) (cxOf (L2.CX P w) P w T.K mg base (["script", "draws", "turn", "much", "draft", "kept", "due", "got", "many", "k", "values", "value"] : List Str) "law" (defScope (top 40)) (He.ga T.K "law") cdv A outer s H E) 10 "_law_draws" (["script"] : List Str) := ⟨_, _, _, S.g10, S.f10.kp, b_10 S, room, hA.a10⟩
  have h11 : Has T (CL n) (cxOf (L2.CX P w) P w T.K mg base (["script", "draws", "turn", "much", "draft", "kept", "due", "got", "many", "k", "values", "value"] : List Str) "law" (defScope (top 40)) (He.ga T.K "law") cdv A outer s H E) 11 "_law_take" (["draws", "bound"] : List Str) := ⟨_, _, _, S.g11, S.f11.kp, b_11 S, room, hA.a11⟩
  have h18 : Has T (CL n) (cxOf (L2.CX P w) P w T.K mg base (["script", "draws", "turn", "much", "draft", "kept", "due", "got", "many", "k", "values", "value"] : List Str) "law" (defScope (top 40)) (He.ga T.K "law") cdv A outer s H E) 18 "_law_draft" (["draws", "much"] : List Str) := ⟨_, _, _, S.g18, S.f18.kp, b_18 S, room, hA.a18⟩
  have h17 : Has T (CL n) (cxOf (L2.CX P w) P w T.K mg base (["script", "draws", "turn", "much", "draft", "kept", "due", "got", "many", "k", "values", "value"] : List Str) "law" (defScope (top 40)) (He.ga T.K "law") cdv A outer s H E) 17 "_law_faults" (["draft"] : List Str) := ⟨_, _, _, S.g17, S.f17.kp, b_17 S, room, hA.a17⟩
  have h15 : Has T (CL n) (cxOf (L2.CX P w) P w T.K mg base (["script", "draws", "turn", "much", "draft", "kept", "due", "got", "many", "k", "values", "value"] : List Str) "law" (defScope (top 40)) (He.ga T.K "law") cdv A outer s H E) 15 "_law_told" (["value"] : List Str) := ⟨_, _, _, S.g15, S.f15.kp, b_15 S, room, hA.a15⟩
  have h13 : Has T (CL n) (cxOf (L2.CX P w) P w T.K mg base (["script", "draws", "turn", "much", "draft", "kept", "due", "got", "many", "k", "values", "value"] : List Str) "law" (defScope (top 40)) (He.ga T.K "law") cdv A outer s H E) 13 "_law_same" (["actual", "due"] : List Str) := ⟨_, _, _, S.g13, S.f13.kp, b_13 S, room, hA.a13⟩
  have h9 : Has T (CL n) (cxOf (L2.CX P w) P w T.K mg base (["script", "draws", "turn", "much", "draft", "kept", "due", "got", "many", "k", "values", "value"] : List Str) "law" (defScope (top 40)) (He.ga T.K "law") cdv A outer s H E) 9 "are_events" (["value"] : List Str) := ⟨_, _, _, S.g9, S.f9.kp, b_9 S, room, hA.a9⟩
  have h12 : Has T (CL n) (cxOf (L2.CX P w) P w T.K mg base (["script", "draws", "turn", "much", "draft", "kept", "due", "got", "many", "k", "values", "value"] : List Str) "law" (defScope (top 40)) (He.ga T.K "law") cdv A outer s H E) 12 "_law_pick" (["draws", "some"] : List Str) := ⟨_, _, _, S.g12, S.f12.kp, b_12 S, room, hA.a12⟩
  have h7 : Has T (CL n) (cxOf (L2.CX P w) P w T.K mg base (["script", "draws", "turn", "much", "draft", "kept", "due", "got", "many", "k", "values", "value"] : List Str) "law" (defScope (top 40)) (He.ga T.K "law") cdv A outer s H E) 7 "event_faults" (["draft"] : List Str) := ⟨_, _, _, S.g7, S.f7.kp, b_7 S, room, hA.a7⟩
  exact pst_cons (pst_asg (i := 1) (own := true) ok.nd (by rfl) (.inl (by kernel_rfl)) (px_call ok.toOkE h10 (pg_l (i := 0) (pg_nil') (by rfl) (.inl (by kernel_rfl))))) (pst_cons (pst_for ok.own ok.calm (pi_rng1 (by rfl) G.n_range (pf_of (px_int))) (pgd_nm (i := 2) ok.nd (by rfl) (.inl (by kernel_rfl)) (.inl rfl)) (pst_one (pst_for ok.own ok.calm (pi_of ok.K (pn_of (pf_of (px_lst (pd_cons (pf_of (px_call ok.toOkE h11 (pg_r (i := 1) (pg_v (px_int) (pg_nil') ) (by rfl) (.inl (by kernel_rfl))))) (pd_cons (pf_of (px_call ok.toOkE h11 (pg_r (i := 1) (pg_v (px_int) (pg_nil') ) (by rfl) (.inl (by kernel_rfl))))) (pd_nil))))))) (pgd_nm (i := 3) ok.nd (by rfl) (.inl (by kernel_rfl)) (.inl rfl)) (pst_cons (pst_asg (i := 4) (own := false) ok.nd (by rfl) (.inl (by kernel_rfl)) (px_call ok.toOkE h18 (pg_r (i := 1) (pg_l (i := 3) (pg_nil') (by rfl) (.inl (by kernel_rfl))) (by rfl) (.inl (by kernel_rfl))))) (pst_cons (pst_par2 (i := 5) (j := 6) (oi := false) (oj := false) ok.calm ok.nd (by rfl) (by rfl) (by decide) (by rfl) (by rfl) (po_cons (px_callB (o := .repr) (c_repr ok.K ok.gd ok.hu) (by rfl) G.n_repr (by decide +kernel) (pk_var (i := 4) (by rfl) (.inl (by kernel_rfl)))) (po_cons (px_call ok.toOkE h17 (pg_l (i := 4) (pg_nil') (by rfl) (.inl (by kernel_rfl)))) (po_nil))) (by rfl)) (pst_cons (pst_asg (i := 7) (own := true) ok.nd (by rfl) (.inl (by kernel_rfl)) (px_call ok.toOkE h15 (pg_l (i := 4) (pg_nil') (by rfl) (.inl (by kernel_rfl))))) (pst_cons (pst_if (PW.pt (pq_or (pq_not (pt_of (px_call ok.toOkE h13 (pg_l (i := 7) (pg_l (i := 6) (pg_nil') (by rfl) (.inl (by kernel_rfl))) (by rfl) (.inl (by kernel_rfl)))))) (pq_or (pq_not (pt_of (px_call ok.toOkE h13 (pg_v (px_call ok.toOkE h9 (pg_l (i := 4) (pg_nil') (by rfl) (.inl (by kernel_rfl)))) (pg_v (px_cmpL (o := .eq) (opx_eq ok.K ok.hu) (pe_var (i := 6) rfl (.inl (by kernel_rfl)) (by decide) (by decide)) (pk_of (pf_of (px_lst (pd_nil))))) (pg_nil') ) )))) (pq_one (pt_cmp' (o := .ne) (opx_ne ok.K ok.hu) (pf_of (px_callB (o := .repr) (c_repr ok.K ok.gd ok.hu) (by rfl) G.n_repr (by decide +kernel) (pk_var (i := 4) (by rfl) (.inl (by kernel_rfl))))) (pk_var (i := 5) (by rfl) (.inl (by kernel_rfl)))))))) (pst_one (pst_ret (px_bl))) (pst_nil)) (pst_one (pst_app (i := 7) (by rfl) (.inl (by kernel_rfl)) (pf_of (px_str))))))))))) (pst_cons (pst_asgLc (i := 8) (own := false) (ow := [(("k" : Str), 9)]) ok.calm ok.nd (by rfl) (by rfl) (by rfl) (pi_rng2 (by rfl) G.n_range (pf_of (px_int)) (pf_of (px_bin (o := .add) opx_add (pf_of (px_int)) (pk_of (pf_of (px_call ok.toOkE h12 (pg_r (i := 1) (pg_v (px_lst (pd_cons (pf_of (px_int)) (pd_cons (pf_of (px_int)) (pd_nil)))) (pg_nil') ) (by rfl) (.inl (by kernel_rfl))))))))) (show BlkOk (["script", "draws", "turn", "much", "draft", "kept", "due", "got", "many", "k", "values", "value"] : List Str) (defScope (top 40)) _ [(("k" : Str), 9)] from ⟨rfl, by decide +kernel, by decide +kernel, by decide +kernel, by decide +kernel⟩) (fun _ _ _ _ _ => pgd_nm (i := 9) ok.nd (by rfl) (.inl (by kernel_rfl)) (.inr (by kernel_rfl))) (fun _ _ _ _ _ => pif_none) (fun _ _ _ _ _ => px_fzo (px_tup (pd_cons (pf_of (px_str)) (pd_cons (pf_of (px_str)) (pd_cons (pf_of (px_var (i := 9) (by rfl) (.inl (by kernel_rfl)))) (pd_nil)))))) (by decide)) (pst_cons (pst_if (pq_not (pt_of (px_call ok.toOkE h13 (pg_v (px_lst (pd_cons (pf_of (px_call ok.toOkE h15 (pg_l (i := 8) (pg_nil') (by rfl) (.inl (by kernel_rfl))))) (pd_cons (pf_of (px_call ok.toOkE h9 (pg_l (i := 8) (pg_nil') (by rfl) (.inl (by kernel_rfl))))) (pd_nil)))) (pg_v (px_lst (pd_cons (pf_of (px_bin (o := .mul) opx_mul (pf_of (px_lst (pd_cons (pf_of (px_tup (pd_cons (pf_of (px_str)) (pd_cons (pf_of (px_int)) (pd_nil))))) (pd_nil)))) (pk_of (pf_of (px_callTy (o := .int) (c_int) (by rfl) G.n_int (by decide +kernel) (pk_of (pf_of (px_cmp (o := .gt) (opx_gt ok.K ok.hu) (pf_of (px_callB (o := .len) (c_len) (by rfl) G.n_len (by decide +kernel) (pk_var (i := 8) (by rfl) (.inl (by kernel_rfl))))) (pk_of (pf_of (px_int))))))))))) (pd_cons (pf_of (px_cmp (o := .lt) (opx_lt ok.K ok.hu) (pf_of (px_callB (o := .len) (c_len) (by rfl) G.n_len (by decide +kernel) (pk_var (i := 8) (by rfl) (.inl (by kernel_rfl))))) (pk_of (pf_of (px_int))))) (pd_nil)))) (pg_nil') ) )))) (pst_one (pst_ret (px_bl))) (pst_nil)) (pst_cons (pst_asg (i := 10) (own := false) ok.nd (by rfl) (.inl (by kernel_rfl)) (px_lst (pd_cons (pf_of (px_non)) (pd_cons (pf_of (px_tup (pd_nil))) (pd_cons (pf_of (px_tup (pd_cons (pf_of (px_tup (pd_cons (pf_of (px_str)) (pd_cons (pf_of (px_str)) (pd_cons (pf_of (px_int)) (pd_nil)))))) (pd_nil)))) (pd_cons (pf_of (px_lst (pd_cons (pf_of (px_lst (pd_cons (pf_of (px_str)) (pd_cons (pf_of (px_str)) (pd_cons (pf_of (px_int)) (pd_nil)))))) (pd_nil)))) (pd_cons (pf_of (px_lst (pd_cons (pf_of (px_non)) (pd_nil)))) (pd_cons (pf_of (px_str)) (pd_cons (pf_of (px_dd0)) (pd_nil)))))))))) (pst_cons (pst_if (pq_not (pt_of (px_call ok.toOkE h13 (pg_v (px_lc (own := [(("value" : Str), 11)]) ok.calm ok.nd (pi_of ok.K (pn_var (i := 10) (by rfl) (.inl (by kernel_rfl)))) (show BlkOk (["script", "draws", "turn", "much", "draft", "kept", "due", "got", "many", "k", "values", "value"] : List Str) (defScope (top 40)) _ [(("value" : Str), 11)] from ⟨rfl, by decide +kernel, by decide +kernel, by decide +kernel, by decide +kernel⟩) (fun _ _ _ _ _ => pgd_nm (i := 11) ok.nd (by rfl) (.inl (by kernel_rfl)) (.inr (by kernel_rfl))) (fun _ _ _ _ _ => pif_none) (fun _ _ _ _ _ => px_fzo (px_call (OkE.blk ok.toOkE _ _ _ _ _) h15 (pg_l (i := 11) (pg_nil') (by rfl) (.inl (by kernel_rfl))))) (by decide)) (pg_v (px_bin (o := .mul) opx_mul (pf_of (px_lst (pd_cons (pf_of (px_lst (pd_cons (pf_of (px_bl)) (pd_cons (pf_of (px_bl)) (pd_cons (pf_of (px_bl)) (pd_cons (pf_of (px_bl)) (pd_cons (pf_of (px_bl)) (pd_nil)))))))) (pd_nil)))) (pk_of (pf_of (px_int)))) (pg_nil') ) )))) (pst_one (pst_ret (px_bl))) (pst_nil)) (pst_cons (pst_asg (i := 7) (own := true) ok.nd (by rfl) (.inl (by kernel_rfl)) (px_lst (pd_cons (pf_of (px_call ok.toOkE h7 (pg_v (px_lst (pd_cons (pf_of (px_tup (pd_cons (pf_of (px_str)) (pd_cons (pf_of (px_str)) (pd_cons (pf_of (px_int)) (pd_nil)))))) (pd_cons (pf_of (px_tup (pd_cons (pf_of (px_str)) (pd_cons (pf_of (px_str)) (pd_cons (pf_of (px_int)) (pd_nil)))))) (pd_cons (pf_of (px_tup (pd_cons (pf_of (px_str)) (pd_cons (pf_of (px_str)) (pd_cons (pf_of (px_int)) (pd_nil)))))) (pd_cons (pf_of (px_tup (pd_cons (pf_of (px_str)) (pd_cons (pf_of (px_str)) (pd_cons (pf_of (px_int)) (pd_nil)))))) (pd_cons (pf_of (px_tup (pd_cons (pf_of (px_str)) (pd_cons (pf_of (px_str)) (pd_cons (pf_of (px_int)) (pd_nil)))))) (pd_nil))))))) (pg_nil') ))) (pd_nil)))) (pst_cons (pst_asg (i := 7) (own := true) ok.nd (by rfl) (.inl (by kernel_rfl)) (px_binL (o := .add) opx_add (pe_var (i := 7) rfl (.inl (by kernel_rfl)) (by decide) (by decide)) (pk_of (pf_of (px_lst (pd_cons (pf_of (px_call ok.toOkE h7 (pg_v (px_lst (pd_cons (pf_of (px_tup (pd_cons (pf_of (px_str)) (pd_cons (pf_of (px_str)) (pd_cons (pf_of (px_int)) (pd_nil)))))) (pd_cons (pf_of (px_tup (pd_cons (pf_of (px_str)) (pd_cons (pf_of (px_str)) (pd_cons (pf_of (px_int)) (pd_nil)))))) (pd_cons (pf_of (px_tup (pd_cons (pf_of (px_str)) (pd_cons (pf_of (px_str)) (pd_cons (pf_of (px_int)) (pd_nil)))))) (pd_cons (pf_of (px_tup (pd_cons (pf_of (px_str)) (pd_cons (pf_of (px_str)) (pd_cons (pf_of (px_int)) (pd_nil)))))) (pd_cons (pf_of (px_tup (pd_cons (pf_of (px_str)) (pd_cons (pf_of (px_str)) (pd_cons (pf_of (px_int)) (pd_nil)))))) (pd_nil))))))) (pg_nil') ))) (pd_nil))))))) (pst_cons (pst_asg (i := 7) (own := true) ok.nd (by rfl) (.inl (by kernel_rfl)) (px_binL (o := .add) opx_add (pe_var (i := 7) rfl (.inl (by kernel_rfl)) (by decide) (by decide)) (pk_of (pf_of (px_lst (pd_cons (pf_of (px_call ok.toOkE h7 (pg_v (px_lst (pd_nil)) (pg_nil') ))) (pd_nil))))))) (pst_one (pst_ret (px_call ok.toOkE h13 (pg_l (i := 7) (pg_v (px_lst (pd_cons (pf_of (px_lst (pd_cons (pf_of (px_tup (pd_cons (pf_of (px_str)) (pd_cons (pf_of (px_int)) (pd_nil))))) (pd_cons (pf_of (px_tup (pd_cons (pf_of (px_str)) (pd_cons (pf_of (px_int)) (pd_nil))))) (pd_cons (pf_of (px_tup (pd_cons (pf_of (px_str)) (pd_cons (pf_of (px_int)) (pd_nil))))) (pd_cons (pf_of (px_tup (pd_cons (pf_of (px_str)) (pd_cons (pf_of (px_int)) (pd_nil))))) (pd_nil))))))) (pd_cons (pf_of (px_lst (pd_cons (pf_of (px_tup (pd_cons (pf_of (px_str)) (pd_cons (pf_of (px_int)) (pd_nil))))) (pd_cons (pf_of (px_tup (pd_cons (pf_of (px_str)) (pd_cons (pf_of (px_int)) (pd_nil))))) (pd_cons (pf_of (px_tup (pd_cons (pf_of (px_str)) (pd_cons (pf_of (px_int)) (pd_nil))))) (pd_cons (pf_of (px_tup (pd_cons (pf_of (px_str)) (pd_cons (pf_of (px_int)) (pd_nil))))) (pd_nil))))))) (pd_cons (pf_of (px_lst (pd_nil))) (pd_nil))))) (pg_nil') ) (by rfl) (.inl (by kernel_rfl))))))))))))))
theorem all_ok (G : Glo T mg) (S : Fs T mg fd) : ∀ n, All P w T mg base fd n
  | 0 => ⟨.never fun _ _ _ _ ⟨_, _, _, _, _, _, q⟩ => q.elim, .never fun _ _ _ _ ⟨_, _, _, _, _, _, q⟩ => q.elim, .never fun _ _ _ _ ⟨_, _, _, _, _, _, q⟩ => q.elim, .never fun _ _ _ _ ⟨_, _, _, _, _, _, q⟩ => q.elim, .never fun _ _ _ _ ⟨_, _, _, _, _, _, q⟩ => q.elim, .never fun _ _ _ _ ⟨_, _, _, _, _, _, q⟩ => q.elim, .never fun _ _ _ _ ⟨_, _, _, _, _, _, q⟩ => q.elim, .never fun _ _ _ _ ⟨_, _, _, _, _, _, q⟩ => q.elim, .never fun _ _ _ _ ⟨_, _, _, _, _, _, q⟩ => q.elim, .never fun _ _ _ _ ⟨_, _, _, _, _, _, q⟩ => q.elim, .never fun _ _ _ _ ⟨_, _, _, _, _, _, q⟩ => q.elim, .never fun _ _ _ _ ⟨_, _, _, _, _, _, q⟩ => q.elim, .never fun _ _ _ _ ⟨_, _, _, _, _, _, q⟩ => q.elim, .never fun _ _ _ _ ⟨_, _, _, _, _, _, q⟩ => q.elim, .never fun _ _ _ _ ⟨_, _, _, _, _, _, q⟩ => q.elim, .never fun _ _ _ _ ⟨_, _, _, _, _, _, q⟩ => q.elim, .never fun _ _ _ _ ⟨_, _, _, _, _, _, q⟩ => q.elim, .never fun _ _ _ _ ⟨_, _, _, _, _, _, q⟩ => q.elim, .never fun _ _ _ _ ⟨_, _, _, _, _, _, q⟩ => q.elim, .never fun _ _ _ _ ⟨_, _, _, _, _, _, q⟩ => q.elim⟩
  | n + 1 => by
    have hA := all_ok G S n
    exact ⟨def_ok S.f0 sc_0 (der_0 G S hA), def_ok S.f1 sc_1 (der_1 G S hA), def_ok S.f2 sc_2 (der_2 G S hA), def_ok S.f3 sc_3 (der_3 G S hA), def_ok S.f4 sc_4 (der_4 G S hA), def_ok S.f5 sc_5 (der_5 G S hA), def_ok S.f6 sc_6 (der_6 G S hA), def_ok S.f7 sc_7 (der_7 G S hA), def_ok S.f8 sc_8 (der_8 G S hA), def_ok S.f9 sc_9 (der_9 G S hA), def_ok S.f10 sc_10 (der_10 G S hA), def_ok S.f11 sc_11 (der_11 G S hA), def_ok S.f12 sc_12 (der_12 G S hA), def_ok S.f13 sc_13 (der_13 G S hA), def_ok S.f14 sc_14 (der_14 G S hA), def_ok S.f15 sc_15 (der_15 G S hA), def_ok S.f16 sc_16 (der_16 G S hA), def_ok S.f17 sc_17 (der_17 G S hA), def_ok S.f18 sc_18 (der_18 G S hA), def_ok S.f19 sc_19 (der_19 G S hA)⟩
end
end PI.K10

set_option maxHeartbeats 400000
namespace PI.K10
open PySem PI
/-- reads as d, and is not changed -/
inductive Rd : SV → PyData → Prop where
  | val (d : PyData) : Rd (.val d) d
  | lck (k : Nat) (xs : List PyData) : Rd (.lck k (PI.fl xs)) (.list xs)
def names : List Str := ["send", "take", "give", "ann", "bob", "cy", "d2", "Ann", "1", "dee"]
/-- the parts of events -/
inductive At : PyData → Prop where
  | non : At .none
  | bl (b : Bool) : At (.bool b)
  | int (i : Int) (h : 0 ≤ i) (h2 : i ≤ 10000) : At (.int i)
  | str (x : Str) (h : x ∈ names) : At (.str x)
def nm : PyData → Bool
  | .str x => (["send", "take", "give", "ann", "bob", "cy", "d2", "dee"] : List Str).contains x
  | _ => false
def num : PyData → Bool
  | .int i => decide (1 ≤ i) && decide (i ≤ 9999)
  | _ => false
def snt (w : PyData) : Bool := eqS w (.str "send") || eqS w (.str "take")
def kind : PyData → Option Str
  | .tuple [w, a, x] => if snt w then (if nm a then (if num x then none else some "number") else some "name") else some "word"
  | _ => some "form"
section
variable {n : Nat} {s t u : SV} {d e : PyData}
def isInt (d : PyData) : Bool := isT .int d && !isT .bool d
theorem int_ok : CL (n+1) 0 [.val d] = .ok (.frz (.bool (isInt d))) [.val d] := by
  rw [c_0, d_0]
  cases d <;> simp [isInt]
theorem within_ok : CL (n+2) 1 [.val d, .val (.int 1), .val (.int 9999)] = .ok (.frz (.bool (num d))) [.val d, .val (.int 1), .val (.int 9999)] := by
  rw [c_1, d_1]
  have ag : agOk [.l 0] = true := by decide
  simp [ag, int_ok]
  cases d with
  | int i =>
    simp [isInt, num]
    by_cases h : i < 1
    · have h2 : ¬ 1 ≤ i := by omega
      simp [h, h2]
    · have h2 : 1 ≤ i := by omega
      simp [h, h2]
      by_cases h3 : i ≤ 9999
      · simp [h3, Int.not_lt.mpr h3]
      · simp [h3, Int.not_le.mp h3]
  | _ => simp [isInt, num]
theorem name_ok (h : At d) : CL (n+1) 2 [.val d] = .ok (.frz (.bool (nm d))) [.val d] := by
  cases h with
  | non => rfl
  | bl b => rfl
  | int i _ _ => rfl
  | str x hx =>
    simp only [names, List.mem_cons, List.not_mem_nil, or_false] at hx
    rcases hx with rfl | rfl | rfl | rfl | rfl | rfl | rfl | rfl | rfl | rfl <;> rfl
theorem lname_ok (h : At d) : CL (n+1) 14 [.val d] = .ok (.frz (.bool (nm d))) [.val d] := by
  cases h with
  | non => rfl
  | bl b => rfl
  | int i _ _ => rfl
  | str x hx =>
    simp only [names, List.mem_cons, List.not_mem_nil, or_false] at hx
    rcases hx with rfl | rfl | rfl | rfl | rfl | rfl | rfl | rfl | rfl | rfl <;> rfl
/-- an event, right or not -/
def EvOk (e : PyData) : Prop := ∃ l, e = .tuple l ∧ (∀ a ∈ l, At a) ∧ l.length ≤ 4
theorem At.plain (h : At d) : d.plain = true := by cases h <;> rfl
theorem At.depth (h : At d) : d.depth = 0 := by cases h <;> rfl
def kindD (e : PyData) (k : PyData) : PyData := match kind e with
  | none => .none
  | some w => .tuple [.str w, k]
def kindP (e : PyData) : PyData := match kind e with
  | none => .none
  | some w => .str w
theorem eqD_at {x : Str} (h : At d) : eqD d (.str x) = some (eqS d (.str x)) := by
  cases h <;> simp [eqD, PyData.plain, PyData.depth, PyData.eqv, eqS]
theorem in_send {c : List PyData → PyData} (hc : c = .list ∨ c = .tuple) (h : At d) : inD d (c [.str "send", .str "take"]) = some (snt d) := by
  have e1 : PyData.eqv (.str "send") d = eqS d (.str "send") := by cases h <;> simp [PyData.eqv, eqS, Bool.beq_comm]
  have e2 : PyData.eqv (.str "take") d = eqS d (.str "take") := by cases h <;> simp [PyData.eqv, eqS, Bool.beq_comm]
  rcases hc with rfl | rfl <;> simp [inD, h.plain, h.depth, e1, e2, snt]
theorem sm3 : smallI 0 = true ∧ smallI 1 = true ∧ smallI 2 = true := by decide
theorem ix3 : ix 3 0 = some 0 ∧ ix 3 1 = some 1 ∧ ix 3 2 = some 2 := by decide
theorem kind_ok (h : EvOk d) : CL (n+3) 5 [.val d, .val e] = .ok (.frz (kindD d e)) [.val d, .val e] := by
  obtain ⟨l, rfl, ha, hl⟩ := h
  rw [c_5, d_5]
  have ag : agOk [.v (didxL 0 (fz (dc (.int 1))))] = true := by decide
  match l, ha, hl with
  | [], _, _ => simp [kindD, kind, lim]
  | [_], _, _ => simp [kindD, kind, lim]
  | [_, _], _, _ => simp [kindD, kind, lim]
  | [_, _, _, _], _, _ => simp [kindD, kind, lim]
  | [w, a, x], ha, _ =>
    have hw : At w := ha _ (by simp)
    have hx : At a := ha _ (by simp)
    have hx' : At x := ha _ (by simp)
    have hin := in_send (.inr rfl) hw
    cases hs : isT .str w with
    | false =>
      have h1 : snt w = false := by cases hw <;> first | rfl | exact nomatch hs
      simp [kindD, kind, lim, sm3, ix3, ag, hs, h1]
    | true =>
      simp [kindD, kind, lim, sm3, ix3, ag, hs, hin]
      cases hb : snt w with
      | false => simp [lim]
      | true =>
        simp [sm3, ix3, ag, name_ok hx]
        cases hn : nm a with
        | false => simp [lim]
        | true =>
          have ag2 : agOk [.v (didxL 0 (fz (dc (.int 2)))), .v (dc (.int 1)), .v (dc (.int 9999))] = true := by decide
          simp [sm3, ix3, ag2, within_ok]
          cases hm : num x <;> simp [lim]
theorem lkind_ok (h : EvOk d) : CL (n+2) 16 [.val d] = .ok (.frz (kindP d)) [.val d] := by
  obtain ⟨l, rfl, ha, hl⟩ := h
  rw [c_16, d_16]
  have ag : agOk [.v (didxL 0 (fz (dc (.int 1))))] = true := by decide
  match l, ha, hl with
  | [], _, _ => simp [kindP, kind, lim]
  | [_], _, _ => simp [kindP, kind, lim]
  | [_, _], _, _ => simp [kindP, kind, lim]
  | [_, _, _, _], _, _ => simp [kindP, kind, lim]
  | [w, a, x], ha, _ =>
    have hw : At w := ha _ (by simp)
    have hx : At a := ha _ (by simp)
    have hx' : At x := ha _ (by simp)
    have hin := in_send (.inl rfl) hw
    simp [kindP, kind, lim, sm3, ix3, ag, hin]
    cases hb : snt w with
    | false => simp
    | true =>
      simp [sm3, ix3, ag, lname_ok hx]
      cases hn : nm a with
      | false => simp
      | true =>
        simp [sm3, ix3]
        cases hx' with
        | int i h1 h2 =>
          by_cases h3 : 1 ≤ i
          · have h4 : ¬ i < 1 := by omega
            by_cases h5 : i ≤ 9999
            · simp [num, sm3, ix3, h3, h4, h5, Int.not_lt.mpr h5]
            · simp [num, sm3, ix3, h3, h4, h5, Int.not_le.mp h5]
          · have h4 : i < 1 := by omega
            simp [num, sm3, ix3, h3, h4]
        | _ => simp [num, sm3, ix3]
/-! the events that are right -/
structure V where
  snd : Bool
  nm : Str
  num : Int
def V.ev (v : V) : PyData := .tuple [.str (if v.snd then "send" else "take"), .str v.nm, .int v.num]
theorem kind_none (h : kind d = none) : ∃ v : V, d = v.ev := by
  unfold kind at h
  split at h
  · rename_i w a x
    split at h
    · rename_i hw
      split at h
      · rename_i ha
        split at h
        · rename_i hx
          have ha' : ∃ z, a = .str z := by cases a <;> first | exact ⟨_, rfl⟩ | exact nomatch ha
          have hx' : ∃ z, x = .int z := by cases x <;> first | exact ⟨_, rfl⟩ | exact nomatch hx
          obtain ⟨z, rfl⟩ := ha'
          obtain ⟨y, rfl⟩ := hx'
          unfold snt at hw
          rw [Bool.or_eq_true, eqSIff, eqSIff] at hw
          rcases hw with rfl | rfl
          · exact ⟨⟨true, z, y⟩, rfl⟩
          · exact ⟨⟨false, z, y⟩, rfl⟩
        · exact nomatch h
      · exact nomatch h
    · exact nomatch h
  · exact nomatch h
/-- the first sender of a number -/
def firstS (vs : List V) (i : Int) : Option V := vs.find? fun v => v.snd && v.num == i
def took (vs : List V) (a : Str) (i : Int) : Bool := vs.any fun v => !v.snd && (v.nm == a && v.num == i)
structure IsS (vs : List V) (S : List (PyData × PyData)) : Prop where
  look : ∀ i, look S (.int i) = (firstS vs i).map fun v => .str v.nm
  keys : ∀ q ∈ S, ∃ i, q.1 = .int i
  len : S.length ≤ vs.length
structure IsK (vs : List V) (K : List (PyData × PyData)) : Prop where
  look : ∀ a i, (look K (.tuple [.str a, .int i])).isSome = took vs a i
  keys : ∀ q ∈ K, ∃ a i, q.1 = .tuple [.str a, .int i]
  len : K.length ≤ vs.length
theorem IsS.fit {vs : List V} {S : List (PyData × PyData)} (h : IsS vs S) (i : Int) : kfit S (.int i) = true := by
  unfold kfit
  rw [Bool.and_eq_true]
  exact ⟨rfl, List.all_eq_true.mpr fun q hq => by obtain ⟨j, e⟩ := h.keys q hq; rw [e]; rfl⟩
theorem IsK.fit {vs : List V} {K : List (PyData × PyData)} (h : IsK vs K) (a : Str) (i : Int) : kfit K (.tuple [.str a, .int i]) = true := by
  unfold kfit
  rw [Bool.and_eq_true]
  exact ⟨rfl, List.all_eq_true.mpr fun q hq => by obtain ⟨b, j, e⟩ := h.keys q hq; rw [e]; rfl⟩
theorem IsS.nil : IsS [] [] := ⟨fun _ => rfl, (fun _ h => nomatch h), Nat.le_refl _⟩
theorem IsK.nil : IsK [] [] := ⟨fun _ _ => rfl, (fun _ h => nomatch h), Nat.le_refl _⟩
theorem IsS.skip {vs : List V} {S : List (PyData × PyData)} (h : IsS vs S) {v : V} (hv : v.snd = false ∨ (firstS vs v.num).isSome = true) : IsS (vs ++ [v]) S := by
  refine ⟨fun i => ?_, h.keys, Nat.le_trans h.len (by simp)⟩
  rw [h.look]
  unfold firstS
  rw [List.find?_append]
  cases e : List.find? (fun v => v.snd && v.num == i) vs with
  | some _ => rfl
  | none =>
    rcases hv with hv | hv
    · simp [hv]
    · have : v.num ≠ i := fun z => by unfold firstS at hv; rw [z, e] at hv; exact nomatch hv
      simp [this]
theorem IsS.add {vs : List V} {S : List (PyData × PyData)} (h : IsS vs S) {v : V} (hs : v.snd = true) (hv : firstS vs v.num = none) : IsS (vs ++ [v]) (put S (.int v.num) (.str v.nm)) := by
  refine ⟨fun i => ?_, putKeys (P := fun q => ∃ i, q = PyData.int i) ⟨_, rfl⟩ h.keys, Nat.le_trans put_len (by have := h.len; simp; omega)⟩
  rw [look_put, h.look]
  unfold firstS
  rw [List.find?_append]
  by_cases z : v.num = i
  · subst z
    rw [eqSSelf]
    have : List.find? (fun w => w.snd && w.num == v.num) vs = none := hv
    simp [this, hs]
  · have : eqS (.int v.num) (.int i) = false := eqSNe fun q => z (by injection q)
    rw [this]
    simp [z]
theorem IsK.skip {vs : List V} {K : List (PyData × PyData)} (h : IsK vs K) {v : V} (hv : v.snd = true) : IsK (vs ++ [v]) K := by
  refine ⟨fun a i => ?_, h.keys, Nat.le_trans h.len (by simp)⟩
  rw [h.look]
  unfold took
  rw [List.any_append]
  simp [hv]
theorem IsK.add {vs : List V} {K : List (PyData × PyData)} (h : IsK vs K) {v : V} (hv : v.snd = false) : IsK (vs ++ [v]) (put K (.tuple [.str v.nm, .int v.num]) (.bool true)) := by
  refine ⟨fun a i => ?_, putKeys (P := fun q => ∃ a i, q = PyData.tuple [.str a, .int i]) ⟨_, _, rfl⟩ h.keys, Nat.le_trans put_len (by have := h.len; simp; omega)⟩
  rw [look_put]
  unfold took
  rw [List.any_append]
  have hl := h.look a i
  unfold took at hl
  rw [← hl]
  by_cases z : v.nm = a ∧ v.num = i
  · obtain ⟨rfl, rfl⟩ := z
    rw [eqSSelf]
    simp [hv]
  · have : eqS (.tuple [.str v.nm, .int v.num]) (.tuple [.str a, .int i]) = false := eqSNe fun q => z (by injection q with q; injection q with q1 q2; injection q1 with q1; injection q2 with q2; injection q2 with q2; exact ⟨q1, q2⟩)
    rw [this]
    have : (v.nm == a && v.num == i) = false := by
      rw [Bool.eq_false_iff]
      intro q
      rw [Bool.and_eq_true, beq_iff_eq, beq_iff_eq] at q
      exact z q
    simp [hv, this]
/-- the fault of a right event behind right events -/
def faultF (vs : List V) (v : V) : Option Str :=
  if v.snd then (if (firstS vs v.num).isSome then some "again" else none)
  else if took vs v.nm v.num then some "again" else match firstS vs v.num with
    | none => some "unsent"
    | some w => if w.nm == v.nm then some "own" else none
def fD (o : Option Str) (k : PyData) : PyData := match o with
  | none => .none
  | some w => .tuple [.str w, k]
theorem fault_ok {vs : List V} {S K : List (PyData × PyData)} {v : V} {k1 k2 : Nat} (hS : IsS vs S) (hK : IsK vs K) :
    CL (n+1) 6 [.val v.ev, .val e, .lck k1 (fd S), .lck k2 (fd K)] = .ok (.frz (fD (faultF vs v) e)) [.val v.ev, .val e, .lck k1 (fd S), .lck k2 (fd K)] := by
  rw [c_6, d_6]
  obtain ⟨sn, a, i⟩ := v
  have gt : ∀ {x : PyData} {s1 s2 s3 : SV}, gT (.tp [.nm 4, .nm 5, .nm 6]) (.tuple [x, .str a, .int i]) [s1, .val e, s2, s3, .unset, .unset, .unset] = .ok () [s1, .val e, s2, s3, .val x, .val (.str a), .val (.int i)] := rfl
  have hl := hS.look i
  have hf := hS.fit i
  have hl2 := hK.look a i
  have hf2 := hK.fit a i
  cases sn with
  | true =>
    simp [V.ev, gt, inD, hf, hl, faultF, fD]
    cases firstS vs i <;> simp [lim]
  | false =>
    have ne : (Str.ofString "take" == Str.ofString "send") = false := rfl
    simp [V.ev, gt, inD, hf, hl, hf2, hl2, faultF, fD, ne, lim]
    cases took vs a i with
    | true => simp [lim]
    | false =>
      simp [inD, hf, hl]
      cases hw : firstS vs i with
      | none => simp [lim]
      | some w =>
        simp [hf, hl, hw]
        by_cases z : w.nm = a
        · simp [z, lim]
        · have z' : (w.nm == a) = false := beq_eq_false_iff_ne.mpr z
          simp [z, z', lim]
open Classical in
/-- the right event that d is -/
noncomputable def toV (d : PyData) : Option V := if h : kind d = none then some (kind_none h).choose else none
theorem toV_none (h : toV d = none) : ∃ w, kind d = some w := by
  unfold toV at h
  split at h
  · exact nomatch h
  · cases e : kind d with
    | none => rename_i q; exact absurd e q
    | some w => exact ⟨w, rfl⟩
theorem toV_some {v : V} (h : toV d = some v) : kind d = none ∧ d = v.ev := by
  unfold toV at h
  split at h
  · rename_i q
    cases h
    exact ⟨q, (kind_none q).choose_spec⟩
  · exact nomatch h
noncomputable def faultsF (vs : List V) (k : Nat) : List PyData → List PyData
  | [] => []
  | d :: r => match toV d with
    | none => kindD d (.int k) :: faultsF vs (k + 1) r
    | some v => (match faultF vs v with
      | none => []
      | some w => [.tuple [.str w, .int k]]) ++ faultsF (vs ++ [v]) (k + 1) r
/-- a slot that a name may be bound in -/
def Fr (s : SV) : Prop := ∃ d, s = .unset ∨ s = .val d
theorem ef_loop {s0 : SV} : ∀ (es : List PyData) (k : Nat) (vs : List V) (S K : List (PyData × PyData)) (F : List PyData) (s1 s5 s6 : SV), IsS vs S → IsK vs K → (∀ e ∈ es, EvOk e) → F.length + es.length < lim → vs.length + es.length < lim → Fr s1 → Fr s5 → Fr s6 →
    ∃ s1' s5' s6' S' K', forT (gT (.tp [.nm 5, .nm 1])) (l_7_1 (CL (n+3))) (enumD k es) [s0, s1, .own (PI.fl F), .own (fd S), .own (fd K), s5, s6] = .ok .nx [s0, s1', .own (PI.fl (F ++ faultsF vs k es)), .own (fd S'), .own (fd K'), s5', s6']
  | [], k, vs, S, K, F, s1, s5, s6, _, _, _, _, _, _, _, _ => ⟨s1, s5, s6, S, K, by simp [faultsF, enumD]⟩
  | d :: r, k, vs, S, K, F, s1, s5, s6, hS, hK, hE, hF, hV, h1, h5, h6 => by
    have hd := hE d (.head _)
    have gt : gT (.tp [.nm 5, .nm 1]) (.tuple [.int k, d]) [s0, s1, .own (PI.fl F), .own (fd S), .own (fd K), s5, s6] = .ok () [s0, .val d, .own (PI.fl F), .own (fd S), .own (fd K), .val (.int k), s6] := by
      obtain ⟨d1, rfl | rfl⟩ := h1 <;> obtain ⟨d5, rfl | rfl⟩ := h5 <;> rfl
    have ag1 : agOk [.l 1, .l 5] = true := by decide
    have ag2 : agOk [.l 1, .l 5, .l 3, .l 4] = true := by decide
    have kd := kind_ok (n := n) (e := .int k) hd
    have ok6 : okS (some s6) = true := by obtain ⟨_, rfl | rfl⟩ := h6 <;> rfl
    simp only [List.length_cons] at hF hV
    show ∃ s1' s5' s6' S' K', forT _ _ (.tuple [.int k, d] :: enumD (k + 1) r) _ = _
    cases hv : toV d with
    | none =>
      obtain ⟨w, hw⟩ := toV_none hv
      have hk : kindD d (.int k) = .tuple [.str w, .int k] := by unfold kindD; rw [hw]
      have hl : F.length < lim := by omega
      obtain ⟨s1', s5', s6', S', K', ih⟩ := ef_loop (s0 := s0) r (k + 1) vs S K (F ++ [.tuple [.str w, .int k]]) (.val d) (.val (.int k)) (.val (.tuple [.str w, .int k])) hS hK (fun e he => hE e (.tail _ he)) (by simp; omega) (by omega) ⟨d, .inr rfl⟩ ⟨_, .inr rfl⟩ ⟨_, .inr rfl⟩
      refine ⟨s1', s5', s6', S', K', ?_⟩
      rw [forT_nx gt (by simp [l_7_1, ag1, kd, hk, ok6, eqS, appO_fl hl]; rfl), ih]
      simp [faultsF, hv, hk]
    | some v =>
      obtain ⟨hkn, rfl⟩ := toV_some hv
      have hk : kindD v.ev (.int k) = .none := by unfold kindD; rw [hkn]
      have fo := fault_ok (n := n + 2) (e := .int k) (v := v) (k1 := 0) (k2 := 1) hS hK
      have hl : F.length < lim := by omega
      have hlS : S.length < lim := by have := hS.len; omega
      have hlK : K.length < lim := by have := hK.len; omega
      obtain ⟨S1, K1, hS1, hK1, st⟩ : ∃ S1 K1, IsS (vs ++ [v]) S1 ∧ IsK (vs ++ [v]) K1 ∧ ∀ s6, sife (qof (d2 .eq (fz (didxL 1 (fz (dc (.int 0))))) (fz (dc (.str "send"))))) (blk [sdflt 3 (fz (didxL 1 (fz (dc (.int 2))))) (fz (didxL 1 (fz (dc (.int 1)))))]) (blk [sseti 4 (fz (dtup [(false, fz (didxL 1 (fz (dc (.int 1))))), (false, fz (didxL 1 (fz (dc (.int 2)))))])) (fz (dc (.bool true)))]) [s0, .val v.ev, .own (PI.fl F), .own (fd S), .own (fd K), .val (.int k), s6] = .ok .nx [s0, .val v.ev, .own (PI.fl F), .own (fd S1), .own (fd K1), .val (.int k), s6] := by
        obtain ⟨sn, a, i⟩ := v
        cases sn with
        | true =>
          cases hf : firstS vs i with
          | none =>
            refine ⟨_, _, hS.add rfl hf, hK.skip rfl, fun s6 => ?_⟩
            have hlo := hS.look i
            rw [hf] at hlo
            have := dfltO_fd (v := .str a) (hS.fit i) rfl hlS
            rw [hlo] at this
            simp [V.ev, sm3, ix3, this]
          | some w =>
            refine ⟨_, _, hS.skip (.inr (by rw [hf]; rfl)), hK.skip rfl, fun s6 => ?_⟩
            have hlo := hS.look i
            rw [hf] at hlo
            have := dfltO_fd (v := .str a) (hS.fit i) rfl hlS
            rw [hlo] at this
            simp [V.ev, sm3, ix3, this]
        | false =>
          refine ⟨_, _, hS.skip (.inl rfl), hK.add rfl, fun s6 => ?_⟩
          have ne : (Str.ofString "take" == Str.ofString "send") = false := rfl
          have := setO_fd (v := .bool true) (hK.fit a i) hlK
          simp [V.ev, sm3, ix3, this, ne, lim]
      cases hfa : faultF vs v with
      | none =>
        obtain ⟨s1', s5', s6', S', K', ih⟩ := ef_loop (s0 := s0) r (k + 1) (vs ++ [v]) S1 K1 F (.val v.ev) (.val (.int k)) (.val .none) hS1 hK1 (fun e he => hE e (.tail _ he)) (by omega) (by simp; omega) ⟨v.ev, .inr rfl⟩ ⟨_, .inr rfl⟩ ⟨_, .inr rfl⟩
        refine ⟨s1', s5', s6', S', K', ?_⟩
        rw [hfa] at fo
        rw [forT_nx gt (by simp [l_7_1, ag1, ag2, kd, hk, ok6, eqS, fo, fD, ↓st]; rfl), ih]
        simp [faultsF, hv, hfa]
      | some w =>
        obtain ⟨s1', s5', s6', S', K', ih⟩ := ef_loop (s0 := s0) r (k + 1) (vs ++ [v]) S1 K1 (F ++ [.tuple [.str w, .int k]]) (.val v.ev) (.val (.int k)) (.val (.tuple [.str w, .int k])) hS1 hK1 (fun e he => hE e (.tail _ he)) (by simp; omega) (by simp; omega) ⟨v.ev, .inr rfl⟩ ⟨_, .inr rfl⟩ ⟨_, .inr rfl⟩
        refine ⟨s1', s5', s6', S', K', ?_⟩
        rw [hfa] at fo
        rw [forT_nx gt (by simp [l_7_1, ag1, ag2, kd, hk, ok6, eqS, fo, fD, ↓st, appO_fl hl]; rfl), ih]
        simp [faultsF, hv, hfa]
theorem boolsD_map {α : Type} {g : α → Bool} : ∀ xs : List α, boolsD (xs.map fun x => .bool (g x)) = some (xs.map g)
  | [] => rfl
  | x :: xs => by rw [List.map_cons, boolsD, boolsD_map xs]; rfl
def manyF (es : List PyData) : List PyData := if 120 < es.length then [.tuple [.str "many", .int es.length]] else []
theorem m70_ok {cl : Cl} {es : List PyData} {s1 s2 s3 s4 s5 s6 : SV} (h : Rd s (.list es)) (h1 : s1 = .unset) (hl : es.length ≤ lim) :
    m_7_0 cl [s, s1, s2, s3, s4, s5, s6] = .ok (PI.fl (es.map fun d => .bool (isT .tuple d))) [s, s1, s2, s3, s4, s5, s6] := by
  subst h1
  unfold m_7_0
  exact dlc_all (l := es) (fun d => .bool (isT .tuple d)) (by cases h <;> simp) rfl hl (fun d hd => by simp)
theorem check_ok {b : Bool} : CL (n+1) 3 [.val (.bool b)] = if b then .ok (.frz .none) [.val (.bool b)] else .exc 0 none [.val (.bool b)] := by cases b <;> rfl
theorem ef_ok {es : List PyData} (h : Rd s (.list es)) (hE : ∀ e ∈ es, EvOk e) (hl : es.length + 1 < lim) :
    CL (n+4) 7 [s] = .ok (PI.fl (manyF es ++ faultsF [] 0 es)) [s] := by
  rw [c_7, d_7]
  have all : (es.map fun d => isT .tuple d).all id = true := by
    rw [List.all_map]
    exact List.all_eq_true.mpr fun e he => by obtain ⟨l, rfl, _⟩ := hE e he; rfl
  have m7 := fun (cl : Cl) => m70_ok (cl := cl) (s2 := .unset) (s3 := .unset) (s4 := .unset) (s5 := .unset) (s6 := .unset) h rfl (by omega)
  have ag : agOk [.v (dand (d1 (.is .list) (cv 0)) (d1 .all (fz (m_7_0 (CL (n+3))))))] = true := by rfl
  have hm : (manyF es).length ≤ 1 := by unfold manyF; split <;> simp
  obtain ⟨s1', s5', s6', S', K', lp⟩ := ef_loop (n := n) (s0 := s) es 0 [] [] [] (manyF es) .unset .unset .unset IsS.nil IsK.nil hE (by omega) (by simp; omega) ⟨.none, .inl rfl⟩ ⟨.none, .inl rfl⟩ ⟨.none, .inl rfl⟩
  have nil : PI.fl [] = OD.lst [] := rfl
  have e0 : OD.lst [] = PI.fl [] := rfl
  have e1 : OD.dct [] = PI.fd [] := rfl
  have ap := appO_fl (d := .tuple [.str "many", .int es.length]) (xs := []) (by decide)
  by_cases q : 120 < es.length
  · have q1 : (120 : Int) < es.length := by omega
    have hmm : manyF es = [.tuple [.str "many", .int es.length]] := if_pos q
    rw [hmm] at lp ⊢
    cases h <;> simp [m7, ag, boolsD_map, all, check_ok, e0, e1, q1, ap, lp, lim]
  · have q1 : ¬ (120 : Int) < es.length := by omega
    have hmm : manyF es = [] := if_neg q
    rw [hmm] at lp ⊢
    cases h <;> simp [m7, ag, boolsD_map, all, check_ok, e0, e1, q1, ap, lp, lim]
theorem small_nat {k : Nat} (h : k ≤ lim) : smallI (k : Int) = true := by
  unfold smallI lim at *
  rw [Bool.and_eq_true, decide_eq_true_eq, decide_eq_true_eq]
  omega
theorem ix_nat {k m : Nat} (h : k < m) : ix m (k : Int) = some k := by
  unfold ix
  rw [if_pos (by omega), if_pos (by omega)]
  rfl
theorem idx_nat {es : List PyData} {k : Nat} (h : es[k]? = some d) (hl : es.length ≤ lim) : idxD (.list es) (.int k) = some d := by
  have hk : k < es.length := by
    by_cases q : k < es.length
    · exact q
    · rw [List.getElem?_eq_none (by omega)] at h; exact nomatch h
  show (if smallI k then (ix es.length k).bind (es[·]?) else none) = _
  rw [small_nat (by omega), ix_nat hk, if_pos rfl]
  exact h
theorem cut_nat {es : List PyData} {k : Nat} (h : k ≤ es.length) : cutL es none (some (k : Int)) = es.take k := by
  have h2 : ¬ ((k : Int) < 0) := by omega
  simp [cutL, sx, h2, Nat.min_eq_left h]
/-- right events -/
def rightF (es : List PyData) : List PyData := es.filter fun d => (kind d).isNone
theorem kindP_non : eqS (kindP d) .none = (kind d).isNone := by
  unfold kindP
  cases kind d <;> rfl
theorem m170a {es : List PyData} {k : Nat} {s1 s3 s4 s6 : SV} (hk : k ≤ es.length) (hs : smallI (k : Int) = true) :
    evS (.of (fz (dsli (fz (dv 0)) none (some (fz (dv 2)))))) [.val (.list es), s1, .val (.int k), s3, s4, .unset, s6] = .ok (es.take k) [.val (.list es), s1, .val (.int k), s3, s4, .unset, s6] := by
  simp [dpI_ok hs, sliD, cut_nat hk]
theorem m170b {es : List PyData} {k : Nat} {s1 s3 s4 s6 : SV} {d : PyData} (hd : EvOk d) :
    turn (some (qof (d1 .isn (fz (dcall (CL (n+2)) 16 [.l 5]))))) (fzo (dv 5)) [.val (.list es), s1, .val (.int k), s3, s4, .val d, s6] = .ok (if (kind d).isNone then [.frz d] else []) [.val (.list es), s1, .val (.int k), s3, s4, .val d, s6] := by
  have ag : agOk [.l 5] = true := by decide
  have := lkind_ok (n := n) hd
  simp [ag, this, kindP_non]
  cases kind d <;> simp
theorem m170 {es : List PyData} {k : Nat} {s1 s3 s4 s6 : SV} (hE : ∀ e ∈ es, EvOk e) (hk : k ≤ es.length) (hl : es.length ≤ lim) :
    m_17_0 (CL (n+2)) [.val (.list es), s1, .val (.int k), s3, s4, .unset, s6] = .ok (PI.fl (rightF (es.take k))) [.val (.list es), s1, .val (.int k), s3, s4, .unset, s6] := by
  have h1 : (es.take k).length ≤ lim := by rw [List.length_take]; exact Nat.le_trans (Nat.min_le_right ..) hl
  unfold m_17_0 rightF
  exact dlc_sel (l := es.take k) (fun d => (kind d).isNone) (m170a hk (small_nat (Nat.le_trans hk hl))) rfl h1 fun d hd => m170b (hE d (List.mem_of_mem_take hd))
theorem ev_right {es : List PyData} : rightF es = (es.filterMap toV).map V.ev := by
  unfold rightF
  induction es with
  | nil => rfl
  | cons d r ih =>
    rw [List.filter_cons, List.filterMap_cons, ih]
    cases hv : toV d with
    | none => obtain ⟨w, hw⟩ := toV_none hv; rw [hw]; rfl
    | some v => obtain ⟨hw, rfl⟩ := toV_some hv; rw [hw]; rfl
def isSend (i : Int) : PyData → Bool
  | .tuple [x, _, y] => eqS x (.str "send") && eqS y (.int i)
  | _ => false
theorem isSend_ev {i : Int} {w : V} : isSend i w.ev = (w.snd && w.num == i) := by
  obtain ⟨sn, b, j⟩ := w
  cases sn
  · rfl
  · show (true && eqS (.int j) (.int i)) = _
    simp [eqS]
theorem m171b {es : List PyData} {x : PyData} {v w : V} {k : Nat} {s1 s3 s6 : SV} (hix : idxD (.list es) (.int k) = some v.ev) :
    turn (some (qand (qof (d2 .eq (fz (didxL 5 (fz (dc (.int 0))))) (fz (dc (.str "send"))))) (qof (d2 .eq (fz (didxL 5 (fz (dc (.int 2))))) (fz (didx (fz (didxL 0 (cv 2))) (fz (dc (.int 2))))))))) (fzo (dv 5)) [.val (.list es), s1, .val (.int k), s3, .val x, .val w.ev, s6] = .ok (if isSend v.num w.ev then [.frz w.ev] else []) [.val (.list es), s1, .val (.int k), s3, .val x, .val w.ev, s6] := by
  rw [isSend_ev]
  obtain ⟨sn, a, i⟩ := v
  obtain ⟨sm, b, j⟩ := w
  have ne : (Str.ofString "take" == Str.ofString "send") = false := rfl
  simp only [V.ev] at hix ⊢
  cases sm with
  | false => simp [sm3, ix3, ne]
  | true =>
    simp [sm3, ix3, hix]
    by_cases z : j = i
    · simp [z]
    · have z' : (j == i) = false := beq_eq_false_iff_ne.mpr z
      simp [z, z']
theorem m171 {cl : Cl} {es : List PyData} {vs : List V} {v : V} {k : Nat} {s1 s3 s6 : SV} (hix : idxD (.list es) (.int k) = some v.ev) (hl2 : (vs.map V.ev).length ≤ lim) :
    m_17_1 cl [.val (.list es), s1, .val (.int k), s3, .val (.list (vs.map V.ev)), .unset, s6] = .ok (PI.fl ((vs.filter fun w => w.snd && w.num == v.num).map V.ev)) [.val (.list es), s1, .val (.int k), s3, .val (.list (vs.map V.ev)), .unset, s6] := by
  unfold m_17_1
  have e : (vs.filter fun w => w.snd && w.num == v.num).map V.ev = (vs.map V.ev).filter (isSend v.num) := by
    rw [List.filter_map]
    exact congrArg (List.map V.ev) (List.filter_congr fun w _ => (isSend_ev (i := v.num) (w := w)).symm)
  rw [e]
  have tn : ∀ d ∈ vs.map V.ev, turn (some (qand (qof (d2 .eq (fz (didxL 5 (fz (dc (.int 0))))) (fz (dc (.str "send"))))) (qof (d2 .eq (fz (didxL 5 (fz (dc (.int 2))))) (fz (didx (fz (didxL 0 (cv 2))) (fz (dc (.int 2))))))))) (fzo (dv 5)) [.val (.list es), s1, .val (.int k), s3, .val (.list (vs.map V.ev)), .val d, s6] = .ok (if isSend v.num d then [.frz d] else []) [.val (.list es), s1, .val (.int k), s3, .val (.list (vs.map V.ev)), .val d, s6] := fun d hd => by
    obtain ⟨w, _, rfl⟩ := List.mem_map.mp hd
    exact m171b hix
  have ev : evS (.of (rv 4)) [.val (.list es), s1, .val (.int k), s3, .val (.list (vs.map V.ev)), .unset, s6] = .ok (vs.map V.ev) [.val (.list es), s1, .val (.int k), s3, .val (.list (vs.map V.ev)), .unset, s6] := by simp
  exact dlc_sel (isSend v.num) ev rfl hl2 tn
theorem ev_plain {v : V} : v.ev.plain = true := by simp [V.ev, PyData.plain, PyData.plainAll]
theorem ev_depth {v : V} : v.ev.depth = 1 := by simp [V.ev, PyData.depth, PyData.depthAll]
theorem evs_plain {vs : List V} : (vs.map V.ev).all PyData.plain = true := by
  rw [List.all_map]; exact List.all_eq_true.mpr fun _ _ => ev_plain
theorem in_evs {vs : List V} {v : V} (h : v.snd = false) : inD v.ev (.list (vs.map V.ev)) = some (took vs v.nm v.num) := by
  unfold took
  obtain ⟨sn, a, i⟩ := v
  cases h
  show (if (V.ev ⟨false, a, i⟩).plain && ((vs.map V.ev).all PyData.plain && decide ((V.ev ⟨false, a, i⟩).depth ≤ 100)) then some ((vs.map V.ev).any fun y => PyData.eqv y (V.ev ⟨false, a, i⟩)) else none) = _
  rw [ev_plain, evs_plain, ev_depth, List.any_map]
  show some _ = some _
  congr 1
  refine congrArg (fun p => vs.any p) (funext fun w => ?_)
  obtain ⟨sm, b, j⟩ := w
  cases sm <;> simp [V.ev, PyData.eqv, PyData.eqvAll, show (Str.ofString "send" == Str.ofString "take") = false from rfl]
theorem nil_evs {vs : List V} : eqD (.list (vs.map V.ev)) (.list []) = some vs.isEmpty := by
  have p : ∀ vs : List V, PyData.plainAll (vs.map V.ev) = true := fun vs => by
    induction vs with
    | nil => rfl
    | cons v r ih => rw [List.map_cons, PyData.plainAll, ev_plain, ih]; rfl
  unfold eqD
  rw [PyData.plain, p vs]
  cases vs <;> simp [PyData.plain, PyData.plainAll, PyData.depth, PyData.depthAll, PyData.eqv, PyData.eqvAll]
def stepF (vs : List V) (d : PyData) (k : PyData) : Option V → List PyData
  | none => [kindD d k]
  | some v => match faultF vs v with
    | none => []
    | some w => [.tuple [.str w, k]]
theorem idx_ev {v : V} : idxD v.ev (.int 0) = some (.str (if v.snd then "send" else "take")) ∧ idxD v.ev (.int 1) = some (.str v.nm) ∧ idxD v.ev (.int 2) = some (.int v.num) := ⟨rfl, rfl, rfl⟩
theorem ix2 : ix 2 0 = some 0 ∧ ix 2 1 = some 1 := by decide
theorem ix_z {m : Nat} : ix (m + 1) 0 = some 0 := ix_nat (k := 0) (by omega)
theorem lf_step {es : List PyData} {k : Nat} {d : PyData} {F : List PyData} {s3 s4 s6 : SV} (hE : ∀ e ∈ es, EvOk e) (hd : es[k]? = some d) (hl : es.length ≤ lim) (hF : F.length < lim) (h3 : okS (some s3) = true) (h4 : okS (some s4) = true) (h6 : okS (some s6) = true) :
    ∃ s3' s4' s6', okS (some s3') = true ∧ okS (some s4') = true ∧ okS (some s6') = true ∧
      l_17_2 (CL (n+2)) [.val (.list es), .own (PI.fl F), .val (.int k), s3, s4, .unset, s6] = .ok .nx [.val (.list es), .own (PI.fl (F ++ stepF ((es.take k).filterMap toV) d (.int k) (toV d))), .val (.int k), s3', s4', .unset, s6'] := by
  have hk : k < es.length := by
    by_cases q : k < es.length
    · exact q
    · rw [List.getElem?_eq_none (by omega)] at hd; exact nomatch hd
  have hix := idx_nat hd hl
  have hm := m170 (n := n) (s1 := .own (PI.fl F)) (s3 := s3) (s4 := s4) (s6 := s6) hE (Nat.le_of_lt hk) hl
  rw [ev_right] at hm
  have lk := lkind_ok (n := n) (hE d (List.mem_of_getElem? hd))
  have ag : agOk [.v (didxL 0 (cv 2))] = true := by decide
  generalize hvs : (es.take k).filterMap toV = vs at *
  cases hv : toV d with
  | none =>
    obtain ⟨w, hw⟩ := toV_none hv
    have e1 : kindP d = .str w := by unfold kindP; rw [hw]
    have e2 : kindD d (.int k) = .tuple [.str w, .int k] := by unfold kindD; rw [hw]
    refine ⟨.val (.str w), .val (.list (vs.map V.ev)), s6, rfl, rfl, h6, ?_⟩
    simp [l_17_2, hix, ag, lk, hm, e1, h3, h4, eqS, appO_fl hF, stepF, e2, lim]
  | some v =>
    obtain ⟨hkn, rfl⟩ := toV_some hv
    have e1 : kindP v.ev = .none := by unfold kindP; rw [hkn]
    have hl2 : (vs.map V.ev).length ≤ lim := by rw [List.length_map, ← hvs]; exact Nat.le_trans (List.length_filterMap_le ..) (by rw [List.length_take]; omega)
    have hm2 := fun s6 => m171 (cl := CL (n+2)) (s1 := .own (PI.fl F)) (s3 := .val .none) (s6 := s6) hix hl2
    have hfi : (vs.filter fun w => w.snd && w.num == v.num).head? = firstS vs v.num := List.head?_filter
    have ho : okS (some (.val (.list ((vs.filter fun w => w.snd && w.num == v.num).map V.ev)))) = true := rfl
    have hne := nil_evs (vs := vs.filter fun w => w.snd && w.num == v.num)
    have hin := fun h => in_evs (vs := vs) (v := v) h
    generalize hss : (vs.filter fun w => w.snd && w.num == v.num) = ss at *
    have ne : (Str.ofString "take" == Str.ofString "send") = false := rfl
    cases hs : v.snd with
    | true =>
      cases ss with
      | nil =>
        have hf : firstS vs v.num = none := hfi.symm
        refine ⟨.val .none, .val (.list (vs.map V.ev)), .val (.list []), rfl, rfl, rfl, ?_⟩
        simp at hne hm2
        simp [l_17_2, hix, ag, lk, hm, e1, h3, h4, h6, eqS, hm2, sm3, ix2, lim, hne, stepF, faultF, hf, idx_ev, hs]
      | cons w r =>
        have hf : firstS vs v.num = some w := hfi.symm
        refine ⟨.val (.str "again"), .val (.list (vs.map V.ev)), .val (.list ((w :: r).map V.ev)), rfl, rfl, rfl, ?_⟩
        simp at hne hm2
        simp [l_17_2, hix, ag, lk, hm, e1, h3, h4, h6, eqS, hm2, sm3, ix2, lim, hne, stepF, faultF, hf, idx_ev, hs, appO_fl hF]
    | false =>
      have hin := hin hs
      cases ht : took vs v.nm v.num with
      | true =>
        refine ⟨.val (.str "again"), .val (.list (vs.map V.ev)), .val (.list (ss.map V.ev)), rfl, rfl, rfl, ?_⟩
        simp [l_17_2, hix, ag, lk, hm, e1, h3, h4, h6, eqS, hm2, sm3, ix2, lim, hne, stepF, faultF, idx_ev, hs, ne, hin, ht, appO_fl hF]
      | false =>
        cases ss with
        | nil =>
          have hf : firstS vs v.num = none := hfi.symm
          refine ⟨.val (.str "unsent"), .val (.list (vs.map V.ev)), .val (.list []), rfl, rfl, rfl, ?_⟩
          simp at hne hm2
          simp [l_17_2, hix, ag, lk, hm, e1, h3, h4, h6, eqS, hm2, sm3, ix2, lim, hne, stepF, faultF, idx_ev, hs, ne, hin, ht, hf, appO_fl hF]
        | cons w r =>
          have hf : firstS vs v.num = some w := hfi.symm
          by_cases z : w.nm = v.nm
          · refine ⟨.val (.str "own"), .val (.list (vs.map V.ev)), .val (.list ((w :: r).map V.ev)), rfl, rfl, rfl, ?_⟩
            simp at hne hm2
            simp [l_17_2, hix, ag, lk, hm, e1, h3, h4, h6, eqS, hm2, sm3, ix2, ix_z, lim, hne, stepF, faultF, idx_ev, hs, ne, hin, ht, hf, z, appO_fl hF]
          · have z' : (w.nm == v.nm) = false := beq_eq_false_iff_ne.mpr z
            refine ⟨.val .none, .val (.list (vs.map V.ev)), .val (.list ((w :: r).map V.ev)), rfl, rfl, rfl, ?_⟩
            simp at hne hm2
            simp [l_17_2, hix, ag, lk, hm, e1, h3, h4, h6, eqS, hm2, sm3, ix2, ix_z, lim, hne, stepF, faultF, idx_ev, hs, ne, hin, ht, hf, z, z', appO_fl hF]
theorem gt_nm2 {a b c f g h : SV} {x : PyData} {s2 : SV} (h2 : okS (some s2) = true) : gT (.nm 2) x [a, b, s2, c, f, g, h] = .ok () [a, b, .val x, c, f, g, h] := by simp [h2]
theorem lf_loop {es : List PyData} (hE : ∀ e ∈ es, EvOk e) (hl : es.length ≤ lim) : ∀ (rest pre : List PyData) (F : List PyData) (s2 s3 s4 s6 : SV), es = pre ++ rest → F.length + rest.length < lim → okS (some s2) = true → okS (some s3) = true → okS (some s4) = true → okS (some s6) = true →
    ∃ s2' s3' s4' s6', forT (gT (.nm 2)) (l_17_2 (CL (n+2))) ((List.range' pre.length rest.length).map fun j : Nat => .int (j : Int)) [.val (.list es), .own (PI.fl F), s2, s3, s4, .unset, s6] = .ok .nx [.val (.list es), .own (PI.fl (F ++ faultsF (pre.filterMap toV) pre.length rest)), s2', s3', s4', .unset, s6']
  | [], pre, F, s2, s3, s4, s6, _, _, _, _, _, _ => ⟨s2, s3, s4, s6, by simp [faultsF]⟩
  | d :: r, pre, F, s2, s3, s4, s6, he, hF, h2, h3, h4, h6 => by
    have hd : es[pre.length]? = some d := by rw [he]; simp
    have htk : es.take pre.length = pre := by rw [he]; simp
    simp only [List.length_cons] at hF
    obtain ⟨s3', s4', s6', k3, k4, k6, st⟩ := lf_step (n := n) (F := F) hE hd hl (by omega) h3 h4 h6
    rw [htk] at st
    have hlen : (stepF (pre.filterMap toV) d (.int pre.length) (toV d)).length ≤ 1 := by
      cases toV d with
      | none => exact Nat.le_refl _
      | some v => show (match faultF _ v with | none => [] | some w => [PyData.tuple [.str w, .int pre.length]]).length ≤ 1; cases faultF (pre.filterMap toV) v <;> simp
    obtain ⟨t2, t3, t4, t6, ih⟩ := lf_loop hE hl r (pre ++ [d]) (F ++ stepF (pre.filterMap toV) d (.int pre.length) (toV d)) (.val (.int pre.length)) s3' s4' s6' (by rw [he]; simp) (by rw [List.length_append]; omega) rfl k3 k4 k6
    refine ⟨t2, t3, t4, t6, ?_⟩
    rw [List.length_cons, List.range'_succ, List.map_cons, forT_nx (gt_nm2 h2) st]
    rw [List.length_append] at ih
    rw [show pre.length + 1 = pre.length + [d].length from rfl, ih, List.append_assoc]
    have e : stepF (pre.filterMap toV) d (.int pre.length) (toV d) ++ faultsF ((pre ++ [d]).filterMap toV) (pre.length + [d].length) r = faultsF (pre.filterMap toV) pre.length (d :: r) := by
      rw [faultsF, List.filterMap_append]
      cases hv : toV d with
      | none => simp [hv, stepF]
      | some v => cases hf : faultF (pre.filterMap toV) v <;> simp [hv, stepF, hf]
    rw [e]
theorem upto_range {m : Nat} : upto 0 (m : Int) = (List.range' 0 m).map fun j : Nat => .int (j : Int) := by
  unfold upto
  rw [List.range_eq_range', show ((m : Int) - 0).toNat = m by omega]
  exact List.map_congr_left fun j _ => by rw [Int.zero_add]
theorem lf_ok {es : List PyData} (hE : ∀ e ∈ es, EvOk e) (hl : es.length + 1 < lim) : CL (n+3) 17 [.val (.list es)] = .ok (PI.fl (manyF es ++ faultsF [] 0 es)) [.val (.list es)] := by
  rw [c_17, d_17]
  have hm : (manyF es).length ≤ 1 := by unfold manyF; split <;> simp
  obtain ⟨t2, t3, t4, t6, lp⟩ := lf_loop (n := n) hE (by omega) es [] (manyF es) .unset .unset .unset .unset rfl (by omega) rfl rfl rfl rfl
  have hs : smallI (es.length : Int) = true := small_nat (by omega)
  have hr := rngR_ok (m := 0) (n := es.length) (ρ := [.val (.list es), .own (PI.fl (manyF es)), .unset, .unset, .unset, .unset, .unset]) (by rw [hs, sm3.1]; simp; omega)
  rw [upto_range] at hr
  have s01 : smallI 0 = true ∧ smallI 1 = true := ⟨sm3.1, sm3.2.1⟩
  have lp2 := lp
  simp only [List.length_nil, List.filterMap_nil] at lp2
  by_cases q : 120 < es.length
  · have q1 : (120 : Int) < es.length := by omega
    have hmm : manyF es = [.tuple [.str "many", .int es.length]] := if_pos q
    rw [hmm] at lp2 hr ⊢
    simp [q1, sm3, lim, hr, lp2]
  · have q1 : ¬ (120 : Int) < es.length := by omega
    have hmm : manyF es = [] := if_neg q
    rw [hmm] at lp2 hr ⊢
    simp [q1, sm3, lim, hr, lp2]
/-! the draws -/
theorem take_ok {ds : List Int} {b : Int} {k : Nat} (hb : 0 < b) : ∃ (r : Int) (ds' : List Int), 0 ≤ r ∧ r < b ∧ ds'.length ≤ ds.length ∧ CL (n+1) 11 [.bor k (PI.fl (ds.map .int)), .val (.int b)] = .ok (.frz (.int r)) [.bor k (PI.fl (ds'.map .int)), .val (.int b)] := by
  rw [c_11, d_11]
  rcases List.eq_nil_or_concat ds with rfl | ⟨ds', x, rfl⟩
  · refine ⟨0, [], Int.le_refl _, hb, Nat.le_refl _, ?_⟩
    simp
  · refine ⟨x % b, ds', Int.emod_nonneg _ (by omega), Int.emod_lt_of_pos _ hb, by simp, ?_⟩
    have hp : dpop 0 [.bor k (PI.fl ((ds' ++ [x]).map .int)), .val (.int b)] = .ok (.frz (.int x)) [.bor k (PI.fl (ds'.map .int)), .val (.int b)] := by
      unfold dpop PI.fl
      simp
    have hne : ¬ (((ds'.length : Int) + 1) = 0) := by omega
    have hne' : (((ds'.length : Int) + 1) == 0) = false := beq_eq_false_iff_ne.mpr hne
    rw [List.concat_eq_append]
    simp [hne, hne', hp, hb]
    simp at hp
    simp [hp, hb]
theorem pick_ok {ds : List Int} {l : List PyData} {k : Nat} (h : Rd s (.list l)) (hl : l ≠ []) (hm : l.length ≤ lim) : ∃ (x : PyData) (ds' : List Int), x ∈ l ∧ ds'.length ≤ ds.length ∧ CL (n+2) 12 [.bor k (PI.fl (ds.map .int)), s] = .ok (.frz x) [.bor k (PI.fl (ds'.map .int)), s] := by
  rw [c_12, d_12]
  have hp : 0 < l.length := List.length_pos_iff.mpr hl
  obtain ⟨r, ds', h0, h1, hlen, tk⟩ := take_ok (n := n) (ds := ds) (b := l.length) (k := 0) (by omega)
  have hr : r.toNat < l.length := by omega
  have hx : l[r.toNat]? = some l[r.toNat] := List.getElem?_eq_getElem hr
  have hix := idx_nat hx hm
  rw [show ((r.toNat : Nat) : Int) = r by omega] at hix
  refine ⟨l[r.toNat], ds', List.getElem_mem hr, hlen, ?_⟩
  have ag : agOk [.r 0, .v (d1 .len (cv 1))] = true := by decide
  cases h <;> simp [ag, tk, hix]
theorem app_int {ds : List Int} {x : Int} (h : ds.length < lim) : appO (.int x) (PI.fl (ds.map .int)) = some (PI.fl ((ds ++ [x]).map .int)) := by
  rw [appO_fl (by rw [List.length_map]; exact h)]
  simp
theorem dr_loop0 {cl : Cl} {s0 s2 s3 : SV} : ∀ (l : List PyData) (ds : List Int) (num : Int) (s5 : SV), okS (some s5) = true → ds.length + l.length < lim →
    ∃ (ds' : List Int) (num' : Int) (s5' : SV), okS (some s5') = true ∧ ds'.length ≤ ds.length + l.length ∧
      forT (gT (.nm 5)) (l_10_0 cl) l [s0, .own (PI.fl (ds.map .int)), s2, s3, .val (.int num), s5] = .ok .nx [s0, .own (PI.fl (ds'.map .int)), s2, s3, .val (.int num'), s5']
  | [], ds, num, s5, h5, _ => ⟨ds, num, s5, h5, by simp, rfl⟩
  | d :: r, ds, num, s5, h5, hl => by
    simp only [List.length_cons] at hl ⊢
    have gt : gT (.nm 5) d [s0, .own (PI.fl (ds.map .int)), s2, s3, .val (.int num), s5] = .ok () [s0, .own (PI.fl (ds.map .int)), s2, s3, .val (.int num), .val d] := by simp [h5]
    by_cases q : 0 < num
    · obtain ⟨ds', num', s5', k5, hle, ih⟩ := dr_loop0 (cl := cl) (s0 := s0) (s2 := s2) (s3 := s3) r (ds ++ [num % 997]) (num / 997) (.val d) rfl (by simp; omega)
      refine ⟨ds', num', s5', k5, by simp at hle; omega, ?_⟩
      rw [forT_nx gt (ρ2 := [s0, .own (PI.fl ((ds ++ [num % 997]).map .int)), s2, s3, .val (.int (num / 997)), .val d]), ih]
      have ap := app_int (x := num % 997) (show ds.length < lim by omega)
      simp [l_10_0, q, ap]
    · obtain ⟨ds', num', s5', k5, hle, ih⟩ := dr_loop0 (cl := cl) (s0 := s0) (s2 := s2) (s3 := s3) r ds num (.val d) rfl (by omega)
      refine ⟨ds', num', s5', k5, by omega, ?_⟩
      rw [forT_nx gt (ρ2 := [s0, .own (PI.fl (ds.map .int)), s2, s3, .val (.int num), .val d]), ih]
      simp [l_10_0, q]
theorem dr_loop2 {cl : Cl} {s0 s3 s4 : SV} : ∀ (l : List PyData) (ds : List Int) (seed : Int) (s5 : SV), okS (some s5) = true → ds.length + l.length < lim →
    ∃ (ds' : List Int) (seed' : Int) (s5' : SV), okS (some s5') = true ∧ ds'.length ≤ ds.length + l.length ∧
      forT (gT (.nm 5)) (l_10_2 cl) l [s0, .own (PI.fl (ds.map .int)), .val (.int seed), s3, s4, s5] = .ok .nx [s0, .own (PI.fl (ds'.map .int)), .val (.int seed'), s3, s4, s5']
  | [], ds, num, s5, h5, _ => ⟨ds, num, s5, h5, by simp, rfl⟩
  | d :: r, ds, seed, s5, h5, hl => by
    simp only [List.length_cons] at hl ⊢
    have gt : gT (.nm 5) d [s0, .own (PI.fl (ds.map .int)), .val (.int seed), s3, s4, s5] = .ok () [s0, .own (PI.fl (ds.map .int)), .val (.int seed), s3, s4, .val d] := by simp [h5]
    have b : b64 48271 = true := by decide
    obtain ⟨ds', num', s5', k5, hle, ih⟩ := dr_loop2 (cl := cl) (s0 := s0) (s3 := s3) (s4 := s4) r (ds ++ [(seed * 48271 + 69621) % 2147483647 / 5]) ((seed * 48271 + 69621) % 2147483647) (.val d) rfl (by simp; omega)
    refine ⟨ds', num', s5', k5, by simp at hle; omega, ?_⟩
    rw [forT_nx gt (ρ2 := [s0, .own (PI.fl ((ds ++ [(seed * 48271 + 69621) % 2147483647 / 5]).map .int)), .val (.int ((seed * 48271 + 69621) % 2147483647)), s3, s4, .val d]), ih]
    have ap := app_int (x := (seed * 48271 + 69621) % 2147483647 / 5) (show ds.length < lim by omega)
    simp [l_10_2, ap, b]
theorem upto_len {m : Nat} : (upto 0 (m : Int)).length = m := by simp [upto]
theorem dr_loop1 {cl : Cl} {s0 : SV} : ∀ (ns : List Int) (ds : List Int) (seed : Int) (s3 s4 s5 : SV), okS (some s3) = true → okS (some s4) = true → okS (some s5) = true → ds.length + 62 * ns.length < lim →
    ∃ (ds' : List Int) (seed' : Int) (s3' s4' s5' : SV), okS (some s5') = true ∧ ds'.length ≤ ds.length + 62 * ns.length ∧
      forT (gT (.nm 3)) (l_10_1 cl) (ns.map .int) [s0, .own (PI.fl (ds.map .int)), .val (.int seed), s3, s4, s5] = .ok .nx [s0, .own (PI.fl (ds'.map .int)), .val (.int seed'), s3', s4', s5']
  | [], ds, seed, s3, s4, s5, h3, h4, h5, _ => ⟨ds, seed, s3, s4, s5, h5, by simp, rfl⟩
  | c :: r, ds, seed, s3, s4, s5, h3, h4, h5, hl => by
    simp only [List.length_cons] at hl ⊢
    have gt : gT (.nm 3) (.int c) [s0, .own (PI.fl (ds.map .int)), .val (.int seed), s3, s4, s5] = .ok () [s0, .own (PI.fl (ds.map .int)), .val (.int seed), .val (.int c), s4, s5] := by simp [h3]
    have b : b64 48271 = true := by decide
    have hr := fun ρ => rngR_ok (m := 0) (n := 60) (ρ := ρ) (by decide)
    have hu := upto_len (m := 60)
    generalize hnum : (if c < 0 then -c else c) = num
    generalize hseed : (seed * 48271 + num + 1) % 2147483647 = seed1
    have step : ∃ (ds1 : List Int) (num1 : Int) (s51 : SV), okS (some s51) = true ∧ ds1.length ≤ ds.length + 62 ∧ l_10_1 cl [s0, .own (PI.fl (ds.map .int)), .val (.int seed), .val (.int c), s4, s5] = .ok .nx [s0, .own (PI.fl (ds1.map .int)), .val (.int seed1), .val (.int c), .val (.int num1), s51] := by
      by_cases q : num < 10 ^ 18
      · obtain ⟨ds1, num1, s51, k5, hle, lp⟩ := dr_loop0 (cl := cl) (s0 := s0) (s2 := .val (.int seed1)) (s3 := .val (.int c)) (upto 0 60) (ds ++ [num % 997] ++ [seed1 % 65521]) 0 s5 h5 (by rw [show (upto 0 60).length = 60 from hu]; simp; omega)
        rw [show (upto 0 60).length = 60 from hu] at hle
        refine ⟨ds1, num1, s51, k5, by simp at hle; omega, ?_⟩
        have ap1 := app_int (x := num % 997) (show ds.length < lim by omega)
        have ap2 := app_int (x := seed1 % 65521) (show (ds ++ [num % 997]).length < lim by simp; omega)
        have q' : num < 1000000000000000000 := q
        simp only [List.map_append, List.map_cons, List.map_nil, List.append_assoc] at ap1 ap2 lp
        simp [l_10_1, hnum, b, hseed, h4, q', ap1, ap2, hr]
        exact lp
      · obtain ⟨ds1, num1, s51, k5, hle, lp⟩ := dr_loop0 (cl := cl) (s0 := s0) (s2 := .val (.int seed1)) (s3 := .val (.int c)) (upto 0 60) ds num s5 h5 (by rw [show (upto 0 60).length = 60 from hu]; omega)
        rw [show (upto 0 60).length = 60 from hu] at hle
        refine ⟨ds1, num1, s51, k5, by omega, ?_⟩
        have q' : ¬ num < 1000000000000000000 := q
        simp [l_10_1, hnum, b, hseed, h4, q', hr, lp]
    obtain ⟨ds1, num1, s51, k5, hle, st⟩ := step
    obtain ⟨ds', num', s3', s4', s5', k5', hle', ih⟩ := dr_loop1 (cl := cl) (s0 := s0) r ds1 seed1 (.val (.int c)) (.val (.int num1)) s51 rfl rfl k5 (by omega)
    refine ⟨ds', num', s3', s4', s5', k5', by omega, ?_⟩
    rw [List.map_cons, forT_nx gt st, ih]
theorem draws_ok {ns : List Int} (hn : ns.length ≤ 63) : ∃ ds : List Int, ds.length ≤ 6000 ∧ CL (n+1) 10 [.scr ns] = .ok (PI.fl (ds.map .int)) [.scr ns] := by
  rw [c_10, d_10]
  obtain ⟨ds1, seed1, s31, s41, s51, k5, hl1, lp1⟩ := dr_loop1 (cl := CL n) (s0 := .scr ns) ns [] 11 .unset .unset .unset rfl rfl rfl (by simp [lim]; omega)
  have hu := upto_len (m := 1600)
  have hu' : (upto 0 1600).length = 1600 := hu
  obtain ⟨ds2, seed2, s52, k52, hl2, lp2⟩ := dr_loop2 (cl := CL n) (s0 := .scr ns) (s3 := s31) (s4 := s41) (upto 0 1600) ds1 seed1 s51 k5 (by rw [hu']; simp at hl1; simp [lim]; omega)
  rw [hu'] at hl2
  have hr := fun ρ => rngR_ok (m := 0) (n := 1600) (ρ := ρ) (by decide)
  have e0 : PI.fl [] = OD.lst [] := rfl
  refine ⟨ds2.reverse, by simp at hl1 ⊢; omega, ?_⟩
  simp only [List.map_nil] at lp1
  have e1 : OD.lst [] = PI.fl [] := rfl
  simp [e1, lp1, hr, lp2]
end
end PI.K10

namespace PI.K10
open PySem PI
section
variable {n : Nat} {s t u : SV} {d e : PyData}
/-! _law_same on equal data -/
mutual
def smG : PyData → Bool
  | .list xs => decide (xs.length ≤ lim) && smGs xs
  | .tuple xs => decide (xs.length ≤ lim) && smGs xs
  | .dict _ => false
  | _ => true
def smGs : List PyData → Bool
  | [] => true
  | x :: xs => smG x && smGs xs
end
theorem smGs_mem : ∀ {xs : List PyData} {x : PyData}, smGs xs = true → x ∈ xs → smG x = true
  | y :: ys, x, h, hx => by
    rw [smGs, Bool.and_eq_true] at h
    rcases List.mem_cons.mp hx with rfl | hx
    · exact h.1
    · exact smGs_mem h.2 hx
theorem dpA_mem : ∀ {xs : List PyData} {x : PyData}, x ∈ xs → x.depth ≤ PyData.depthAll xs
  | y :: ys, x, hx => by
    rw [PyData.depthAll]
    rcases List.mem_cons.mp hx with rfl | hx
    · exact Nat.le_max_left ..
    · exact Nat.le_trans (dpA_mem hx) (Nat.le_max_right ..)
theorem idx_tup {es : List PyData} {k : Nat} (h : es[k]? = some d) (hl : es.length ≤ lim) : idxD (.tuple es) (.int k) = some d := idx_nat (es := es) h hl
theorem sm_loop {cl : Cl} {xs : List PyData} {s3 : SV} (hs : ∀ (k : Nat) (x : PyData), xs[k]? = some x → ∃ d, Rd s d ∧ Rd t d ∧ idxD d (.int k) = some x) (ih : ∀ x ∈ xs, cl 13 [.val x, .val x] = .ok (.frz (.bool true)) [.val x, .val x]) :
    ∀ (l : List Nat) (s2 : SV), okS (some s2) = true → (∀ k ∈ l, k < xs.length) → ∃ s2', forT (gT (.nm 2)) (l_13_0 cl) (l.map fun j : Nat => .int (j : Int)) [s, t, s2, s3] = .ok .nx [s, t, s2', s3]
  | [], s2, _, _ => ⟨s2, rfl⟩
  | k :: r, s2, h2, hk => by
    have hk1 := hk k (.head _)
    have hx : xs[k]? = some xs[k] := List.getElem?_eq_getElem hk1
    obtain ⟨d, r1, r2, e⟩ := hs k _ hx
    have i1 := ih xs[k] (List.getElem_mem hk1)
    obtain ⟨s2', h⟩ := sm_loop hs ih r (.val (.int k)) rfl fun j hj => hk j (.tail _ hj)
    refine ⟨s2', ?_⟩
    have gt : gT (.nm 2) (.int k) [s, t, s2, s3] = .ok () [s, t, .val (.int k), s3] := by simp [h2]
    have ag : agOk [.v (didxL 0 (cv 2)), .v (didxL 1 (cv 2))] = true := by decide
    rw [List.map_cons, forT_nx gt (ρ2 := [s, t, .val (.int k), s3]), h]
    have c0 : svD s = some d := by cases r1 <;> simp
    have c1 : svD t = some d := by cases r2 <;> simp
    simp [l_13_0, c0, c1, e, ag, i1]
theorem same_ok : ∀ (n : Nat) {d : PyData} {s t : SV}, d.depth < n → smG d = true → Rd s d → Rd t d → CL n 13 [s, t] = .ok (.frz (.bool true)) [s, t]
  | n + 1, d, s, t, hd, hg, hs, ht => by
    rw [c_13, d_13]
    have seq : ∀ xs : List PyData, (d = .list xs ∨ d = .tuple xs) → ∃ s2', forT (gT (.nm 2)) (l_13_0 (CL n)) (upto 0 (xs.length : Int)) [s, t, .unset, .unset] = .ok .nx [s, t, s2', .unset] := fun xs hx => by
      have hdx : PyData.depthAll xs < n := by
        rcases hx with rfl | rfl <;> (rw [PyData.depth] at hd; omega)
      have hgx : xs.length ≤ lim ∧ smGs xs = true := by
        rcases hx with rfl | rfl <;> (rw [smG, Bool.and_eq_true, decide_eq_true_eq] at hg; exact hg)
      rw [upto_range]
      refine sm_loop (xs := xs) (fun k x hk => ⟨d, hs, ht, ?_⟩) (fun x hx => same_ok n (Nat.lt_of_le_of_lt (dpA_mem hx) hdx) (smGs_mem hgx.2 hx) (.val x) (.val x)) _ _ rfl fun k hk => by have := List.mem_range'.mp hk; omega
      rcases hx with rfl | rfl
      · exact idx_nat hk hgx.1
      · exact idx_tup hk hgx.1
    have sml : ∀ {ρ : Env} {xs : List PyData}, xs.length ≤ lim → rngR (.int 0) (.int xs.length) ρ = .ok (upto 0 xs.length) ρ := fun {ρ xs} h => rngR_ok (by rw [small_nat h, sm3.1]; simp; omega)
    cases d with
    | none => cases hs; cases ht; simp [eqS]
    | bool b => cases hs; cases ht; simp [eqS]
    | int b => cases hs; cases ht; simp [eqS]
    | str b => cases hs; cases ht; simp [eqS]
    | dict b => exact nomatch hg
    | list xs =>
      obtain ⟨s2', lp⟩ := seq xs (.inl rfl)
      have hl : xs.length ≤ lim := by rw [smG, Bool.and_eq_true, decide_eq_true_eq] at hg; exact hg.1
      have sml := fun ρ => sml (ρ := ρ) hl
      clear seq
      cases hs <;> cases ht <;> simp [eqS, sml, lp]
    | tuple xs =>
      obtain ⟨s2', lp⟩ := seq xs (.inr rfl)
      have hl : xs.length ≤ lim := by rw [smG, Bool.and_eq_true, decide_eq_true_eq] at hg; exact hg.1
      have sml := fun ρ => sml (ρ := ρ) hl
      clear seq
      cases hs; cases ht; simp [eqS, sml, lp]
end
end PI.K10

namespace PI.K10
open PySem PI
section
variable {n : Nat} {s t u : SV} {d e : PyData}
/-! are_events -/
theorem number_ok : CL (n+3) 4 [.val d] = .ok (.frz (.bool (num d))) [.val d] := by
  rw [c_4, d_4]
  have ag : agOk [.l 0, .v (dc (.int 1)), .v (dc (.int 9999))] = true := by decide
  simp [ag, within_ok]
theorem isev_ok (h : EvOk d) : CL (n+4) 8 [.val d] = .ok (.frz (.bool (kind d).isNone)) [.val d] := by
  obtain ⟨l, rfl, ha, hl⟩ := h
  rw [c_8, d_8]
  have ag1 : agOk [.v (didxL 0 (fz (dc (.int 1))))] = true := by decide
  have ag2 : agOk [.v (didxL 0 (fz (dc (.int 2))))] = true := by decide
  match l, ha, hl with
  | [], _, _ => simp [kind]
  | [_], _, _ => simp [kind]
  | [_, _], _, _ => simp [kind]
  | [_, _, _, _], _, _ => simp [kind]
  | [w, a, x], ha, _ =>
    have hw : At w := ha _ (by simp)
    have hx : At a := ha _ (by simp)
    have hin := in_send (.inr rfl) hw
    cases hs : isT .str w with
    | false =>
      have h1 : snt w = false := by cases hw <;> first | rfl | exact nomatch hs
      simp [kind, sm3, ix3, hs, h1]
    | true =>
      cases hb : snt w with
      | false => simp [kind, sm3, ix3, hs, hin, hb, lim]
      | true =>
        cases hn : nm a with
        | false => simp [kind, sm3, ix3, hs, hin, hb, ag1, name_ok hx, hn, lim]
        | true =>
          cases hm : num x <;> simp [kind, sm3, ix3, hs, hin, hb, ag1, ag2, name_ok hx, hn, number_ok, hm, lim]
theorem ae_loop {cl : Cl} {s0 s1 : SV} : ∀ (es : List PyData) (k : Nat) (vs : List V) (S K : List (PyData × PyData)) (s4 s5 s6 : SV), IsS vs S → IsK vs K → (∀ e ∈ es, kind e = none) → vs.length + es.length < lim → Fr s4 → Fr s5 → Fr s6 →
    ∃ r, forT (gT (.tp [.nm 4, .nm 5, .nm 6])) (l_9_1 cl) es [s0, s1, .own (fd S), .own (fd K), s4, s5, s6] = (if (faultsF vs k es).isEmpty then .ok .nx (s0 :: r) else .ok (.rt (.frz (.bool false))) (s0 :: r))
  | [], k, vs, S, K, s4, s5, s6, _, _, _, _, _, _, _ => ⟨_, rfl⟩
  | d :: r, k, vs, S, K, s4, s5, s6, hS, hK, hE, hV, h4, h5, h6 => by
    simp only [List.length_cons] at hV
    cases hv : toV d with
    | none => obtain ⟨w, hw⟩ := toV_none hv; rw [hE d (.head _)] at hw; exact nomatch hw
    | some v =>
      obtain ⟨hkn, rfl⟩ := toV_some hv
      have gt : gT (.tp [.nm 4, .nm 5, .nm 6]) v.ev [s0, s1, .own (fd S), .own (fd K), s4, s5, s6] = .ok () [s0, s1, .own (fd S), .own (fd K), .val (.str (if v.snd then "send" else "take")), .val (.str v.nm), .val (.int v.num)] := by
        obtain ⟨_, rfl | rfl⟩ := h4 <;> obtain ⟨_, rfl | rfl⟩ := h5 <;> obtain ⟨_, rfl | rfl⟩ := h6 <;> rfl
      have hlS : S.length < lim := by have := hS.len; omega
      have hlK : K.length < lim := by have := hK.len; omega
      have hl := hS.look v.num
      have hf := hS.fit v.num
      have hl2 := hK.look v.nm v.num
      have hf2 := hK.fit v.nm v.num
      have fz' : ∀ {w : Str}, faultF vs v = some w → (faultsF vs k (v.ev :: r)).isEmpty = false := fun {w} h => by
        rw [faultsF, hv]
        simp only [h]
        rfl
      have fn' : faultF vs v = none → faultsF vs k (v.ev :: r) = faultsF (vs ++ [v]) (k + 1) r := fun h => by
        rw [faultsF, hv]
        simp only [h]
        rfl
      have ne : (Str.ofString "take" == Str.ofString "send") = false := rfl
      have so := setO_fd (v := .str v.nm) hf hlS
      have ko := setO_fd (v := .bool true) hf2 hlK
      cases hs : v.snd with
      | true =>
        cases hw : firstS vs v.num with
        | some w =>
          refine ⟨[s1, .own (fd S), .own (fd K), .val (.str "send"), .val (.str v.nm), .val (.int v.num)], ?_⟩
          have hfa : faultF vs v = some "again" := by simp [faultF, hs, hw]
          rw [fz' hfa, forT_rt gt (by simp [hs, l_9_1, inD, hf, hl, hw]; exact ⟨rfl, rfl⟩)]
          simp
        | none =>
          have hfa : faultF vs v = none := by simp [faultF, hs, hw]
          obtain ⟨q, ih⟩ := ae_loop (cl := cl) (s0 := s0) (s1 := s1) r (k + 1) (vs ++ [v]) _ _ (.val (.str "send")) (.val (.str v.nm)) (.val (.int v.num)) (hS.add hs hw) (hK.skip hs) (fun e he => hE e (.tail _ he)) (by simp; omega) ⟨_, .inr rfl⟩ ⟨_, .inr rfl⟩ ⟨_, .inr rfl⟩
          refine ⟨q, ?_⟩
          rw [fn' hfa, ← ih, forT_nx gt]
          simp [hs, l_9_1, inD, hf, hl, hw, so]
      | false =>
        cases hw : firstS vs v.num with
        | none =>
          refine ⟨[s1, .own (fd S), .own (fd K), .val (.str "take"), .val (.str v.nm), .val (.int v.num)], ?_⟩
          have hfa : ∃ w, faultF vs v = some w := by unfold faultF; rw [hw, hs]; cases took vs v.nm v.num <;> exact ⟨_, rfl⟩
          obtain ⟨_, hfa⟩ := hfa
          rw [fz' hfa, forT_rt gt (by simp [hs, l_9_1, inD, hf, hl, hw, ne]; exact ⟨rfl, rfl⟩)]
          simp
        | some w =>
          cases hn : w.nm == v.nm with
          | true =>
            refine ⟨[s1, .own (fd S), .own (fd K), .val (.str "take"), .val (.str v.nm), .val (.int v.num)], ?_⟩
            have hfa : ∃ w, faultF vs v = some w := by unfold faultF; rw [hw, hs]; cases took vs v.nm v.num <;> simp [hn]
            obtain ⟨_, hfa⟩ := hfa
            rw [fz' hfa, forT_rt gt (by simp [hs, l_9_1, inD, hf, hl, hw, ne, hn]; exact ⟨rfl, rfl⟩)]
            simp
          | false =>
            cases ht : took vs v.nm v.num with
            | true =>
              refine ⟨[s1, .own (fd S), .own (fd K), .val (.str "take"), .val (.str v.nm), .val (.int v.num)], ?_⟩
              have hfa : faultF vs v = some "again" := by simp [faultF, hs, ht]
              rw [fz' hfa, forT_rt gt (by simp [hs, l_9_1, inD, hf, hl, hw, ne, hn, hf2, hl2, ht, lim]; exact ⟨rfl, rfl⟩)]
              simp
            | false =>
              have hfa : faultF vs v = none := by simp [faultF, hs, hw, ht, hn]
              obtain ⟨q, ih⟩ := ae_loop (cl := cl) (s0 := s0) (s1 := s1) r (k + 1) (vs ++ [v]) _ _ (.val (.str "take")) (.val (.str v.nm)) (.val (.int v.num)) (hS.skip (.inl hs)) (hK.add hs) (fun e he => hE e (.tail _ he)) (by simp; omega) ⟨_, .inr rfl⟩ ⟨_, .inr rfl⟩ ⟨_, .inr rfl⟩
              refine ⟨q, ?_⟩
              rw [fn' hfa, ← ih, forT_nx gt]
              simp [hs, l_9_1, inD, hf, hl, hw, ne, hn, hf2, hl2, ht, ko, lim]
end
end PI.K10

namespace PI.K10
open PySem PI
def q18_0 (cl : Cl) : M Fl := spar [(6, false), (7, false)] [dcall cl 12 [.r 0, .v (dlst [(false, fz (dc (.str "ann"))), (false, fz (dc (.str "bob"))), (false, fz (dc (.str "cy"))), (false, fz (dc (.str "d2")))])], dcall cl 11 [.r 0, .v (dc (.int 12))]]
def q18_1 (cl : Cl) : M Fl := sasg 8 false (dtup [(false, fz (dc (.str "send"))), (false, fz (dv 6)), (false, fz (dv 4))])
def q18_2 (cl : Cl) : M Fl := sife (qand (qof (d2L .ne 3 (fz (dlst [])))) (qof (d2 .gt (fz (dcall cl 11 [.r 0, .v (dc (.int 3))])) (fz (dc (.int 0)))))) (blk [sasg 8 false (dtup [(false, fz (dc (.str "take"))), (false, fz (dv 6)), (false, fz (dcall cl 12 [.r 0, .l 3]))])]) (blk [])
def q18_3 (cl : Cl) : M Fl := sife (qof (d2 .eq (fz (didxL 8 (fz (dc (.int 0))))) (fz (dc (.str "send"))))) (blk [spar [(3, false), (4, false)] [d2L .add 3 (fz (dlst [(false, fz (dv 4))])), d2 .add (fz (d2L .add 4 (fz (dc (.int 1))))) (fz (dcall cl 11 [.r 0, .v (dc (.int 2))]))]]) (blk [])
def q18_4 (cl : Cl) : M Fl := sife (qof (d2L .eq 7 (fz (dc (.int 0))))) (blk [sasg 9 false (dlst [(false, fz (dtup [])), (false, fz (dsli (fz (dv 8)) none (some (fz (dc (.int 2)))))), (false, fz (d2L .add 8 (fz (dtup [(false, fz (dc (.int 1)))])))), (false, fz (d2 .add (fz (dtup [(false, fz (dc (.str "give")))])) (fz (dsli (fz (dv 8)) (some (fz (dc (.int 1)))) none)))), (false, fz (d2 .add (fz (dtup [(false, fz (dc .none))])) (fz (dsli (fz (dv 8)) (some (fz (dc (.int 1)))) none)))), (false, fz (dtup [(false, fz (didxL 8 (fz (dc (.int 0))))), (false, fz (dc (.str "Ann"))), (false, fz (didxL 8 (fz (dc (.int 2)))))])), (false, fz (dtup [(false, fz (didxL 8 (fz (dc (.int 0))))), (false, fz (dc .none)), (false, fz (didxL 8 (fz (dc (.int 2)))))]))]),
    sasg 8 false (dcall cl 12 [.r 0, .v (d2L .add 9 (fz (m_18_0 cl)))])]) (blk [])
def q18_5 (cl : Cl) : M Fl := sife (qand (qof (d2L .eq 7 (fz (dc (.int 1))))) (qof (d2L .ne 2 (fz (dlst []))))) (blk [sasg 8 false (dcall cl 12 [.r 0, .l 2])]) (blk [])
def q18_6 (cl : Cl) : M Fl := sife (qof (d2L .eq 7 (fz (dc (.int 2))))) (blk [sasg 8 false (dtup [(false, fz (dc (.str "take"))), (false, fz (dv 6)), (false, fz (d2 .add (fz (dc (.int 500))) (fz (dcall cl 11 [.r 0, .v (dc (.int 3))]))))])]) (blk [])
def q18_7 (cl : Cl) : M Fl := sapp 2 (fz (dv 8))
section
variable {n : Nat} {s t u : SV} {d e : PyData}
theorem m90_ok {es : List PyData} {s2 s3 s4 s5 s6 : SV} (h : Rd s (.list es)) (hE : ∀ e ∈ es, EvOk e) (hl : es.length ≤ lim) :
    m_9_0 (CL (n+4)) [s, .unset, s2, s3, s4, s5, s6] = .ok (PI.fl (es.map fun d => .bool (kind d).isNone)) [s, .unset, s2, s3, s4, s5, s6] := by
  unfold m_9_0
  have ag : agOk [.l 1] = true := by decide
  exact dlc_all (l := es) (fun d => .bool (kind d).isNone) (by cases h <;> simp) rfl hl (fun d hd => by simp [ag, isev_ok (n := n) (hE d hd)])
theorem faultsF_kind : ∀ {es : List PyData} {vs : List V} {k : Nat}, (faultsF vs k es).isEmpty = true → ∀ e ∈ es, kind e = none
  | d :: r, vs, k, h, e, he => by
    rw [faultsF] at h
    cases hv : toV d with
    | none => rw [hv] at h; exact nomatch h
    | some v =>
      rw [hv] at h
      have h2 : (faultsF (vs ++ [v]) (k + 1) r).isEmpty = true := by
        cases hf : faultF vs v with
        | none => simpa [hf] using h
        | some w => simp [hf] at h
      rcases List.mem_cons.mp he with rfl | he
      · exact (toV_some hv).1
      · exact faultsF_kind h2 e he
theorem ae_ok {es : List PyData} (h : Rd s (.list es)) (hE : ∀ e ∈ es, EvOk e) (hl : es.length + 1 < lim) :
    CL (n+5) 9 [s] = .ok (.frz (.bool (manyF es ++ faultsF [] 0 es).isEmpty)) [s] := by
  rw [c_9, d_9]
  have m9 := fun s2 s3 s4 s5 s6 => m90_ok (n := n) (s2 := s2) (s3 := s3) (s4 := s4) (s5 := s5) (s6 := s6) h hE (by omega)
  by_cases q : 120 < es.length
  · have q1 : (120 : Int) < es.length := by omega
    have hmm : manyF es = [.tuple [.str "many", .int es.length]] := if_pos q
    rw [hmm]
    cases h <;> simp [q1]
  · have q1 : ¬ (120 : Int) < es.length := by omega
    have hmm : manyF es = [] := if_neg q
    rw [hmm, List.nil_append]
    cases hall : (es.map fun d => (kind d).isNone).all id with
    | false =>
      have : (faultsF [] 0 es).isEmpty = false := by
        cases hf : (faultsF [] 0 es).isEmpty with
        | false => rfl
        | true =>
          have := faultsF_kind hf
          rw [List.all_map, List.all_eq_false] at hall
          obtain ⟨x, hx, hn⟩ := hall
          have := this x hx
          simp [this] at hn
      rw [this]
      cases h <;> simp [q1, m9, boolsD_map, hall]
    | true =>
      have hk : ∀ e ∈ es, kind e = none := fun e he => by
        rw [List.all_map, List.all_eq_true] at hall
        have := hall e he
        simpa using this
      obtain ⟨r, lp⟩ := ae_loop (cl := CL (n+4)) (s0 := s) (s1 := .unset) es 0 [] [] [] .unset .unset .unset IsS.nil IsK.nil hk (by simp; omega) ⟨.none, .inl rfl⟩ ⟨.none, .inl rfl⟩ ⟨.none, .inl rfl⟩
      have e1 : OD.dct [] = PI.fd [] := rfl
      cases hf : (faultsF [] 0 es).isEmpty with
      | false => rw [hf] at lp; cases h <;> simp [q1, m9, boolsD_map, hall, e1, lp]
      | true => rw [hf] at lp; cases h <;> simp [q1, m9, boolsD_map, hall, e1, lp]
/-! _law_told -/
theorem told_ok {es : List PyData} (h : Rd s (.list es)) (hE : ∀ e ∈ es, EvOk e) (hl : es.length + 1 < lim) :
    CL (n+5) 15 [s] = .ok (PI.fl (manyF es ++ faultsF [] 0 es)) [s] := by
  rw [c_15, d_15]
  have ag : agOk [.l 0] = true := by decide
  have ef := ef_ok (n := n)  h hE hl
  have ef2 : CL (n+4) 7 [.lck 0 (PI.fl es)] = .ok (PI.fl (manyF es ++ faultsF [] 0 es)) [.lck 0 (PI.fl es)] := ef_ok (.lck 0 es) hE hl
  unfold stry
  cases h <;> simp [ag, ef, ef2]
end
end PI.K10

namespace PI.K10
open PySem PI
section
variable {n : Nat} {s t u : SV} {d e : PyData}
theorem l18_eq {cl : Cl} : l_18_1 cl = blk [q18_0 cl, q18_1 cl, q18_2 cl, q18_3 cl, q18_4 cl, q18_5 cl, q18_6 cl, q18_7 cl] := rfl
theorem blk_nx {s t : M Fl} {r : List (M Fl)} {ρ ρ1 : Env} (h : s ρ = .ok .nx ρ1) : blk (s :: t :: r) ρ = blk (t :: r) ρ1 := by rw [blk_cons, h]; rfl
def ilst (L : List Int) : PyData := .list (L.map .int)
theorem plain_ints : ∀ {L : List Int}, PyData.plainAll (L.map .int) = true
  | [] => rfl
  | _ :: r => by rw [List.map_cons, PyData.plainAll, plain_ints (L := r)]; rfl
theorem nil_eq {xs : List PyData} (h : PyData.plainAll xs = true) : eqD (.list xs) (.list []) = some xs.isEmpty := by
  unfold eqD
  rw [PyData.plain, h]
  cases xs <;> simp [PyData.plain, PyData.plainAll, PyData.depth, PyData.depthAll, PyData.eqv, PyData.eqvAll]
def nms : List Str := ["ann", "bob", "cy", "d2"]
/-- an event as it is drawn first -/
def Ev0 (e : PyData) : Prop := ∃ (b : Bool) (a : Str) (i : Int), a ∈ nms ∧ 1 ≤ i ∧ i ≤ 9000 ∧ e = .tuple [.str (if b then "send" else "take"), .str a, .int i]
theorem nms_names {a : Str} (h : a ∈ nms) : a ∈ names := by
  simp only [nms, List.mem_cons, List.not_mem_nil, or_false] at h
  rcases h with rfl | rfl | rfl | rfl <;> simp [names]
theorem Ev0.ok (h : Ev0 e) : EvOk e := by
  obtain ⟨b, a, i, ha, h1, h2, rfl⟩ := h
  refine ⟨_, rfl, fun x hx => ?_, by simp⟩
  simp only [List.mem_cons, List.not_mem_nil, or_false] at hx
  rcases hx with rfl | rfl | rfl
  · cases b <;> exact .str _ (by simp [names])
  · exact .str _ (nms_names ha)
  · exact .int _ (by omega) (by omega)
/-- what a turn of the drawing begins and ends with -/
structure DI (m : Nat) (much : Int) (ρ : Env) (ds : List Int) (F : List PyData) (L : List Int) (fr : Int) (s5 s6 s7 s8 s9 : SV) : Prop where
  eq : ρ = [.bor 0 (PI.fl (ds.map .int)), .val (.int much), .own (PI.fl F), .val (ilst L), .val (.int fr), s5, s6, s7, s8, s9, .unset]
  hF : ∀ e ∈ F, EvOk e
  lF : F.length = m
  hL : ∀ i ∈ L, 1 ≤ i ∧ i ≤ 9000
  lL : L.length ≤ m
  f0 : 1 ≤ fr
  f1 : fr ≤ 9 + 2 * (m : Int)
  l0 : ds.length ≤ 6000
theorem evPlain (h : EvOk e) : e.plain = true := by
  obtain ⟨l, rfl, ha, hl⟩ := h
  clear hl
  show PyData.plainAll l = true
  induction l with
  | nil => rfl
  | cons a r ih => rw [PyData.plainAll, (ha a (.head _)).plain, ih fun x hx => ha x (.tail _ hx)]; rfl
theorem evsPlain : ∀ {F : List PyData}, (∀ e ∈ F, EvOk e) → PyData.plainAll F = true
  | [], _ => rfl
  | a :: r, h => by rw [PyData.plainAll, evPlain (h a (.head _)), evsPlain fun x hx => h x (.tail _ hx)]; rfl
section
variable {m : Nat} {much fr odd k : Int} {ds L : List Int} {F : List PyData} {s5 s6 s7 s8 s9 : SV} {a : Str} {ev : PyData}
abbrev E18 (ds : List Int) (much : Int) (F : List PyData) (L : List Int) (fr : Int) (s5 s6 s7 s8 s9 : SV) : Env := [.bor 0 (PI.fl (ds.map .int)), .val (.int much), .own (PI.fl F), .val (ilst L), .val (.int fr), s5, s6, s7, s8, s9, .unset]
theorem q0_ok (hd : ds.length ≤ 6000) (h6 : okS (some s6) = true) (h7 : okS (some s7) = true) : ∃ (a : Str) (odd : Int) (ds' : List Int), a ∈ nms ∧ ds'.length ≤ 6000 ∧ q18_0 (CL (n+2)) (E18 ds much F L fr s5 s6 s7 s8 s9) = .ok .nx (E18 ds' much F L fr s5 (.val (.str a)) (.val (.int odd)) s8 s9) := by
  obtain ⟨x, ds1, hx, hl1, e1⟩ := pick_ok (n := n) (ds := ds) (k := 0) (.val (.list [.str "ann", .str "bob", .str "cy", .str "d2"])) (by simp) (by simp [lim])
  obtain ⟨odd, ds2, _, _, hl2, e2⟩ := take_ok (n := n + 1) (ds := ds1) (b := 12) (k := 0) (by omega)
  have ⟨a, ha, hxa⟩ : ∃ a, a ∈ nms ∧ x = .str a := by
    simp only [List.mem_cons, List.not_mem_nil, or_false] at hx
    rcases hx with rfl | rfl | rfl | rfl <;> exact ⟨_, by simp [nms], rfl⟩
  subst hxa
  refine ⟨a, odd, ds2, ha, by omega, ?_⟩
  have ag1 : agOk [.r 0, .v (dlst [(false, fz (dc (.str "ann"))), (false, fz (dc (.str "bob"))), (false, fz (dc (.str "cy"))), (false, fz (dc (.str "d2")))])] = true := by decide
  have ag2 : agOk [.r 0, .v (dc (.int 12))] = true := by decide
  simp [E18, q18_0, ag1, ag2, e1, e2, h6, h7, lim]
theorem q1_ok (h8 : okS (some s8) = true) : q18_1 (CL (n+2)) (E18 ds much F L fr s5 (.val (.str a)) s7 s8 s9) = .ok .nx (E18 ds much F L fr s5 (.val (.str a)) s7 (.val (.tuple [.str "send", .str a, .int fr])) s9) := by
  simp [E18, q18_1, h8, lim]
theorem q2_ok (hd : ds.length ≤ 6000) (ha : a ∈ nms) (hL : ∀ i ∈ L, 1 ≤ i ∧ i ≤ 9000) (hl : L.length ≤ 100) (f0 : 1 ≤ fr) (f1 : fr ≤ 9000) : ∃ (ev : PyData) (ds' : List Int), Ev0 ev ∧ ds'.length ≤ 6000 ∧
    q18_2 (CL (n+2)) (E18 ds much F L fr s5 (.val (.str a)) s7 (.val (.tuple [.str "send", .str a, .int fr])) s9) = .ok .nx (E18 ds' much F L fr s5 (.val (.str a)) s7 (.val ev) s9) := by
  have z := nil_eq (plain_ints (L := L))
  cases L with
  | nil =>
    refine ⟨_, ds, ⟨true, a, fr, ha, f0, f1, rfl⟩, hd, ?_⟩
    have z2 : eqD (ilst []) (.list []) = some true := z
    simp [E18, q18_2, z2, lim]
  | cons i0 L =>
    obtain ⟨r, ds1, _, _, hl1, e1⟩ := take_ok (n := n + 1) (ds := ds) (b := 3) (k := 0) (by omega)
    have ag1 : agOk [.r 0, .v (dc (.int 3))] = true := by decide
    have z2 : eqD (ilst (i0 :: L)) (.list []) = some false := z
    by_cases q : 0 < r
    · obtain ⟨x, ds2, hx, hl2, e2⟩ := pick_ok (n := n) (ds := ds1) (k := 0) (.val (ilst (i0 :: L))) (by simp) (by simp [lim] at hl ⊢; omega)
      obtain ⟨i, hi, rfl⟩ := List.mem_map.mp hx
      refine ⟨_, ds2, ⟨false, a, i, ha, (hL i hi).1, (hL i hi).2, rfl⟩, by omega, ?_⟩
      have ag2 : agOk [.r 0, .l 3] = true := by decide
      simp [E18, q18_2, z2, ag1, ag2, e1, q, e2, lim]
    · refine ⟨_, ds1, ⟨true, a, fr, ha, f0, f1, rfl⟩, by omega, ?_⟩
      simp [E18, q18_2, z2, ag1, e1, q, lim]
theorem q3_ok (hd : ds.length ≤ 6000) (he : Ev0 ev) (hL : ∀ i ∈ L, 1 ≤ i ∧ i ≤ 9000) (lL : L.length ≤ m) (hm : m ≤ 100) (f0 : 1 ≤ fr) (f1 : fr ≤ 9 + 2 * (m : Int)) : ∃ (L' : List Int) (fr' : Int) (ds' : List Int), (∀ i ∈ L', 1 ≤ i ∧ i ≤ 9000) ∧ L'.length ≤ m + 1 ∧ 1 ≤ fr' ∧ fr' ≤ 9 + 2 * ((m + 1 : Nat) : Int) ∧ ds'.length ≤ 6000 ∧
    q18_3 (CL (n+2)) (E18 ds much F L fr s5 s6 s7 (.val ev) s9) = .ok .nx (E18 ds' much F L' fr' s5 s6 s7 (.val ev) s9) := by
  obtain ⟨b, a, i, ha, h1, h2, rfl⟩ := he
  cases b with
  | false =>
    refine ⟨L, fr, ds, hL, by omega, f0, by omega, hd, ?_⟩
    have ne : (Str.ofString "take" == Str.ofString "send") = false := rfl
    simp [E18, q18_3, sm3, ix3, ne]
  | true =>
    obtain ⟨r, ds1, h0, h3, hl1, e1⟩ := take_ok (n := n + 1) (ds := ds) (b := 2) (k := 0) (by omega)
    refine ⟨L ++ [fr], fr + 1 + r, ds1, fun i hi => ?_, by simp; omega, by omega, by omega, by omega, ?_⟩
    · rcases List.mem_append.mp hi with hi | hi
      · exact hL i hi
      · obtain rfl := List.mem_singleton.mp hi; omega
    · have ag1 : agOk [.r 0, .v (dc (.int 2))] = true := by decide
      have hl : L.length + 1 ≤ 16777216 := by omega
      simp [E18, q18_3, sm3, ix3, ag1, e1, ilst, lim, hl]
theorem m180_ok {b : Bool} {i : Int} {cl : Cl} (hs : s8 = .val (.tuple [.str (if b then "send" else "take"), .str a, .int i])) : m_18_0 cl (E18 ds much F L fr s5 s6 s7 s8 s9) = .ok (PI.fl ([.int 0, .int 10000, .bool true, .none, .str "1"].map fun x => .tuple [.str (if b then "send" else "take"), .str a, x])) (E18 ds much F L fr s5 s6 s7 s8 s9) := by
  subst hs
  unfold m_18_0
  refine dlc_all (l := [.int 0, .int 10000, .bool true, .none, .str "1"]) (fun x => .tuple [.str (if b then "send" else "take"), .str a, x]) (by simp [E18, lim]) rfl (by simp [lim]) (fun d hd => ?_)
  have s2 := sm3.2.2
  have h : ¬ ((2 : Int) < 0) := by omega
  simp [E18, dpI_ok s2, sliD, cutL, sx, h, lim]
theorem q4_ok (hd : ds.length ≤ 6000) (he : Ev0 ev) (h9 : okS (some s9) = true) : ∃ (ev' : PyData) (ds' : List Int) (s9' : SV), EvOk ev' ∧ okS (some s9') = true ∧ ds'.length ≤ 6000 ∧
    q18_4 (CL (n+2)) (E18 ds much F L fr s5 s6 (.val (.int odd)) (.val ev) s9) = .ok .nx (E18 ds' much F L fr s5 s6 (.val (.int odd)) (.val ev') s9') := by
  by_cases q : odd = 0
  · subst q
    obtain ⟨b, a, i, ha, h1, h2, rfl⟩ := he
    generalize hw : (if b then ("send" : Str) else "take") = w
    have hwn : w ∈ names := by subst hw; cases b <;> simp [names]
    have han := nms_names ha
    obtain ⟨x, ds1, hx, hl1, e1⟩ := pick_ok (n := n) (ds := ds) (k := 0) (.val (.list ([.tuple [], .tuple [.str w, .str a], .tuple [.str w, .str a, .int i, .int 1], .tuple [.str "give", .str a, .int i], .tuple [.none, .str a, .int i], .tuple [.str w, .str "Ann", .int i], .tuple [.str w, .none, .int i]] ++ [.int 0, .int 10000, .bool true, .none, .str "1"].map fun x => .tuple [.str w, .str a, x]))) (by simp) (by simp [lim])
    have mm := m180_ok (b := b) (a := a) (i := i) (cl := CL (n+2)) (ds := ds) (much := much) (F := F) (L := L) (fr := fr) (s5 := s5) (s6 := s6) (s7 := .val (.int 0)) (s9 := .val (.list [.tuple [], .tuple [.str w, .str a], .tuple [.str w, .str a, .int i, .int 1], .tuple [.str "give", .str a, .int i], .tuple [.none, .str a, .int i], .tuple [.str w, .str "Ann", .int i], .tuple [.str w, .none, .int i]])) rfl
    rw [hw] at mm
    refine ⟨x, ds1, .val (.list [.tuple [], .tuple [.str w, .str a], .tuple [.str w, .str a, .int i, .int 1], .tuple [.str "give", .str a, .int i], .tuple [.none, .str a, .int i], .tuple [.str w, .str "Ann", .int i], .tuple [.str w, .none, .int i]]), ?_, rfl, by omega, ?_⟩
    · have A1 : At (.str w) := .str _ hwn
      have A2 : At (.str a) := .str _ han
      have A3 : At (.int i) := .int _ (by omega) (by omega)
      have A4 : At (.int 1) := .int _ (by omega) (by omega)
      have A5 : At (.str "give") := .str _ (by simp [names])
      have A6 : At (.str "Ann") := .str _ (by simp [names])
      have A7 : At (.int 0) := .int _ (by omega) (by omega)
      have A8 : At (.int 10000) := .int _ (by omega) (by omega)
      have A9 : At (.str "1") := .str _ (by simp [names])
      have mk : ∀ l : List PyData, (∀ a ∈ l, At a) → l.length ≤ 4 → EvOk (.tuple l) := fun l h1 h2 => ⟨l, rfl, h1, h2⟩
      simp only [List.map_cons, List.map_nil, List.mem_append, List.mem_cons, List.not_mem_nil, or_false] at hx
      rcases hx with (rfl | rfl | rfl | rfl | rfl | rfl | rfl) | rfl | rfl | rfl | rfl | rfl <;> refine mk _ ?_ (by simp) <;> simp [A1, A2, A3, A4, A5, A6, A7, A8, A9, At.non, At.bl]
    · have ag1 : agOk [.r 0, .v (d2L .add 9 (fz (m_18_0 (CL (n+2)))))] = true := by rfl
      have s1 := sm3.2.1
      have s2 := sm3.2.2
      have h : ¬ ((2 : Int) < 0) := by omega
      have h' : ¬ ((1 : Int) < 0) := by omega
      simp only [E18] at mm
      simp only [List.map_cons, List.map_nil, List.cons_append, List.nil_append] at e1 mm
      simp [E18, q18_4, hw, h9, dpI_ok s1, dpI_ok s2, sm3, ix3, sliD, cutL, sx, h, h', lim, ag1, mm, e1]
  · have q' : (odd == 0) = false := beq_eq_false_iff_ne.mpr q
    exact ⟨ev, ds, s9, he.ok, h9, hd, by simp [E18, q18_4, q']⟩
theorem q5_ok (hd : ds.length ≤ 6000) (he : EvOk ev) (hF : ∀ e ∈ F, EvOk e) (hl : F.length ≤ 100) : ∃ (ev' : PyData) (ds' : List Int), EvOk ev' ∧ ds'.length ≤ 6000 ∧
    q18_5 (CL (n+2)) (E18 ds much F L fr s5 s6 (.val (.int odd)) (.val ev) s9) = .ok .nx (E18 ds' much F L fr s5 s6 (.val (.int odd)) (.val ev') s9) := by
  by_cases q : odd = 1
  · have z := nil_eq (evsPlain hF)
    cases F with
    | nil => exact ⟨ev, ds, he, hd, by simp at z; simp [E18, q18_5, q, z, lim]⟩
    | cons f r =>
      obtain ⟨x, ds1, hx, hl1, e1⟩ := pick_ok (n := n) (ds := ds) (k := 0) (.lck 0 (f :: r)) (by simp) (by simp [lim] at hl ⊢; omega)
      have ag2 : agOk [.r 0, .l 2] = true := by decide
      exact ⟨x, ds1, hF x hx, by omega, by simp at z; simp [E18, q18_5, q, z, lim, ag2, e1]⟩
  · have q' : (odd == 1) = false := beq_eq_false_iff_ne.mpr q
    exact ⟨ev, ds, he, hd, by simp [E18, q18_5, q']⟩
theorem q6_ok (hd : ds.length ≤ 6000) (he : EvOk ev) (ha : a ∈ nms) : ∃ (ev' : PyData) (ds' : List Int), EvOk ev' ∧ ds'.length ≤ 6000 ∧
    q18_6 (CL (n+2)) (E18 ds much F L fr s5 (.val (.str a)) (.val (.int odd)) (.val ev) s9) = .ok .nx (E18 ds' much F L fr s5 (.val (.str a)) (.val (.int odd)) (.val ev') s9) := by
  by_cases q : odd = 2
  · obtain ⟨r, ds1, h0, h3, hl1, e1⟩ := take_ok (n := n + 1) (ds := ds) (b := 3) (k := 0) (by omega)
    have ag1 : agOk [.r 0, .v (dc (.int 3))] = true := by decide
    refine ⟨.tuple [.str "take", .str a, .int (500 + r)], ds1, Ev0.ok ⟨false, a, _, ha, by omega, by omega, rfl⟩, by omega, by simp [E18, q18_6, q, lim, ag1, e1]⟩
  · have q' : (odd == 2) = false := beq_eq_false_iff_ne.mpr q
    exact ⟨ev, ds, he, hd, by simp [E18, q18_6, q']⟩
theorem q7_ok {cl : Cl} (hl : F.length ≤ 100) : q18_7 cl (E18 ds much F L fr s5 s6 s7 (.val ev) s9) = .ok .nx (E18 ds much (F ++ [ev]) L fr s5 s6 s7 (.val ev) s9) := by
  have ap := appO_fl (d := ev) (xs := F) (by unfold lim; omega)
  simp [E18, q18_7, ap]
theorem dr_step (hd : ds.length ≤ 6000) (hF : ∀ e ∈ F, EvOk e) (lF : F.length ≤ 100) (hL : ∀ i ∈ L, 1 ≤ i ∧ i ≤ 9000) (lL : L.length ≤ F.length) (f0 : 1 ≤ fr) (f1 : fr ≤ 9 + 2 * (F.length : Int)) (h6 : okS (some s6) = true) (h7 : okS (some s7) = true) (h8 : okS (some s8) = true) (h9 : okS (some s9) = true) :
    ∃ (ds' L' : List Int) (fr' : Int) (ev : PyData) (s6' s7' s8' s9' : SV), ds'.length ≤ 6000 ∧ EvOk ev ∧ (∀ i ∈ L', 1 ≤ i ∧ i ≤ 9000) ∧ L'.length ≤ F.length + 1 ∧ 1 ≤ fr' ∧ fr' ≤ 9 + 2 * ((F.length + 1 : Nat) : Int) ∧ okS (some s6') = true ∧ okS (some s7') = true ∧ okS (some s8') = true ∧ okS (some s9') = true ∧
      l_18_1 (CL (n+2)) (E18 ds much F L fr s5 s6 s7 s8 s9) = .ok .nx (E18 ds' much (F ++ [ev]) L' fr' s5 s6' s7' s8' s9') := by
  obtain ⟨a, odd, ds1, ha, hd1, e0⟩ := q0_ok (n := n) (much := much) (F := F) (L := L) (fr := fr) (s5 := s5) (s8 := s8) (s9 := s9) hd h6 h7
  have e1 := q1_ok (n := n) (ds := ds1) (much := much) (F := F) (L := L) (fr := fr) (s5 := s5) (s7 := .val (.int odd)) (s9 := s9) (a := a) h8
  obtain ⟨ev2, ds2, hev2, hd2, e2⟩ := q2_ok (n := n) (much := much) (F := F) (s5 := s5) (s7 := .val (.int odd)) (s9 := s9) hd1 ha hL (by omega) f0 (by omega)
  obtain ⟨L3, fr3, ds3, hL3, lL3, f03, f13, hd3, e3⟩ := q3_ok (n := n) (much := much) (F := F) (s5 := s5) (s6 := .val (.str a)) (s7 := .val (.int odd)) (s9 := s9) hd2 hev2 hL lL lF f0 f1
  obtain ⟨ev4, ds4, s94, hev4, h94, hd4, e4⟩ := q4_ok (n := n) (much := much) (F := F) (L := L3) (fr := fr3) (s5 := s5) (s6 := .val (.str a)) (odd := odd) hd3 hev2 h9
  obtain ⟨ev5, ds5, hev5, hd5, e5⟩ := q5_ok (n := n) (much := much) (L := L3) (fr := fr3) (s5 := s5) (s6 := .val (.str a)) (s9 := s94) (odd := odd) hd4 hev4 hF lF
  obtain ⟨ev6, ds6, hev6, hd6, e6⟩ := q6_ok (n := n) (much := much) (F := F) (L := L3) (fr := fr3) (s5 := s5) (s9 := s94) (odd := odd) hd5 hev5 ha
  have e7 := q7_ok (cl := CL (n+2)) (ds := ds6) (much := much) (F := F) (L := L3) (fr := fr3) (s5 := s5) (s6 := .val (.str a)) (s7 := .val (.int odd)) (s9 := s94) (ev := ev6) lF
  refine ⟨ds6, L3, fr3, ev6, .val (.str a), .val (.int odd), .val ev6, s94, hd6, hev6, hL3, lL3, f03, f13, rfl, rfl, rfl, h94, ?_⟩
  rw [l18_eq, blk_nx e0, blk_nx e1, blk_nx e2, blk_nx e3, blk_nx e4, blk_nx e5, blk_nx e6]
  exact e7
theorem dr_loop : ∀ (l : List PyData) {ds L : List Int} {fr : Int} {F : List PyData} {s5 s6 s7 s8 s9 : SV}, ds.length ≤ 6000 → (∀ e ∈ F, EvOk e) → F.length + l.length ≤ 100 → (∀ i ∈ L, 1 ≤ i ∧ i ≤ 9000) → L.length ≤ F.length → 1 ≤ fr → fr ≤ 9 + 2 * (F.length : Int) → okS (some s5) = true → okS (some s6) = true → okS (some s7) = true → okS (some s8) = true → okS (some s9) = true →
    ∃ (ds' L' : List Int) (fr' : Int) (F' : List PyData) (s5' s6' s7' s8' s9' : SV), ds'.length ≤ 6000 ∧ (∀ e ∈ F', EvOk e) ∧ F'.length = F.length + l.length ∧
      forT (gT (.nm 5)) (l_18_1 (CL (n+2))) l (E18 ds much F L fr s5 s6 s7 s8 s9) = .ok .nx (E18 ds' much F' L' fr' s5' s6' s7' s8' s9')
  | [], ds, L, fr, F, s5, s6, s7, s8, s9, hd, hF, lF, _, _, _, _, _, _, _, _, _ => ⟨ds, L, fr, F, s5, s6, s7, s8, s9, hd, hF, rfl, rfl⟩
  | x :: r, ds, L, fr, F, s5, s6, s7, s8, s9, hd, hF, lF, hL, lL, f0, f1, h5, h6, h7, h8, h9 => by
    simp only [List.length_cons] at lF
    obtain ⟨ds1, L1, fr1, ev, s61, s71, s81, s91, hd1, hev, hL1, lL1, f01, f11, h61, h71, h81, h91, st⟩ := dr_step (n := n) (much := much) (s5 := .val x) hd hF (by omega) hL lL f0 f1 h6 h7 h8 h9
    have hF1 : ∀ e ∈ F ++ [ev], EvOk e := fun e he => by
      rcases List.mem_append.mp he with he | he
      · exact hF e he
      · obtain rfl := List.mem_singleton.mp he; exact hev
    have lF1 : (F ++ [ev]).length = F.length + 1 := by simp
    obtain ⟨ds', L', fr', F', s5', s6', s7', s8', s9', k1, k2, k3, lp⟩ := dr_loop r (s5 := .val x) hd1 hF1 (by omega) hL1 (by omega) f01 (by rw [lF1]; exact f11) rfl h61 h71 h81 h91
    refine ⟨ds', L', fr', F', s5', s6', s7', s8', s9', k1, k2, by simp; omega, ?_⟩
    have gt : gT (.nm 5) x (E18 ds much F L fr s5 s6 s7 s8 s9) = .ok () (E18 ds much F L fr (.val x) s6 s7 s8 s9) := by simp [E18, h5]
    rw [forT_nx gt st, lp]
theorem draft_ok {m : Nat} (hd : ds.length ≤ 6000) (hm : m ≤ 90) : ∃ (ds' : List Int) (F : List PyData), ds'.length ≤ 6000 ∧ (∀ e ∈ F, EvOk e) ∧ F.length = m ∧
    CL (n+3) 18 [.bor 0 (PI.fl (ds.map .int)), .val (.int m)] = .ok (PI.fl F) [.bor 0 (PI.fl (ds'.map .int)), .val (.int m)] := by
  rw [c_18, d_18]
  obtain ⟨r, ds1, h0, h3, hl1, e1⟩ := take_ok (n := n + 1) (ds := ds) (b := 9) (k := 0) (by omega)
  have hu : (upto 0 (m : Int)).length = m := upto_len
  obtain ⟨ds', L', fr', F', s5', s6', s7', s8', s9', k1, k2, k3, lp⟩ := dr_loop (n := n) (much := m) (upto 0 (m : Int)) (ds := ds1) (L := []) (fr := 1 + r) (F := []) (s5 := .unset) (s6 := .unset) (s7 := .unset) (s8 := .unset) (s9 := .unset) (by omega) (fun _ h => nomatch h) (by rw [hu]; simp; omega) (fun _ h => nomatch h) (by simp) (by omega) (by simp; omega) rfl rfl rfl rfl rfl
  refine ⟨ds', F', k1, k2, by rw [k3, hu]; simp, ?_⟩
  have ag1 : agOk [.r 0, .v (dc (.int 9))] = true := by decide
  have hr := fun ρ => rngR_ok (m := 0) (n := m) (ρ := ρ) (by rw [small_nat (by unfold lim; omega), sm3.1]; simp [lim]; omega)
  simp only [E18, ilst, List.map_nil] at lp
  have e0 : OD.lst [] = PI.fl [] := rfl
  simp [ag1, e1, hr, e0, lp]
end
end
end PI.K10

namespace PI.K10
open PySem PI
def q190_0 (cl : Cl) : M Fl := sasg 4 false (dcall cl 18 [.r 1, .l 3])
def q190_1 (cl : Cl) : M Fl := spar [(5, false), (6, false)] [d1 .repr (cv 4), dcall cl 17 [.l 4]]
def q190_2 (cl : Cl) : M Fl := sasg 7 true (dcall cl 15 [.l 4])
def q190_3 (cl : Cl) : M Fl := sife (qor (qnot (qof (dcall cl 13 [.l 7, .l 6]))) (qor (qnot (qof (dcall cl 13 [.v (dcall cl 9 [.l 4]), .v (d2L .eq 6 (fz (dlst [])))]))) (qof (d2 .ne (fz (d1 .repr (cv 4))) (cv 5))))) (blk [sret (dc (.bool false))]) (blk [])
def q190_4 (cl : Cl) : M Fl := sapp 7 (fz (dc (.str "more")))
def q19_0 (cl : Cl) : M Fl := sasg 1 true (dcall cl 10 [.l 0])
def q19_1 (cl : Cl) : M Fl := sfor (.rng1 (fz (dc (.int 4)))) (.nm 2) (l_19_1 cl)
def q19_2 (cl : Cl) : M Fl := sasg 8 false (m_19_2 cl)
def q19_3 (cl : Cl) : M Fl := sife (qnot (qof (dcall cl 13 [.v (dlst [(false, fz (dcall cl 15 [.l 8])), (false, fz (dcall cl 9 [.l 8]))]), .v (dlst [(false, fz (d2 .mul (fz (dlst [(false, fz (dtup [(false, fz (dc (.str "many"))), (false, fz (dc (.int 121)))]))])) (fz (d1 .int (fz (d2 .gt (fz (d1 .len (cv 8))) (fz (dc (.int 120))))))))), (false, fz (d2 .lt (fz (d1 .len (cv 8))) (fz (dc (.int 121)))))])]))) (blk [sret (dc (.bool false))]) (blk [])
def q19_4 (cl : Cl) : M Fl := sasg 10 false (dlst [(false, fz (dc .none)), (false, fz (dtup [])), (false, fz (dtup [(false, fz (dtup [(false, fz (dc (.str "send"))), (false, fz (dc (.str "ann"))), (false, fz (dc (.int 1)))]))])), (false, fz (dlst [(false, fz (dlst [(false, fz (dc (.str "send"))), (false, fz (dc (.str "ann"))), (false, fz (dc (.int 1)))]))])), (false, fz (dlst [(false, fz (dc .none))])), (false, fz (dc (.str "text"))), (false, fz (dd0))])
def q19_5 (cl : Cl) : M Fl := sife (qnot (qof (dcall cl 13 [.v (m_19_3 cl), .v (d2 .mul (fz (dlst [(false, fz (dlst [(false, fz (dc (.bool true))), (false, fz (dc (.bool false))), (false, fz (dc (.bool false))), (false, fz (dc (.bool false))), (false, fz (dc (.bool false)))]))])) (fz (dc (.int 7))))]))) (blk [sret (dc (.bool false))]) (blk [])
def q19_6 (cl : Cl) : M Fl := sasg 7 true (dlst [(false, fz (dcall cl 7 [.v (dlst [(false, fz (dtup [(false, fz (dc (.str "take"))), (false, fz (dc (.str "ann"))), (false, fz (dc (.int 1)))])), (false, fz (dtup [(false, fz (dc (.str "send"))), (false, fz (dc (.str "bob"))), (false, fz (dc (.int 2)))])), (false, fz (dtup [(false, fz (dc (.str "take"))), (false, fz (dc (.str "bob"))), (false, fz (dc (.int 2)))])), (false, fz (dtup [(false, fz (dc (.str "send"))), (false, fz (dc (.str "cy"))), (false, fz (dc (.int 2)))])), (false, fz (dtup [(false, fz (dc (.str "send"))), (false, fz (dc (.str "dee"))), (false, fz (dc (.int 0)))]))])]))])
def q19_7 (cl : Cl) : M Fl := sasg 7 true (d2L .add 7 (fz (dlst [(false, fz (dcall cl 7 [.v (dlst [(false, fz (dtup [(false, fz (dc (.str "take"))), (false, fz (dc (.str "ann"))), (false, fz (dc (.int 1)))])), (false, fz (dtup [(false, fz (dc (.str "send"))), (false, fz (dc (.str "bob"))), (false, fz (dc (.int 1)))])), (false, fz (dtup [(false, fz (dc (.str "take"))), (false, fz (dc (.str "ann"))), (false, fz (dc (.int 1)))])), (false, fz (dtup [(false, fz (dc (.str "take"))), (false, fz (dc (.str "bob"))), (false, fz (dc (.int 1)))])), (false, fz (dtup [(false, fz (dc (.str "take"))), (false, fz (dc (.str "bob"))), (false, fz (dc (.int 1)))]))])]))])))
def q19_8 (cl : Cl) : M Fl := sasg 7 true (d2L .add 7 (fz (dlst [(false, fz (dcall cl 7 [.v (dlst [])]))])))
def q19_9 (cl : Cl) : M Fl := sret (dcall cl 13 [.l 7, .v (dlst [(false, fz (dlst [(false, fz (dtup [(false, fz (dc (.str "unsent"))), (false, fz (dc (.int 0)))])), (false, fz (dtup [(false, fz (dc (.str "own"))), (false, fz (dc (.int 2)))])), (false, fz (dtup [(false, fz (dc (.str "again"))), (false, fz (dc (.int 3)))])), (false, fz (dtup [(false, fz (dc (.str "number"))), (false, fz (dc (.int 4)))]))])), (false, fz (dlst [(false, fz (dtup [(false, fz (dc (.str "unsent"))), (false, fz (dc (.int 0)))])), (false, fz (dtup [(false, fz (dc (.str "again"))), (false, fz (dc (.int 2)))])), (false, fz (dtup [(false, fz (dc (.str "own"))), (false, fz (dc (.int 3)))])), (false, fz (dtup [(false, fz (dc (.str "again"))), (false, fz (dc (.int 4)))]))])), (false, fz (dlst []))])])
section
theorem l190_eq {cl : Cl} : l_19_0 cl = blk [q190_0 cl, q190_1 cl, q190_2 cl, q190_3 cl, q190_4 cl] := rfl
theorem d19_eq {cl : Cl} : d_19 cl = blk [q19_0 cl, q19_1 cl, q19_2 cl, q19_3 cl, q19_4 cl, q19_5 cl, q19_6 cl, q19_7 cl, q19_8 cl, q19_9 cl] := rfl
/-- what is told of a fault -/
def FtOk (x : PyData) : Prop := ∃ (w : Str) (i : Int), x = .tuple [.str w, .int i]
theorem faultsF_ok : ∀ {es : List PyData} {vs : List V} {k : Nat}, ∀ x ∈ faultsF vs k es, FtOk x
  | d :: r, vs, k, x, hx => by
    rw [faultsF] at hx
    cases hv : toV d with
    | none =>
      obtain ⟨w, hw⟩ := toV_none hv
      rw [hv] at hx
      rcases List.mem_cons.mp hx with rfl | hx
      · exact ⟨w, k, by unfold kindD; rw [hw]⟩
      · exact faultsF_ok x hx
    | some v =>
      rw [hv] at hx
      rcases List.mem_append.mp hx with hx | hx
      · cases hf : faultF vs v with
        | none => rw [hf] at hx; exact nomatch hx
        | some w => rw [hf] at hx; obtain rfl := List.mem_singleton.mp hx; exact ⟨w, k, rfl⟩
      · exact faultsF_ok x hx
theorem faultsF_len : ∀ {es : List PyData} {vs : List V} {k : Nat}, (faultsF vs k es).length ≤ es.length
  | [], _, _ => Nat.le_refl _
  | d :: r, vs, k => by
    rw [faultsF]
    cases hv : toV d with
    | none => simp only [List.length_cons]; exact Nat.succ_le_succ faultsF_len
    | some v =>
      have ih := faultsF_len (es := r) (vs := vs ++ [v]) (k := k + 1)
      simp only [List.length_append, List.length_cons]
      cases faultF vs v <;> simp <;> omega
noncomputable def DD (es : List PyData) : List PyData := manyF es ++ faultsF [] 0 es
theorem DD_ok {es : List PyData} : ∀ x ∈ DD es, FtOk x := fun x hx => by
  rcases List.mem_append.mp hx with hx | hx
  · unfold manyF at hx
    split at hx
    · obtain rfl := List.mem_singleton.mp hx; exact ⟨_, _, rfl⟩
    · exact nomatch hx
  · exact faultsF_ok x hx
theorem DD_len {es : List PyData} : (DD es).length ≤ es.length + 1 := by
  unfold DD
  have := faultsF_len (es := es) (vs := []) (k := 0)
  have hm : (manyF es).length ≤ 1 := by unfold manyF; split <;> simp
  rw [List.length_append]; omega
theorem ft_plain : ∀ {D : List PyData}, (∀ x ∈ D, FtOk x) → PyData.plainAll D = true
  | [], _ => rfl
  | a :: r, h => by
    obtain ⟨w, i, rfl⟩ := h a (.head _)
    rw [PyData.plainAll, ft_plain fun x hx => h x (.tail _ hx)]; rfl
theorem ft_smG : ∀ {D : List PyData}, (∀ x ∈ D, FtOk x) → smGs D = true
  | [], _ => rfl
  | a :: r, h => by
    obtain ⟨w, i, rfl⟩ := h a (.head _)
    rw [smGs, ft_smG fun x hx => h x (.tail _ hx)]; rfl
theorem ft_depth : ∀ {D : List PyData}, (∀ x ∈ D, FtOk x) → PyData.depthAll D ≤ 1
  | [], _ => by rw [PyData.depthAll]; omega
  | a :: r, h => by
    obtain ⟨w, i, rfl⟩ := h a (.head _)
    rw [PyData.depthAll]
    have := ft_depth fun x hx => h x (.tail _ hx)
    simp [PyData.depth, PyData.depthAll]; omega
/-! repr of drafts -/
theorem At.sh {d : PyData} (h : At d) : shG d = true ∧ wd d ≤ 50 := by
  cases h with
  | non => exact ⟨rfl, by decide⟩
  | bl b => exact ⟨rfl, by rw [wd]; omega⟩
  | int i h h2 => exact ⟨by rw [shG, decide_eq_true_eq]; have : i.natAbs ≤ 10000 := by omega
                            exact Nat.lt_of_le_of_lt this (by decide), by rw [wd]; omega⟩
  | str x hx =>
    simp only [names, List.mem_cons, List.not_mem_nil, or_false] at hx
    rcases hx with rfl | rfl | rfl | rfl | rfl | rfl | rfl | rfl | rfl | rfl <;> exact ⟨by decide, by decide⟩
theorem ats_sh : ∀ {l : List PyData}, (∀ a ∈ l, At a) → shGs l = true ∧ wds l ≤ 52 * l.length ∧ PyData.depthAll l = 0
  | [], _ => ⟨rfl, Nat.le_refl _, rfl⟩
  | a :: r, h => by
    obtain ⟨h1, h2, h3⟩ := ats_sh fun x hx => h x (.tail _ hx)
    obtain ⟨g1, g2⟩ := (h a (.head _)).sh
    refine ⟨by rw [shGs, h1, g1]; rfl, by rw [wds, List.length_cons]; omega, by rw [PyData.depthAll, h3, (h a (.head _)).depth]; rfl⟩
theorem evs_sh : ∀ {F : List PyData}, (∀ e ∈ F, EvOk e) → shGs F = true ∧ wds F ≤ 250 * F.length ∧ PyData.depthAll F ≤ 1
  | [], _ => ⟨rfl, Nat.le_refl _, Nat.zero_le _⟩
  | a :: r, h => by
    obtain ⟨h1, h2, h3⟩ := evs_sh fun x hx => h x (.tail _ hx)
    obtain ⟨l, rfl, ha, hl⟩ := h a (.head _)
    obtain ⟨g1, g2, g3⟩ := ats_sh ha
    refine ⟨by rw [shGs, h1, shG, g1]; rfl, by rw [wds, wd, List.length_cons]; omega, by rw [PyData.depthAll, PyData.depth, g3]; omega⟩
theorem repr_evs {F : List PyData} (hF : ∀ e ∈ F, EvOk e) (hl : F.length ≤ 200) : (PyData.list F).showable = true ∧ (PyData.list F).plain = true ∧ (PyData.list F).hasDict = false ∧ (PyData.list F).depth ≤ 100 ∧ (PyData.list F).shown.length ≤ 16777216 := by
  obtain ⟨h1, h2, h3⟩ := evs_sh hF
  have hs : shG (.list F) = true := by rw [shG, h1]
  obtain ⟨g1, g2, g3⟩ := shG_plain _ hs
  have hl := shown_len _ hs
  rw [wd] at hl
  exact ⟨g3, g1, g2, by rw [PyData.depth]; omega, by omega⟩
/-! one draft, told twice -/
section
variable {ns : List Int} {ds : List Int} {s2 s4 s5 s6 s7 : SV}
abbrev E19 (ns ds : List Int) (s2 s3 s4 s5 s6 s7 s8 s9 s10 s11 : SV) : Env := [.scr ns, .own (PI.fl (ds.map .int)), s2, s3, s4, s5, s6, s7, s8, s9, s10, s11]
theorem q190_ok {m : Nat} (hd : ds.length ≤ 6000) (hm : m ≤ 90) (h4 : okS (some s4) = true) (h5 : okS (some s5) = true) (h6 : okS (some s6) = true) (h7 : okS (some s7) = true) :
    ∃ (ds' : List Int) (s4' s5' s6' s7' : SV), ds'.length ≤ 6000 ∧ okS (some s4') = true ∧ okS (some s5') = true ∧ okS (some s6') = true ∧ okS (some s7') = true ∧
      l_19_0 (CL 29) (E19 ns ds s2 (.val (.int m)) s4 s5 s6 s7 .unset .unset .unset .unset) = .ok .nx (E19 ns ds' s2 (.val (.int m)) s4' s5' s6' s7' .unset .unset .unset .unset) := by
  obtain ⟨ds', F, hd', hF, lF, e1⟩ := draft_ok (n := 26) hd hm
  have hl : F.length + 1 < lim := by unfold lim; omega
  have rp := repr_evs hF (by omega)
  have lf : CL 29 17 [.val (.list F)] = .ok (PI.fl (DD F)) [.val (.list F)] := lf_ok (n := 26) hF hl
  have tl : CL 29 15 [.val (.list F)] = .ok (PI.fl (DD F)) [.val (.list F)] := told_ok (n := 24) (.val _) hF hl
  have ae : CL 29 9 [.val (.list F)] = .ok (.frz (.bool (DD F).isEmpty)) [.val (.list F)] := ae_ok (n := 24) (.val _) hF hl
  have hD := DD_ok (es := F)
  have lD := DD_len (es := F)
  have ap := appO_fl (d := .str "more") (xs := DD F) (by unfold lim; omega)
  have ne := nil_eq (ft_plain hD)
  have sm1 : CL 29 13 [.lck 0 (PI.fl (DD F)), .val (.list (DD F))] = .ok (.frz (.bool true)) [.lck 0 (PI.fl (DD F)), .val (.list (DD F))] := same_ok 29 (d := .list (DD F)) (by rw [PyData.depth]; have := ft_depth hD; omega) (by rw [smG, ft_smG hD, decide_eq_true (by unfold lim; omega)]; rfl) (.lck 0 _) (.val _)
  have sm2 : ∀ b, CL 29 13 [.val (.bool b), .val (.bool b)] = .ok (.frz (.bool true)) [.val (.bool b), .val (.bool b)] := fun b => same_ok 29 (d := .bool b) (by rw [PyData.depth] <;> simp) rfl (.val _) (.val _)
  generalize DD F = D at *
  refine ⟨ds', .val (.list F), .val (.str (PyData.list F).shown), .val (.list D), .own (PI.fl (D ++ [.str "more"])), hd', rfl, rfl, rfl, rfl, ?_⟩
  have ag1 : agOk [.r 1, .l 3] = true := by decide
  have ag2 : agOk [.l 4] = true := by decide
  have ag3 : agOk [.l 7, .l 6] = true := by decide
  have ag4 : agOk [.v (dcall (CL 29) 9 [.l 4]), .v (d2L .eq 6 (fz (dlst [])))] = true := by rfl
  obtain ⟨r1, r2, r3, r4, r5⟩ := rp
  rw [l190_eq, blk_nx (ρ1 := E19 ns ds' s2 (.val (.int m)) (.val (.list F)) s5 s6 s7 .unset .unset .unset .unset) (by simp [E19, q190_0, ag1, e1, h4]),
    blk_nx (ρ1 := E19 ns ds' s2 (.val (.int m)) (.val (.list F)) (.val (.str (PyData.list F).shown)) (.val (.list D)) s7 .unset .unset .unset .unset) (by simp [E19, q190_1, ag2, lf, h5, h6, r1, r2, r3, r4, r5, lim]),
    blk_nx (ρ1 := E19 ns ds' s2 (.val (.int m)) (.val (.list F)) (.val (.str (PyData.list F).shown)) (.val (.list D)) (.own (PI.fl D)) .unset .unset .unset .unset) (by simp [E19, q190_2, ag2, tl, h7]),
    blk_nx (ρ1 := E19 ns ds' s2 (.val (.int m)) (.val (.list F)) (.val (.str (PyData.list F).shown)) (.val (.list D)) (.own (PI.fl D)) .unset .unset .unset .unset) (by simp [E19, q190_3, ag2, ag3, ag4, sm1, ae, ne, sm2, r1, r2, r3, r4, r5, lim])]
  simp [E19, q190_4, ap]
end
end
end PI.K10

namespace PI.K10
open PySem PI
theorem dlc_src {s : Src} {t : Tg} {c : Option (M Bool)} {x : M OD} {vs : List Nat} {l : List PyData} {ρ ρ1 : Env} (h : evS s ρ = .ok l ρ1) : dlc s t c x vs ρ = dlc (.of (ret (.list l))) t c x vs ρ1 := by
  unfold dlc
  rw [bnd_ap, bnd_ap, h]
  rfl
section
variable {ns : List Int} {ds : List Int} {s2 s3 s4 s5 s6 s7 : SV}
theorem l191_ok (hd : ds.length ≤ 6000) (h3 : okS (some s3) = true) (h4 : okS (some s4) = true) (h5 : okS (some s5) = true) (h6 : okS (some s6) = true) (h7 : okS (some s7) = true) :
    ∃ (ds' : List Int) (s3' s4' s5' s6' s7' : SV), ds'.length ≤ 6000 ∧ okS (some s3') = true ∧ okS (some s4') = true ∧ okS (some s5') = true ∧ okS (some s6') = true ∧ okS (some s7') = true ∧
      l_19_1 (CL 29) (E19 ns ds s2 s3 s4 s5 s6 s7 .unset .unset .unset .unset) = .ok .nx (E19 ns ds' s2 s3' s4' s5' s6' s7' .unset .unset .unset .unset) := by
  obtain ⟨m1, ds1, a1, b1, hl1, e1⟩ := take_ok (n := 28) (ds := ds) (b := 6) (k := 0) (by omega)
  obtain ⟨m2, ds2, a2, b2, hl2, e2⟩ := take_ok (n := 28) (ds := ds1) (b := 30) (k := 0) (by omega)
  have e1 : CL 29 11 _ = _ := e1
  have e2 : CL 29 11 _ = _ := e2
  obtain ⟨ds3, t4, t5, t6, t7, hd3, k4, k5, k6, k7, st1⟩ := q190_ok (ns := ns) (s2 := s2) (m := m1.toNat) (by omega : ds2.length ≤ 6000) (by omega) h4 h5 h6 h7
  obtain ⟨ds4, u4, u5, u6, u7, hd4, j4, j5, j6, j7, st2⟩ := q190_ok (ns := ns) (s2 := s2) (m := m2.toNat) hd3 (by omega) k4 k5 k6 k7
  rw [show ((m1.toNat : Nat) : Int) = m1 by omega] at st1
  rw [show ((m2.toNat : Nat) : Int) = m2 by omega] at st2
  refine ⟨ds4, .val (.int m2), u4, u5, u6, u7, hd4, rfl, j4, j5, j6, j7, ?_⟩
  have g1 : gT (.nm 3) (.int m1) (E19 ns ds2 s2 s3 s4 s5 s6 s7 .unset .unset .unset .unset) = .ok () (E19 ns ds2 s2 (.val (.int m1)) s4 s5 s6 s7 .unset .unset .unset .unset) := by simp [E19, h3]
  have g2 : gT (.nm 3) (.int m2) (E19 ns ds3 s2 (.val (.int m1)) t4 t5 t6 t7 .unset .unset .unset .unset) = .ok () (E19 ns ds3 s2 (.val (.int m2)) t4 t5 t6 t7 .unset .unset .unset .unset) := by simp [E19]
  have lp : forT (gT (.nm 3)) (l_19_0 (CL 29)) [.int m1, .int m2] (E19 ns ds2 s2 s3 s4 s5 s6 s7 .unset .unset .unset .unset) = .ok .nx (E19 ns ds4 s2 (.val (.int m2)) u4 u5 u6 u7 .unset .unset .unset .unset) := by
    rw [forT_nx g1 st1, forT_nx g2 st2]; rfl
  have ev : evS (.of (fz (dlst [(false, fz (dcall (CL 29) 11 [.r 1, .v (dc (.int 6))])), (false, fz (dcall (CL 29) 11 [.r 1, .v (dc (.int 30))]))]))) (E19 ns ds s2 s3 s4 s5 s6 s7 .unset .unset .unset .unset) = .ok [.int m1, .int m2] (E19 ns ds2 s2 s3 s4 s5 s6 s7 .unset .unset .unset .unset) := by
    have ag1 : agOk [.r 1, .v (dc (.int 6))] = true := by decide
    have ag2 : agOk [.r 1, .v (dc (.int 30))] = true := by decide
    simp [E19, ag1, ag2, e1, e2, lim]
  show blk [sfor _ _ _] _ = _
  rw [blk_one, sfor_ap, ev]
  exact lp
theorem l19_loop : ∀ (l : List PyData) {ds : List Int} {s2 s3 s4 s5 s6 s7 : SV}, ds.length ≤ 6000 → okS (some s2) = true → okS (some s3) = true → okS (some s4) = true → okS (some s5) = true → okS (some s6) = true → okS (some s7) = true →
    ∃ (ds' : List Int) (s2' s3' s4' s5' s6' s7' : SV), ds'.length ≤ 6000 ∧ okS (some s7') = true ∧
      forT (gT (.nm 2)) (l_19_1 (CL 29)) l (E19 ns ds s2 s3 s4 s5 s6 s7 .unset .unset .unset .unset) = .ok .nx (E19 ns ds' s2' s3' s4' s5' s6' s7' .unset .unset .unset .unset)
  | [], ds, s2, s3, s4, s5, s6, s7, hd, _, _, _, _, _, h7 => ⟨ds, s2, s3, s4, s5, s6, s7, hd, h7, rfl⟩
  | x :: r, ds, s2, s3, s4, s5, s6, s7, hd, h2, h3, h4, h5, h6, h7 => by
    obtain ⟨ds1, t3, t4, t5, t6, t7, hd1, k3, k4, k5, k6, k7, st⟩ := l191_ok (ns := ns) (s2 := .val x) hd h3 h4 h5 h6 h7
    obtain ⟨ds2, u2, u3, u4, u5, u6, u7, hd2, j7, lp⟩ := l19_loop r (s2 := .val x) hd1 rfl k3 k4 k5 k6 k7
    have g : gT (.nm 2) x (E19 ns ds s2 s3 s4 s5 s6 s7 .unset .unset .unset .unset) = .ok () (E19 ns ds (.val x) s3 s4 s5 s6 s7 .unset .unset .unset .unset) := by simp [E19, h2]
    exact ⟨ds2, u2, u3, u4, u5, u6, u7, hd2, j7, by rw [forT_nx g st, lp]⟩
/-! many sends -/
def sd (k : Int) : PyData := .tuple [.str "send", .str "ann", .int k]
theorem sd_ok {k : Int} (h : 0 ≤ k) (h2 : k ≤ 10000) : EvOk (sd k) := by
  refine ⟨_, rfl, fun x hx => ?_, by simp⟩
  simp only [List.mem_cons, List.not_mem_nil, or_false] at hx
  rcases hx with rfl | rfl | rfl
  · exact .str _ (by simp [names])
  · exact .str _ (by simp [names])
  · exact .int _ h h2
theorem sd_faults : ∀ (l : List Int) (vs : List V) (k : Nat), (∀ i ∈ l, 1 ≤ i ∧ i ≤ 9999) → l.Nodup → (∀ v ∈ vs, ∀ i ∈ l, v.num ≠ i) → faultsF vs k (l.map sd) = []
  | [], _, _, _, _, _ => rfl
  | i :: r, vs, k, h, hn, hv => by
    have hk : kind (sd i) = none := by
      obtain ⟨h1, h2⟩ := h i (.head _)
      have h3 : snt (.str "send") = true := by decide
      have h4 : nm (.str "ann") = true := by decide
      simp [sd, kind, num, h1, h2, h3, h4]
    rw [List.map_cons, faultsF]
    cases ht : toV (sd i) with
    | none => obtain ⟨w, hw⟩ := toV_none ht; rw [hk] at hw; exact nomatch hw
    | some v =>
      obtain ⟨_, e⟩ := toV_some ht
      have e' : v.snd = true ∧ v.num = i := by
        obtain ⟨b, a, j⟩ := v
        injection e with e
        injection e with e1 e
        injection e with e2 e
        injection e with e3
        injection e3 with e3
        refine ⟨?_, e3.symm⟩
        cases b
        · injection e1 with e1; exact absurd (show Str.ofString "send" = Str.ofString "take" from e1) (by decide)
        · rfl
      have hf : firstS vs v.num = none := by
        unfold firstS
        rw [List.find?_eq_none]
        intro w hw q
        rw [Bool.and_eq_true, beq_iff_eq] at q
        exact hv w hw i (.head _) (q.2.trans e'.2)
      have hfa : faultF vs v = none := by simp [faultF, e'.1, hf]
      have hn2 := List.nodup_cons.mp hn
      have ih := sd_faults r (vs ++ [v]) (k + 1) (fun j hj => h j (.tail _ hj)) hn2.2 fun w hw j hj => by
        rcases List.mem_append.mp hw with hw | hw
        · exact hv w hw j (.tail _ hj)
        · obtain rfl := List.mem_singleton.mp hw
          rw [e'.2]
          exact fun z => hn2.1 (z ▸ hj)
      simp only [hfa]
      rw [ih]
      rfl
def sds (p : Nat) : List PyData := ((List.range' 1 p).map fun j : Nat => (j : Int)).map sd
theorem sds_ok {p : Nat} (h : p ≤ 200) : ∀ e ∈ sds p, EvOk e := fun e he => by
  obtain ⟨i, hi, rfl⟩ := List.mem_map.mp he
  obtain ⟨j, hj, rfl⟩ := List.mem_map.mp hi
  have := List.mem_range'.mp hj
  exact sd_ok (by omega) (by omega)
theorem sds_DD {p : Nat} (h : p ≤ 200) : DD (sds p) = if 120 < p then [.tuple [.str "many", .int p]] else [] := by
  have hl : (sds p).length = p := by simp [sds]
  unfold DD
  unfold sds
  rw [sd_faults _ [] 0 (fun i hi => by
    obtain ⟨j, hj, rfl⟩ := List.mem_map.mp hi
    have := List.mem_range'.mp hj
    omega) (List.pairwise_map.mpr ((List.nodup_range' (s := 1) (n := p) (step := 1) (h := by decide)).imp fun {a b} hab e => hab (by omega))) (fun _ h => nomatch h), List.append_nil]
  show manyF (sds p) = _
  unfold manyF
  rw [hl]
theorem m192_ok (hd : ds.length ≤ 6000) : ∃ (ds' : List Int) (p : Nat), (p = 120 ∨ p = 121) ∧ ds'.length ≤ 6000 ∧ m_19_2 (CL 29) (E19 ns ds s2 s3 s4 s5 s6 s7 .unset .unset .unset .unset) = .ok (PI.fl (sds p)) (E19 ns ds' s2 s3 s4 s5 s6 s7 .unset .unset .unset .unset) := by
  obtain ⟨x, ds1, hx, hl1, e1⟩ := pick_ok (n := 27) (ds := ds) (k := 0) (.val (.list [.int 120, .int 121])) (by simp) (by simp [lim])
  have e1 : CL 29 12 _ = _ := e1
  have ⟨p, hp, hxp⟩ : ∃ p : Nat, (p = 120 ∨ p = 121) ∧ x = .int (p : Int) := by
    simp only [List.mem_cons, List.not_mem_nil, or_false] at hx
    rcases hx with rfl | rfl
    · exact ⟨120, .inl rfl, rfl⟩
    · exact ⟨121, .inr rfl, rfl⟩
  subst hxp
  refine ⟨ds1, p, hp, by omega, ?_⟩
  have ev : evS (.rng2 (fz (dc (.int 1))) (fz (d2 .add (fz (dc (.int 1))) (fz (dcall (CL 29) 12 [.r 1, .v (dlst [(false, fz (dc (.int 120))), (false, fz (dc (.int 121)))])]))))) (E19 ns ds s2 s3 s4 s5 s6 s7 .unset .unset .unset .unset) = .ok (upto 1 (1 + (p : Int))) (E19 ns ds1 s2 s3 s4 s5 s6 s7 .unset .unset .unset .unset) := by
    have ag1 : agOk [.r 1, .v (dlst [(false, fz (dc (.int 120))), (false, fz (dc (.int 121)))])] = true := by decide
    have hr := fun ρ => rngR_ok (m := 1) (n := 1 + (p : Int)) (ρ := ρ) (by rcases hp with rfl | rfl <;> decide)
    simp [E19, ag1, e1, lim, hr]
  unfold m_19_2
  rw [dlc_src ev]
  have hu : upto 1 (1 + (p : Int)) = (List.range' 1 p).map fun j : Nat => .int (j : Int) := by
    unfold upto
    rw [show ((1 + (p : Int)) - 1).toNat = p by omega, List.range'_eq_map_range, List.map_map]
    exact List.map_congr_left fun j _ => by simp
  have := dlc_all (i := 9) (c := none) (x := fzo (dtup [(false, fz (dc (.str "send"))), (false, fz (dc (.str "ann"))), (false, fz (dv 9))])) (ρ := E19 ns ds1 s2 s3 s4 s5 s6 s7 .unset .unset .unset .unset) (s := .of (ret (.list (upto 1 (1 + (p : Int)))))) (l := upto 1 (1 + (p : Int))) (fun k => .tuple [.str "send", .str "ann", k]) (by simp [E19]) rfl (by rw [hu]; simp [lim]; omega) (fun d hd => by simp [E19, lim])
  rw [this, hu]
  unfold sds
  rw [List.map_map, List.map_map]
  rfl
end
end PI.K10

set_option maxHeartbeats 1000000
namespace PI.K10
open PySem PI
section
variable {ns : List Int} {ds : List Int} {s2 s3 s4 s5 s6 s7 s8 s9 s10 : SV}
def vals : List PyData := [.none, .tuple [], .tuple [.tuple [.str "send", .str "ann", .int 1]], .list [.list [.str "send", .str "ann", .int 1]], .list [.none], .str "text", .dict []]
def flg : PyData := .list [.bool true, .bool false, .bool false, .bool false, .bool false]
theorem told_bad : ∀ v ∈ vals, CL 29 15 [.val v] = .ok (PI.fl [.bool true, .bool false, .bool false, .bool false, .bool false]) [.val v] := fun v hv => by
  simp only [vals, List.mem_cons, List.not_mem_nil, or_false] at hv
  rcases hv with rfl | rfl | rfl | rfl | rfl | rfl | rfl <;> rfl
theorem m193_ok : m_19_3 (CL 29) (E19 ns ds s2 s3 s4 s5 s6 s7 s8 s9 (.val (.list vals)) .unset) = .ok (PI.fl (vals.map fun _ => flg)) (E19 ns ds s2 s3 s4 s5 s6 s7 s8 s9 (.val (.list vals)) .unset) := by
  have ag : agOk [.l 11] = true := by decide
  refine dlc_all (l := vals) (fun _ => flg) (by simp [E19]) rfl (by decide) (fun d hd => ?_)
  simp [E19, ag, told_bad d hd]
  rfl
def ev3 (a b : Str) (i : Int) : PyData := .tuple [.str a, .str b, .int i]
def c1 : List PyData := [ev3 "take" "ann" 1, ev3 "send" "bob" 2, ev3 "take" "bob" 2, ev3 "send" "cy" 2, ev3 "send" "dee" 0]
def c2 : List PyData := [ev3 "take" "ann" 1, ev3 "send" "bob" 1, ev3 "take" "ann" 1, ev3 "take" "bob" 1, ev3 "take" "bob" 1]
def f2 (a : Str) (i : Int) : PyData := .tuple [.str a, .int i]
def r1 : List PyData := [f2 "unsent" 0, f2 "own" 2, f2 "again" 3, f2 "number" 4]
def r2 : List PyData := [f2 "unsent" 0, f2 "again" 2, f2 "own" 3, f2 "again" 4]
theorem c1_ok : CL 29 7 [.val (.list c1)] = .ok (PI.fl r1) [.val (.list c1)] := rfl
theorem c2_ok : CL 29 7 [.val (.list c2)] = .ok (PI.fl r2) [.val (.list c2)] := rfl
theorem c3_ok : CL 29 7 [.val (.list [])] = .ok (PI.fl []) [.val (.list [])] := rfl
end
end PI.K10

namespace PI.K10
open PySem PI
section
variable {ns : List Int} {ds : List Int} {s2 s3 s4 s5 s6 s7 s8 s9 s10 : SV}
theorem q3_19 {p : Nat} (hp : p = 120 ∨ p = 121) : q19_3 (CL 29) (E19 ns ds s2 s3 s4 s5 s6 s7 (.val (.list (sds p))) .unset .unset .unset) = .ok .nx (E19 ns ds s2 s3 s4 s5 s6 s7 (.val (.list (sds p))) .unset .unset .unset) := by
  have hF := sds_ok (p := p) (by omega)
  have hln : (sds p).length = p := by simp [sds]
  have hl : (sds p).length + 1 < lim := by rw [hln]; unfold lim; omega
  have tl : CL 29 15 [.val (.list (sds p))] = .ok (PI.fl (DD (sds p))) [.val (.list (sds p))] := told_ok (n := 24) (.val _) hF hl
  have ae : CL 29 9 [.val (.list (sds p))] = .ok (.frz (.bool (DD (sds p)).isEmpty)) [.val (.list (sds p))] := ae_ok (n := 24) (.val _) hF hl
  rw [sds_DD (by omega)] at tl ae
  have ag2 : agOk [.l 8] = true := by decide
  have ag1 : agOk [.v (dlst [(false, fz (dcall (CL 29) 15 [.l 8])), (false, fz (dcall (CL 29) 9 [.l 8]))]), .v (dlst [(false, fz (d2 .mul (fz (dlst [(false, fz (dtup [(false, fz (dc (.str "many"))), (false, fz (dc (.int 121)))]))])) (fz (d1 .int (fz (d2 .gt (fz (d1 .len (cv 8))) (fz (dc (.int 120))))))))), (false, fz (d2 .lt (fz (d1 .len (cv 8))) (fz (dc (.int 121)))))])] = true := by rfl
  have sml : smallI 0 = true ∧ smallI 1 = true := by decide
  rcases hp with rfl | rfl
  · have sm : CL 29 13 [.val (.list [.list [], .bool true]), .val (.list [.list [], .bool true])] = .ok (.frz (.bool true)) [.val (.list [.list [], .bool true]), .val (.list [.list [], .bool true])] := same_ok 29 (by decide) (by decide) (.val _) (.val _)
    simp at tl ae
    simp [E19, q19_3, ag2, ag1, tl, ae, hln, lim, sml, sm]
  · have sm : CL 29 13 [.val (.list [.list [.tuple [.str "many", .int 121]], .bool false]), .val (.list [.list [.tuple [.str "many", .int 121]], .bool false])] = .ok (.frz (.bool true)) [.val (.list [.list [.tuple [.str "many", .int 121]], .bool false]), .val (.list [.list [.tuple [.str "many", .int 121]], .bool false])] := same_ok 29 (by decide) (by decide) (.val _) (.val _)
    simp at tl ae
    simp [E19, q19_3, ag2, ag1, tl, ae, hln, lim, sml, sm]
theorem q4_19 : q19_4 (CL 29) (E19 ns ds s2 s3 s4 s5 s6 s7 s8 .unset .unset .unset) = .ok .nx (E19 ns ds s2 s3 s4 s5 s6 s7 s8 .unset (.val (.list vals)) .unset) := by
  simp [E19, q19_4, lim, vals]
  rfl
theorem q5_19 : q19_5 (CL 29) (E19 ns ds s2 s3 s4 s5 s6 s7 s8 .unset (.val (.list vals)) .unset) = .ok .nx (E19 ns ds s2 s3 s4 s5 s6 s7 s8 .unset (.val (.list vals)) .unset) := by
  have mm := m193_ok (ns := ns) (ds := ds) (s2 := s2) (s3 := s3) (s4 := s4) (s5 := s5) (s6 := s6) (s7 := s7) (s8 := s8) (s9 := .unset)
  have sm : CL 29 13 [.val (.list (vals.map fun _ => flg)), .val (.list (vals.map fun _ => flg))] = .ok (.frz (.bool true)) [.val (.list (vals.map fun _ => flg)), .val (.list (vals.map fun _ => flg))] := same_ok 29 (by decide) (by decide) (.val _) (.val _)
  have ag1 : agOk [.v (m_19_3 (CL 29)), .v (d2 .mul (fz (dlst [(false, fz (dlst [(false, fz (dc (.bool true))), (false, fz (dc (.bool false))), (false, fz (dc (.bool false))), (false, fz (dc (.bool false))), (false, fz (dc (.bool false)))]))])) (fz (dc (.int 7))))] = true := by rfl
  have sml : smallI 7 = true := by decide
  simp [E19, vals, flg] at mm sm
  simp [E19, q19_5, vals, ag1, mm, sm, sml, lim, List.replicate]
theorem q6_19 (h7 : okS (some s7) = true) : q19_6 (CL 29) (E19 ns ds s2 s3 s4 s5 s6 s7 s8 s9 s10 .unset) = .ok .nx (E19 ns ds s2 s3 s4 s5 s6 (.own (PI.fl [.list r1])) s8 s9 s10 .unset) := by
  have ag1 : agOk [.v (dlst [(false, fz (dtup [(false, fz (dc (.str "take"))), (false, fz (dc (.str "ann"))), (false, fz (dc (.int 1)))])), (false, fz (dtup [(false, fz (dc (.str "send"))), (false, fz (dc (.str "bob"))), (false, fz (dc (.int 2)))])), (false, fz (dtup [(false, fz (dc (.str "take"))), (false, fz (dc (.str "bob"))), (false, fz (dc (.int 2)))])), (false, fz (dtup [(false, fz (dc (.str "send"))), (false, fz (dc (.str "cy"))), (false, fz (dc (.int 2)))])), (false, fz (dtup [(false, fz (dc (.str "send"))), (false, fz (dc (.str "dee"))), (false, fz (dc (.int 0)))]))])] = true := by decide
  have := c1_ok
  simp only [c1, ev3] at this
  simp [E19, q19_6, ag1, this, h7, lim]
theorem q7_19 : q19_7 (CL 29) (E19 ns ds s2 s3 s4 s5 s6 (.own (PI.fl [.list r1])) s8 s9 s10 .unset) = .ok .nx (E19 ns ds s2 s3 s4 s5 s6 (.own (PI.fl [.list r1, .list r2])) s8 s9 s10 .unset) := by
  have ag1 : agOk [.v (dlst [(false, fz (dtup [(false, fz (dc (.str "take"))), (false, fz (dc (.str "ann"))), (false, fz (dc (.int 1)))])), (false, fz (dtup [(false, fz (dc (.str "send"))), (false, fz (dc (.str "bob"))), (false, fz (dc (.int 1)))])), (false, fz (dtup [(false, fz (dc (.str "take"))), (false, fz (dc (.str "ann"))), (false, fz (dc (.int 1)))])), (false, fz (dtup [(false, fz (dc (.str "take"))), (false, fz (dc (.str "bob"))), (false, fz (dc (.int 1)))])), (false, fz (dtup [(false, fz (dc (.str "take"))), (false, fz (dc (.str "bob"))), (false, fz (dc (.int 1)))]))])] = true := by decide
  have := c2_ok
  simp only [c2, ev3] at this
  simp [E19, q19_7, ag1, this, lim]
theorem q8_19 : q19_8 (CL 29) (E19 ns ds s2 s3 s4 s5 s6 (.own (PI.fl [.list r1, .list r2])) s8 s9 s10 .unset) = .ok .nx (E19 ns ds s2 s3 s4 s5 s6 (.own (PI.fl [.list r1, .list r2, .list []])) s8 s9 s10 .unset) := by
  have ag1 : agOk [.v (dlst [])] = true := by decide
  have := c3_ok
  simp [E19, q19_8, ag1, this, lim]
theorem q9_19 : ∃ r, q19_9 (CL 29) (E19 ns ds s2 s3 s4 s5 s6 (.own (PI.fl [.list r1, .list r2, .list []])) s8 s9 s10 .unset) = .ok (.rt (.frz (.bool true))) (.scr ns :: r) := by
  refine ⟨[.own (PI.fl (ds.map .int)), s2, s3, s4, s5, s6, (.own (PI.fl [.list r1, .list r2, .list []])), s8, s9, s10, .unset], ?_⟩
  have sm : CL 29 13 [.lck 0 (PI.fl [.list r1, .list r2, .list []]), .val (.list [.list r1, .list r2, .list []])] = .ok (.frz (.bool true)) [.lck 0 (PI.fl [.list r1, .list r2, .list []]), .val (.list [.list r1, .list r2, .list []])] := same_ok 29 (by decide) (by decide) (.lck 0 _) (.val _)
  simp only [r1, r2, f2] at sm
  have ag1 : ∀ x, agOk [.l 7, .v x] = true := fun _ => rfl
  simp [E19, q19_9, ag1, r1, r2, f2, sm, lim]
theorem yes (ns : List Int) (h : ns.length ≤ 63) : ∃ ps', CL 30 19 [.scr ns] = .ok (.frz (.bool true)) ps' := by
  refine ⟨[.scr ns], ?_⟩
  rw [c_19, d19_eq]
  obtain ⟨ds0, hd0, e0⟩ := draws_ok (n := 28) h
  have e0 : CL 29 10 _ = _ := e0
  have ag : agOk [.l 0] = true := by decide
  have st0 : q19_0 (CL 29) [.scr ns, .unset, .unset, .unset, .unset, .unset, .unset, .unset, .unset, .unset, .unset, .unset] = .ok .nx (E19 ns ds0 .unset .unset .unset .unset .unset .unset .unset .unset .unset .unset) := by simp [q19_0, ag, e0]
  obtain ⟨ds1, t2, t3, t4, t5, t6, t7, hd1, k7, lp⟩ := l19_loop (ns := ns) (upto 0 4) (ds := ds0) (s2 := .unset) (s3 := .unset) (s4 := .unset) (s5 := .unset) (s6 := .unset) (s7 := .unset) hd0 rfl rfl rfl rfl rfl rfl
  have st1 : q19_1 (CL 29) (E19 ns ds0 .unset .unset .unset .unset .unset .unset .unset .unset .unset .unset) = .ok .nx (E19 ns ds1 t2 t3 t4 t5 t6 t7 .unset .unset .unset .unset) := by
    have hr := fun ρ => rngR_ok (m := 0) (n := 4) (ρ := ρ) (by decide)
    simp [q19_1, hr, lp]
  obtain ⟨ds2, p, hp, hd2, e2⟩ := m192_ok (ns := ns) (s2 := t2) (s3 := t3) (s4 := t4) (s5 := t5) (s6 := t6) (s7 := t7) hd1
  have st2 : q19_2 (CL 29) (E19 ns ds1 t2 t3 t4 t5 t6 t7 .unset .unset .unset .unset) = .ok .nx (E19 ns ds2 t2 t3 t4 t5 t6 t7 (.val (.list (sds p))) .unset .unset .unset) := by simp [q19_2, e2]
  obtain ⟨r, st9⟩ := q9_19 (ns := ns) (ds := ds2) (s2 := t2) (s3 := t3) (s4 := t4) (s5 := t5) (s6 := t6) (s8 := .val (.list (sds p))) (s9 := .unset) (s10 := .val (.list vals))
  rw [blk_nx st0, blk_nx st1, blk_nx st2, blk_nx (q3_19 hp), blk_nx q4_19, blk_nx q5_19, blk_nx (q6_19 k7), blk_nx q7_19, blk_nx q8_19, blk_one, st9]
  rfl
end
end PI.K10

set_option maxHeartbeats 4000000
namespace PI.K10
open PySem PySem.Spec PyProof.Rows L2
def dD (i : Nat) (x : Str) : He.DefD := ⟨(x, none), x, x, defArgs (top i), defBody (top i), defScope (top i), [], []⟩
def fn : List He.DefD := [dD 8 "is_integer", dD 9 "is_within", dD 10 "is_name", dD 11 "check", dD 14 "is_number", dD 20 "kind_of", dD 21 "fault_of", dD 22 "event_faults", dD 27 "is_event", dD 28 "are_events", dD 30 "_law_draws", dD 31 "_law_take", dD 32 "_law_pick", dD 33 "_law_same", dD 35 "_law_is_name", dD 36 "_law_told", dD 37 "_law_kind", dD 38 "_law_faults", dD 39 "_law_draft", dD 40 "law", dD 34 "_law_flags"]
def fa : List He.Fa := [.free "abs", .free "all", .free "bool", .free "dict", .free "enumerate", .free "int", .free "isinstance", .free "len", .free "list", .free "range", .free "repr", .free "reversed", .free "str", .free "tuple", .int "MOST_EVENTS_orders" 120, .int "MOST_EVENTS_sheets" 120, .int "MOST_NUMBER_copies" 9999, .int "MOST_NUMBER_sheets" 9999, .int "MOST_SIGNS" 12, .str "SEND_orders" "send", .str "SEND_sheets" "send", .str "TAKE_orders" "take", .str "TAKE_sheets" "take", .glo "RelayError", .glo "NotRight", .exc "NotRight", .exm "NotRight" "RelayError" true, .glo "NotThere", .exc "NotThere", .exm "NotThere" "RelayError" true, .glo "NoAnswer", .exc "NoAnswer", .exm "NoAnswer" "RelayError" true, .glo "TooLarge", .exc "TooLarge", .exm "TooLarge" "RelayError" true, .glo "Malformed", .glo "is_integer", .glo "is_within", .glo "is_name", .glo "check", .glo "is_number", .glo "kind_of", .glo "fault_of", .glo "event_faults", .glo "is_event", .glo "are_events", .glo "_law_draws", .glo "_law_take", .glo "_law_pick", .glo "_law_same", .glo "_law_is_name", .glo "_law_told", .glo "_law_kind", .glo "_law_faults", .glo "_law_draft", .glo "law", .glo "_law_flags"]
def clsN (c : Nat) : Str := (["NotRight", "NotThere", "NoAnswer", "TooLarge", "Malformed"] : List Str).getD c "RelayError"
def xx (K : PySem.W.Frag) : Bool := (List.range 4).all fun i => kindsB K (clsN i) (["NotRight", "NotThere", "NoAnswer", "TooLarge", "Malformed"] : List Str) ((List.range 5).map fun j => j == i)
abbrev R : PySem.W.OpenRow := PySem.W.OpenLaw.row PySem.Challenge.rw_relayward_k10_whole_faults_of_events
abbrev hk : PySem.W.Hook := hookX 6 fa fn xx
def ob (s : PySem.W.SharedT) : Bool × He.AlD := obsX 6 fa fn xx (HandSHeadRun.getT s)
theorem ob_eq (s : PySem.W.SharedT) : ob s = hk.obs s.abs := obsX_eq (HandSHeadRun.getT_eq s)
def loose : List Str := (["MOST_SIGNS", "RelayError", "NotRight", "NotThere", "NoAnswer", "TooLarge", "Malformed", "is_integer", "is_within", "is_name"] : List Str) ++ (["check", "MOST_NUMBER_copies", "is_number", "MOST_EVENTS_sheets", "MOST_NUMBER_sheets", "SEND_sheets", "TAKE_sheets", "kind_of", "fault_of", "event_faults"] : List Str) ++ (["MOST_EVENTS_orders", "SEND_orders", "TAKE_orders", "is_event", "are_events", "_law_draws", "_law_take", "_law_pick", "_law_same", "_law_flags"] : List Str) ++ (["_law_is_name", "_law_told", "_law_kind", "_law_faults", "_law_draft"] : List Str)
theorem run (w : World) : HandSHeadRun.RunEq R (PySem.W.view R.prog [40]) hk ob 4000 loose w := by
  intro os
  kernel_rfl
theorem facts {P : Program} {w : World} {K : PySem.W.Frag} {h : Heap} {mg : Str → Option Value} {f : Addr} (X : K.In h) (G : h.Ns mainGlobals mg) (hfa : mg ("law" : Str) = some (.ref f)) (c : He.SaysD fa fn K) (cx : xx K = true) :
    ∃ (T : Th) (fd : FuncData), T.K = K ∧ (∀ (s : Shared) (v : Value), BindsTo s fd ⟨[v], []⟩ [("script", v)]) ∧ ∀ base : Heap, T.K.In base → base.Ns mainGlobals mg → FnG P w T.K mg base 31 f fd ["script"] (fun us H Q E => us.length = 1 ∧ tX T (fun c d _ H => E c d H) (CL 30 19) (us.map some) H Q) := by
  obtain ⟨fd0, F0⟩ := c.def_ 0 (d := dD 8 "is_integer") rfl
  obtain ⟨fd1, F1⟩ := c.def_ 1 (d := dD 9 "is_within") rfl
  obtain ⟨fd2, F2⟩ := c.def_ 2 (d := dD 10 "is_name") rfl
  obtain ⟨fd3, F3⟩ := c.def_ 3 (d := dD 11 "check") rfl
  obtain ⟨fd4, F4⟩ := c.def_ 4 (d := dD 14 "is_number") rfl
  obtain ⟨fd5, F5⟩ := c.def_ 5 (d := dD 20 "kind_of") rfl
  obtain ⟨fd6, F6⟩ := c.def_ 6 (d := dD 21 "fault_of") rfl
  obtain ⟨fd7, F7⟩ := c.def_ 7 (d := dD 22 "event_faults") rfl
  obtain ⟨fd8, F8⟩ := c.def_ 8 (d := dD 27 "is_event") rfl
  obtain ⟨fd9, F9⟩ := c.def_ 9 (d := dD 28 "are_events") rfl
  obtain ⟨fd10, F10⟩ := c.def_ 10 (d := dD 30 "_law_draws") rfl
  obtain ⟨fd11, F11⟩ := c.def_ 11 (d := dD 31 "_law_take") rfl
  obtain ⟨fd12, F12⟩ := c.def_ 12 (d := dD 32 "_law_pick") rfl
  obtain ⟨fd13, F13⟩ := c.def_ 13 (d := dD 33 "_law_same") rfl
  obtain ⟨fd14, F14⟩ := c.def_ 14 (d := dD 35 "_law_is_name") rfl
  obtain ⟨fd15, F15⟩ := c.def_ 15 (d := dD 36 "_law_told") rfl
  obtain ⟨fd16, F16⟩ := c.def_ 16 (d := dD 37 "_law_kind") rfl
  obtain ⟨fd17, F17⟩ := c.def_ 17 (d := dD 38 "_law_faults") rfl
  obtain ⟨fd18, F18⟩ := c.def_ 18 (d := dD 39 "_law_draft") rfl
  obtain ⟨fd19, F19⟩ := c.def_ 19 (d := dD 40 "law") rfl
  obtain ⟨fd20, F20⟩ := c.def_ 20 (d := dD 34 "_law_flags") rfl
  have e := hfa.symm.trans (He.glo_ok X G (c.fact 56 (f := .glo "law") rfl))
  cases e
  have b := FunD.bindsA (ps := ["script"]) F19 fun _ _ _ _ _ _ us hl => match us, hl with | [_], _ => rfl
  have kin : ∀ i, i ∈ List.range 4 → kindsB K (clsN i) (["NotRight", "NotThere", "NoAnswer", "TooLarge", "Malformed"] : List Str) ((List.range 5).map fun j => j == i) = true := fun i hi => List.all_eq_true.mp cx i hi
  let T : Th := ⟨K, fun i => .ref (He.ga K (clsN i))⟩
  let fd : Nat → FuncData := fun i => match i with | 0 => fd0 | 1 => fd1 | 2 => fd2 | 3 => fd3 | 4 => fd4 | 5 => fd5 | 6 => fd6 | 7 => fd7 | 8 => fd8 | 9 => fd9 | 10 => fd10 | 11 => fd11 | 12 => fd12 | 13 => fd13 | 14 => fd14 | 15 => fd15 | 16 => fd16 | 17 => fd17 | 18 => fd18 | 19 => fd19 | 20 => fd20 | _ => fd0
  have GG : Glo T mg := ⟨He.free_ok X G (c.fact 0 (f := .free "abs") rfl), He.free_ok X G (c.fact 1 (f := .free "all") rfl), He.free_ok X G (c.fact 2 (f := .free "bool") rfl), He.free_ok X G (c.fact 3 (f := .free "dict") rfl), He.free_ok X G (c.fact 4 (f := .free "enumerate") rfl), He.free_ok X G (c.fact 5 (f := .free "int") rfl), He.free_ok X G (c.fact 6 (f := .free "isinstance") rfl), He.free_ok X G (c.fact 7 (f := .free "len") rfl), He.free_ok X G (c.fact 8 (f := .free "list") rfl), He.free_ok X G (c.fact 9 (f := .free "range") rfl), He.free_ok X G (c.fact 10 (f := .free "repr") rfl), He.free_ok X G (c.fact 11 (f := .free "reversed") rfl), He.free_ok X G (c.fact 12 (f := .free "str") rfl), He.free_ok X G (c.fact 13 (f := .free "tuple") rfl), He.int_ok X G (c.fact 14 (f := .int "MOST_EVENTS_orders" 120) rfl), He.int_ok X G (c.fact 15 (f := .int "MOST_EVENTS_sheets" 120) rfl), He.int_ok X G (c.fact 16 (f := .int "MOST_NUMBER_copies" 9999) rfl), He.int_ok X G (c.fact 17 (f := .int "MOST_NUMBER_sheets" 9999) rfl), He.int_ok X G (c.fact 18 (f := .int "MOST_SIGNS" 12) rfl), He.str_ok X G (c.fact 19 (f := .str "SEND_orders" "send") rfl), He.str_ok X G (c.fact 20 (f := .str "SEND_sheets" "send") rfl), He.str_ok X G (c.fact 21 (f := .str "TAKE_orders" "take") rfl), He.str_ok X G (c.fact 22 (f := .str "TAKE_sheets" "take") rfl), He.glo_ok X G (c.fact 23 (f := .glo "RelayError") rfl), He.glo_ok X G (c.fact 24 (f := .glo "NotRight") rfl), rfl, (He.exc_ok (c.fact 25 (f := .exc "NotRight") rfl)).1, (He.exc_ok (c.fact 25 (f := .exc "NotRight") rfl)).2.1, (He.exc_ok (c.fact 25 (f := .exc "NotRight") rfl)).2.2.1, (He.exc_ok (c.fact 25 (f := .exc "NotRight") rfl)).2.2.2, He.exm_ok (c.fact 26 (f := .exm "NotRight" "RelayError" true) rfl), kindsB_ok (kin 0 (by decide)), He.glo_ok X G (c.fact 27 (f := .glo "NotThere") rfl), rfl, (He.exc_ok (c.fact 28 (f := .exc "NotThere") rfl)).1, (He.exc_ok (c.fact 28 (f := .exc "NotThere") rfl)).2.1, (He.exc_ok (c.fact 28 (f := .exc "NotThere") rfl)).2.2.1, (He.exc_ok (c.fact 28 (f := .exc "NotThere") rfl)).2.2.2, He.exm_ok (c.fact 29 (f := .exm "NotThere" "RelayError" true) rfl), kindsB_ok (kin 1 (by decide)), He.glo_ok X G (c.fact 30 (f := .glo "NoAnswer") rfl), rfl, (He.exc_ok (c.fact 31 (f := .exc "NoAnswer") rfl)).1, (He.exc_ok (c.fact 31 (f := .exc "NoAnswer") rfl)).2.1, (He.exc_ok (c.fact 31 (f := .exc "NoAnswer") rfl)).2.2.1, (He.exc_ok (c.fact 31 (f := .exc "NoAnswer") rfl)).2.2.2, He.exm_ok (c.fact 32 (f := .exm "NoAnswer" "RelayError" true) rfl), kindsB_ok (kin 2 (by decide)), He.glo_ok X G (c.fact 33 (f := .glo "TooLarge") rfl), rfl, (He.exc_ok (c.fact 34 (f := .exc "TooLarge") rfl)).1, (He.exc_ok (c.fact 34 (f := .exc "TooLarge") rfl)).2.1, (He.exc_ok (c.fact 34 (f := .exc "TooLarge") rfl)).2.2.1, (He.exc_ok (c.fact 34 (f := .exc "TooLarge") rfl)).2.2.2, He.exm_ok (c.fact 35 (f := .exm "TooLarge" "RelayError" true) rfl), kindsB_ok (kin 3 (by decide)), He.glo_ok X G (c.fact 36 (f := .glo "Malformed") rfl)⟩
  have SS : Fs T mg fd := ⟨F0, He.glo_ok X G (c.fact 37 (f := .glo "is_integer") rfl), F1, He.glo_ok X G (c.fact 38 (f := .glo "is_within") rfl), F2, He.glo_ok X G (c.fact 39 (f := .glo "is_name") rfl), F3, He.glo_ok X G (c.fact 40 (f := .glo "check") rfl), F4, He.glo_ok X G (c.fact 41 (f := .glo "is_number") rfl), F5, He.glo_ok X G (c.fact 42 (f := .glo "kind_of") rfl), F6, He.glo_ok X G (c.fact 43 (f := .glo "fault_of") rfl), F7, He.glo_ok X G (c.fact 44 (f := .glo "event_faults") rfl), F8, He.glo_ok X G (c.fact 45 (f := .glo "is_event") rfl), F9, He.glo_ok X G (c.fact 46 (f := .glo "are_events") rfl), F10, He.glo_ok X G (c.fact 47 (f := .glo "_law_draws") rfl), F11, He.glo_ok X G (c.fact 48 (f := .glo "_law_take") rfl), F12, He.glo_ok X G (c.fact 49 (f := .glo "_law_pick") rfl), F13, He.glo_ok X G (c.fact 50 (f := .glo "_law_same") rfl), F14, He.glo_ok X G (c.fact 51 (f := .glo "_law_is_name") rfl), F15, He.glo_ok X G (c.fact 52 (f := .glo "_law_told") rfl), F16, He.glo_ok X G (c.fact 53 (f := .glo "_law_kind") rfl), F17, He.glo_ok X G (c.fact 54 (f := .glo "_law_faults") rfl), F18, He.glo_ok X G (c.fact 55 (f := .glo "_law_draft") rfl), F19, He.glo_ok X G (c.fact 56 (f := .glo "law") rfl), F20, He.glo_ok X G (c.fact 57 (f := .glo "_law_flags") rfl)⟩
  exact ⟨T, fd19, rfl, fun s v => b s [v] rfl, fun base _ _ => (all_ok (P := P) (w := w) (base := base) GG SS 30).a19⟩
end PI.K10
open PySem PySem.W PySem.Calls PyProof.Rows
theorem PySem.Challenge.cw_relayward_k10_whole_faults_of_events_holds : PySem.Challenge.rw_relayward_k10_whole_faults_of_events.Holds := by
  w_on; o_law
  refine HandSHeadRun.head_any (r := OpenLaw.row PySem.Challenge.rw_relayward_k10_whole_faults_of_events) (q := view (OpenLaw.row PySem.Challenge.rw_relayward_k10_whole_faults_of_events).prog [40]) (H := PI.K10.hk) (ob := PI.K10.ob) (M := 4000) (loose := PI.K10.loose) (d := HandSHeadRun.topDef (OpenLaw.row PySem.Challenge.rw_relayward_k10_whole_faults_of_events).prog 40) (kwd := []) PI.K10.ob_eq
    (by kernel_rfl) (fun s => by kernel_rfl) PI.K10.run (by kernel_rfl) (by kernel_rfl) (by kernel_rfl) (by rfl) (by first | assumption | decide +kernel) (by decide +kernel) ⟨rfl, rfl, rfl, rfl, rfl, by decide +kernel⟩ ?hw ?hc
  case hw => w_witness2
  case hc =>
    refine PI.walk_in (l := PySem.Challenge.rw_relayward_k10_whole_faults_of_events) (k := 31) (x := "script") (cl := PI.K10.CL 30 19) rfl (by kernel_rfl) ⟨rfl, by decide, by decide⟩ PI.K10.yes ?F
    intro w mg fa h Y G hmg0
    obtain ⟨K, KX, c, cx⟩ := Y
    have hmg : mg ("law" : PySem.Str) = some (.ref fa) := by
      have e : (HandSHeadRun.topDef (OpenLaw.row PySem.Challenge.rw_relayward_k10_whole_faults_of_events).prog 40).name = ("law" : PySem.Str) := by kernel_rfl
      rw [← e]
      exact hmg0
    obtain ⟨T, fd, rfl, hb, hF⟩ := PI.K10.facts (P := (PySem.Challenge.rw_relayward_k10_whole_faults_of_events).prog) (w := w) KX G hmg c cx
    exact ⟨T, fd, KX, hb, hF⟩
