import PyProof.Rows.All
import KE.KStateDown
import Wide.All
import OpenK.AllK
import Wide.FinOn
import HandS.Base
import HandS.Call
import HandS.Ends
import HandS.EndBits
import HandS.More
import HandS.Words
import HandS.WordsExc
import HandS.Defaults
import HandS.Head0
import HandS.Head1
import HandS.Head2
import HandS.HeadEnd
import HandS.HeadHook1
import HandS.HeadHook2
import HandS.ForMost
import HandS.Exc
import HandS.Style
import HandS.SortKw
import HandS.IsInst
import HandS.Comp
import HandS.Iter
import KE.GoesMore
import KE.GoesZip
import KE.OsSort
import PyProof.ReprReads
import HandS.Wide
import HandS.TupAny
import HandS.Deep
import HandS.WideBits
import HandS.SortInts
import HandS.Conv
import HandS.Property
import HandS.List
import PyProof.P3Eq
import PyProof.ReprLen
import PySem.Challenge.RW_nestlevels_k15_whole_sums_of_the_greates
section
set_option Elab.async false
set_option linter.all false
set_option maxRecDepth 100000
/-! Nl: a small language of pure values, its programs (IR) and what they give. -/
namespace Nl
open PySem (Str PyData)

/-- a value: lists and dicts as they stand (never written again); ref n: the n-th object of the memory -/
inductive PV where
  | non | bl (b : Bool) | int (i : Int) | str (x : Str)
  | tup (xs : List PV) | lst (xs : List PV) | dic (kvs : List (PV × PV))
  | ref (n : Nat) | fn (f : Nat) | cls (c : Nat) | ty (n : String) | lam (k : Nat) (env : List PV)
  deriving Inhabited

inductive MO where
  | lst (xs : List PV)
  | ins (c : Nat) (fs : List (Str × PV))
  deriving Inhabited

abbrev Mem := List MO
structure Exn where
  cls : Nat
  fs : List (Str × PV)

inductive R (α : Type) where
  | ok (a : α) (m : Mem)
  | exc (e : Exn) (m : Mem)
  | stuck
def Py (α : Type) : Type := Mem → R α
def Py.ret {α : Type} (a : α) : Py α := fun m => .ok a m
def Py.and {α β : Type} (x : Py α) (f : α → Py β) : Py β := fun m => match x m with
  | .ok a m' => f a m'
  | .exc e m' => .exc e m'
  | .stuck => .stuck
instance : Monad Py where
  pure := Py.ret
  bind := Py.and
def stuck {α : Type} : Py α := fun _ => .stuck
def raise {α : Type} (e : Exn) : Py α := fun m => .exc e m
def need (b : Bool) : Py Unit := if b then pure () else stuck
def getM : Py Mem := fun m => .ok m m
def setM (m : Mem) : Py Unit := fun _ => .ok () m
def ofO {α : Type} (o : Option α) : Py α := match o with
  | some a => pure a
  | none => stuck

/-! ### values as the library's data -/
mutual
def PV.dat : PV → Option PyData
  | .non => some .none
  | .bl b => some (.bool b)
  | .int i => some (.int i)
  | .str x => some (.str x)
  | .tup xs => (datL xs).map .tuple
  | .lst xs => (datL xs).map .list
  | _ => none
def datL : List PV → Option (List PyData)
  | [] => some []
  | x :: xs => match x.dat, datL xs with
    | some d, some ds => some (d :: ds)
    | _, _ => none
end
mutual
/-- with dicts of texts (for repr alone) -/
def PV.datR : PV → Option PyData
  | .non => some .none
  | .bl b => some (.bool b)
  | .int i => some (.int i)
  | .str x => some (.str x)
  | .tup xs => (datRL xs).map .tuple
  | .lst xs => (datRL xs).map .list
  | _ => none
def datRL : List PV → Option (List PyData)
  | [] => some []
  | x :: xs => match x.datR, datRL xs with
    | some d, some ds => some (d :: ds)
    | _, _ => none
end
def lineN : Nat := PySem.sizeLine

def strsP : PV → PV → Option (Str × Str)
  | .str x, .str y => some (x, y)
  | _, _ => none
def eqD (a b : PV) : Py Bool := match a.dat, b.dat with
  | some d, some e => do need (PySem.SeqAt.shaped d && PySem.SeqAt.shaped e); pure (PyData.eqv d e)
  | _, _ => stuck

def eqP (a b : PV) : Py Bool := match strsP a b with
  | some xy => pure (decide (xy.1 = xy.2))
  | none => eqD a b

/-! ### slots, flows -/
inductive Slot where
  | no
  | pv (p : PV)
  | own (xs : List PV)
  | ownD (kvs : List (PV × PV))
  deriving Inhabited
abbrev Env := List Slot
def Env.at (e : Env) (i : Nat) : Slot := e.getD i .no
inductive Flow where
  | next (e : Env) | brk (e : Env) | cont (e : Env) | ret (p : PV) | exc (x : Exn) (e : Env)

/-! ### the language -/
inductive Bop where | add | sub | mul | fdiv | mod | pow
  deriving DecidableEq
inductive Cop where | eq | ne | lt | le | gt | ge | isN | notN | In | notIn
  deriving DecidableEq
/-- built-in functions by their place arguments -/
inductive Bi where
  | len | abs | max2 | min2 | maxL | minL | sum | sorted | list | tuple | str | int | bool | repr | all | any | divmod
  deriving DecidableEq
/-- methods of built-in types that write nothing -/
inductive Bm where | join | index | count | split | lstrip | get
  deriving DecidableEq

mutual
inductive Ex where
  | var (i : Nat) | peek (i : Nat) | deref (e : Ex) | mix (a b : Ex)
  | non | bl (b : Bool) | int (i : Int) | str (x : Str)
  | gint (x : Str) (i : Int) | gstr (x s : Str)
  | call (f : Nat) (es : List Ex)
  | callK (f : Nat) (es : List Ex) (ks : List (Str × Ex))
  | bi (b : Bi) (es : List Ex)
  | sortedRev (e : Ex)
  | bin (o : Bop) (a b : Ex)
  | neg (a : Ex)
  | cmp (o : Cop) (a b : Ex)
  | chain (o p : Cop) (a b c : Ex)
  | and (a b : Ex) | or (a b : Ex)
  | not (a : Ex)
  | ite (c a b : Ex)
  | tup (es : List Ex)
  | lst (es : List Ex)
  | ix (a b : Ex)
  | sl (a : Ex) (lo hi : Option Ex)
  | rev (a : Ex)
  | isi (a : Ex) (tys : List String)
  | comp (own : List Nat) (g : Tg) (it : It) (c : Option Ex) (e : Ex)
  | bm (b : Bm) (a : Ex) (es : List Ex)
  | malloc (e : Ex)
  | mpop0 (e : Ex)
  | bad
inductive It where
  | seq (e : Ex) | rng1 (e : Ex) | rng2 (a b : Ex) | enum (e : Ex) | zip (a b : Ex)
inductive Tg where
  | var (i : Nat) | tup (gs : List Tg)
end

inductive Wg where          -- a target of an assignment
  | g (t : Tg) | ix (o i : Ex) | tup (ws : List Wg)
inductive St where
  | expr (e : Ex)
  | set (i : Nat) (e : Ex)
  | setOwn (i : Nat) (e : Ex)
  | setT (w : Wg) (e : Ex)
  | par (ws : List (Nat × Bool)) (es : List Ex)
  | aug (i : Nat) (o : Bop) (e : Ex)
  | append (i : Nat) (e : Ex)
  | insert (i : Nat) (k e : Ex)
  | setIx (i : Nat) (k e : Ex)
  | ret (e : Ex)
  | ite (c : Ex) (a b : List St)
  | for_ (g : Tg) (it : It) (b : List St)
  | while_ (c : Ex) (b : List St)
  | freeze (i : Nat)
  | cont | brk | bad | pass
  | retOwn (i : Nat)
  | retN

/-! ### primitives -/
def small (i : Int) : Bool := decide (i.natAbs < 2 ^ 64)
def mid (i : Int) : Bool := decide (i.natAbs < 2 ^ 256)
def cutL {α : Type} (xs : List α) (lo hi : Option Int) : List α := (xs.drop (HT.sIx xs.length 0 lo)).take (HT.sIx xs.length xs.length hi - HT.sIx xs.length 0 lo)
def fits (n : Nat) : Bool := decide (n ≤ 1000000)
def repL {α : Type} (xs : List α) (k : Int) : List α := (List.replicate k.toNat xs).flatten
def binP : Bop → PV → PV → Py PV
  | .add, .int i, .int j => pure (.int (i + j))
  | .add, .str x, .str y => do need (fits x.length && fits y.length); pure (.str (x ++ y))
  | .add, .lst x, .lst y => do need (fits x.length && fits y.length); pure (.lst (x ++ y))
  | .add, .tup x, .tup y => do need (fits x.length && fits y.length); pure (.tup (x ++ y))
  | .sub, .int i, .int j => pure (.int (i - j))
  | .mul, .int i, .int j => do need (small i || small j || (mid i && mid j)); pure (.int (i * j))
  | .mul, .lst x, .int k => do need (fits x.length && decide (-1 < k) && decide (k < 1000000) && fits (x.length * k.toNat)); pure (.lst (repL x k))
  | .fdiv, .int i, .int j => do need (decide (0 < j) && mid j); pure (.int (i / j))
  | .mod, .int i, .int j => do need (decide (0 < j)); pure (.int (i % j))
  | .pow, .int i, .int j => do need (decide (0 ≤ j) && decide (j ≤ 1000) && small i); pure (.int (i ^ j.toNat))
  | _, _, _ => stuck
def inP (x y : PV) : Py Bool := match x, y with
  | .str c, .str z => match c.cps.toList with
    | [k] => pure (decide (k ∈ z.cps.toList))
    | _ => stuck
  | x, .lst ys => match x.dat, datL ys with
    | some d, some ds => do need (PySem.SeqAt.shaped d && PySem.SeqAt.shaped (.list ds)); pure (ds.any fun z => PyData.eqv z d)
    | _, _ => stuck
  | x, .tup ys => match x.dat, datL ys with
    | some d, some ds => do need (PySem.SeqAt.shaped d && PySem.SeqAt.shaped (.tuple ds)); pure (ds.any fun z => PyData.eqv z d)
    | _, _ => stuck
  | _, _ => stuck
def cmpP : Cop → PV → PV → Py Bool
  | .eq, a, b => eqP a b
  | .ne, a, b => do return !(← eqP a b)
  | .lt, .int i, .int j => pure (decide (i < j))
  | .le, .int i, .int j => pure (decide (i ≤ j))
  | .gt, .int i, .int j => pure (decide (j < i))
  | .ge, .int i, .int j => pure (decide (j ≤ i))
  | .isN, a, .non => pure (match a with | .non => true | _ => false)
  | .notN, a, .non => pure (match a with | .non => false | _ => true)
  | .In, a, b => inP a b
  | .notIn, a, b => do return !(← inP a b)
  | _, _, _ => stuck
def ixP : PV → PV → Py PV
  | .tup xs, .int i => ofO (L2.atI xs i)
  | .lst xs, .int i => ofO (L2.atI xs i)
  | .str z, .int i => do need (fits z.length); match L2.atI z.cps.toList i with
    | some c => pure (.str ⟨#[c]⟩)
    | none => stuck
  | _, _ => stuck
def slP : PV → Option Int → Option Int → Py PV
  | .tup xs, lo, hi => pure (.tup (cutL xs lo hi))
  | .lst xs, lo, hi => pure (.lst (cutL xs lo hi))
  | _, _, _ => stuck
def allInt : List PV → Option (List Int)
  | [] => some []
  | .int i :: r => (allInt r).map (i :: ·)
  | _ :: _ => none
def allBl : List PV → Option (List Bool)
  | [] => some []
  | .bl i :: r => (allBl r).map (i :: ·)
  | _ :: _ => none
def itemsP : PV → Option (List PV)
  | .tup xs => some xs
  | .lst xs => some xs
  | _ => none
def sortI (ns : List Int) : List Int := ns.mergeSort (fun a b => decide (a ≤ b))
def sortR (ns : List Int) : List Int := ns.mergeSort (fun a b => decide (b ≤ a))
def maxI : List Int → Int
  | [] => 0
  | [a] => a
  | a :: r => max a (maxI r)
def minI : List Int → Int
  | [] => 0
  | [a] => a
  | a :: r => min a (minI r)
def tyOf : PV → String
  | .non => "NoneType" | .bl _ => "bool" | .int _ => "int" | .str _ => "str" | .tup _ => "tuple" | .lst _ => "list" | .dic _ => "dict" | _ => "?"
def isTy (p : PV) (t : String) : Bool := tyOf p == t || (t == "int" && tyOf p == "bool")
def biP : Bi → List PV → Py PV
  | .len, [.str x] => do need (fits x.length); pure (.int x.length)
  | .len, [.tup x] => pure (.int x.length)
  | .len, [.lst x] => pure (.int x.length)
  | .abs, [.int i] => pure (.int (if i < 0 then -i else i))
  | .max2, [.int i, .int j] => pure (.int (if j > i then j else i))
  | .min2, [.int i, .int j] => pure (.int (if j < i then j else i))
  | .maxL, [p] => match itemsP p with
    | some x => match allInt x with
      | some (a :: r) => pure (.int (maxI (a :: r)))
      | _ => stuck
    | _ => stuck
  | .minL, [p] => match itemsP p with
    | some x => match allInt x with
      | some (a :: r) => pure (.int (minI (a :: r)))
      | _ => stuck
    | _ => stuck
  | .sum, [p] => match itemsP p with
    | some x => match allInt x with
      | some ns => pure (.int ns.sum)
      | _ => stuck
    | _ => stuck
  | .sorted, [p] => match itemsP p with
    | some x => match allInt x with
      | some ns => pure (.lst ((sortI ns).map .int))
      | _ => stuck
    | _ => stuck
  | .list, [p] => match itemsP p with
    | some x => pure (.lst x)
    | _ => stuck
  | .tuple, [p] => match itemsP p with
    | some x => pure (.tup x)
    | _ => stuck
  | .str, [.int i] => do need (mid i); pure (.str (toString i))
  | .int, [.int i] => pure (.int i)
  | .int, [.bl k] => pure (.int (if k then 1 else 0))
  | .bool, [.bl k] => pure (.bl k)
  | .repr, [p] => match p.dat with
    | some d => do need (d.showable && decide (d.depth ≤ 64) && decide (d.shown.length ≤ PySem.sizeLine)); pure (.str d.shown)
    | _ => stuck
  | .all, [.lst x] => match allBl x with
    | some bs => pure (.bl (bs.all id))
    | _ => stuck
  | .any, [.lst x] => match allBl x with
    | some bs => pure (.bl (bs.any id))
    | _ => stuck
  | .divmod, [.int i, .int j] => do need (decide (0 < j) && mid j); pure (.tup [.int (i / j), .int (i % j)])
  | _, _ => stuck
def sortedRevP (p : PV) : Py PV := match itemsP p with
  | some x => match allInt x with
    | some ns => pure (.lst ((sortR ns).map .int))
    | _ => stuck
  | _ => stuck
def truthP : PV → Py Bool
  | .bl b => pure b
  | _ => stuck
def mlst (n : Nat) : Py (List PV) := fun m => match m[n]? with
  | some (.lst xs) => .ok xs m
  | _ => .stuck
def mput (n : Nat) (xs : List PV) : Py Unit := fun m => .ok () (m.set n (.lst xs))
def mnew (o : MO) : Py PV := fun m => .ok (.ref m.length) (m ++ [o])
def rngP (a b : Int) : Py (List PV) := do
  need (decide (-1000000 ≤ a) && decide (a ≤ 1000000) && decide (-1000000 ≤ b) && decide (b ≤ 1000000))
  pure ((List.range (b - a).toNat).map fun i => .int (a + (i : Nat)))

/-! ### evaluation -/
structure Calls where
  fn : Nat → List PV → Py PV
  ps : Nat → List Str
def arrF {α : Type} (ks : List (Str × α)) : List Str → Option (List α)
  | [] => some []
  | p :: ps => match ks.lookup p, arrF ks ps with
    | some v, some l => some (v :: l)
    | _, _ => none
def nodupB : List Str → Bool
  | [] => true
  | k :: r => !r.contains k && nodupB r
def arrange {α : Type} (ps : List Str) (vs : List α) (ks : List (Str × α)) : Option (List α) :=
  if ps.length = vs.length + ks.length ∧ ((ks.map (·.1)).all (fun k => (ps.drop vs.length).contains k) && nodupB (ks.map (·.1))) = true then (arrF ks (ps.drop vs.length)).map (vs ++ ·) else none
def setTg : Tg → PV → Env → Option Env
  | .var i, p, e => if i < e.length then some (e.set i (.pv p)) else none
  | .tup gs, .tup ps, e => setTgs gs ps e
  | .tup _, _, _ => none
where setTgs : List Tg → List PV → Env → Option Env
  | [], [], e => some e
  | g :: gs, p :: ps, e => match setTg g p e with
    | some e' => setTgs gs ps e'
    | none => none
  | _, _, _ => none
def wipeE (e : Env) : List Nat → Env
  | [] => e
  | v :: vs => (wipeE e vs).set v .no
def itItems : PV → Py (List PV)
  | p => ofO (itemsP p)
def noexc {α : Type} (x : Py α) : Py α := fun m => match x m with
  | .ok a m' => .ok a m'
  | _ => .stuck
def compLoop (f : PV → Py (Option PV)) : List PV → Py (List PV)
  | [] => pure []
  | x :: r => do
    let o ← f x
    let l ← compLoop f r
    match o with
    | some y => pure (y :: l)
    | none => pure l

mutual
def ev (C : Calls) : Ex → Env → Py PV
  | .var i, e => match e.at i with
    | .pv p => pure p
    | _ => stuck
  | .peek i, e => match e.at i with
    | .pv p => pure p
    | .own xs => pure (.lst xs)
    | _ => stuck
  | .deref a, e => do match ← ev C a e with
    | .ref n => do let xs ← mlst n; pure (.lst xs)
    | _ => stuck
  | .mix a b, e => do
    let x ← ev C a e
    let y ← ev C b e
    match x with
    | .ref n => do let xs ← mlst n; ixP (.lst xs) y
    | _ => stuck
  | .non, _ => pure .non
  | .bl b, _ => pure (.bl b)
  | .int i, _ => pure (.int i)
  | .str x, _ => pure (.str x)
  | .gint _ i, _ => pure (.int i)
  | .gstr _ x, _ => pure (.str x)
  | .call f es, e => do let vs ← evs C es e; C.fn f vs
  | .callK f es ks, e => do
    let vs ← evs C es e
    let zs ← evk C ks e
    match arrange (C.ps f) vs zs with
    | some l => C.fn f l
    | none => stuck
  | .bi b es, e => do let vs ← evs C es e; biP b vs
  | .sortedRev a, e => do let v ← ev C a e; sortedRevP v
  | .bin o a b, e => do let x ← ev C a e; let y ← ev C b e; binP o x y
  | .neg a, e => do match ← ev C a e with
    | .int i => pure (.int (-i))
    | _ => stuck
  | .cmp o a b, e => do let x ← ev C a e; let y ← ev C b e; let r ← cmpP o x y; pure (.bl r)
  | .chain o p a b c, e => do
    let x ← ev C a e
    let y ← ev C b e
    let r ← cmpP o x y
    if r then do let z ← ev C c e; let r ← cmpP p y z; pure (.bl r) else pure (.bl false)
  | .and a b, e => do match ← ev C a e with
    | .bl true => ev C b e
    | .bl false => pure (.bl false)
    | _ => stuck
  | .or a b, e => do match ← ev C a e with
    | .bl true => pure (.bl true)
    | .bl false => ev C b e
    | _ => stuck
  | .not a, e => do let x ← ev C a e; let r ← truthP x; pure (.bl (!r))
  | .ite c a b, e => do let x ← ev C c e; let r ← truthP x; if r then ev C a e else ev C b e
  | .tup es, e => do let vs ← evs C es e; need (fits vs.length); pure (.tup vs)
  | .lst es, e => do let vs ← evs C es e; need (fits vs.length); pure (.lst vs)
  | .ix a b, e => do let x ← ev C a e; let y ← ev C b e; ixP x y
  | .sl a lo hi, e => do let x ← ev C a e; let l ← evO C lo e; let h ← evO C hi e; slP x l h
  | .rev a, e => do match ← ev C a e with
    | .lst xs => pure (.lst xs.reverse)
    | _ => stuck
  | .isi a tys, e => do let x ← ev C a e; need (tyOf x != "?"); pure (.bl (tys.any (isTy x)))
  | .comp own g it c elt, e => do
    let xs ← evIt C it e
    need (fits xs.length)
    let l ← compLoop (fun x => match setTg g x (wipeE e own) with
      | some e' => noexc do
        let b ← evC C c e'
        if b then do let y ← ev C elt e'; pure (some y) else pure none
      | none => stuck) xs
    pure (.lst l)
  | .bm _ _ _, _ => stuck
  | .malloc a, e => do match ← ev C a e with
    | .lst xs => mnew (.lst xs)
    | _ => stuck
  | .mpop0 a, e => do match ← ev C a e with
    | .ref n => do match ← mlst n with
      | x :: xs => do mput n xs; pure x
      | [] => stuck
    | _ => stuck
  | .bad, _ => stuck
def evs (C : Calls) : List Ex → Env → Py (List PV)
  | [], _ => pure []
  | a :: r, e => do let v ← ev C a e; let vs ← evs C r e; pure (v :: vs)
def evk (C : Calls) : List (Str × Ex) → Env → Py (List (Str × PV))
  | [], _ => pure []
  | (x, a) :: r, e => do let v ← ev C a e; let vs ← evk C r e; pure ((x, v) :: vs)
def evO (C : Calls) : Option Ex → Env → Py (Option Int)
  | none, _ => pure none
  | some a, e => do match ← ev C a e with
    | .int i => pure (some i)
    | _ => stuck
def evC (C : Calls) : Option Ex → Env → Py Bool
  | none, _ => pure true
  | some a, e => do let x ← ev C a e; truthP x
def evIt (C : Calls) : It → Env → Py (List PV)
  | .seq a, e => do let x ← ev C a e; itItems x
  | .rng1 a, e => do match ← ev C a e with
    | .int j => rngP 0 j
    | _ => stuck
  | .rng2 a b, e => do
    let x ← ev C a e
    let y ← ev C b e
    match x, y with
    | .int i, .int j => rngP i j
    | _, _ => stuck
  | .enum a, e => do
    let x ← ev C a e
    let xs ← itItems x
    pure ((List.range xs.length).zipWith (fun i p => .tup [.int (i : Nat), p]) xs)
  | .zip a b, e => do
    let x ← ev C a e
    let y ← ev C b e
    let xs ← itItems x
    let ys ← itItems y
    pure (xs.zipWith (fun p q => .tup [p, q]) ys)
end

/-! ### statements -/
def sx {α : Type} (x : Py α) (e : Env) (k : α → Py Flow) : Py Flow := fun m => match x m with
  | .ok a m' => k a m'
  | .exc ex m' => .ok (.exc ex e) m'
  | .stuck => .stuck
def forL (body : PV → Env → Py Flow) : List PV → Env → Py Flow
  | [], e => pure (.next e)
  | x :: r, e => do match ← body x e with
    | .next e' => forL body r e'
    | .cont e' => forL body r e'
    | .brk e' => pure (.next e')
    | .ret p => pure (.ret p)
    | .exc ex e' => pure (.exc ex e')
def whileL (cond : Env → Py Bool) (body : Env → Py Flow) : Nat → Env → Py Flow
  | 0, _ => stuck
  | n + 1, e => sx (cond e) e fun b => if b then do match ← body e with
      | .next e' => whileL cond body n e'
      | .cont e' => whileL cond body n e'
      | .brk e' => pure (.next e')
      | .ret p => pure (.ret p)
      | .exc ex e' => pure (.exc ex e')
    else pure (.next e)
def whileFuel : Nat := 100000
mutual
def setW (C : Calls) : Wg → PV → Env → Py Env
  | .g t, p, e => ofO (setTg t p e)
  | .ix o i, p, e => do
    let x ← ev C o e
    let k ← ev C i e
    match x, k with
    | .ref n, .int k => do
      let xs ← mlst n
      match L2.ixN xs.length k with
      | some j => do mput n (xs.set j p); pure e
      | none => stuck
    | _, _ => stuck
  | .tup ws, .tup ps, e => setWs C ws ps e
  | .tup _, _, _ => stuck
def setWs (C : Calls) : List Wg → List PV → Env → Py Env
  | [], [], e => pure e
  | w :: ws, p :: ps, e => do let e' ← setW C w p e; setWs C ws ps e'
  | _, _, _ => stuck
end
def setPar : List (Nat × Bool) → List PV → Env → Option Env
  | [], [], e => some e
  | (i, false) :: r, p :: ps, e => if i < e.length then setPar r ps (e.set i (.pv p)) else none
  | (i, true) :: r, .lst xs :: ps, e => if i < e.length then setPar r ps (e.set i (.own xs)) else none
  | _, _, _ => none
mutual
def exec (C : Calls) : St → Env → Py Flow
  | .expr a, e => sx (ev C a e) e fun _ => pure (.next e)
  | .set i a, e => sx (ev C a e) e fun p => if i < e.length then pure (.next (e.set i (.pv p))) else stuck
  | .setOwn i a, e => sx (ev C a e) e fun p => match p with
    | .lst xs => if i < e.length then pure (.next (e.set i (.own xs))) else stuck
    | _ => stuck
  | .setT w a, e => sx (ev C a e) e fun p => sx (noexc (setW C w p e)) e fun e' => pure (.next e')
  | .par ws es, e => sx (evs C es e) e fun ps => match setPar ws ps e with
    | some e' => pure (.next e')
    | none => stuck
  | .aug i o a, e => match e.at i with
    | .pv (.int x) => sx (ev C a e) e fun y => match o, y with
      | .add, .int y => pure (.next (e.set i (.pv (.int (x + y)))))
      | .sub, .int y => pure (.next (e.set i (.pv (.int (x - y)))))
      | _, _ => stuck
    | _ => stuck
  | .append i a, e => match e.at i with
    | .own xs => sx (ev C a e) e fun p => if fits xs.length then pure (.next (e.set i (.own (xs ++ [p])))) else stuck
    | _ => stuck
  | .insert i k a, e => match e.at i with
    | .own xs => sx (evs C [k, a] e) e fun l => match l with
      | [.int j, p] => if fits xs.length && decide (0 ≤ j) && decide (j ≤ xs.length) then pure (.next (e.set i (.own (xs.take j.toNat ++ [p] ++ xs.drop j.toNat)))) else stuck
      | _ => stuck
    | _ => stuck
  | .setIx i k a, e => match e.at i with
    | .own xs => sx (ev C a e) e fun p => sx (ev C k e) e fun j => match j with
      | .int j => match L2.ixN xs.length j with
        | some n => pure (.next (e.set i (.own (xs.set n p))))
        | none => stuck
      | _ => stuck
    | _ => stuck
  | .ret a, e => sx (ev C a e) e fun p => pure (.ret p)
  | .ite c a b, e => sx (do let x ← ev C c e; truthP x) e fun r => if r then execs C a e else execs C b e
  | .for_ g it b, e => sx (evIt C it e) e fun xs => forL (fun x e => match setTg g x e with
    | some e' => execs C b e'
    | none => stuck) xs e
  | .while_ c b, e => whileL (fun e => do let x ← ev C c e; truthP x) (fun e => execs C b e) whileFuel e
  | .freeze i, e => match e.at i with
    | .own xs => pure (.next (e.set i (.pv (.lst xs))))
    | _ => pure (.next e)
  | .cont, e => pure (.cont e)
  | .brk, e => pure (.brk e)
  | .bad, _ => stuck
  | .pass, e => pure (.next e)
  | .retN, _ => pure (.ret .non)
  | .retOwn i, e => match e.at i with
    | .own xs => pure (.ret (.lst xs))
    | _ => stuck
def execs (C : Calls) : List St → Env → Py Flow
  | [], e => pure (.next e)
  | s :: r, e => do match ← exec C s e with
    | .next e' => execs C r e'
    | f => pure f
end

/-! ### programs -/
/-- np parameters, the names of all slots (the parameters first), whether a new list comes back -/
structure Fd where
  np : Nat
  N : List Str
  fr : Bool
  body : List St
def psT (T : List Fd) (g : Nat) : List Str := match T[g]? with
  | some F => F.N.take F.np
  | none => []
def callT (T : List Fd) : Nat → Nat → List PV → Py PV
  | 0, _, _ => stuck
  | d + 1, f, args => match T[f]? with
    | some F => if args.length = F.np then fun m => match execs ⟨callT T d, psT T⟩ F.body (args.map Slot.pv ++ List.replicate (F.N.length - F.np) .no) m with
        | .ok (.ret p) m' => .ok p m'
        | .ok (.next _) m' => .ok .non m'
        | .ok (.exc x _) m' => .exc x m'
        | _ => .stuck
      else stuck
    | none => stuck
def callsT (T : List Fd) (d : Nat) : Calls := ⟨callT T d, psT T⟩
end Nl
end
section
set_option Elab.async false
set_option linter.all false
set_option maxRecDepth 100000
/-! Nl, 1: values in the abstract heap; what an expression's run asks. -/
namespace Nl
open PySem PySem.Spec PyProof.Rows L2

/-- F: what is never written again; al: where the memory's objects stand -/
structure G where
  F : Hp
  al : List Addr
structure Lk where
  fnA : Nat → Option Addr
  clA : Nat → Option Addr
section
variable (L : Lk) (g : G)
mutual
def Rep : PV → V → Prop
  | .non, v => v = V.non
  | .bl b, v => v = V.bl b
  | .int i, v => v = V.int i
  | .str x, v => v = V.str x
  | .tup ps, v => ∃ a vs, v = V.ref a ∧ g.F a = some (.tup vs) ∧ RepL ps vs
  | .lst ps, v => ∃ a vs, v = V.ref a ∧ g.F a = some (.lst vs) ∧ RepL ps vs
  | .ref n, v => ∃ a, v = V.ref a ∧ g.al[n]? = some a
  | .fn f, v => ∃ a, v = V.ref a ∧ L.fnA f = some a
  | .cls c, v => ∃ a, v = V.ref a ∧ L.clA c = some a
  | .ty n, v => v = V.ty n
  | _, _ => False
def RepL : List PV → List V → Prop
  | [], vs => vs = []
  | p :: ps, vs => ∃ v r, vs = v :: r ∧ Rep p v ∧ RepL ps r
end
end
structure Ext (g g' : G) : Prop where
  F : ∀ a o, g.F a = some o → g'.F a = some o
  al : ∃ more, g'.al = g.al ++ more
theorem Ext.at {g g' : G} (e : Ext g g') {n : Nat} {a : Addr} (h : g.al[n]? = some a) : g'.al[n]? = some a := by
  obtain ⟨more, q⟩ := e.al
  rw [q, List.getElem?_append_left (List.getElem?_eq_some_iff.mp h).1]
  exact h
theorem Ext.mem {g g' : G} (e : Ext g g') {a : Addr} (h : a ∈ g.al) : a ∈ g'.al := by
  obtain ⟨more, q⟩ := e.al
  rw [q]
  exact List.mem_append_left _ h
theorem Ext.rfl' {g : G} : Ext g g := ⟨fun _ _ h => h, [], by simp⟩
theorem Ext.trans {a b c : G} (x : Ext a b) (y : Ext b c) : Ext a c := ⟨fun d o h => y.F d o (x.F d o h), by
  obtain ⟨m, e⟩ := x.al
  obtain ⟨m', e'⟩ := y.al
  exact ⟨m ++ m', by rw [e', e, List.append_assoc]⟩⟩
mutual
theorem Rep.mono {L : Lk} {g g' : G} (e : Ext g g') : ∀ {p : PV} {v : V}, Rep L g p v → Rep L g' p v
  | .non, _, h => h
  | .bl _, _, h => h
  | .int _, _, h => h
  | .str _, _, h => h
  | .tup ps, _, h => by
    unfold Rep at h ⊢
    obtain ⟨a, vs, h1, h2, h3⟩ := h
    exact ⟨a, vs, h1, e.F _ _ h2, RepL.mono e h3⟩
  | .lst ps, _, h => by
    unfold Rep at h ⊢
    obtain ⟨a, vs, h1, h2, h3⟩ := h
    exact ⟨a, vs, h1, e.F _ _ h2, RepL.mono e h3⟩
  | .ref n, _, h => by
    unfold Rep at h ⊢
    obtain ⟨a, h1, h2⟩ := h
    exact ⟨a, h1, e.at h2⟩
  | .fn _, _, h => by unfold Rep at h ⊢; exact h
  | .cls _, _, h => by unfold Rep at h ⊢; exact h
  | .ty _, _, h => h
  | .dic _, _, h => by unfold Rep at h; exact h.elim
  | .lam _ _, _, h => by unfold Rep at h; exact h.elim
theorem RepL.mono {L : Lk} {g g' : G} (e : Ext g g') : ∀ {ps : List PV} {vs : List V}, RepL L g ps vs → RepL L g' ps vs
  | [], _, h => h
  | p :: ps, _, h => by
    unfold RepL at h ⊢
    obtain ⟨v, r, h1, h2, h3⟩ := h
    exact ⟨v, r, h1, Rep.mono e h2, RepL.mono e h3⟩
end
theorem RepL.nil {L : Lk} {g : G} : RepL L g [] [] := by unfold RepL; rfl
theorem RepL.cons {L : Lk} {g : G} {p : PV} {ps : List PV} {v : V} {vs : List V} (h : Rep L g p v) (t : RepL L g ps vs) : RepL L g (p :: ps) (v :: vs) := by
  unfold RepL; exact ⟨v, vs, rfl, h, t⟩
theorem RepL.cons_inv {L : Lk} {g : G} {p : PV} {ps : List PV} {vs : List V} (h : RepL L g (p :: ps) vs) : ∃ v r, vs = v :: r ∧ Rep L g p v ∧ RepL L g ps r := by
  unfold RepL at h; exact h
theorem RepL.nil_inv {L : Lk} {g : G} {vs : List V} (h : RepL L g [] vs) : vs = [] := by unfold RepL at h; exact h
theorem RepL.length {L : Lk} {g : G} : ∀ {ps : List PV} {vs : List V}, RepL L g ps vs → ps.length = vs.length
  | [], _, h => by rw [h.nil_inv]; rfl
  | p :: ps, _, h => by
    obtain ⟨v, r, rfl, _, h3⟩ := h.cons_inv
    rw [List.length_cons, List.length_cons, RepL.length h3]
theorem RepL.append {L : Lk} {g : G} : ∀ {ps qs : List PV} {vs ws : List V}, RepL L g ps vs → RepL L g qs ws → RepL L g (ps ++ qs) (vs ++ ws)
  | [], _, _, _, h, k => by rw [h.nil_inv]; exact k
  | p :: ps, _, _, _, h, k => by
    obtain ⟨v, r, rfl, h2, h3⟩ := h.cons_inv
    exact .cons h2 (RepL.append h3 k)
theorem RepL.at {L : Lk} {g : G} : ∀ {ps : List PV} {vs : List V} {i : Nat} {p : PV}, RepL L g ps vs → ps[i]? = some p → ∃ v, vs[i]? = some v ∧ Rep L g p v
  | [], _, _, _, _, e => by simp at e
  | q :: ps, _, 0, p, h, e => by
    obtain ⟨v, r, rfl, h2, _⟩ := h.cons_inv
    simp at e; subst e
    exact ⟨v, rfl, h2⟩
  | q :: ps, _, i + 1, p, h, e => by
    obtain ⟨v, r, rfl, _, h3⟩ := h.cons_inv
    obtain ⟨w, e1, e2⟩ := RepL.at (i := i) h3 (by simpa using e)
    exact ⟨w, by simpa using e1, e2⟩
theorem RepL.at' {L : Lk} {g : G} : ∀ {ps : List PV} {vs : List V} {i : Nat} {v : V}, RepL L g ps vs → vs[i]? = some v → ∃ p, ps[i]? = some p ∧ Rep L g p v := by
  intro ps vs i v h e
  have l := h.length
  have hi : i < ps.length := by rw [l]; exact (List.getElem?_eq_some_iff.mp e).1
  obtain ⟨w, e1, e2⟩ := h.at (List.getElem?_eq_getElem hi)
  rw [e] at e1; cases e1
  exact ⟨_, List.getElem?_eq_getElem hi, e2⟩
theorem RepL.take {L : Lk} {g : G} : ∀ {ps : List PV} {vs : List V} (n : Nat), RepL L g ps vs → RepL L g (ps.take n) (vs.take n)
  | _, _, 0, _ => by simp; exact .nil
  | [], _, n + 1, h => by rw [h.nil_inv]; simp; exact .nil
  | p :: ps, _, n + 1, h => by
    obtain ⟨v, r, rfl, h2, h3⟩ := h.cons_inv
    exact .cons h2 (RepL.take n h3)
theorem RepL.drop {L : Lk} {g : G} : ∀ {ps : List PV} {vs : List V} (n : Nat), RepL L g ps vs → RepL L g (ps.drop n) (vs.drop n)
  | _, _, 0, h => h
  | [], _, n + 1, h => by rw [h.nil_inv]; simp; exact .nil
  | p :: ps, _, n + 1, h => by
    obtain ⟨v, r, rfl, h2, h3⟩ := h.cons_inv
    exact RepL.drop n h3
theorem RepL.set {L : Lk} {g : G} {p : PV} {v : V} (hp : Rep L g p v) : ∀ {ps : List PV} {vs : List V} (i : Nat), RepL L g ps vs → RepL L g (ps.set i p) (vs.set i v)
  | [], _, _, h => by rw [h.nil_inv]; exact .nil
  | q :: ps, _, 0, h => by
    obtain ⟨v, r, rfl, h2, h3⟩ := h.cons_inv
    exact .cons hp h3
  | q :: ps, _, i + 1, h => by
    obtain ⟨v, r, rfl, h2, h3⟩ := h.cons_inv
    exact .cons h2 (RepL.set hp i h3)
theorem RepL.reverse {L : Lk} {g : G} : ∀ {ps : List PV} {vs : List V}, RepL L g ps vs → RepL L g ps.reverse vs.reverse
  | [], _, h => by rw [h.nil_inv]; exact .nil
  | p :: ps, _, h => by
    obtain ⟨v, r, rfl, h2, h3⟩ := h.cons_inv
    rw [List.reverse_cons, List.reverse_cons]
    exact (RepL.reverse h3).append (.cons h2 .nil)
theorem RepL.ints {L : Lk} {g : G} : ∀ {ns : List Int}, RepL L g (ns.map PV.int) (ns.map V.int)
  | [] => .nil
  | n :: ns => .cons (by unfold Rep; rfl) RepL.ints
theorem RepL.flatRep {L : Lk} {g : G} {ps : List PV} {vs : List V} (h : RepL L g ps vs) : ∀ k : Nat, RepL L g (List.replicate k ps).flatten (List.replicate k vs).flatten
  | 0 => .nil
  | k + 1 => by
    rw [List.replicate_succ, List.replicate_succ, List.flatten_cons, List.flatten_cons]
    exact h.append (RepL.flatRep h k)

/-- a list that is to be read -/
def LL (H : Hp) (a : Addr) (xs : List V) : Prop := Rd H a (.lst xs)
theorem LL.sq {K : PySem.W.Frag} {H : Hp} {a : Addr} {xs : List V} (h : LL H a xs) : SqL K H a xs := .inl h
theorem LL.of {H : Hp} {a : Addr} {xs : List V} (h : H a = some (.lst xs)) : LL H a xs := .inl h
/-- what F says at an address, in the heap -/
def FOk (H : Hp) (a : Addr) : HO → Prop
  | .lst xs => LL H a xs
  | .tup xs => H a = some (.tup xs)
  | _ => False
def ObjR (L : Lk) (g : G) (H : Hp) (a : Addr) : MO → Prop
  | .lst ps => ∃ vs, H a = some (.lst vs) ∧ RepL L g ps vs
  | .ins c fs => ∃ C dx vfs, H a = some (.ins C dx vfs) ∧ L.clA c = some C ∧ vfs.map (·.1) = fs.map (·.1) ∧ RepL L g (fs.map (·.2)) (vfs.map (·.2))
structure Ok (L : Lk) (g : G) (H : Hp) (m : Mem) : Prop where
  sub : ∀ a o, g.F a = some o → FOk H a o
  len : g.al.length = m.length
  nd : g.al.Nodup
  obj : ∀ (n : Nat) (a : Addr) (o : MO), g.al[n]? = some a → m[n]? = some o → g.F a = none ∧ ObjR L g H a o
structure Post (g : G) (H : Hp) (g' : G) (H' : Hp) : Prop where
  ext : Ext g g'
  keep : ∀ a o, H a = some o → a ∉ g.al → H' a = some o
  newF : ∀ a o, g'.F a = some o → g.F a = some o ∨ H a = none
  newA : ∀ a, a ∈ g'.al → a ∈ g.al ∨ H a = none
  there : ∀ a, H' a = none → H a = none
theorem Post.rfl' {g : G} {H : Hp} : Post g H g H := ⟨.rfl', fun _ _ h _ => h, fun _ _ h => .inl h, fun _ h => .inl h, fun _ h => h⟩
theorem Post.trans {g1 g2 g3 : G} {H1 H2 H3 : Hp} (x : Post g1 H1 g2 H2) (y : Post g2 H2 g3 H3) : Post g1 H1 g3 H3 where
  ext := x.ext.trans y.ext
  keep := fun a o h n => by
    refine y.keep a o (x.keep a o h n) fun q => ?_
    rcases x.newA a q with z | z
    · exact n z
    · rw [h] at z; cases z
  newF := fun a o h => by
    rcases y.newF a o h with z | z
    · exact x.newF a o z
    · exact .inr (x.there a z)
  newA := fun a h => by
    rcases y.newA a h with z | z
    · exact x.newA a z
    · exact .inr (x.there a z)
  there := fun a h => x.there a (y.there a h)

/-! ### slots -/
def SlotOk (L : Lk) (g : G) (H H0 : Hp) : Slot → Option (Option V) → Prop
  | .no, _ => True
  | .pv p, v => ∃ u, v = some (some u) ∧ Rep L g p u
  | .own ps, v => ∃ a vs, v = some (some (.ref a)) ∧ H a = some (.lst vs) ∧ RepL L g ps vs ∧ g.F a = none ∧ a ∉ g.al ∧ H0 a = none
  | .ownD _, _ => False
structure EnvOk (L : Lk) (g : G) (H H0 : Hp) (env : Env) (σ : L2.St) : Prop where
  len : env.length = σ.length
  at_ : ∀ (i : Nat) (s : Slot), env[i]? = some s → SlotOk L g H H0 s σ[i]?
  apart : ∀ (i j : Nat) (ps qs : List PV) (a : Addr), i ≠ j → env[i]? = some (.own ps) → env[j]? = some (.own qs) → σ[i]? = some (some (.ref a)) → σ[j]? = some (some (.ref a)) → False
theorem SlotOk.post {L : Lk} {g g' : G} {H H' H0 : Hp} (p : Post g H g' H') {s : Slot} {v : Option (Option V)} (h : SlotOk L g H H0 s v) : SlotOk L g' H' H0 s v := by
  cases s with
  | no => trivial
  | pv q =>
    obtain ⟨u, e, r⟩ := h
    exact ⟨u, e, r.mono p.ext⟩
  | own ps =>
    obtain ⟨a, vs, e, h1, h2, h3, h4, h5⟩ := h
    refine ⟨a, vs, e, p.keep _ _ h1 h4, h2.mono p.ext, ?_, ?_, h5⟩
    · cases q : g'.F a with
      | none => rfl
      | some o =>
        rcases p.newF a o q with z | z
        · rw [h3] at z; cases z
        · rw [h1] at z; cases z
    · intro q
      rcases p.newA a q with z | z
      · exact h4 z
      · rw [h1] at z; cases z
  | ownD _ => exact h.elim
theorem EnvOk.post {L : Lk} {g g' : G} {H H' H0 : Hp} {env : Env} {σ : L2.St} (e : EnvOk L g H H0 env σ) (p : Post g H g' H') : EnvOk L g' H' H0 env σ :=
  ⟨e.len, fun i s h => (e.at_ i s h).post p, e.apart⟩

/-! ### results -/
abbrev Rl := G → Hp → PV → V → Prop
/-- an exception with its attributes -/
structure ExnR (L : Lk) (g : G) (H : Hp) (x : Exn) (cls : Value) (d : Option Addr) : Prop where
  cls : ∃ C, L.clA x.cls = some C ∧ cls = .ref C
  fs : x.fs ≠ [] → ∃ dd vfs, d = some dd ∧ H dd = some (.xd vfs) ∧ vfs.map (·.1) = x.fs.map (·.1) ∧ RepL L g (x.fs.map (·.2)) (vfs.map (·.2))
section
variable (L : Lk) (W : WX) (σ : L2.St)
def Out {α β : Type} (g : G) (H : Hp) (r : R α) (Rl : G → Hp → α → β → Prop) (Q : β → Hp → Prop) : Prop := match r with
  | .ok p m => ∀ g' H' v, Ok L g' H' m → Post g H g' H' → Rl g' H' p v → Q v H'
  | .exc x m => ∀ g' H' cls d, Ok L g' H' m → Post g H g' H' → ExnR L g' H' x cls d → W cls d σ H'
  | .stuck => False
end
section
variable {L : Lk} {W : WX} {σ : L2.St} {α β γ δ : Type}
theorem Out.post {g g1 : G} {H H1 : Hp} {r : R α} {Rl : G → Hp → α → β → Prop} {Q : β → Hp → Prop} (h : Out L W σ g H r Rl Q) (p : Post g H g1 H1) : Out L W σ g1 H1 r Rl Q := by
  cases r with
  | ok a m => exact fun g' H' v o q => h g' H' v o (p.trans q)
  | exc x m => exact fun g' H' cls d o q => h g' H' cls d o (p.trans q)
  | stuck => exact h
theorem Out.bind {g : G} {H : Hp} {m : Mem} {x : Py α} {f : α → Py γ} {RA : G → Hp → α → β → Prop} {RB : G → Hp → γ → δ → Prop} {Q : δ → Hp → Prop} {Q1 : β → Hp → Prop} (h : Out L W σ g H ((x >>= f) m) RB Q)
    (k : ∀ p m1 g1 H1 v, Ok L g1 H1 m1 → Post g H g1 H1 → RA g1 H1 p v → Out L W σ g1 H1 (f p m1) RB Q → Q1 v H1) : Out L W σ g H (x m) RA Q1 := by
  have h' : Out L W σ g H (match x m with | .ok a m' => f a m' | .exc e m' => .exc e m' | .stuck => .stuck) RB Q := h
  cases e : x m with
  | ok a m' =>
    rw [e] at h'
    exact fun g' H' v o p r => k a m' g' H' v o p r (Out.post h' p)
  | exc ex m' =>
    rw [e] at h'
    exact h'
  | stuck =>
    rw [e] at h'
    exact h'
/-- a pure first part -/
theorem Out.need {g : G} {H : Hp} {m : Mem} {b : Bool} {f : Unit → Py γ} {RB : G → Hp → γ → δ → Prop} {Q : δ → Hp → Prop} (h : Out L W σ g H ((need b >>= f) m) RB Q) : b = true ∧ Out L W σ g H (f () m) RB Q := by
  cases b with
  | true => exact ⟨rfl, h⟩
  | false => exact h.elim
theorem Out.ret {g : G} {H : Hp} {m : Mem} {a : α} {Rl : G → Hp → α → β → Prop} {Q : β → Hp → Prop} (h : Out L W σ g H ((pure a : Py α) m) Rl Q) {g' : G} {H' : Hp} {v : β} (o : Ok L g' H' m) (p : Post g H g' H') (r : Rl g' H' a v) : Q v H' :=
  h g' H' v o p r
end

/-! ### new objects -/
section
variable {L : Lk} {g : G} {H : Hp} {m : Mem} {p : Addr}
def G.add (g : G) (p : Addr) (o : HO) : G := ⟨fun b => if b = p then some o else g.F b, g.al⟩
theorem LL.keep {H' : Hp} {a : Addr} {xs : List V} (h : LL H a xs) (k : ∀ o, H a = some o → H' a = some o) : LL H' a xs := by
  rcases h with h | ⟨o, h⟩
  · exact .inl (k _ h)
  · exact .inr ⟨o, k _ h⟩
theorem FOk.keep {H' : Hp} {a : Addr} {o : HO} (h : FOk H a o) (k : ∀ o, H a = some o → H' a = some o) : FOk H' a o := by
  cases o with
  | lst xs => exact LL.keep h k
  | tup xs => exact k _ h
  | _ => exact h.elim
theorem ObjR.keep {g' : G} {H' : Hp} {a : Addr} {o : MO} (e : Ext g g') (k : ∀ o, H a = some o → H' a = some o) (h : ObjR L g H a o) : ObjR L g' H' a o := by
  cases o with
  | lst ps =>
    obtain ⟨vs, h1, h2⟩ := h
    exact ⟨vs, k _ h1, h2.mono e⟩
  | ins c fs =>
    obtain ⟨C, dx, vfs, h1, h2, h3, h4⟩ := h
    exact ⟨C, dx, vfs, k _ h1, h2, h3, h4.mono e⟩
theorem ObjR.there {a : Addr} {o : MO} (h : ObjR L g H a o) : H a ≠ none := by
  cases o with
  | lst ps =>
    obtain ⟨vs, h1, _⟩ := h
    rw [h1]; simp
  | ins c fs =>
    obtain ⟨C, dx, vfs, h1, _⟩ := h
    rw [h1]; simp
theorem Ok.alThere (o : Ok L g H m) {a : Addr} (h : a ∈ g.al) : H a ≠ none := by
  obtain ⟨n, e⟩ := List.mem_iff_getElem?.mp h
  have hn : n < m.length := by rw [← o.len]; exact (List.getElem?_eq_some_iff.mp e).1
  exact (o.obj n a _ e (List.getElem?_eq_getElem hn)).2.there
/-- the heap with a new object; nothing said of it -/
theorem post_new {o : HO} (hp : H p = none) : Post g H g (upd H p o) :=
  ⟨.rfl', fun a u h _ => by rw [upd_ne (ne_of_none h hp)]; exact h, fun _ _ h => .inl h, fun _ h => .inl h, fun a h => by
    by_cases q : a = p
    · rw [q]; exact hp
    · rw [upd_ne q] at h; exact h⟩
theorem keep_new {o : HO} (hp : H p = none) (a : Addr) : ∀ u, H a = some u → upd H p o a = some u := fun u h => by rw [upd_ne (ne_of_none h hp)]; exact h
theorem Ok.new (k : Ok L g H m) {o : HO} (hp : H p = none) : Ok L g (upd H p o) m :=
  ⟨fun a u h => (k.sub a u h).keep (keep_new hp a), k.len, k.nd, fun n a u h1 h2 => ⟨(k.obj n a u h1 h2).1, (k.obj n a u h1 h2).2.keep .rfl' (keep_new hp a)⟩⟩
/-- an object that stands is never written again -/
theorem ext_add {o : HO} (hF : g.F p = none) : Ext g (g.add p o) := ⟨fun a u h => by
  show (if a = p then some o else g.F a) = some u
  rw [if_neg (fun q => by rw [q, hF] at h; cases h)]
  exact h, [], by simp [G.add]⟩
theorem Ok.add (k : Ok L g H m) {o : HO} (hF : g.F p = none) (hA : p ∉ g.al) (h : FOk H p o) : Ok L (g.add p o) H m := by
  refine ⟨fun a u e => ?_, k.len, k.nd, fun n a u h1 h2 => ?_⟩
  · have e' : (if a = p then some o else g.F a) = some u := e
    by_cases q : a = p
    · rw [if_pos q] at e'; cases e'; rw [q]; exact h
    · rw [if_neg q] at e'; exact k.sub a u e'
  · obtain ⟨q1, q2⟩ := k.obj n a u h1 h2
    refine ⟨?_, q2.keep (ext_add hF) fun _ e => e⟩
    show (if a = p then some o else g.F a) = none
    rw [if_neg (fun (q : a = p) => hA (by rw [← q]; exact List.mem_iff_getElem?.mpr ⟨n, h1⟩))]
    exact q1
theorem post_add {o : HO} (hF : g.F p = none) {g0 : G} {H0 : Hp} (q : Post g0 H0 g H) (h0 : H0 p = none) : Post g0 H0 (g.add p o) H :=
  ⟨q.ext.trans (ext_add hF), q.keep, fun a u e => by
    have e' : (if a = p then some o else g.F a) = some u := e
    by_cases z : a = p
    · exact .inr (z ▸ h0)
    · rw [if_neg z] at e'; exact q.newF a u e', q.newA, q.there⟩
theorem FOk.there {a : Addr} {o : HO} (h : FOk H a o) : H a ≠ none := by
  cases o with
  | lst xs =>
    rcases h with h | ⟨ob, h⟩
    · rw [h]; simp
    · rw [h]; simp
  | tup xs => rw [show H a = some (.tup xs) from h]; simp
  | _ => exact h.elim
theorem F_new (k : Ok L g H m) (hp : H p = none) : g.F p = none := by
  cases q : g.F p with
  | none => rfl
  | some o => exact absurd hp (k.sub p o q).there
theorem al_new (k : Ok L g H m) (hp : H p = none) : p ∉ g.al := fun q => k.alThere q hp
end
end Nl
end
section
set_option Elab.async false
set_option linter.all false
set_option maxRecDepth 100000
/-! Nl, 2: calls while no guard of a repr stands around. -/
namespace Nl
open PySem PySem.Spec PyProof.Rows L2

/-- a def keeps a promise wherever no repr runs around -/
structure FnG (P : Program) (w : World) (K : PySem.W.Frag) (mg : PySem.Str → Option Value) (base : Heap) (k : Nat) (f : Addr) (fd : FuncData) (ps : List PySem.Str) (sp : Sp) : Prop where
  len : ∀ vs H Q E, sp vs H Q E → vs.length = ps.length
  go : ∀ (A : Around) (outer : List PySem.Env) (s : Shared) (H : Hp) (args : Args) (us : List Value) (vs : List V) (Q : VK) (E : XK), Room k A → A.guards = some [] → Env0 P w K mg base A outer s H → BindsTo s fd args (ps.zip us) → Vals vs us →
    sp vs H Q E → codeAny (model P w) A (.call (.ref f) args) (CR (L2.CX P w) outer P w H s Q E) s
theorem FnG.mono {P : Program} {w : World} {K : PySem.W.Frag} {mg : PySem.Str → Option Value} {base : Heap} {j k : Nat} {f : Addr} {fd : FuncData} {ps : List PySem.Str} {sp : Sp} (F : FnG P w K mg base j f fd ps sp) (h : j ≤ k) : FnG P w K mg base k f fd ps sp :=
  ⟨F.len, fun A o s H a us vs Q E r => F.go A o s H a us vs Q E (r.mono h)⟩
section
variable {X : Cx} {k : Nat} {f C : Addr} {fd : FuncData} {ps : List PySem.Str} {sp : Sp} {W : WX} {pins : List (Addr × Obj)} {σ : L2.St} {H : Hp} {s : Shared} {Q : VK} {us : List Value} {vs : List V}
/-- what leaves a callee at these slots -/
theorem landsAt (tk : Takes X W) {e : Value} {s' : Shared} (I : Inv X pins σ H s) (c : L2.CX X.prog X.w X.stack H s (fun cls d H' => W cls d σ H') e s') : X.xe e s' :=
  tk _ _ (XE.of_call I (fun _ _ _ q => q) c)
theorem CR.elim {r : Result} {s' : Shared} (tk : Takes X W) (I : Inv X pins σ H s) (h : CR (L2.CX X.prog X.w) X.stack X.prog X.w H s Q (fun cls d H' => W cls d σ H') r s') :
    wants (EP X pins σ Q) X.xe r s' := by
  rcases r with e | fl
  · exact landsAt tk I h
  · rcases fl with _ | _ | _ | u
    · exact h.elim
    · exact h.elim
    · exact h.elim
    · exact I.after h
theorem callG {args : Args} (F : FnG X.prog X.w X.K X.mg X.base k f fd ps sp) (hr : Room k X.A) (hg : X.A.guards = some []) (tk : Takes X W) (I : Inv X pins σ H s) (hb : BindsTo s fd args (ps.zip us)) (r : Vals vs us)
    (h : sp vs H Q fun cls d H' => W cls d σ H') : wpAny (model X.prog X.w) X.A (call (.ref f) args.pos args.kw) (EP X pins σ Q) X.xe s :=
  wpAny_call (codeAny_mono (F.go X.A X.stack s H args us vs Q _ hr hg I.env0 hb r h) fun r s' q => CR.elim tk I q)
end

/-- a def's body, wherever no repr runs around -/
theorem fnG_of {P : Program} {w : World} {K : PySem.W.Frag} {mg : PySem.Str → Option Value} {base : Heap} {k : Nat} {f : Addr} {name qual : PySem.Str} {params : Arguments} {body : List Stmt} {scope : Scope} {dV kV doc pm cdv ct oc : Value} {an od : Option Addr}
    {osl : Array (Option Value)} {N ps : List PySem.Str} {sp : Sp} (at_ : K.lookup f = some ⟨oc, od, .func (PySem.W.fnOf name qual params body scope dV kV doc pm an cdv ct), osl⟩) (code : PySem.W.codeIn K cdv qual = true) (sc : FnScope N ps scope)
    (len : ∀ vs H Q E, sp vs H Q E → vs.length = ps.length)
    (inner : ∀ (A : Around) (outer : List PySem.Env) (s : Shared) (H : Hp) (vs : List V) (Q : VK) (E : XK), Room k (A.deeper (envOfC qual scope s.heap.objs.size f cdv)) → A.guards = some [] → sp vs H Q E →
      ∃ t, PSs (cxOf (L2.CX P w) P w K mg base N qual scope f cdv A outer s H E) body t ∧ t { nx := fun _ H' => Q .non H', rt := Q } (start N vs) H) :
    FnG P w K mg base (k + 1) f (PySem.W.fnOf name qual params body scope dV kV doc pm an cdv ct) ps sp := by
  constructor
  · exact len
  intro A outer s H args us vs Q E room gds e0 bind rel want
  have lenV := len _ _ _ _ want
  have inK : K.In s.heap := e0.mod.kin.keeps fun b o e => (e0.bs b o e).1
  have noLim : s.heap.NoLimit := e0.mod.nolimit.keeps fun b o e => (e0.bs b o e).1
  have kinds : ∀ y ∈ ps.zip us, scope.names.lookup y.1 = some .local ∨ (scope.names.lookup y.1 = some .cell ∧ ((cellsFrom (s.heap.objs.size + 1) scope.names []).lookup y.1).isSome = true) := by
    rintro ⟨n, v⟩ hy
    have hn := (List.of_mem_zip hy).1
    cases sc.par n hn with
    | inl q => exact Or.inl q
    | inr q => exact Or.inr ⟨q, PySem.W.cellsFrom_some _ _ _ (Or.inl q)⟩
  apply codeAny_call_function room.depth (inK _ _ at_) rfl sc.co sc.gen rfl (PySem.W.codeRec_of inK code)
  apply bind
  apply wpAny_newFunctionEnv_cells sc.kind kinds
  intro env he s1 x
  subst he
  constructor
  · exact noLim.keeps x.toInCall.keep
  apply codeAny_func
  obtain ⟨t, ht, hq⟩ := inner A outer s H vs Q E (room.deeper _) gds want
  have I : Inv (cxOf (L2.CX P w) P w K mg base N qual scope f cdv A outer s H E) [] (start N vs) H s1 := inv_start sc room.hd e0 lenV rel x
  have done : ∀ {σ' : L2.St} {H' : Hp} {v : V} {u : Value} {s' : Shared}, Inv (cxOf (L2.CX P w) P w K mg base N qual scope f cdv A outer s H E) [] σ' H' s' → RelV v u → Q v H' → CE outer P w H s Q u s' := by
    intro σ' H' v u s' J rv q
    exact ⟨v, H', J.os, J.bare, J.base, J.hok, rv, q⟩
  apply wpAny_mono (ht.run [] s1 (start N vs) H _ I hq)
  · intro fl s' hs
    rcases fl with _ | _ | _ | u
    · obtain ⟨σ', H', J, q⟩ := hs
      exact done (v := V.non) (u := Value.none) J rfl q
    · obtain ⟨_, _, _, q⟩ := hs
      exact q.elim
    · obtain ⟨_, _, _, q⟩ := hs
      exact q.elim
    · obtain ⟨v, σ', H', J, rv, q⟩ := hs
      exact done J rv q
  · exact fun e s' hs => hs

/-- the law's call, from its def's promise; K holds no list -/
theorem lawG {P : Program} {w : World} {K : PySem.W.Frag} {mg mb : PySem.Str → Option Value} {k : Nat} {fa a : Addr} {fd : FuncData} {x : PySem.Str} {sp : Sp} {s₁ : Shared} {vs : List Value} {ns : List Int}
    (inK : K.In s₁.heap) (gl : s₁.heap.Ns mainGlobals mg) (bl : s₁.heap.Ns builtinsNs mb) (bb : ∀ x : PySem.Str, x ≠ "__name__" → mb x = bootBuiltins x) (lim : s₁.heap.NoLimit) (gens : s₁.gens = #[])
    (at_ : s₁.heap.get? a = some { cls := .type "list", data := .seq vs.toArray }) (isInts : IntsAre vs ns) (few : ns.length ≤ sizeLine) (room : Room k callerA) (notK : K.lookup a = none)
    (F : ∀ base : Heap, K.In base → base.Ns mainGlobals mg → FnG P w K mg base k fa fd [x] sp) (bind : ∀ (s : Shared) (u : Value), BindsTo s fd ⟨[u], []⟩ [(x, u)])
    (ask : ∀ H : Hp, (∀ b, b ≠ a → H b = none) → Rd H a (.lst (ns.map V.int)) → sp [.ref a] H (fun v _ => v = .bl true) fun _ _ _ => False) :
    codeAny (model P w) callerA (.call (.ref fa) ⟨[.ref a], []⟩) (fun r s' => r = .ok (.ret (.bool true)) ∧ OldK s₁.heap s'.heap ∧ s'.os = s₁.os ∧ AllBare s'.gens) s₁ := by
  have rv : Vals (ns.map V.int) vs := vals_ints isInts
  have lenV := isInts.length
  generalize hH : (fun b => if b = a then some (HO.frz { cls := .type "list", data := .seq vs.toArray } (.lst (ns.map V.int))) else none : Hp) = H
  have Ha : H a = some (HO.frz { cls := .type "list", data := .seq vs.toArray } (.lst (ns.map V.int))) := by rw [← hH]; exact if_pos rfl
  have Hn : ∀ b, b ≠ a → H b = none := fun b hb => by rw [← hH]; exact if_neg hb
  have ok : HOk P w H s₁.heap := by
    intro b u e
    by_cases hb : b = a
    · subst hb
      rw [Ha] at e
      cases e
      exact ⟨at_, by rw [List.length_map]; exact few, vs, _, rv, at_⟩
    · rw [Hn b hb] at e
      cases e
  have into : ∀ {b : Addr} {o : Obj}, s₁.heap.get? b = some o → H b = none → (hidT s₁.heap H).get? b = some o := fun e n => hidT_get e n
  have dictNo : ∀ {b : Addr} {o : Obj} {es : Array DictEntry} {ep : Nat}, s₁.heap.get? b = some o → o.data = .dict es ep → H b = none := by
    intro b o es ep e d
    by_cases hb : b = a
    · subst hb
      rw [at_] at e
      cases e
      cases d
    · exact Hn b hb
  have nsB : ∀ {b : Addr} {m : PySem.Str → Option Value}, s₁.heap.Ns b m → (hidT s₁.heap H).Ns b m := by
    rintro b m ⟨o, es, ep, e, d, r⟩
    exact ⟨o, es, ep, into e (dictNo e d), d, r⟩
  have kB : K.In (hidT s₁.heap H) := by
    intro b o e
    refine into (inK b o e) (Hn b fun q => ?_)
    rw [q, notK] at e
    cases e
  obtain ⟨mc, l1, l2⟩ := lim
  have M : Mod K mg (hidT s₁.heap H) := ⟨kB, nsB gl, ⟨mb, nsB bl, bb⟩, mc, nsB l1, l2⟩
  have e0 : Env0 P w K mg (hidT s₁.heap H) callerA [] s₁ H := ⟨rfl, M, fun b o e => of_hidT e, Nat.le_of_eq (hidT_size _ _), trivial, (fun b hb => by cases hb), ok, .of_eq gens⟩
  apply codeAny_mono ((F _ kB (nsB gl)).go callerA [] s₁ H ⟨[.ref a], []⟩ [.ref a] [.ref a] _ _ room rfl e0 (bind s₁ (.ref a)) (.cons rfl .nil) (ask H Hn (.inr ⟨_, Ha⟩)))
  intro r s' h
  rcases r with e | fl
  · obtain ⟨_, _, _, _, _, _, _, _, _, _, _, _, q⟩ := h
    exact q.elim
  · rcases fl with _ | _ | _ | u
    · exact h.elim
    · exact h.elim
    · exact h.elim
    · obtain ⟨v, H', os, bare, un, ok', r', q⟩ := h
      have q' : v = .bl true := q
      subst q'
      obtain rfl : u = Value.bool true := r'
      refine ⟨rfl, OldK.of_keep fun b o e => ?_, os, bare⟩
      by_cases hb : b = a
      · subst hb
        have z := un.frzs _ _ _ Ha
        obtain ⟨e1, _⟩ := ok' _ _ z
        rw [at_] at e
        cases e
        exact e1
      · exact un.keep b o e (Hn b hb) (fun z => by cases z) (fun z => by cases z)
end Nl
end
section
set_option Elab.async false
set_option linter.all false
set_option maxRecDepth 100000
set_option maxHeartbeats 1000000
/-! Nl, 3: operators, built-in functions. -/
namespace Nl
open PySem PySem.Spec PyProof.Rows L2

/-- a value as it is read in the heap; Vw: what stays so while other things run -/
def Vd (L : Lk) (g : G) (H : Hp) : PV → V → Prop
  | .lst ps, v => ∃ a vs, v = .ref a ∧ Rd H a (.lst vs) ∧ RepL L g ps vs
  | p, v => Rep L g p v
def Vw (L : Lk) (g : G) (H : Hp) (p : PV) (v : V) : Prop := Vd L g H p v ∧ ∀ a, v = .ref a → (∃ ps, p = .lst ps) → a ∉ g.al
/-- .. that is new, where it is a list -/
def RF (L : Lk) (H0 : Hp) (g : G) (H : Hp) : PV → V → Prop
  | .lst ps, v => ∃ a vs, v = .ref a ∧ H a = some (.lst vs) ∧ RepL L g ps vs ∧ g.F a = none ∧ a ∉ g.al ∧ H0 a = none
  | p, v => Rep L g p v
section
variable {L : Lk} {g : G} {H : Hp} {m : Mem}
theorem Ok.kind (k : Ok L g H m) {a : Addr} (h : a ∈ g.al) : (∃ vs, H a = some (.lst vs)) ∨ ∃ C dx vfs, H a = some (.ins C dx vfs) := by
  obtain ⟨n, e⟩ := List.mem_iff_getElem?.mp h
  have hn : n < m.length := by rw [← k.len]; exact (List.getElem?_eq_some_iff.mp e).1
  have z := (k.obj n a _ e (List.getElem?_eq_getElem hn)).2
  revert z
  generalize m[n] = o
  intro z
  cases o with
  | lst ps =>
    obtain ⟨vs, h1, _⟩ := z
    exact .inl ⟨vs, h1⟩
  | ins c fs =>
    obtain ⟨C, dx, vfs, h1, _⟩ := z
    exact .inr ⟨C, dx, vfs, h1⟩
theorem Ok.notAl (k : Ok L g H m) {a : Addr} {o : HO} (h : H a = some o) (hl : ∀ vs, o ≠ .lst vs) (hi : ∀ C dx vfs, o ≠ .ins C dx vfs) : a ∉ g.al := fun q => by
  rcases k.kind q with ⟨vs, e⟩ | ⟨C, dx, vfs, e⟩
  · rw [h] at e; cases e; exact hl _ rfl
  · rw [h] at e; cases e; exact hi _ _ _ rfl
theorem Ok.FnotAl (k : Ok L g H m) {a : Addr} {o : HO} (h : g.F a = some o) : a ∉ g.al := fun q => by
  obtain ⟨n, e⟩ := List.mem_iff_getElem?.mp q
  have hn : n < m.length := by rw [← k.len]; exact (List.getElem?_eq_some_iff.mp e).1
  have z := (k.obj n a _ e (List.getElem?_eq_getElem hn)).1
  rw [h] at z; cases z
theorem Rep.vd (k : Ok L g H m) {p : PV} {v : V} (r : Rep L g p v) : Vd L g H p v := by
  cases p with
  | lst ps =>
    unfold Rep at r
    obtain ⟨a, vs, e, h, t⟩ := r
    exact ⟨a, vs, e, k.sub _ _ h, t⟩
  | _ => exact r
theorem Rep.vw (k : Ok L g H m) {p : PV} {v : V} (r : Rep L g p v) : Vw L g H p v := ⟨r.vd k, by
  rintro a rfl ⟨ps, rfl⟩
  unfold Rep at r
  obtain ⟨b, vs, e, h, t⟩ := r
  cases e
  exact k.FnotAl h⟩
theorem Vw.post {g' : G} {H' : Hp} (q : Post g H g' H') {p : PV} {v : V} (k : Ok L g H m) (r : Vw L g H p v) : Vw L g' H' p v := by
  obtain ⟨r, hl⟩ := r
  cases p with
  | tup x => exact ⟨Rep.mono (L := L) (p := .tup x) q.ext r, fun _ _ ⟨_, z⟩ => nomatch z⟩
  | lst ps =>
    obtain ⟨a, vs, e, h, t⟩ := r
    have na := hl a e ⟨ps, rfl⟩
    have ht : H a ≠ none := by
      rcases h with h | ⟨o, h⟩
      · rw [h]; simp
      · rw [h]; simp
    refine ⟨⟨a, vs, e, ?_, t.mono q.ext⟩, fun b eb _ => ?_⟩
    · rcases h with h | ⟨o, h⟩
      · exact .inl (q.keep _ _ h na)
      · exact .inr ⟨o, q.keep _ _ h na⟩
    · rw [e] at eb; cases eb
      intro z
      rcases q.newA a z with z | z
      · exact na z
      · exact ht z
  | non => exact ⟨Rep.mono q.ext r, fun _ _ ⟨_, z⟩ => nomatch z⟩
  | bl b => exact ⟨Rep.mono q.ext r, fun _ _ ⟨_, z⟩ => nomatch z⟩
  | int i => exact ⟨Rep.mono q.ext r, fun _ _ ⟨_, z⟩ => nomatch z⟩
  | str x => exact ⟨Rep.mono q.ext r, fun _ _ ⟨_, z⟩ => nomatch z⟩
  | dic x => exact ⟨Rep.mono q.ext r, fun _ _ ⟨_, z⟩ => nomatch z⟩
  | ref n => exact ⟨Rep.mono (L := L) (p := .ref n) q.ext r, fun _ _ ⟨_, z⟩ => nomatch z⟩
  | fn x => exact ⟨Rep.mono (L := L) (p := .fn x) q.ext r, fun _ _ ⟨_, z⟩ => nomatch z⟩
  | cls x => exact ⟨Rep.mono (L := L) (p := .cls x) q.ext r, fun _ _ ⟨_, z⟩ => nomatch z⟩
  | ty x => exact ⟨Rep.mono (L := L) (p := .ty x) q.ext r, fun _ _ ⟨_, z⟩ => nomatch z⟩
  | lam x y => exact ⟨Rep.mono (L := L) (p := .lam x y) (v := v) q.ext r, fun _ _ ⟨_, z⟩ => nomatch z⟩
/-- a new list is laid to what stands for good -/
theorem RF.freeze {H0 : Hp} {g0 : G} (k : Ok L g H m) (q : Post g0 H0 g H) {p : PV} {v : V} (r : RF L H0 g H p v) : ∃ g', Ok L g' H m ∧ Post g0 H0 g' H ∧ Rep L g' p v := by
  cases p with
  | lst ps =>
    obtain ⟨a, vs, e, h, t, f, n, z⟩ := r
    refine ⟨g.add a (.lst vs), k.add f n (.inl h), post_add f q z, ?_⟩
    unfold Rep
    exact ⟨a, vs, e, if_pos rfl, t.mono (ext_add f)⟩
  | _ => exact ⟨g, k, q, r⟩
theorem RF.to {H0 H1 : Hp} (h : ∀ a, H1 a = none → H0 a = none) {p : PV} {v : V} (r : RF L H1 g H p v) : RF L H0 g H p v := by
  cases p with
  | lst ps =>
    obtain ⟨a, vs, e, h1, t, f, n, z⟩ := r
    exact ⟨a, vs, e, h1, t, f, n, h a z⟩
  | _ => exact r
/-- a new list, a new tuple -/
theorem RF.newL {W : WX} {σ : L2.St} {ps : List PV} {vs : List V} {Q : VK} (k : Ok L g H m) (r : RepL L g ps vs) (h : Out L W σ g H (.ok (.lst ps) m : R PV) (RF L H) Q) : ∀ p, H p = none → Q (.ref p) (upd H p (.lst vs)) := fun p hp =>
  h g _ _ (k.new hp) (post_new hp) ⟨p, vs, rfl, upd_same, r, F_new k hp, al_new k hp, hp⟩
theorem RF.newT {W : WX} {σ : L2.St} {ps : List PV} {vs : List V} {Q : VK} (k : Ok L g H m) (r : RepL L g ps vs) (h : Out L W σ g H (.ok (.tup ps) m : R PV) (RF L H) Q) : ∀ p, H p = none → Q (.ref p) (upd H p (.tup vs)) := fun p hp => by
  have f := F_new k hp
  refine h (g.add p (.tup vs)) _ _ ((k.new hp).add f (al_new k hp) upd_same) (post_add f (post_new hp) hp) ?_
  show Rep _ _ _ _
  unfold Rep
  exact ⟨p, vs, rfl, if_pos rfl, r.mono (ext_add f)⟩
end

/-! ### the library's data -/
section
variable {L : Lk} {g : G} {H : Hp} {m : Mem} {K : PySem.W.Frag}
mutual
theorem Rep.dp (k : Ok L g H m) : ∀ {p : PV} {v : V} {d : PyData}, Rep L g p v → p.dat = some d → Dp K H v d
  | .non, _, _, r, e => by unfold Rep at r; unfold PV.dat at e; cases e; subst r; exact .non
  | .bl b, _, _, r, e => by unfold Rep at r; unfold PV.dat at e; cases e; subst r; exact .bl b
  | .int i, _, _, r, e => by unfold Rep at r; unfold PV.dat at e; cases e; subst r; exact .int i
  | .str x, _, _, r, e => by unfold Rep at r; unfold PV.dat at e; cases e; subst r; exact .str x
  | .tup ps, _, _, r, e => by
    unfold Rep at r
    unfold PV.dat at e
    obtain ⟨a, vs, rfl, h, t⟩ := r
    cases q : datL ps with
    | none => rw [q] at e; cases e
    | some ds =>
      rw [q] at e; cases e
      exact .tup (.inl (.inl (k.sub _ _ h))) (RepL.dp k t q)
  | .lst ps, _, _, r, e => by
    unfold Rep at r
    unfold PV.dat at e
    obtain ⟨a, vs, rfl, h, t⟩ := r
    cases q : datL ps with
    | none => rw [q] at e; cases e
    | some ds =>
      rw [q] at e; cases e
      exact .lst (.inl (k.sub _ _ h)) (RepL.dp k t q)
  | .dic _, _, _, _, e => by unfold PV.dat at e; cases e
  | .ref _, _, _, _, e => by unfold PV.dat at e; cases e
  | .fn _, _, _, _, e => by unfold PV.dat at e; cases e
  | .cls _, _, _, _, e => by unfold PV.dat at e; cases e
  | .ty _, _, _, _, e => by unfold PV.dat at e; cases e
  | .lam _ _, _, _, _, e => by unfold PV.dat at e; cases e
theorem RepL.dp (k : Ok L g H m) : ∀ {ps : List PV} {vs : List V} {ds : List PyData}, RepL L g ps vs → datL ps = some ds → DpAll K H vs ds
  | [], _, _, r, e => by rw [r.nil_inv]; unfold datL at e; cases e; exact .nil
  | p :: ps, _, _, r, e => by
    obtain ⟨v, vs, rfl, h1, h2⟩ := r.cons_inv
    unfold datL at e
    cases q1 : p.dat with
    | none => rw [q1] at e; cases e
    | some d =>
      cases q2 : datL ps with
      | none => rw [q1, q2] at e; cases e
      | some ds =>
        rw [q1, q2] at e; cases e
        exact .cons (Rep.dp k h1 q1) (RepL.dp k h2 q2)
end
theorem Vd.dp (k : Ok L g H m) {p : PV} {v : V} {d : PyData} (r : Vd L g H p v) (e : p.dat = some d) : Dp K H v d := by
  cases p with
  | tup ps => exact Rep.dp k r e
  | lst ps =>
    unfold PV.dat at e
    obtain ⟨a, vs, rfl, h, t⟩ := r
    cases q : datL ps with
    | none => rw [q] at e; cases e
    | some ds =>
      rw [q] at e; cases e
      exact .lst (.inl h) (RepL.dp k t q)
  | non => exact Rep.dp k r e
  | bl b => exact Rep.dp k r e
  | int b => exact Rep.dp k r e
  | str b => exact Rep.dp k r e
  | _ => unfold PV.dat at e; cases e
theorem allInt_rep : ∀ {ps : List PV} {vs : List V} {ns : List Int}, RepL L g ps vs → allInt ps = some ns → vs = ns.map V.int
  | [], _, _, r, e => by rw [r.nil_inv]; cases e; rfl
  | p :: ps, _, _, r, e => by
    obtain ⟨v, vs, rfl, h1, h2⟩ := r.cons_inv
    cases p with
    | int i =>
      unfold allInt at e
      cases q : allInt ps with
      | none => rw [q] at e; cases e
      | some ns =>
        rw [q] at e; cases e
        unfold Rep at h1
        rw [h1, allInt_rep h2 q]; rfl
    | _ => unfold allInt at e; cases e
theorem allBl_rep : ∀ {ps : List PV} {vs : List V} {ns : List Bool}, RepL L g ps vs → allBl ps = some ns → vs = ns.map V.bl
  | [], _, _, r, e => by rw [r.nil_inv]; cases e; rfl
  | p :: ps, _, _, r, e => by
    obtain ⟨v, vs, rfl, h1, h2⟩ := r.cons_inv
    cases p with
    | bl i =>
      unfold allBl at e
      cases q : allBl ps with
      | none => rw [q] at e; cases e
      | some ns =>
        rw [q] at e; cases e
        unfold Rep at h1
        rw [h1, allBl_rep h2 q]; rfl
    | _ => unfold allBl at e; cases e
end

/-! ### operators -/
def opOf : Bop → Operator
  | .add => .Add | .sub => .Sub | .mul => .Mult | .fdiv => .FloorDiv | .mod => .Mod | .pow => .Pow
def copOf : Cop → CmpOp
  | .eq => .Eq | .ne => .NotEq | .lt => .Lt | .le => .LtE | .gt => .Gt | .ge => .GtE | .isN => .Is | .notN => .IsNot | .In => .In | .notIn => .NotIn
def rBin (L : Lk) (o : Bop) : R2 := fun x y H Q => ∃ (W : WX) (σ : L2.St) (g : G) (m : Mem) (p q : PV), Ok L g H m ∧ Vd L g H p x ∧ Vd L g H q y ∧ Out L W σ g H (binP o p q m) (RF L H) Q
theorem fits_le {n : Nat} (h : fits n = true) : n ≤ 1000000 := of_decide_eq_true h
theorem fits_line {n : Nat} (h : fits n = true) : n ≤ sizeLine := Nat.le_trans (fits_le h) (by decide)
theorem log2_lt {n k : Nat} (h : n < 2 ^ k) (hk : 0 < k) : n.log2 < k := by
  by_cases h0 : n = 0
  · subst h0; simpa using hk
  · exact (Nat.log2_lt h0).mpr h
theorem mid_log {i : Int} (h : mid i = true) : i.natAbs.log2 < 256 := log2_lt (of_decide_eq_true h) (by decide)
section
variable {X : Cx} {L : Lk} {pins : List (Addr × Obj)} {σ : L2.St} {H : Hp} {s : Shared}
theorem rd_lst (I : Inv X pins σ H s) {l : Addr} {xs : List V} (h : Rd H l (.lst xs)) : xs.length ≤ sizeLine ∧ ∃ (its : List Value) (n : Nat), Vals xs its ∧ xs.length = its.length ∧ s.heap.get? l = some { cls := .type "list", data := .seq its.toArray n } := by
  obtain ⟨z, its, n, r, e⟩ := h.ok I.hok
  exact ⟨z, its, n, r, r.length, e⟩
theorem cat_rd {l b : Addr} {xs zs : List V} {Q : VK} (I : Inv X pins σ H s) (h1 : Rd H l (.lst xs)) (h2 : Rd H b (.lst zs)) (hz : xs.length + zs.length ≤ sizeLine) (q : ∀ p, H p = none → Q (.ref p) (upd H p (.lst (xs ++ zs)))) :
    wpAny (model X.prog X.w) X.A (binaryOp .Add (.ref l) (.ref b)) (EP X pins σ Q) X.xe s := by
  obtain ⟨_, its, n, r, l1, e⟩ := rd_lst I h1
  obtain ⟨_, its2, n2, r2, l2, e2⟩ := rd_lst I h2
  apply PySem.P.add_list e e2
  · rw [show its.toArray ++ its2.toArray = (its ++ its2).toArray by simp]
    exact ⟨.ref _, _, I.lnew (t' := s.toks) (r.append r2) (by rw [List.length_append]; omega), rfl, q _ I.fresh⟩
end
section
variable {X : Cx} {pins : List (Addr × Obj)} {σ : L2.St} {H : Hp} {s : Shared}
theorem fold_rep (its : List Value) (j : Int) : List.foldl (fun x1 x2 => x1 ++ x2) #[] (List.replicate (if its.toArray.isEmpty = true then 0 else j.toNat) its.toArray) = (List.replicate j.toNat its).flatten.toArray := by
  have gen : ∀ n : Nat, List.foldl (fun x1 x2 => x1 ++ x2) #[] (List.replicate n its.toArray) = (List.replicate n its).flatten.toArray := by
    intro n
    have q := foldl_rep its n []
    rwa [List.nil_append] at q
  rw [gen]
  rcases its with _ | ⟨a, r⟩
  · simp
  · rw [if_neg (by simp)]
theorem rep_rd {l : Addr} {j : Int} {t : Tok} {xs : List V} {Q : VK} (I : Inv X pins σ H s) (h : Rd H l (.lst xs)) (b1 : -(2 ^ 63) ≤ j) (b2 : j < 2 ^ 63) (hz : xs.length * j.toNat ≤ sizeLine)
    (q : ∀ p, H p = none → Q (.ref p) (upd H p (.lst (List.replicate j.toNat xs).flatten))) : wpAny (model X.prog X.w) X.A (binaryOp .Mult (.ref l) (.int j t)) (EP X pins σ Q) X.xe s := by
  obtain ⟨_, its, n, r, l1, e⟩ := rd_lst I h
  have size : its.toArray.size * j.toNat ≤ sizeLine := by rw [List.size_toArray, ← l1]; exact hz
  have c1 : ¬ its.toArray.size * j.toNat > (2 ^ 63 - 1) / 8 := by
    have z : (sizeLine : Nat) ≤ (2 ^ 63 - 1) / 8 := by decide
    omega
  have c2 : ¬ (!Builtin.List.listFitsIndex j) = true := by rw [fitsIndex_both b1 b2]; simp
  have c3 : ¬ Builtin.List.listTooLong (its.toArray.size * j.toNat) = true := by rw [notLongL size]; simp
  have isL : s.TypeIs (.ref l) "list" := ⟨_, e, rfl⟩
  refine wpAny_binaryOp_repeat_ref (T := "list") (U := "int") (by decide) isL (fun s' => typeIs_int s' j t) noFill_list_mul F.fills_int_mul F.slot_int_rmul repeat_list F.slot_int_index.lookup ?_
  refine call_meets F.slot_int_rmul (typeIs_int s j t) F.entry_int_rmul (F.args_int_rmul_2 _ _) (int___rmul___int_list j t l its.toArray n) ⟨e, rfl, isL, ?_⟩
  refine call_meets F.slot_list_mul isL F.entry_list_mul (F.args_list_mul_2 _ _) (AutoListH.list___mul___list_int_3 l its.toArray n j t c2 c1 c3) ⟨e, ?_⟩
  rw [fold_rep]
  exact ⟨.ref _, _, I.lnew (t' := s.toks) (r.rep j.toNat) (by rw [PyProof.Rows.lm_len_rep_flat, Nat.mul_comm]; exact hz), rfl, q _ I.fresh⟩
end
section
variable {X : Cx} {L : Lk}
theorem op_bin_add : OpR X (binaryOp .Add) (rBin L .add) := by
  rintro pins s σ' H x y v u Q I rx ry ⟨W, σ, g, m, p, q, k, vp, vq, h⟩
  cases p with
  | int i =>
    cases q with
    | int j =>
      obtain rfl : x = V.int i := vp
      obtain rfl : y = V.int j := vq
      exact op_add pins s σ' H _ _ v u Q I rx ry ⟨i, j, rfl, rfl, h g H (.int (i + j)) k .rfl' rfl⟩
    | _ => exact (h : False).elim
  | str a =>
    cases q with
    | str b =>
      obtain rfl : x = V.str a := vp
      obtain rfl : y = V.str b := vq
      obtain ⟨hz, h⟩ := Out.need h
      have z := Bool.and_eq_true_iff.mp hz
      have z1 := fits_le z.1
      have z2 := fits_le z.2
      exact op_add_str pins s σ' H _ _ v u Q I rx ry ⟨a, b, rfl, rfl, by rw [show sizeLine = 16777216 from rfl]; omega, h g H (.str (a ++ b)) k .rfl' rfl⟩
    | _ => exact (h : False).elim
  | lst a =>
    cases q with
    | lst b =>
      obtain ⟨p, vs, rfl, h1, r1⟩ := vp
      obtain ⟨p2, vs2, rfl, h2, r2⟩ := vq
      obtain ⟨hz, h⟩ := Out.need h
      have z := Bool.and_eq_true_iff.mp hz
      have z1 := fits_le z.1
      have z2 := fits_le z.2
      have l1 := r1.length
      have l2 := r2.length
      cases rx
      cases ry
      exact cat_rd I h1 h2 (by rw [show sizeLine = 16777216 from rfl]; omega) (RF.newL k (r1.append r2) h)
    | _ => exact (h : False).elim
  | tup a =>
    cases q with
    | tup b =>
      obtain ⟨hz, h⟩ := Out.need h
      have vp' : Rep L g (.tup a) x := vp
      have vq' : Rep L g (.tup b) y := vq
      unfold Rep at vp' vq'
      obtain ⟨p, vs, rfl, h1, r1⟩ := vp'
      obtain ⟨p2, vs2, rfl, h2, r2⟩ := vq'
      have z := Bool.and_eq_true_iff.mp hz
      have z1 := fits_le z.1
      have z2 := fits_le z.2
      have l1 := r1.length
      have l2 := r2.length
      refine op_catA pins s σ' H _ _ v u Q I rx ry ⟨p, p2, vs, vs2, rfl, rfl, .of (k.sub _ _ h1), .of (k.sub _ _ h2), by rw [show sizeLine = 16777216 from rfl]; omega, fun e => ?_, fun _ e => ?_, fun _ _ => RF.newT k (r1.append r2) h⟩
      · subst e
        obtain rfl : a = [] := List.length_eq_zero_iff.mp l1
        exact h g H _ k .rfl' vq
      · subst e
        obtain rfl : b = [] := List.length_eq_zero_iff.mp l2
        exact h g H _ k .rfl' (by rw [List.append_nil]; exact vp)
    | _ => exact (h : False).elim
  | _ => exact (h : False).elim
theorem op_bin_sub : OpR X (binaryOp .Sub) (rBin L .sub) := by
  rintro pins s σ' H x y v u Q I rx ry ⟨W, σ, g, m, p, q, k, vp, vq, h⟩
  cases p with
  | int i =>
    cases q with
    | int j =>
      obtain rfl : x = V.int i := vp
      obtain rfl : y = V.int j := vq
      exact op_sub pins s σ' H _ _ v u Q I rx ry ⟨i, j, rfl, rfl, h g H (.int (i - j)) k .rfl' rfl⟩
    | _ => exact (h : False).elim
  | _ => exact (h : False).elim
theorem op_bin_fdiv : OpR X (binaryOp .FloorDiv) (rBin L .fdiv) := by
  rintro pins s σ' H x y v u Q I rx ry ⟨W, σ, g, m, p, q, k, vp, vq, h⟩
  cases p with
  | int i =>
    cases q with
    | int j =>
      obtain rfl : x = V.int i := vp
      obtain rfl : y = V.int j := vq
      obtain ⟨hz, h⟩ := Out.need h
      have z := Bool.and_eq_true_iff.mp hz
      exact op_fdivW pins s σ' H _ _ v u Q I rx ry ⟨i, j, rfl, rfl, ⟨of_decide_eq_true z.1, Nat.lt_trans (mid_log z.2) (by decide)⟩, h g H (.int (i / j)) k .rfl' rfl⟩
    | _ => exact (h : False).elim
  | _ => exact (h : False).elim
theorem op_bin_mod : OpR X (binaryOp .Mod) (rBin L .mod) := by
  rintro pins s σ' H x y v u Q I rx ry ⟨W, σ, g, m, p, q, k, vp, vq, h⟩
  cases p with
  | int i =>
    cases q with
    | int j =>
      obtain rfl : x = V.int i := vp
      obtain rfl : y = V.int j := vq
      obtain ⟨hz, h⟩ := Out.need h
      exact op_mod pins s σ' H _ _ v u Q I rx ry ⟨i, j, rfl, rfl, of_decide_eq_true hz, h g H (.int (i % j)) k .rfl' rfl⟩
    | _ => exact (h : False).elim
  | _ => exact (h : False).elim
theorem op_bin_pow : OpR X (binaryOp .Pow) (rBin L .pow) := by
  rintro pins s σ' H x y v u Q I rx ry ⟨W, σ, g, m, p, q, k, vp, vq, h⟩
  cases p with
  | int i =>
    cases q with
    | int j =>
      obtain rfl : x = V.int i := vp
      obtain rfl : y = V.int j := vq
      obtain ⟨hz, h⟩ := Out.need h
      have z := Bool.and_eq_true_iff.mp hz
      have z1 := Bool.and_eq_true_iff.mp z.1
      have z2 : j ≤ 1000 := of_decide_eq_true z1.2
      exact op_pow pins s σ' H _ _ v u Q I rx ry ⟨i, j, rfl, rfl, ⟨of_decide_eq_true z1.1, by omega, of_decide_eq_true z.2⟩, h g H (.int (i ^ j.toNat)) k .rfl' rfl⟩
    | _ => exact (h : False).elim
  | _ => exact (h : False).elim
theorem op_bin_mul : OpR X (binaryOp .Mult) (rBin L .mul) := by
  rintro pins s σ' H x y v u Q I rx ry ⟨W, σ, g, m, p, q, k, vp, vq, h⟩
  cases p with
  | int i =>
    cases q with
    | int j =>
      obtain rfl : x = V.int i := vp
      obtain rfl : y = V.int j := vq
      obtain ⟨hz, h⟩ := Out.need h
      have fin := h g H (.int (i * j)) k .rfl' rfl
      have hz' : (small i = true ∨ small j = true) ∨ (mid i = true ∧ mid j = true) := by simpa using hz
      rcases hz' with (z | z) | ⟨z1, z2⟩
      · have z' : i.natAbs < 2 ^ 64 := of_decide_eq_true z
        exact op_mul pins s σ' H _ _ v u Q I rx ry ⟨i, j, rfl, rfl, .inl (by omega), fin⟩
      · have z' : j.natAbs < 2 ^ 64 := of_decide_eq_true z
        exact op_mul pins s σ' H _ _ v u Q I rx ry ⟨i, j, rfl, rfl, .inr (by omega), fin⟩
      · have a := mid_log z1
        have b := mid_log z2
        exact op_mulW pins s σ' H _ _ v u Q I rx ry ⟨i, j, rfl, rfl, (by show _ < 1000000; omega), fin⟩
    | _ => exact (h : False).elim
  | lst a =>
    cases q with
    | int j =>
      obtain ⟨p, vs, rfl, h1, r1⟩ := vp
      obtain rfl : y = V.int j := vq
      obtain ⟨hz, h⟩ := Out.need h
      have z := Bool.and_eq_true_iff.mp hz
      have z2 := Bool.and_eq_true_iff.mp z.1
      have z3 := Bool.and_eq_true_iff.mp z2.1
      have b1 : -1 < j := of_decide_eq_true z3.2
      have b2 : j < 1000000 := of_decide_eq_true z2.2
      have l1 := r1.length
      have hb := fits_le z.2
      rw [l1] at hb
      cases rx
      obtain ⟨t, rfl⟩ := ry
      exact rep_rd I h1 (by omega) (by omega) (by rw [show sizeLine = 16777216 from rfl]; omega) (RF.newL k (r1.flatRep j.toNat) h)
    | _ => exact (h : False).elim
  | _ => exact (h : False).elim
theorem op_bin (o : Bop) : OpR X (binaryOp (opOf o)) (rBin L o) := by
  cases o
  · exact op_bin_add
  · exact op_bin_sub
  · exact op_bin_mul
  · exact op_bin_fdiv
  · exact op_bin_mod
  · exact op_bin_pow
end

/-! ### comparisons -/
abbrev RB : G → Hp → Bool → V → Prop := fun _ _ b v => v = .bl b
def rCmp (L : Lk) (o : Cop) : R2 := fun x y H Q => ∃ (W : WX) (σ : L2.St) (g : G) (m : Mem) (p q : PV), Ok L g H m ∧ Vd L g H p x ∧ Vd L g H q y ∧ Out L W σ g H (cmpP o p q m) RB Q
section
variable {X : Cx} {L : Lk}
theorem eqD_out {W : WX} {σ : L2.St} {g : G} {H : Hp} {m : Mem} {p q : PV} {α β : Type} {f : Bool → Py α} {Rl : G → Hp → α → β → Prop} {Q : β → Hp → Prop} (h : Out L W σ g H ((eqD p q >>= f) m) Rl Q) :
    ∃ d e, p.dat = some d ∧ q.dat = some e ∧ SeqAt.shaped d = true ∧ SeqAt.shaped e = true ∧ Out L W σ g H (f (PyData.eqv d e) m) Rl Q := by
  cases hd : p.dat with
  | none =>
    have e : eqD p q = stuck := by unfold eqD; rw [hd]
    rw [e] at h; exact h.elim
  | some d =>
    cases he : q.dat with
    | none =>
      have e : eqD p q = stuck := by unfold eqD; rw [hd, he]
      rw [e] at h; exact h.elim
    | some e =>
      have ee : eqD p q = (do need (SeqAt.shaped d && SeqAt.shaped e); pure (PyData.eqv d e)) := by unfold eqD; rw [hd, he]
      rw [ee] at h
      cases z : (SeqAt.shaped d && SeqAt.shaped e) with
      | false => rw [z] at h; exact h.elim
      | true =>
        rw [z] at h
        have z' := Bool.and_eq_true_iff.mp z
        exact ⟨d, e, rfl, rfl, z'.1, z'.2, h⟩
theorem eqD_out' {W : WX} {σ : L2.St} {g : G} {H : Hp} {m : Mem} {p q : PV} {β : Type} {Rl : G → Hp → Bool → β → Prop} {Q : β → Hp → Prop} (h : Out L W σ g H (eqD p q m) Rl Q) :
    ∃ d e, p.dat = some d ∧ q.dat = some e ∧ SeqAt.shaped d = true ∧ SeqAt.shaped e = true ∧ Out L W σ g H ((pure (PyData.eqv d e) : Py Bool) m) Rl Q := by
  cases hd : p.dat with
  | none =>
    have e : eqD p q = stuck := by unfold eqD; rw [hd]
    rw [e] at h; exact h.elim
  | some d =>
    cases he : q.dat with
    | none =>
      have e : eqD p q = stuck := by unfold eqD; rw [hd, he]
      rw [e] at h; exact h.elim
    | some e =>
      have ee : eqD p q = (do need (SeqAt.shaped d && SeqAt.shaped e); pure (PyData.eqv d e)) := by unfold eqD; rw [hd, he]
      rw [ee] at h
      cases z : (SeqAt.shaped d && SeqAt.shaped e) with
      | false => rw [z] at h; exact h.elim
      | true =>
        rw [z] at h
        have z' := Bool.and_eq_true_iff.mp z
        exact ⟨d, e, rfl, rfl, z'.1, z'.2, h⟩
theorem op_in_tupD {pins : List (Addr × Obj)} {s : Shared} {σ : L2.St} {H : Hp} {x y : V} {v u : Value} {Q : VK} {d : PyData} {ds : List PyData} (hu : X.A.units + 65 < cLine) (I : Inv X pins σ H s) (rx : RelV x v) (ry : RelV y u)
    (hd : Dp X.K H x d) (he : Dp X.K H y (.tuple ds)) (sd : SeqAt.shaped d = true) (se : SeqAt.shaped (.tuple ds) = true) (q : Q (.bl (ds.any fun z => PyData.eqv z d)) H) :
    wpAny (model X.prog X.w) X.A (compareOp .In v u) (EP X pins σ Q) X.xe s := by
  obtain ⟨as, r1⟩ := Dp.reads I d x v hd rx
  obtain ⟨bs, r2⟩ := Dp.reads I (.tuple ds) y u he ry
  exact SeqAt.in_tuple_reads r2 r1 (SeqAt.canLay_of_shaped se) (SeqAt.canLay_of_shaped sd) (room_in_shaped sd hu) ⟨.bl _, H, I, rfl, q⟩
theorem op_notIn_tupD {pins : List (Addr × Obj)} {s : Shared} {σ : L2.St} {H : Hp} {x y : V} {v u : Value} {Q : VK} {d : PyData} {ds : List PyData} (hu : X.A.units + 65 < cLine) (I : Inv X pins σ H s) (rx : RelV x v) (ry : RelV y u)
    (hd : Dp X.K H x d) (he : Dp X.K H y (.tuple ds)) (sd : SeqAt.shaped d = true) (se : SeqAt.shaped (.tuple ds) = true) (q : Q (.bl (!ds.any fun z => PyData.eqv z d)) H) :
    wpAny (model X.prog X.w) X.A (compareOp .NotIn v u) (EP X pins σ Q) X.xe s := by
  obtain ⟨as, r1⟩ := Dp.reads I d x v hd rx
  obtain ⟨bs, r2⟩ := Dp.reads I (.tuple ds) y u he ry
  exact SeqAt.notIn_tuple_reads r2 r1 (SeqAt.canLay_of_shaped se) (SeqAt.canLay_of_shaped sd) (room_in_shaped sd hu) ⟨.bl _, H, I, rfl, q⟩
theorem vd_non {g : G} {H : Hp} {m : Mem} (k : Ok L g H m) {p : PV} {x : V} (v : Vd L g H p x) : decide (x = V.non) = (match p with | .non => true | _ => false) := by
  have no : ∀ a, decide (V.ref a = V.non) = false := fun a => decide_eq_false (by intro z; cases z)
  cases p with
  | non => obtain rfl : x = V.non := v; rfl
  | bl b => obtain rfl : x = V.bl b := v; rfl
  | int b => obtain rfl : x = V.int b := v; rfl
  | str b => obtain rfl : x = V.str b := v; rfl
  | ty b => obtain rfl : x = V.ty b := v; rfl
  | lst ps => obtain ⟨a, vs, rfl, _⟩ := v; exact no a
  | tup ps =>
    have v' : Rep L g (.tup ps) x := v
    unfold Rep at v'
    obtain ⟨a, vs, rfl, _⟩ := v'
    exact no a
  | ref n =>
    have v' : Rep L g (.ref n) x := v
    unfold Rep at v'
    obtain ⟨a, rfl, _⟩ := v'
    exact no a
  | fn n =>
    have v' : Rep L g (.fn n) x := v
    unfold Rep at v'
    obtain ⟨a, rfl, _⟩ := v'
    exact no a
  | cls n =>
    have v' : Rep L g (.cls n) x := v
    unfold Rep at v'
    obtain ⟨a, rfl, _⟩ := v'
    exact no a
  | dic n =>
    have v' : Rep L g (.dic n) x := v
    unfold Rep at v'
    exact v'.elim
  | lam a b =>
    have v' : Rep L g (.lam a b) x := v
    unfold Rep at v'
    exact v'.elim
theorem inP_cases {W : WX} {σ : L2.St} {g : G} {H : Hp} {m : Mem} {p q : PV} {β α : Type} {f : Bool → α} {Rl : G → Hp → α → β → Prop} {Q : β → Hp → Prop} (h : Out L W σ g H ((inP p q >>= fun b => pure (f b)) m) Rl Q) :
    (∃ c z, p = .str ⟨#[c]⟩ ∧ q = .str z ∧ Out L W σ g H ((pure (f (decide (c ∈ z.cps.toList))) : Py α) m) Rl Q) ∨
    (∃ d ds ys, p.dat = some d ∧ q = .lst ys ∧ datL ys = some ds ∧ SeqAt.shaped d = true ∧ SeqAt.shaped (.list ds) = true ∧ Out L W σ g H ((pure (f (ds.any fun z => PyData.eqv z d)) : Py α) m) Rl Q) ∨
    (∃ d ds ys, p.dat = some d ∧ q = .tup ys ∧ datL ys = some ds ∧ SeqAt.shaped d = true ∧ SeqAt.shaped (.tuple ds) = true ∧ Out L W σ g H ((pure (f (ds.any fun z => PyData.eqv z d)) : Py α) m) Rl Q) := by
  have seqs : ∀ (mk : List PyData → PyData) (ys : List PV), (inP p q = match p.dat, datL ys with
    | some d, some ds => do need (SeqAt.shaped d && SeqAt.shaped (mk ds)); pure (ds.any fun z => PyData.eqv z d)
    | _, _ => stuck) → ∃ d ds, p.dat = some d ∧ datL ys = some ds ∧ SeqAt.shaped d = true ∧ SeqAt.shaped (mk ds) = true ∧ Out L W σ g H ((pure (f (ds.any fun z => PyData.eqv z d)) : Py α) m) Rl Q := by
    intro mk ys e
    rw [e] at h
    cases hd : p.dat with
    | none => rw [hd] at h; exact h.elim
    | some d =>
      cases he : datL ys with
      | none => rw [hd, he] at h; exact h.elim
      | some ds =>
        rw [hd, he] at h
        cases z : (SeqAt.shaped d && SeqAt.shaped (mk ds)) with
        | false =>
          have h' : Out L W σ g H ((((do need (SeqAt.shaped d && SeqAt.shaped (mk ds)); pure (ds.any fun z => PyData.eqv z d)) : Py Bool) >>= fun b => pure (f b)) m) Rl Q := h
          rw [z] at h'; exact h'.elim
        | true =>
          have h' : Out L W σ g H ((((do need (SeqAt.shaped d && SeqAt.shaped (mk ds)); pure (ds.any fun z => PyData.eqv z d)) : Py Bool) >>= fun b => pure (f b)) m) Rl Q := h
          rw [z] at h'
          have z' := Bool.and_eq_true_iff.mp z
          exact ⟨d, ds, rfl, rfl, z'.1, z'.2, h'⟩
  cases q with
  | str z =>
    cases p with
    | str c =>
      left
      obtain ⟨⟨l⟩⟩ := c
      match l, h with
      | [k], h => exact ⟨k, z, rfl, rfl, h⟩
      | [], h => exact (h : False).elim
      | _ :: _ :: _, h => exact (h : False).elim
    | _ => exact (h : False).elim
  | lst ys =>
    right; left
    obtain ⟨d, ds, h1, h2, h3, h4, h5⟩ := seqs .list ys (by cases p <;> rfl)
    exact ⟨d, ds, ys, h1, rfl, h2, h3, h4, h5⟩
  | tup ys =>
    right; right
    obtain ⟨d, ds, h1, h2, h3, h4, h5⟩ := seqs .tuple ys (by cases p <;> rfl)
    exact ⟨d, ds, ys, h1, rfl, h2, h3, h4, h5⟩
  | _ =>
    cases p with
    | _ => exact (h : False).elim
theorem strsP_eq {p q : PV} {x y : PySem.Str} (h : strsP p q = some (x, y)) : p = .str x ∧ q = .str y := by
  cases p with
  | str a =>
    cases q with
    | str b => cases h; exact ⟨rfl, rfl⟩
    | _ => cases h
  | _ => cases h
theorem op_cmp (hu : X.A.units + 65 < cLine) (o : Cop) : OpR X (compareOp (copOf o)) (rCmp L o) := by
  rintro pins s σ' H x y v u Q I rx ry ⟨W, σ, g, m, p, q, k, vp, vq, h⟩
  have fin : ∀ {b : Bool}, Out L W σ g H ((pure b : Py Bool) m) RB Q → Q (.bl b) H := fun h => h g H _ k .rfl' rfl
  cases o with
  | eq =>
    have h' : Out L W σ g H ((match strsP p q with | some xy => pure (decide (xy.1 = xy.2)) | none => eqD p q : Py Bool) m) RB Q := h
    cases es : strsP p q with
    | some xy =>
      rw [es] at h'
      obtain ⟨rfl, rfl⟩ := strsP_eq (x := xy.1) (y := xy.2) es
      obtain rfl : x = V.str xy.1 := vp
      obtain rfl : y = V.str xy.2 := vq
      refine op_eq pins s σ' H _ _ v u Q I rx ry ⟨rfl, ?_⟩
      have z := fin h'
      have e : decide (V.str xy.1 = V.str xy.2) = decide (xy.1 = xy.2) := by simp
      rw [e]
      exact z
    | none =>
    rw [es] at h'
    obtain ⟨d, e, hd, he, sd, se, h⟩ := eqD_out' h'
    exact op_eqD (by omega) pins s σ' H x y v u Q I rx ry ⟨d, e, vp.dp k hd, vq.dp k he, sd, se, fin h⟩
  | ne =>
    have h' : Out L W σ g H (((match strsP p q with | some xy => pure (decide (xy.1 = xy.2)) | none => eqD p q : Py Bool) >>= fun r => (pure (!r) : Py Bool)) m) RB Q := h
    cases es : strsP p q with
    | some xy =>
      rw [es] at h'
      obtain ⟨rfl, rfl⟩ := strsP_eq (x := xy.1) (y := xy.2) es
      obtain rfl : x = V.str xy.1 := vp
      obtain rfl : y = V.str xy.2 := vq
      refine op_ne pins s σ' H _ _ v u Q I rx ry ⟨rfl, ?_⟩
      have z := fin h'
      have e : decide (V.str xy.1 = V.str xy.2) = decide (xy.1 = xy.2) := by simp
      rw [e]
      exact z
    | none =>
    rw [es] at h'
    obtain ⟨d, e, hd, he, sd, se, h⟩ := eqD_out h'
    exact op_neD (by omega) pins s σ' H x y v u Q I rx ry ⟨d, e, vp.dp k hd, vq.dp k he, sd, se, fin h⟩
  | lt =>
    cases p with
    | int i =>
      cases q with
      | int j =>
        obtain rfl : x = V.int i := vp
        obtain rfl : y = V.int j := vq
        exact op_lt pins s σ' H _ _ v u Q I rx ry ⟨i, j, rfl, rfl, fin h⟩
      | _ => exact (h : False).elim
    | _ => exact (h : False).elim
  | le =>
    cases p with
    | int i =>
      cases q with
      | int j =>
        obtain rfl : x = V.int i := vp
        obtain rfl : y = V.int j := vq
        exact op_le pins s σ' H _ _ v u Q I rx ry ⟨i, j, rfl, rfl, fin h⟩
      | _ => exact (h : False).elim
    | _ => exact (h : False).elim
  | gt =>
    cases p with
    | int i =>
      cases q with
      | int j =>
        obtain rfl : x = V.int i := vp
        obtain rfl : y = V.int j := vq
        exact op_gt pins s σ' H _ _ v u Q I rx ry ⟨i, j, rfl, rfl, fin h⟩
      | _ => exact (h : False).elim
    | _ => exact (h : False).elim
  | ge =>
    cases p with
    | int i =>
      cases q with
      | int j =>
        obtain rfl : x = V.int i := vp
        obtain rfl : y = V.int j := vq
        exact op_ge pins s σ' H _ _ v u Q I rx ry ⟨i, j, rfl, rfl, fin h⟩
      | _ => exact (h : False).elim
    | _ => exact (h : False).elim
  | isN =>
    cases q with
    | non =>
      obtain rfl : y = V.non := vq
      refine op_isN pins s σ' H _ _ v u Q I rx ry ⟨rfl, ?_⟩
      rw [vd_non k vp]
      cases p <;> exact fin h
    | _ => cases p <;> exact (h : False).elim
  | notN =>
    cases q with
    | non =>
      obtain rfl : y = V.non := vq
      refine op_notN pins s σ' H _ _ v u Q I rx ry ⟨rfl, ?_⟩
      rw [vd_non k vp]
      cases p <;> exact fin h
    | _ => cases p <;> exact (h : False).elim
  | In =>
    have h' : Out L W σ g H ((inP p q >>= fun b => pure (id b)) m) RB Q := by
      have e : (inP p q >>= fun b => pure (id b)) m = inP p q m := by
        show Py.and (inP p q) (fun b => Py.ret (id b)) m = _
        unfold Py.and
        cases inP p q m <;> rfl
      rw [e]; exact h
    rcases inP_cases h' with ⟨c, z, rfl, rfl, h2⟩ | ⟨d, ds, ys, hd, rfl, he, sd, se, h2⟩ | ⟨d, ds, ys, hd, rfl, he, sd, se, h2⟩
    · obtain rfl : x = V.str _ := vp
      obtain rfl : y = V.str z := vq
      exact op_in_sign pins s σ' H _ _ v u Q I rx ry ⟨c, z, rfl, rfl, fin h2⟩
    · exact op_inD hu pins s σ' H x y v u Q I rx ry ⟨d, ds, vp.dp k hd, vq.dp k (by unfold PV.dat; rw [he]; rfl), sd, se, fin h2⟩
    · exact op_in_tupD hu I rx ry (vp.dp k hd) (vq.dp k (by unfold PV.dat; rw [he]; rfl)) sd se (fin h2)
  | notIn =>
    rcases inP_cases h with ⟨c, z, rfl, rfl, h2⟩ | ⟨d, ds, ys, hd, rfl, he, sd, se, h2⟩ | ⟨d, ds, ys, hd, rfl, he, sd, se, h2⟩
    · obtain rfl : x = V.str _ := vp
      obtain rfl : y = V.str z := vq
      exact op_notIn_sign pins s σ' H _ _ v u Q I rx ry ⟨c, z, rfl, rfl, fin h2⟩
    · exact op_notInD hu pins s σ' H x y v u Q I rx ry ⟨d, ds, vp.dp k hd, vq.dp k (by unfold PV.dat; rw [he]; rfl), sd, se, fin h2⟩
    · exact op_notIn_tupD hu I rx ry (vp.dp k hd) (vq.dp k (by unfold PV.dat; rw [he]; rfl)) sd se (fin h2)
end
end Nl
end
section
set_option Elab.async false
set_option linter.all false
set_option maxRecDepth 100000
set_option maxHeartbeats 1000000
/-! Nl, 4: subscripts, slices, built-in functions. -/
namespace Nl
open PySem PySem.Spec PyProof.Rows L2

abbrev RV (L : Lk) : Rl := fun g _ p v => Rep L g p v
def rIxP (L : Lk) : R2 := fun x y H Q => ∃ (W : WX) (σ : L2.St) (g : G) (m : Mem) (p q : PV), Ok L g H m ∧ Vd L g H p x ∧ Vd L g H q y ∧ Out L W σ g H (ixP p q m) (RV L) Q
def rSlP (L : Lk) : V → Option Int → Option Int → Hp → VK → Prop := fun x lo hi H Q => ∃ (W : WX) (σ : L2.St) (g : G) (m : Mem) (p : PV), Ok L g H m ∧ Vd L g H p x ∧ Out L W σ g H (slP p lo hi m) (RF L H) Q
section
variable {X : Cx} {L : Lk}
theorem ixN_rep {L : Lk} {g : G} {ps : List PV} {vs : List V} (r : RepL L g ps vs) {i : Int} {p : PV} (h : L2.atI ps i = some p) : ∃ v, L2.atI vs i = some v ∧ Rep L g p v := by
  unfold L2.atI at h ⊢
  rw [← r.length]
  cases q : ixN ps.length i with
  | none => rw [q] at h; cases h
  | some j =>
    rw [q] at h
    exact r.at h
theorem ix_any : IxR X (rIxP L) := by
  rintro value slice pins s σ' H x y v u Q I rx ry ⟨W, σ, g, m, p, q, k, vp, vq, h⟩ hs
  cases p with
  | tup ps =>
    cases q with
    | int i =>
      obtain rfl : y = V.int i := vq
      have vp' : Rep L g (.tup ps) x := vp
      unfold Rep at vp'
      obtain ⟨a, vs, rfl, h1, r1⟩ := vp'
      cases e : L2.atI ps i with
      | none =>
        have h' : Out L W σ g H ((ofO (L2.atI ps i) : Py PV) m) (RV L) Q := h
        rw [e] at h'; exact h'.elim
      | some p =>
        have h' : Out L W σ g H ((ofO (L2.atI ps i) : Py PV) m) (RV L) Q := h
        rw [e] at h'
        obtain ⟨z, hz, rz⟩ := ixN_rep r1 e
        exact ix_tup value slice pins s σ' H _ _ v u Q I rx ry ⟨a, vs, i, z, rfl, rfl, .of (k.sub _ _ h1), hz, h' g H z k .rfl' rz⟩ hs
    | _ => exact (h : False).elim
  | lst ps =>
    cases q with
    | int i =>
      obtain rfl : y = V.int i := vq
      obtain ⟨a, vs, rfl, h1, r1⟩ := vp
      cases e : L2.atI ps i with
      | none =>
        have h' : Out L W σ g H ((ofO (L2.atI ps i) : Py PV) m) (RV L) Q := h
        rw [e] at h'; exact h'.elim
      | some p =>
        have h' : Out L W σ g H ((ofO (L2.atI ps i) : Py PV) m) (RV L) Q := h
        rw [e] at h'
        obtain ⟨z, hz, rz⟩ := ixN_rep r1 e
        exact ix_list value slice pins s σ' H _ _ v u Q I rx ry ⟨a, vs, i, z, rfl, rfl, .inl h1, hz, h' g H z k .rfl' rz⟩ hs
    | _ => exact (h : False).elim
  | str z =>
    cases q with
    | int i =>
      obtain rfl : y = V.int i := vq
      obtain rfl : x = V.str z := vp
      obtain ⟨hz, h⟩ := Out.need h
      cases e : L2.atI z.cps.toList i with
      | none => rw [e] at h; exact h.elim
      | some c =>
        rw [e] at h
        exact ix_str value slice pins s σ' H _ _ v u Q I rx ry ⟨z, i, c, rfl, rfl, fits_line hz, e, h g H _ k .rfl' rfl⟩ hs
    | _ => exact (h : False).elim
  | _ => exact (h : False).elim
theorem cut_rep {g : G} {ps : List PV} {vs : List V} (r : RepL L g ps vs) (lo hi : Option Int) : RepL L g (cutL ps lo hi) (cutV vs lo hi) := by
  unfold cutL cutV
  rw [← r.length]
  exact (r.drop _).take _
theorem sl_any : SlR X (rSlP L) := by
  rintro pins s σ' H x v vl vu lo hi sl Q I rx hs pl pu ⟨W, σ, g, m, p, k, vp, h⟩
  cases p with
  | tup ps =>
    have vp' : Rep L g (.tup ps) x := vp
    unfold Rep at vp'
    obtain ⟨a, vs, rfl, h1, r1⟩ := vp'
    refine sl_tupA pins s σ' H _ v vl vu lo hi sl Q I rx hs pl pu ⟨a, vs, rfl, .of (k.sub _ _ h1), fun e => ?_, fun _ => RF.newT k (cut_rep r1 lo hi) h⟩
    refine h g H (.ref a) k .rfl' ?_
    have e' : cutL ps lo hi = ps := by
      unfold cutL
      rw [r1.length, e.1, e.2, List.drop_zero, Nat.sub_zero, ← r1.length, List.take_length]
    rw [e']
    exact vp
  | lst ps =>
    obtain ⟨a, vs, rfl, h1, r1⟩ := vp
    exact sl_list pins s σ' H _ v vl vu lo hi sl Q I rx hs pl pu ⟨a, vs, rfl, .inl h1, RF.newL k (cut_rep r1 lo hi) h⟩
  | _ => exact (h : False).elim
end

/-! ### sorted of a list or a tuple of ints -/
section
variable {prog : Program} {w : World} {A : Around} {E : Value → Shared → Prop} {s : Shared}
theorem collect_seq {l : Addr} {o : Obj} {T : String} {vs : List Value} {n : Nat} {Q : List Value → Shared → Prop} (hT : T = "list" ∨ T = "tuple") (ho : s.heap.get? l = some o) (hc : o.cls = .type T) (hd : o.data = .seq vs.toArray n) (hz : vs.length ≤ sizeLine)
    (h : ∀ h' : Heap, (∀ b o, s.heap.get? b = some o → h'.get? b = some o) → s.heap.objs.size ≤ h'.objs.size → Q vs { s with heap := h' }) : wpAny (model prog w) A (collect (.ref l)) Q E s := by
  unfold collect
  refine wpAny_bind (wpAny_runValue (codeAny_builtin F.entry_proto_collect ?_))
  rw [Around.under_plainId F.plain_proto_collect _]
  show wpAny _ A.in1 (newList [] >>= fun q => again (.builtin "list.__iadd__" ⟨[q, .ref l], []⟩)) _ _ s
  refine wpAny_bind (wpAny_newObj_type ?_)
  refine wpAny_pure ⟨plainId_quiet F.plain_list_iadd _, codeAny_builtin F.entry_list_iadd ?_⟩
  rw [Around.under_plainId F.plain_list_iadd _]
  show wpAny _ A.in1 (Builtin.List.listExtendWith (.ref s.heap.objs.size) (.ref l) (.ref s.heap.objs.size)) _ _ _
  have at1 : (s.heap.push { cls := .type "list", data := .seq ([] : List Value).toArray }).get? s.heap.objs.size = some { cls := .type "list", data := .seq #[] 0 } := Heap.get?_push_size _ rfl
  have keep : ∀ b o, s.heap.get? b = some o → ((s.heap.push { cls := .type "list", data := .seq ([] : List Value).toArray }).update s.heap.objs.size (Obj.mapSeq (· ++ vs.toArray))).get? b = some o := by
    intro b o e
    rw [Heap.get?_update_other _ _ (Ne.symm (Nat.ne_of_lt (Heap.lt_size e)))]
    exact Heap.get?_push_of_some _ e
  refine wpAny_mono (wpAny_extend_seq (A := A) (R := fun (rr : Result) s' => rr = .ok (.ret (.ref s.heap.objs.size)) ∧ s' = { s with heap := (s.heap.push { cls := .type "list", data := .seq ([] : List Value).toArray }).update s.heap.objs.size (Obj.mapSeq (· ++ vs.toArray)) })
    s.heap.objs.size l (.ref s.heap.objs.size) 0 (s := { s with heap := s.heap.push { cls := .type "list", data := .seq ([] : List Value).toArray } }) hT at1 (Heap.get?_push_of_some _ ho) hc hd ⟨rfl, rfl⟩ (by simpa using hz)) (fun fin s' q => ?_) (fun e s' q => ?_)
  · have at2 := Heap.get?_update_self (Obj.mapSeq (· ++ vs.toArray)) at1 rfl
    have fin2 : ∀ (rr : Result) (s'' : Shared), (rr = .ok (.ret (.ref s.heap.objs.size)) ∧ s'' = { s with heap := (s.heap.push { cls := .type "list", data := .seq ([] : List Value).toArray }).update s.heap.objs.size (Obj.mapSeq (· ++ vs.toArray)) }) →
        (match rr with | .ok (.ret v) => wpAny (model prog w) A (match v with | .ref a => (do match (← load a).data with | .seq xs _ => pure xs.toList | _ => unsupported "internal:collect") | _ => unsupported "internal:collect") Q E s'' | .ok _ => False | .error e => E e s'') := by
      rintro rr s'' ⟨rfl, rfl⟩
      refine wpAny_bind (wpAny_load at2 ?_)
      show wpAny _ _ (pure ((#[] : Array Value) ++ vs.toArray).toList) Q E _
      rw [show ((#[] : Array Value) ++ vs.toArray).toList = vs by simp]
      exact wpAny_pure (h _ keep (by rw [Heap.size_update, Heap.size_push]; exact Nat.le_succ _))
    cases fin with
    | done f =>
      have z := fin2 _ _ q
      rcases f with _ | _ | _ | v
      · exact z
      · exact z
      · exact z
      · exact z
    | again c =>
      refine ⟨q.1, codeAny_mono q.2 fun rr s'' z => ?_⟩
      exact fin2 rr s'' z
  · exact absurd q.1 (by simp)
theorem sorted_end {l a : Addr} {vs : List Value} {out : List Value} {h1 : Heap} (k1 : ∀ b o, s.heap.get? b = some o → h1.get? b = some o) (z1 : s.heap.objs.size ≤ h1.objs.size) :
    (∀ b o, s.heap.get? b = some o → (sortedHeap (h1.push (seqObj "list" vs.toArray 0)) h1.objs.size vs out.toArray).get? b = some o) ∧
      ∃ ep, (sortedHeap (h1.push (seqObj "list" vs.toArray 0)) h1.objs.size vs out.toArray).get? h1.objs.size = some { cls := .type "list", data := .seq out.toArray ep } := by
  refine ⟨fun b o e => ?_, ?_⟩
  · have e1 := k1 b o e
    have lt := Heap.lt_size e1
    rw [sortedHeap_old (Nat.ne_of_lt lt) (by rw [Heap.size_push]; exact Nat.lt_succ_of_lt lt)]
    exact Heap.get?_push_of_some _ e1
  · exact sortedHeap_at (n := 0) (Heap.get?_push_size _ rfl)
theorem sorted_plain {l : Addr} {o : Obj} {T : String} {vs : List Value} {ns : List Int} {n : Nat} {Q : Value → Shared → Prop} (hT : T = "list" ∨ T = "tuple") (ho : s.heap.get? l = some o) (hc : o.cls = .type T) (hd : o.data = .seq vs.toArray n) (hz : vs.length ≤ sizeLine) (hi : IntsAre vs ns)
    (h : ∀ (h' : Heap) (a : Addr) (out : List Value) (ns' : List Int) (ep : Nat), (∀ b o, s.heap.get? b = some o → h'.get? b = some o) → s.heap.objs.size ≤ a → h'.get? a = some { cls := .type "list", data := .seq out.toArray ep } → IntsAre out ns' → ns'.Perm ns → ns'.Pairwise (· ≤ ·) → Q (.ref a) { s with heap := h' }) :
    wpAny (model prog w) A (call (.builtin "sorted") [.ref l]) Q E s := by
  refine Calls.call_function_entry kind_sorted plain_sorted entry_sorted (args_sorted1 _) ?_
  unfold Builtin.«sorted»
  refine wpAny_bind (m := checkCount "sorted" 1 1 _) (wpAny_pure ?_)
  refine wpAny_bind (collect_seq hT ho hc hd hz fun h1 k1 z1 => ?_)
  refine wpAny_bind (wpAny_newList ?_ hz)
  have at1 : (h1.push (seqObj "list" vs.toArray 0)).get? h1.objs.size = some (seqObj "list" vs.toArray 0) := Heap.get?_push_size _ rfl
  refine wpAny_bind (wpAny_holding (wpAny_call_entry slot_list_sort ⟨_, at1, rfl⟩ entry_list_sort ?_ (args_list_sort _)))
  refine SrtO.list_sort_ord SrtO.swo_int at1 hz (fun h2 => SrtO.ints_sortable hi h2) fun out hs hb => ⟨_, rfl, ?_⟩
  obtain ⟨q1, q2, q3⟩ := SrtO.ints_out hi hs hb
  obtain ⟨e1, ep, e2⟩ := sorted_end (l := l) (a := l) (vs := vs) (out := out) k1 z1
  exact wpAny_pure ⟨_, rfl, h _ _ out _ ep e1 z1 e2 q1 q2 q3⟩
theorem sorted_back {l : Addr} {o : Obj} {T : String} {vs : List Value} {ns : List Int} {n : Nat} {Q : Value → Shared → Prop} (hT : T = "list" ∨ T = "tuple") (ho : s.heap.get? l = some o) (hc : o.cls = .type T) (hd : o.data = .seq vs.toArray n) (hz : vs.length ≤ sizeLine) (hi : IntsAre vs ns)
    (h : ∀ (h' : Heap) (a : Addr) (out : List Value) (ns' : List Int) (ep : Nat), (∀ b o, s.heap.get? b = some o → h'.get? b = some o) → s.heap.objs.size ≤ a → h'.get? a = some { cls := .type "list", data := .seq out.toArray ep } → IntsAre out ns' → ns'.Perm ns → ns'.Pairwise (· ≥ ·) → Q (.ref a) { s with heap := h' }) :
    wpAny (model prog w) A (call (.builtin "sorted") [.ref l] [(Str.ofString "reverse", .bool true)]) Q E s := by
  refine call_function_entry_kw kind_sorted plain_sorted entry_sorted (args_sorted_rev _ _) ?_
  unfold Builtin.«sorted»
  refine wpAny_bind (m := checkCount "sorted" 1 1 _) (wpAny_pure ?_)
  refine wpAny_bind (collect_seq hT ho hc hd hz fun h1 k1 z1 => ?_)
  refine wpAny_bind (wpAny_newList ?_ hz)
  have at1 : (h1.push (seqObj "list" vs.toArray 0)).get? h1.objs.size = some (seqObj "list" vs.toArray 0) := Heap.get?_push_size _ rfl
  refine wpAny_bind (wpAny_holding (wpAny_call_entry_kw slot_list_sort ⟨_, at1, rfl⟩ entry_list_sort ?_ (args_list_sort_rev _ _)))
  refine SrtR.list_sort_ordR SrtO.swo_int at1 hz (fun h2 => SrtO.ints_sortable hi h2) fun out hs hb => ⟨_, rfl, ?_⟩
  obtain ⟨ns', q1, q2, q3⟩ := SrtR.ints_outR hi hs hb
  obtain ⟨e1, ep, e2⟩ := sorted_end (l := l) (a := l) (vs := vs) (out := (out.toArray.reverse).toList) k1 z1
  refine wpAny_pure ⟨_, rfl, ?_⟩
  have q : ((out.toArray.reverse).toList).toArray = out.toArray.reverse := Array.toArray_toList
  rw [q] at e1 e2
  exact h _ _ (out.toArray.reverse).toList ns' ep e1 z1 (by rw [q]; exact e2) q1 q2 q3
end
end Nl
end
section
set_option Elab.async false
set_option linter.all false
set_option maxRecDepth 100000
set_option maxHeartbeats 1000000
/-! Nl, 5: built-in functions. -/
namespace Nl
open PySem PySem.Spec PyProof.Rows L2

def VdL (L : Lk) (g : G) (H : Hp) : List PV → List V → Prop
  | [], vs => vs = []
  | p :: ps, vs => ∃ v r, vs = v :: r ∧ Vd L g H p v ∧ VdL L g H ps r
def fOf : Bi → Value
  | .len => .builtin "len" | .abs => .builtin "abs" | .max2 => .builtin "max" | .min2 => .builtin "min" | .maxL => .builtin "max" | .minL => .builtin "min" | .sum => .builtin "sum" | .sorted => .builtin "sorted"
  | .list => .type "list" | .tuple => .type "tuple" | .str => .type "str" | .int => .type "int" | .bool => .type "bool" | .repr => .builtin "repr" | .all => .builtin "all" | .any => .builtin "any" | .divmod => .builtin "divmod"
def rBi (L : Lk) (b : Bi) : List V → Hp → VK → Prop := fun vs H Q => ∃ (W : WX) (σ : L2.St) (g : G) (m : Mem) (ps : List PV), Ok L g H m ∧ VdL L g H ps vs ∧ Out L W σ g H (biP b ps m) (RF L H) Q
theorem maxI_mem : ∀ (ns : List Int), ns ≠ [] → maxI ns ∈ ns ∧ ∀ a ∈ ns, a ≤ maxI ns
  | [], h => (h rfl).elim
  | [a], _ => ⟨List.mem_singleton.mpr rfl, fun b hb => by rw [List.mem_singleton.mp hb]; exact Int.le_refl _⟩
  | a :: b :: r, _ => by
    obtain ⟨h1, h2⟩ := maxI_mem (b :: r) (by simp)
    have e : maxI (a :: b :: r) = max a (maxI (b :: r)) := rfl
    rw [e]
    refine ⟨?_, fun c hc => ?_⟩
    · rcases Int.le_total a (maxI (b :: r)) with z | z
      · rw [Int.max_eq_right z]; exact List.mem_cons_of_mem _ h1
      · rw [Int.max_eq_left z]; exact List.mem_cons_self
    · rcases List.mem_cons.mp hc with rfl | hc
      · exact Int.le_max_left _ _
      · exact Int.le_trans (h2 c hc) (Int.le_max_right _ _)
theorem minI_mem : ∀ (ns : List Int), ns ≠ [] → minI ns ∈ ns ∧ ∀ a ∈ ns, minI ns ≤ a
  | [], h => (h rfl).elim
  | [a], _ => ⟨List.mem_singleton.mpr rfl, fun b hb => by rw [List.mem_singleton.mp hb]; exact Int.le_refl _⟩
  | a :: b :: r, _ => by
    obtain ⟨h1, h2⟩ := minI_mem (b :: r) (by simp)
    have e : minI (a :: b :: r) = min a (minI (b :: r)) := rfl
    rw [e]
    refine ⟨?_, fun c hc => ?_⟩
    · rcases Int.le_total a (minI (b :: r)) with z | z
      · rw [Int.min_eq_left z]; exact List.mem_cons_self
      · rw [Int.min_eq_right z]; exact List.mem_cons_of_mem _ h1
    · rcases List.mem_cons.mp hc with rfl | hc
      · exact Int.min_le_left _ _
      · exact Int.le_trans (Int.min_le_right _ _) (h2 c hc)
theorem sortR_eq {a b : List Int} (h : a.Perm b) (ha : a.Pairwise (· ≥ ·)) : a = sortR b := by
  have h2 : (sortR b).Pairwise (· ≥ ·) := by
    have z := List.pairwise_mergeSort (le := fun a b : Int => decide (b ≤ a)) (fun a b c h1 h2 => by simp only [decide_eq_true_eq] at *; omega) (fun a b => by simp only [Bool.or_eq_true, decide_eq_true_eq]; omega) b
    exact z.imp fun h => by simpa using h
  have p : a.reverse.Perm (sortR b).reverse := ((List.reverse_perm a).trans (h.trans (List.mergeSort_perm b _).symm)).trans (List.reverse_perm _).symm
  have e := PySem.W.os_sorted_one p (by rw [List.pairwise_reverse]; exact ha) (by rw [List.pairwise_reverse]; exact h2)
  exact List.reverse_inj.mp e
section
variable {X : Cx} {L : Lk} {g : G} {H : Hp} {m : Mem}
/-- the items of a list or tuple, in the heap -/
theorem items_seq {pins : List (Addr × Obj)} {σ : L2.St} {s : Shared} (I : Inv X pins σ H s) (k : Ok L g H m) {p : PV} {v : V} {ps : List PV} (e : itemsP p = some ps) (r : Vd L g H p v) :
    ∃ a vs its o n T, v = .ref a ∧ RepL L g ps vs ∧ Vals vs its ∧ (T = "list" ∨ T = "tuple") ∧ s.heap.get? a = some o ∧ o.cls = .type T ∧ o.data = .seq its.toArray n ∧ vs.length ≤ sizeLine := by
  cases p with
  | lst xs =>
    cases e
    obtain ⟨a, vs, rfl, h1, h2⟩ := r
    obtain ⟨z, its, n, r, l, eo⟩ := rd_lst I h1
    exact ⟨a, vs, its, _, n, "list", rfl, h2, r, .inl rfl, eo, rfl, rfl, z⟩
  | tup xs =>
    cases e
    have r' : Rep L g (.tup ps) v := r
    unfold Rep at r'
    obtain ⟨a, vs, rfl, h1, h2⟩ := r'
    obtain ⟨its, r, ⟨o, eo, c, n, d⟩, z⟩ := I.tuple (.of (k.sub _ _ h1))
    exact ⟨a, vs, its, o, n, "tuple", rfl, h2, r, .inr rfl, eo, c, d, z⟩
  | _ => cases e
theorem VdL.one {ps : List PV} {vs : List V} {p : PV} (h : VdL L g H [p] vs) : ∃ v, vs = [v] ∧ Vd L g H p v := by
  obtain ⟨v, r, rfl, h1, h2⟩ := h
  have h2' : r = [] := h2
  subst h2'
  exact ⟨v, rfl, h1⟩
theorem VdL.two {ps : List PV} {vs : List V} {p q : PV} (h : VdL L g H [p, q] vs) : ∃ v u, vs = [v, u] ∧ Vd L g H p v ∧ Vd L g H q u := by
  obtain ⟨v, r, rfl, h1, h2⟩ := h
  obtain ⟨u, r, rfl, h3, h4⟩ := h2
  have h4' : r = [] := h4
  subst h4'
  exact ⟨v, u, rfl, h1, h3⟩
end
section
variable {X : Cx} {L : Lk}
/-- built-ins of one argument -/
theorem bi_one {f : Value} {b : Bi} (no0 : ∀ m, biP b [] m = .stuck) (no2 : ∀ p q r m, biP b (p :: q :: r) m = .stuck)
    (one : ∀ (pins : List (Addr × Obj)) (s : Shared) (σ : L2.St) (H : Hp) (Q : VK) (W : WX) (σ' : L2.St) (g : G) (m : Mem) (p : PV) (x : V) (us : List Value), Inv X pins σ H s → Ok L g H m → Vals [x] us → Vd L g H p x → Out L W σ' g H (biP b [p] m) (RF L H) Q →
      wpAny (model X.prog X.w) X.A (call f us) (EP X pins σ Q) X.xe s) : CallR X f (rBi L b) := by
  rintro pins s σ' H vs us Q I r ⟨W, σ, g, m, ps, k, v, h⟩
  match ps, v, h with
  | [], v, h => rw [no0] at h; exact h.elim
  | [p], v, h =>
    obtain ⟨x, rfl, vx⟩ := VdL.one (ps := [p]) v
    exact one pins s σ' H Q W σ g m p x us I k r vx h
  | p :: q :: t, v, h => rw [no2] at h; exact h.elim
theorem bi_two {f : Value} {b : Bi} (no0 : ∀ m, biP b [] m = .stuck) (no1 : ∀ p m, biP b [p] m = .stuck) (no3 : ∀ p q r t m, biP b (p :: q :: r :: t) m = .stuck)
    (two : ∀ (pins : List (Addr × Obj)) (s : Shared) (σ : L2.St) (H : Hp) (Q : VK) (W : WX) (σ' : L2.St) (g : G) (m : Mem) (p q : PV) (x y : V) (us : List Value), Inv X pins σ H s → Ok L g H m → Vals [x, y] us → Vd L g H p x → Vd L g H q y → Out L W σ' g H (biP b [p, q] m) (RF L H) Q →
      wpAny (model X.prog X.w) X.A (call f us) (EP X pins σ Q) X.xe s) : CallR X f (rBi L b) := by
  rintro pins s σ' H vs us Q I r ⟨W, σ, g, m, ps, k, v, h⟩
  match ps, v, h with
  | [], v, h => rw [no0] at h; exact h.elim
  | [p], v, h => rw [no1] at h; exact h.elim
  | [p, q], v, h =>
    obtain ⟨x, y, rfl, vx, vy⟩ := VdL.two (ps := [p]) v
    exact two pins s σ' H Q W σ g m p q x y us I k r vx vy h
  | p :: q :: t :: z, v, h => rw [no3] at h; exact h.elim
theorem vd_tup {g : G} {H : Hp} {ps : List PV} {x : V} (v : Vd L g H (.tup ps) x) : ∃ a vs, x = .ref a ∧ g.F a = some (.tup vs) ∧ RepL L g ps vs := by
  have v' : Rep L g (.tup ps) x := v
  unfold Rep at v'
  exact v'
theorem sorted_fin {pins : List (Addr × Obj)} {s : Shared} {σ : L2.St} {H : Hp} {Q : VK} {W : WX} {σ' : L2.St} {g : G} {m : Mem} {ns : List Int} (I : Inv X pins σ H s) (k : Ok L g H m) (z : ns.length ≤ sizeLine) (h : Out L W σ' g H ((pure (.lst (ns.map PV.int)) : Py PV) m) (RF L H) Q)
    {h' : Heap} {a : Addr} {out : List Value} {ep : Nat} (e1 : ∀ b o, s.heap.get? b = some o → h'.get? b = some o) (z1 : s.heap.objs.size ≤ a) (e2 : h'.get? a = some { cls := .type "list", data := .seq out.toArray ep }) (q1 : IntsAre out ns) : EP X pins σ Q (.ref a) { s with heap := h' } := by
  have hn := I.hok.fresh z1
  exact ⟨.ref a, _, I.laid (t' := s.toks) e1 z1 (o := .lst (ns.map V.int)) ⟨by rw [List.length_map]; exact z, out, ep, vals_of_ints q1, e2⟩, rfl, RF.newL k RepL.ints h a hn⟩
theorem cr_len : CallR X (.builtin "len") (rBi L .len) := bi_one (fun _ => rfl) (fun p _ _ _ => by cases p <;> rfl) fun pins s σ H Q W σ' g m p x us I k r v h => by
  cases p with
  | str z =>
    obtain rfl : x = V.str z := v
    obtain ⟨hz, h⟩ := Out.need h
    exact call_len pins s σ H _ us Q I r ⟨_, z.length, rfl, ⟨fits_line hz, rfl⟩, h g H _ k .rfl' rfl⟩
  | tup ps =>
    obtain ⟨a, vs, rfl, h1, h2⟩ := vd_tup v
    refine call_len pins s σ H _ us Q I r ⟨_, ps.length, rfl, .inr ⟨vs, .of (k.sub _ _ h1), h2.length⟩, h g H _ k .rfl' rfl⟩
  | lst ps =>
    obtain ⟨a, vs, rfl, h1, h2⟩ := v
    exact call_len pins s σ H _ us Q I r ⟨_, ps.length, rfl, .inl ⟨vs, .inl h1, h2.length⟩, h g H _ k .rfl' rfl⟩
  | _ => exact (h : False).elim
theorem cr_abs : CallR X (.builtin "abs") (rBi L .abs) := bi_one (fun _ => rfl) (fun p _ _ _ => by cases p <;> rfl) fun pins s σ H Q W σ' g m p x us I k r v h => by
  cases p with
  | int i =>
    obtain rfl : x = V.int i := v
    exact call_abs pins s σ H _ us Q I r ⟨i, rfl, h g H _ k .rfl' rfl⟩
  | _ => exact (h : False).elim
theorem cr_max2 (hc : X.calm = true) : CallR X (.builtin "max") (rBi L .max2) := bi_two (fun _ => rfl) (fun p _ => by cases p <;> rfl) (fun p q _ _ _ => by cases p <;> cases q <;> rfl) fun pins s σ H Q W σ' g m p q x y us I k r v v2 h => by
  cases p with
  | int i =>
    cases q with
    | int j =>
      obtain rfl : x = V.int i := v
      obtain rfl : y = V.int j := v2
      exact call_max2 hc pins s σ H _ us Q I r ⟨i, j, rfl, h g H _ k .rfl' rfl⟩
    | _ => exact (h : False).elim
  | _ => exact (h : False).elim
theorem cr_min2 (hc : X.calm = true) : CallR X (.builtin "min") (rBi L .min2) := bi_two (fun _ => rfl) (fun p _ => by cases p <;> rfl) (fun p q _ _ _ => by cases p <;> cases q <;> rfl) fun pins s σ H Q W σ' g m p q x y us I k r v v2 h => by
  cases p with
  | int i =>
    cases q with
    | int j =>
      obtain rfl : x = V.int i := v
      obtain rfl : y = V.int j := v2
      exact call_min2 hc pins s σ H _ us Q I r ⟨i, j, rfl, h g H _ k .rfl' rfl⟩
    | _ => exact (h : False).elim
  | _ => exact (h : False).elim
section
variable {prog : Program} {w : World} {A : Around} {E : Value → Shared → Prop} {s : Shared} {l : Addr} {its : List Value} {ns : List Int} {Q : Value → Shared → Prop}
theorem tup_start {it : Array Value} (ht : s.heap.IsTuple l it)
    (h : ∀ s2 : Shared, s2 = { s with heap := s.heap.push { cls := .type "tuple_iterator", data := .fields #[.ref l, .int 0 0] } } → (s2.heap.IsTupleIter s.heap.objs.size l 0 ∧ s2.heap.IsTuple l it) → (∀ b ∈ [s.heap.objs.size, l], b < s2.heap.objs.size) → l ≠ s.heap.objs.size → Q (.ref s.heap.objs.size) s2) :
    wpAny (model prog w) A (pyIter (.ref l)) Q E s := by
  have lt : l < s.heap.objs.size := by obtain ⟨_, e, _⟩ := id ht; exact Heap.lt_size e
  refine wpAny_pyIter_tuple ht (h _ rfl ⟨⟨_, Heap.get?_push_size _ rfl, rfl, rfl⟩, ht.at fun o e => Heap.get?_push_of_some _ e⟩ (fun b hb => ?_) (Nat.ne_of_lt lt))
  show b < (s.heap.push _).objs.size
  rw [Heap.size_push]
  rcases List.mem_cons.mp hb with z | z
  · rw [z]; exact Nat.lt_succ_self _
  · rw [List.mem_singleton.mp z]; exact Nat.lt_succ_of_lt lt
theorem tup_kept {h' : Heap} {o : Obj} (hk : ∀ b u, b ∉ [s.heap.objs.size] → (s.heap.push o).get? b = some u → h'.get? b = some u) : ∀ b u, s.heap.get? b = some u → h'.get? b = some u := fun b u e => by
  refine hk b u (fun z => ?_) (Heap.get?_push_of_some _ e)
  have := Heap.lt_size e
  rw [List.mem_singleton.mp z] at this
  exact absurd this (Nat.lt_irrefl _)
theorem sum_tup (hh : A.handled = none) (hl : s.heap.IsTuple l its.toArray) (hi : IntsAre its ns)
    (h : ∀ h' tk t', (∀ b o, s.heap.get? b = some o → h'.get? b = some o) → Q (.int ns.sum t') { s with heap := h', toks := tk }) : wpAny (model prog w) A (call (.builtin "sum") [.ref l]) Q E s := by
  obtain ⟨xs, e⟩ := hi.allInts.items
  have hn : numsOf (intItems xs).toList = ns := by rw [← e]; exact hi.numsOf
  rw [nums_intItems] at hn
  rw [e] at hl
  refine call_sum_walkG (tup_start hl fun s2 e st hfp hne => ?_)
  subst e
  refine ⟨_, _, _, _, _, _, numAt xs, rfl, Walks.tuple (A := A.in1) hh _ l hne (intItems xs), st, hfp, (fun _ _ => intItems_at), fun h' tk t' hk => ?_⟩
  have z := h h' tk t' (tup_kept hk)
  have e2 : preSum (numAt xs) xs.size = ns.sum := by rw [preSum_eq, List.take_of_length_le (by simp), hn]
  rw [← e2] at z
  simpa [intItems] using z
theorem max_tup (hh : A.handled = none) (hl : s.heap.IsTuple l its.toArray) (hi : IntsAre its ns) (hne : 0 < ns.length)
    (h : ∀ h' tk M t', (∀ b o, s.heap.get? b = some o → h'.get? b = some o) → M ∈ ns → (∀ a, a ∈ ns → a ≤ M) → Q (.int M t') { s with heap := h', toks := tk }) : wpAny (model prog w) A (call (.builtin "max") [.ref l]) Q E s := by
  obtain ⟨xs, e⟩ := hi.allInts.items
  have hn : numsOf (intItems xs).toList = ns := by rw [← e]; exact hi.numsOf
  rw [nums_intItems] at hn
  subst hn
  rw [e] at hl
  have sz : 0 < xs.size := by simpa using hne
  refine call_max_walk (tup_start hl fun s2 e st hfp hx => ?_)
  subst e
  refine ⟨_, _, _, _, _, _, _, rfl, Walks.tuple (A := A.in1) hh _ l hx (intItems xs), st, hfp, by simpa [intItems] using sz, CmpOf.ints_gt (numAt xs) (fun _ _ => intItems_at), fun v h' tk hP hk => ?_⟩
  have hv : (intItems xs)[argBest (fun i j => decide (numAt xs i > numAt xs j)) (xs.size - 1)]? = some v := by simpa [intItems] using hP
  obtain ⟨t, rfl⟩ := intItems_at hv
  obtain ⟨q1, q2⟩ := argBest_gt (numAt xs) (xs.size - 1)
  refine h h' tk _ t (tup_kept hk) ?_ fun a ha => ?_
  · rw [numAt_eq]; exact PySem.getD_mem (by rw [List.length_map, Array.length_toList]; omega)
  · obtain ⟨j, hj, rfl⟩ := mem_getD ha
    rw [List.length_map, Array.length_toList] at hj
    rw [← numAt_eq]; exact q2 j (by omega)
theorem min_tup (hh : A.handled = none) (hl : s.heap.IsTuple l its.toArray) (hi : IntsAre its ns) (hne : 0 < ns.length)
    (h : ∀ h' tk M t', (∀ b o, s.heap.get? b = some o → h'.get? b = some o) → M ∈ ns → (∀ a, a ∈ ns → M ≤ a) → Q (.int M t') { s with heap := h', toks := tk }) : wpAny (model prog w) A (call (.builtin "min") [.ref l]) Q E s := by
  obtain ⟨xs, e⟩ := hi.allInts.items
  have hn : numsOf (intItems xs).toList = ns := by rw [← e]; exact hi.numsOf
  rw [nums_intItems] at hn
  subst hn
  rw [e] at hl
  have sz : 0 < xs.size := by simpa using hne
  refine call_min_walk (tup_start hl fun s2 e st hfp hx => ?_)
  subst e
  refine ⟨_, _, _, _, _, _, _, rfl, Walks.tuple (A := A.in1) hh _ l hx (intItems xs), st, hfp, by simpa [intItems] using sz, CmpOf.ints_lt (numAt xs) (fun _ _ => intItems_at), fun v h' tk hP hk => ?_⟩
  have hv : (intItems xs)[argBest (fun i j => decide (numAt xs i < numAt xs j)) (xs.size - 1)]? = some v := by simpa [intItems] using hP
  obtain ⟨t, rfl⟩ := intItems_at hv
  obtain ⟨q1, q2⟩ := argBest_lt (numAt xs) (xs.size - 1)
  refine h h' tk _ t (tup_kept hk) ?_ fun a ha => ?_
  · rw [numAt_eq]; exact PySem.getD_mem (by rw [List.length_map, Array.length_toList]; omega)
  · obtain ⟨j, hj, rfl⟩ := mem_getD ha
    rw [List.length_map, Array.length_toList] at hj
    rw [← numAt_eq]; exact q2 j (by omega)
end
/-- a list or a tuple of ints, at the library's level -/
theorem ints_at {pins : List (Addr × Obj)} {σ : L2.St} {s : Shared} (I : Inv X pins σ H s) (k : Ok L g H m) {p : PV} {v : V} {ps : List PV} {ns : List Int} (e : itemsP p = some ps) (en : allInt ps = some ns) (r : Vd L g H p v) :
    ∃ a its, v = .ref a ∧ IntsAre its ns ∧ ((SqL X.K H a (ns.map V.int)) ∨ s.heap.IsTuple a its.toArray) := by
  cases p with
  | lst xs =>
    cases e
    obtain ⟨a, vs, rfl, h1, h2⟩ := r
    have ev := allInt_rep h2 en
    have q : SqL X.K H a (ns.map V.int) := by rw [← ev]; exact .inl h1
    obtain ⟨its, rv, hl, _⟩ := I.list q
    exact ⟨a, its, rfl, rv.ints, .inl q⟩
  | tup xs =>
    cases e
    obtain ⟨a, vs, rfl, h1, h2⟩ := vd_tup r
    have ev := allInt_rep h2 en
    obtain ⟨its, rv, hl, _⟩ := I.tuple (SqT.of (K := X.K) (k.sub _ _ h1))
    rw [ev] at rv
    exact ⟨a, its, rfl, rv.ints, .inr hl⟩
  | _ => cases e
theorem cr_maxL (hc : X.calm = true) : CallR X (.builtin "max") (rBi L .maxL) := bi_one (fun _ => rfl) (fun p _ _ _ => by cases p <;> rfl) fun pins s σ H Q W σ' g m p x us I k r v h => by
  have h' : Out L W σ' g H ((match itemsP p with | some x => (match allInt x with | some (a :: r) => pure (.int (maxI (a :: r))) | _ => stuck) | _ => stuck : Py PV) m) (RF L H) Q := h
  cases ei : itemsP p with
  | none => rw [ei] at h'; exact h'.elim
  | some ps =>
    rw [ei] at h'
    dsimp only at h'
    cases e : allInt ps with
    | none => rw [e] at h'; exact h'.elim
    | some ns =>
      rw [e] at h'
      cases ns with
      | nil => exact h'.elim
      | cons n ns =>
        obtain ⟨a, its, rfl, hi, alt⟩ := ints_at I k ei e v
        have fin : ∀ M, M ∈ n :: ns → (∀ y, y ∈ n :: ns → y ≤ M) → Q (.int M) H := fun M hM hy => by
          obtain ⟨q1, q2⟩ := maxI_mem (n :: ns) (by simp)
          have eM : M = maxI (n :: ns) := Int.le_antisymm (q2 _ hM) (hy _ q1)
          rw [eM]
          exact h' g H _ k .rfl' rfl
        rcases alt with q | q
        · exact cr_max hc pins s σ H _ us Q I r ⟨a, n :: ns, rfl, q, by simp, fin⟩
        · rw [Vals.ref1 r]
          exact max_tup (I.ok.hd hc) q hi (by simp) fun h' tk M t' hk h1 h2 => ⟨.int _, H, I.kept hk, ⟨_, rfl⟩, fin M h1 h2⟩
theorem cr_minL (hc : X.calm = true) : CallR X (.builtin "min") (rBi L .minL) := bi_one (fun _ => rfl) (fun p _ _ _ => by cases p <;> rfl) fun pins s σ H Q W σ' g m p x us I k r v h => by
  have h' : Out L W σ' g H ((match itemsP p with | some x => (match allInt x with | some (a :: r) => pure (.int (minI (a :: r))) | _ => stuck) | _ => stuck : Py PV) m) (RF L H) Q := h
  cases ei : itemsP p with
  | none => rw [ei] at h'; exact h'.elim
  | some ps =>
    rw [ei] at h'
    dsimp only at h'
    cases e : allInt ps with
    | none => rw [e] at h'; exact h'.elim
    | some ns =>
      rw [e] at h'
      cases ns with
      | nil => exact h'.elim
      | cons n ns =>
        obtain ⟨a, its, rfl, hi, alt⟩ := ints_at I k ei e v
        have fin : ∀ M, M ∈ n :: ns → (∀ y, y ∈ n :: ns → M ≤ y) → Q (.int M) H := fun M hM hy => by
          obtain ⟨q1, q2⟩ := minI_mem (n :: ns) (by simp)
          have eM : M = minI (n :: ns) := Int.le_antisymm (hy _ q1) (q2 _ hM)
          rw [eM]
          exact h' g H _ k .rfl' rfl
        rcases alt with q | q
        · exact cr_min hc pins s σ H _ us Q I r ⟨a, n :: ns, rfl, q, by simp, fin⟩
        · rw [Vals.ref1 r]
          exact min_tup (I.ok.hd hc) q hi (by simp) fun h' tk M t' hk h1 h2 => ⟨.int _, H, I.kept hk, ⟨_, rfl⟩, fin M h1 h2⟩
theorem cr_sumL (hc : X.calm = true) : CallR X (.builtin "sum") (rBi L .sum) := bi_one (fun _ => rfl) (fun p _ _ _ => by cases p <;> rfl) fun pins s σ H Q W σ' g m p x us I k r v h => by
  have h' : Out L W σ' g H ((match itemsP p with | some x => (match allInt x with | some ns => pure (.int ns.sum) | _ => stuck) | _ => stuck : Py PV) m) (RF L H) Q := h
  cases ei : itemsP p with
  | none => rw [ei] at h'; exact h'.elim
  | some ps =>
    rw [ei] at h'
    dsimp only at h'
    cases e : allInt ps with
    | none => rw [e] at h'; exact h'.elim
    | some ns =>
      rw [e] at h'
      obtain ⟨a, its, rfl, hi, alt⟩ := ints_at I k ei e v
      rcases alt with q | q
      · exact cr_sum hc pins s σ H _ us Q I r ⟨a, ns, rfl, q, h' g H _ k .rfl' rfl⟩
      · rw [Vals.ref1 r]
        exact sum_tup (I.ok.hd hc) q hi fun h2 tk t' hk => ⟨.int _, H, I.kept hk, ⟨_, rfl⟩, h' g H _ k .rfl' rfl⟩
theorem cr_sortedP : CallR X (.builtin "sorted") (rBi L .sorted) := bi_one (fun _ => rfl) (fun p _ _ _ => by cases p <;> rfl) fun pins s σ H Q W σ' g m p x us I k r v h => by
  have h' : Out L W σ' g H ((match itemsP p with | some x => (match allInt x with | some ns => pure (.lst ((sortI ns).map .int)) | _ => stuck) | _ => stuck : Py PV) m) (RF L H) Q := h
  cases ei : itemsP p with
  | none => rw [ei] at h'; exact h'.elim
  | some ps =>
    rw [ei] at h'
    cases e : allInt ps with
    | none =>
      have h2 : Out L W σ' g H ((match allInt ps with | some ns => pure (.lst ((sortI ns).map .int)) | _ => stuck : Py PV) m) (RF L H) Q := h'
      rw [e] at h2; exact h2.elim
    | some ns =>
      have h2 : Out L W σ' g H ((match allInt ps with | some ns => pure (.lst ((sortI ns).map .int)) | _ => stuck : Py PV) m) (RF L H) Q := h'
      rw [e] at h2
      obtain ⟨a, vs, its, o, n, T, rfl, rp, rv, hT, ho, hcl, hd, hz⟩ := items_seq I k ei v
      have ev := allInt_rep rp e
      rw [Vals.ref1 r]
      subst ev
      rw [List.length_map] at hz
      refine sorted_plain hT ho hcl hd (by rw [← rv.length, List.length_map]; exact hz) rv.ints fun h' a' out ns' ep e1 z1 e2 q1 q2 q3 => ?_
      have es : ns' = sortI ns := PySem.W.os_sorted_mergeSort q2 q3
      refine sorted_fin (W := W) (σ' := σ') I k (by rw [q2.length_eq]; exact hz) ?_ e1 z1 e2 q1
      rw [es]
      exact h2
theorem cr_list : CallR X (.type "list") (rBi L .list) := bi_one (fun _ => rfl) (fun p _ _ _ => by cases p <;> rfl) fun pins s σ H Q W σ' g m p x us I k r v h => by
  cases p with
  | lst ps =>
    obtain ⟨a, vs, rfl, h1, h2⟩ := v
    exact call_list_of pins s σ H _ us Q I r ⟨a, vs, rfl, .inl (.inl h1), RF.newL k h2 h⟩
  | tup ps =>
    obtain ⟨a, vs, rfl, h1, h2⟩ := vd_tup v
    exact call_list_of pins s σ H _ us Q I r ⟨a, vs, rfl, .inr (.of (k.sub _ _ h1)), RF.newL k h2 h⟩
  | _ => exact (h : False).elim
theorem cr_tuple : CallR X (.type "tuple") (rBi L .tuple) := bi_one (fun _ => rfl) (fun p _ _ _ => by cases p <;> rfl) fun pins s σ H Q W σ' g m p x us I k r v h => by
  cases p with
  | lst ps =>
    obtain ⟨a, vs, rfl, h1, h2⟩ := v
    exact call_tuple_of pins s σ H _ us Q I r ⟨a, vs, rfl, .inl ⟨.inl h1, RF.newT k h2 h⟩⟩
  | tup ps =>
    obtain ⟨a, vs, e, h1, h2⟩ := vd_tup v
    subst e
    exact call_tuple_of pins s σ H _ us Q I r ⟨a, vs, rfl, .inr ⟨.of (k.sub _ _ h1), h g H _ k .rfl' v⟩⟩
  | _ => exact (h : False).elim
theorem cr_str : CallR X (.type "str") (rBi L .str) := bi_one (fun _ => rfl) (fun p _ _ _ => by cases p <;> rfl) fun pins s σ H Q W σ' g m p x us I k r v h => by
  cases p with
  | int i =>
    obtain rfl : x = V.int i := v
    obtain ⟨hz, h⟩ := Out.need h
    exact call_str_int pins s σ H _ us Q I r ⟨i, rfl, Nat.lt_trans (mid_log hz) (by decide), h g H _ k .rfl' rfl⟩
  | _ => exact (h : False).elim
theorem cr_int : CallR X (.type "int") (rBi L .int) := bi_one (fun _ => rfl) (fun p _ _ _ => by cases p <;> rfl) fun pins s σ H Q W σ' g m p x us I k r v h => by
  cases p with
  | int i =>
    obtain rfl : x = V.int i := v
    exact call_int1 pins s σ H _ us Q I r (.inl ⟨i, rfl, h g H _ k .rfl' rfl⟩)
  | bl i =>
    obtain rfl : x = V.bl i := v
    exact call_int1 pins s σ H _ us Q I r (.inr ⟨i, rfl, h g H _ k .rfl' rfl⟩)
  | _ => exact (h : False).elim
theorem cr_bool : CallR X (.type "bool") (rBi L .bool) := bi_one (fun _ => rfl) (fun p _ _ _ => by cases p <;> rfl) fun pins s σ H Q W σ' g m p x us I k r v h => by
  cases p with
  | bl i =>
    obtain rfl : x = V.bl i := v
    exact call_bool1 pins s σ H _ us Q I r (.inr ⟨i, rfl, h g H _ k .rfl' rfl⟩)
  | _ => exact (h : False).elim
theorem cr_allL (hc : X.calm = true) : CallR X (.builtin "all") (rBi L .all) := bi_one (fun _ => rfl) (fun p _ _ _ => by cases p <;> rfl) fun pins s σ H Q W σ' g m p x us I k r v h => by
  cases p with
  | lst ps =>
    obtain ⟨a, vs, rfl, h1, h2⟩ := v
    have h' : Out L W σ' g H ((match allBl ps with | some bs => pure (.bl (bs.all id)) | _ => stuck : Py PV) m) (RF L H) Q := h
    cases e : allBl ps with
    | none => rw [e] at h'; exact h'.elim
    | some ns =>
      rw [e] at h'
      have ev := allBl_rep h2 e
      exact cr_all hc pins s σ H _ us Q I r ⟨a, ns, rfl, by rw [← ev]; exact .inl h1, h' g H _ k .rfl' rfl⟩
  | _ => exact (h : False).elim
theorem cr_anyL (hc : X.calm = true) : CallR X (.builtin "any") (rBi L .any) := bi_one (fun _ => rfl) (fun p _ _ _ => by cases p <;> rfl) fun pins s σ H Q W σ' g m p x us I k r v h => by
  cases p with
  | lst ps =>
    obtain ⟨a, vs, rfl, h1, h2⟩ := v
    have h' : Out L W σ' g H ((match allBl ps with | some bs => pure (.bl (bs.any id)) | _ => stuck : Py PV) m) (RF L H) Q := h
    cases e : allBl ps with
    | none => rw [e] at h'; exact h'.elim
    | some ns =>
      rw [e] at h'
      have ev := allBl_rep h2 e
      exact cr_any hc pins s σ H _ us Q I r ⟨a, ns, rfl, by rw [← ev]; exact .inl h1, h' g H _ k .rfl' rfl⟩
  | _ => exact (h : False).elim
theorem mid_div {i j : Int} (h : 0 < j) (m : mid j = true) : CDivP i j := by
  have hl := mid_log m
  refine ⟨h, ?_⟩
  show (decide ((if j == 0 then 0 else j.natAbs.log2 / 30 + 1) > 300) && decide ((if i == 0 then 0 else i.natAbs.log2 / 30 + 1) > (if j == 0 then 0 else j.natAbs.log2 / 30 + 1) + 150)) = false
  have nz : ¬ (j == 0) = true := by simp; omega
  rw [if_neg nz]
  have : ¬ j.natAbs.log2 / 30 + 1 > 300 := by omega
  rw [decide_eq_false this]
  rfl
theorem cr_divmod : CallR X (.builtin "divmod") (rBi L .divmod) := bi_two (fun _ => rfl) (fun p _ => by cases p <;> rfl) (fun p q _ _ _ => by cases p <;> cases q <;> rfl) fun pins s σ H Q W σ' g m p q x y us I k r v v2 h => by
  cases p with
  | int i =>
    cases q with
    | int j =>
      obtain rfl : x = V.int i := v
      obtain rfl : y = V.int j := v2
      obtain ⟨hz, h⟩ := Out.need h
      have z := Bool.and_eq_true_iff.mp hz
      have rp : RepL L g [.int (i / j), .int (i % j)] [.int (i / j), .int (i % j)] := .cons (by unfold Rep; rfl) (.cons (by unfold Rep; rfl) .nil)
      exact call_divmodW pins s σ H _ us Q I r ⟨i, j, rfl, mid_div (of_decide_eq_true z.1) z.2, RF.newT k rp h⟩
    | _ => exact (h : False).elim
  | _ => exact (h : False).elim
mutual
theorem dat_noDict : ∀ {p : PV} {d : PyData}, p.dat = some d → d.hasDict = false
  | .non, _, e => by unfold PV.dat at e; cases e; rfl
  | .bl b, _, e => by unfold PV.dat at e; cases e; rfl
  | .int i, _, e => by unfold PV.dat at e; cases e; rfl
  | .str x, _, e => by unfold PV.dat at e; cases e; rfl
  | .tup ps, _, e => by
    unfold PV.dat at e
    cases q : datL ps with
    | none => rw [q] at e; cases e
    | some ds => rw [q] at e; cases e; exact datL_noDict q
  | .lst ps, _, e => by
    unfold PV.dat at e
    cases q : datL ps with
    | none => rw [q] at e; cases e
    | some ds => rw [q] at e; cases e; exact datL_noDict q
  | .dic _, _, e => by unfold PV.dat at e; cases e
  | .ref _, _, e => by unfold PV.dat at e; cases e
  | .fn _, _, e => by unfold PV.dat at e; cases e
  | .cls _, _, e => by unfold PV.dat at e; cases e
  | .ty _, _, e => by unfold PV.dat at e; cases e
  | .lam _ _, _, e => by unfold PV.dat at e; cases e
theorem datL_noDict : ∀ {ps : List PV} {ds : List PyData}, datL ps = some ds → PyData.hasDictAll ds = false
  | [], _, e => by unfold datL at e; cases e; rfl
  | p :: ps, _, e => by
    unfold datL at e
    cases q1 : p.dat with
    | none => rw [q1] at e; cases e
    | some d =>
      cases q2 : datL ps with
      | none => rw [q1, q2] at e; cases e
      | some ds =>
        rw [q1, q2] at e; cases e
        show (d.hasDict || PyData.hasDictAll ds) = false
        rw [dat_noDict q1, datL_noDict q2]; rfl
end
theorem cr_repr (hg : X.A.guards = some []) (hu : X.A.units + 128 < cLine) : CallR X (.builtin "repr") (rBi L .repr) := bi_one (fun _ => rfl) (fun p _ _ _ => by cases p <;> rfl) fun pins s σ H Q W σ' g m p x us I k r v h => by
  have h' : Out L W σ' g H ((match p.dat with | some d => (do need (d.showable && decide (d.depth ≤ 64) && decide (d.shown.length ≤ PySem.sizeLine)); pure (.str d.shown)) | _ => stuck : Py PV) m) (RF L H) Q := h
  cases e : p.dat with
  | none => rw [e] at h'; exact h'.elim
  | some d =>
    rw [e] at h'
    obtain ⟨hz, h'⟩ := Out.need h'
    have z := Bool.and_eq_true_iff.mp hz
    have z1 := Bool.and_eq_true_iff.mp z.1
    have z2 : d.depth ≤ 64 := of_decide_eq_true z1.2
    have z3 : d.shown.length ≤ sizeLine := of_decide_eq_true z.2
    obtain ⟨u, rfl, ru⟩ := Vals.one r
    have nd := dat_noDict e
    have dp : Dp X.K H x d := v.dp k e
    have fin : ∀ {h1 : Heap} {tk : Nat} {t : Tok}, (∀ b o, s.heap.get? b = some o → h1.get? b = some o) → EP X pins σ Q (.str d.shown t) { s with heap := h1, toks := tk } := fun {h1 tk t} k1 =>
      ⟨.str d.shown, H, I.un (t' := tk) (Un.kept k1) (I.hok.kept k1), ⟨_, rfl⟩, h' g H _ k .rfl' rfl⟩
    obtain ⟨as, rd⟩ := Dp.reads I d x u dp ru
    cases rd with
    | none => exact PySem.P.repr_of_none (fin fun _ _ q => q)
    | bool b => exact PySem.P.repr_of_bool (fin fun _ _ q => q)
    | int i t => exact PySem.P.repr_of_int (by simpa [PyData.showable] using z1.1) (fin fun _ _ q => q)
    | str z t => exact PySem.P.repr_of_str (fin fun _ _ q => q) z3
    | list e1 e2 e3 e4 => exact repr_of_reads' (.list e1 e2 e3 e4) z1.1 (fun q => by rw [nd] at q; cases q) hg (by omega) (fun _ _ q => q) (fun h1 u tk k1 => fin k1) z3
    | tuple e1 e2 e3 e4 => exact repr_of_reads' (.tuple e1 e2 e3 e4) z1.1 (fun q => by rw [nd] at q; cases q) hg (by omega) (fun _ _ q => q) (fun h1 u tk k1 => fin k1) z3
    | dict e1 e2 e3 e4 e5 => cases nd
theorem cr_bi (hc : X.calm = true) (hg : X.A.guards = some []) (hu : X.A.units + 128 < cLine) (b : Bi) : CallR X (fOf b) (rBi L b) := by
  cases b
  · exact cr_len
  · exact cr_abs
  · exact cr_max2 hc
  · exact cr_min2 hc
  · exact cr_maxL hc
  · exact cr_minL hc
  · exact cr_sumL hc
  · exact cr_sortedP
  · exact cr_list
  · exact cr_tuple
  · exact cr_str
  · exact cr_int
  · exact cr_bool
  · exact cr_repr hg hu
  · exact cr_allL hc
  · exact cr_anyL hc
  · exact cr_divmod
/-- sorted(x, reverse=True) -/
def rSortedR (L : Lk) : List V → List V → Hp → VK → Prop := fun vs zs H Q => ∃ (W : WX) (σ : L2.St) (g : G) (m : Mem) (p : PV) (x : V), vs = [x] ∧ zs = [.bl true] ∧ Ok L g H m ∧ Vd L g H p x ∧ Out L W σ g H (sortedRevP p m) (RF L H) Q
theorem cr_sortedRevP : CallRK X (.builtin "sorted") [Str.ofString "reverse"] (rSortedR L) := by
  rintro pins s σ H vs zs us ws Q I r rz ⟨W, σ', g, m, p, x, rfl, rfl, k, v, h⟩
  obtain ⟨w1, rfl, e1⟩ := vals1 rz
  obtain rfl : w1 = Value.bool true := e1
  have h' : Out L W σ' g H ((match itemsP p with | some x => (match allInt x with | some ns => pure (.lst ((sortR ns).map .int)) | _ => stuck) | _ => stuck : Py PV) m) (RF L H) Q := h
  cases ei : itemsP p with
  | none => rw [ei] at h'; exact h'.elim
  | some ps =>
    rw [ei] at h'
    have h2 : Out L W σ' g H ((match allInt ps with | some ns => pure (.lst ((sortR ns).map .int)) | _ => stuck : Py PV) m) (RF L H) Q := h'
    cases e : allInt ps with
    | none => rw [e] at h2; exact h2.elim
    | some ns =>
      rw [e] at h2
      obtain ⟨a, vs, its, o, n, T, rfl, rp, rv, hT, ho, hcl, hd, hz⟩ := items_seq I k ei v
      have ev := allInt_rep rp e
      rw [Vals.ref1 r]
      subst ev
      rw [List.length_map] at hz
      refine sorted_back hT ho hcl hd (by rw [← rv.length, List.length_map]; exact hz) rv.ints fun h' a' out ns' ep e1 z1 e2 q1 q2 q3 => ?_
      have es : ns' = sortR ns := sortR_eq q2 q3
      refine sorted_fin (W := W) (σ' := σ') I k (by rw [q2.length_eq]; exact hz) ?_ e1 z1 e2 q1
      rw [es]
      exact h2
end
end Nl
end
section
set_option Elab.async false
set_option linter.all false
set_option maxRecDepth 100000
set_option maxHeartbeats 1000000
/-! Nl, 6: the text against the IR: expressions. -/
namespace Nl
open PySem PySem.Spec PyProof.Rows L2

/-! ### small facts of the syntax -/
def notStar : Expr → Bool
  | .Starred .. => false
  | _ => true
theorem starEach_cons {e : Expr} {es : List Expr} {env : PySem.Env} (h : notStar e = true) : starEach (e :: es) env = (false, eval e env) :: starEach es env := by
  cases e <;> first | rfl | (cases h)
theorem starEach_none {pos : Pos} {env : PySem.Env} : ∀ {es : List Expr}, es.all notStar = true → (backTo pos (starEach es env)).any (·.1) = false
  | [], _ => rfl
  | e :: es, h => by
    have z := Bool.and_eq_true_iff.mp h
    rw [starEach_cons z.1]
    show (false || (backTo pos (starEach es env)).any (·.1)) = false
    rw [starEach_none z.2]; rfl
theorem kw_some {pos : Pos} {env : PySem.Env} : ∀ {kws : List Keyword}, kws.all (fun k => k.arg.isSome) = true → (backToKw pos (keywordEach kws env)).all (·.1.isSome) = true ∧ (backToKw pos (keywordEach kws env)).any (·.1.isNone) = false ∧ (backToKw pos (keywordEach kws env)).filterMap (·.1) = kws.filterMap (·.arg)
  | [], _ => ⟨rfl, rfl, rfl⟩
  | ⟨a, e, p⟩ :: r, h => by
    have z := Bool.and_eq_true_iff.mp h
    obtain ⟨h1, h2, h3⟩ := kw_some (pos := pos) (env := env) (kws := r) z.2
    cases a with
    | none => cases z.1
    | some x =>
      refine ⟨?_, ?_, ?_⟩
      · show (true && (backToKw pos (keywordEach r env)).all (·.1.isSome)) = true
        rw [h1]; rfl
      · show (false || (backToKw pos (keywordEach r env)).any (·.1.isNone)) = false
        rw [h2]; rfl
      · show x :: (backToKw pos (keywordEach r env)).filterMap (·.1) = x :: r.filterMap (·.arg)
        rw [h3]
def notSlice : Expr → Bool
  | .Slice .. => false
  | _ => true
theorem plainIx {b : Expr} (h : notSlice b = true) : PlainIx b := fun o i => by
  cases b <;> first | rfl | (cases h)
/-- an expression whose truth is asked of its value -/
def plainT : Expr → Bool
  | .UnaryOp .Not _ _ => false
  | .BoolOp .. => false
  | .IfExp .. => false
  | .Compare .. => false
  | _ => true
theorem isTrue_plain {e : Expr} {env : PySem.Env} (h : plainT e = true) (whole : Sem Value) : isTrue e env whole = (do let v ← whole; standAt e.pos; holding [v] (truthy v)) := by
  cases e with
  | UnaryOp o x p => cases o <;> first | rfl | (cases h)
  | BoolOp => cases h
  | IfExp => cases h
  | Compare => cases h
  | _ => rfl
def notComp : Expr → Bool
  | .ListComp .. => false
  | .SetComp .. => false
  | .DictComp .. => false
  | _ => true
theorem noSwap {e : Expr} {t : Option Expr} {l : Nat} {env : PySem.Env} (h : notComp e = true) : swapsWith e t l env = pure false := by
  cases e <;> first | rfl | (cases h)

/-! ### what the readings ask -/
section
variable (C : Calls) (L : Lk) (W : WX) (H0 : Hp)
def tG (Rl : Hp → Rl) (ir : Ex) : TE := fun σ H Q => ∃ (g : G) (env : Env) (m : Mem), Ok L g H m ∧ EnvOk L g H H0 env σ ∧ Out L W σ g H (ev C ir env m) (Rl H) Q
def tGs (Rl : G → Hp → List PV → List V → Prop) (es : List Ex) : TA := fun σ H Q => ∃ (g : G) (env : Env) (m : Mem), Ok L g H m ∧ EnvOk L g H H0 env σ ∧ Out L W σ g H (evs C es env m) Rl Q
abbrev tF := tG C L W H0 (fun H => RF L H)
abbrev tV := tG C L W H0 (fun _ => RV L)
abbrev tO := tG C L W H0 (fun _ g H p v => Vw L g H p v)
abbrev tD := tG C L W H0 (fun _ g H p v => Vd L g H p v)
def tT (ir : Ex) : TT := fun σ H Q => ∃ (g : G) (env : Env) (m : Mem), Ok L g H m ∧ EnvOk L g H H0 env σ ∧ Out L W σ g H ((do let x ← ev C ir env; truthP x : Py Bool) m) (fun _ _ b c => c = b) Q
end
theorem peImp {X : Cx} {e : Expr} {t t' : TE} (h : PE X e t) (i : ∀ σ H Q, t' σ H Q → t σ H Q) : PE X e t' := ⟨fun pins s σ H Q I q => h.run pins s σ H Q I (i σ H Q q)⟩
theorem ptImp {X : Cx} {e : Expr} {t t' : TT} (h : PT X e t) (i : ∀ σ H Q, t' σ H Q → t σ H Q) : PT X e t' := ⟨fun pins s σ H Q I q => h.run pins s σ H Q I (i σ H Q q)⟩
theorem paImp {X : Cx} {e : List Expr} {t t' : TA} (h : PA X e t) (i : ∀ σ H Q, t' σ H Q → t σ H Q) : PA X e t' := ⟨fun pos pins s σ H Q I q => h.run pos pins s σ H Q I (i σ H Q q)⟩
section
variable {C : Calls} {L : Lk} {W : WX} {H0 : Hp} {X : Cx} {e : Expr} {ir : Ex}
theorem Out.weaken {α β : Type} {σ : L2.St} {g : G} {H : Hp} {r : R α} {R1 R2 : G → Hp → α → β → Prop} {Q : β → Hp → Prop} (h : Out L W σ g H r R1 Q) (w : ∀ g' H' p v m', Ok L g' H' m' → Post g H g' H' → R2 g' H' p v → R1 g' H' p v) : Out L W σ g H r R2 Q := by
  cases r with
  | ok p m => exact fun g' H' v o q r => h g' H' v o q (w g' H' p v m o q r)
  | exc x m => exact h
  | stuck => exact h
/-- how an expression's value is held: 3 a list is new, 2 it stands for good, 1 nobody writes it for now, 0 just read -/
def RK (L : Lk) : Nat → Hp → Rl
  | 0 => fun _ g H p v => Vd L g H p v
  | 1 => fun _ g H p v => Vw L g H p v
  | 2 => fun _ => RV L
  | _ => fun H => RF L H
abbrev tK (C : Calls) (L : Lk) (W : WX) (H0 : Hp) (k : Nat) (ir : Ex) : TE := tG C L W H0 (RK L k) ir
theorem weak1 {k : Nat} (h : PE X e (tG C L W H0 (RK L k) ir)) : PE X e (tG C L W H0 (RK L (k - 1)) ir) := by
  match k with
  | 0 => exact h
  | 1 => exact peImp h fun σ H Q ⟨g, env, m, k, eo, o⟩ => ⟨g, env, m, k, eo, o.weaken fun _ _ _ _ _ _ _ r => r.1⟩
  | 2 => exact peImp h fun σ H Q ⟨g, env, m, k, eo, o⟩ => ⟨g, env, m, k, eo, o.weaken fun _ _ _ _ _ k' _ r => Rep.vw k' r⟩
  | 3 => exact peImp h fun σ H Q ⟨g, env, m, k, eo, o⟩ => ⟨g, env, m, k, eo, by
      revert o
      cases ev C ir env m with
      | ok p m' =>
        intro o g' H' v o' q r
        obtain ⟨g2, k2, q2, r2⟩ := RF.freeze o' q r
        exact o g2 H' v k2 q2 r2
      | exc x m' => exact fun o => o
      | stuck => exact fun o => o⟩
  | k + 4 => exact h
theorem weak {k j : Nat} (h : PE X e (tG C L W H0 (RK L j) ir)) (l : k ≤ j) : PE X e (tG C L W H0 (RK L k) ir) := by
  induction j with
  | zero => obtain rfl : k = 0 := Nat.le_zero.mp l; exact h
  | succ j ih =>
    rcases Nat.lt_or_ge k (j + 1) with q | q
    · exact ih (weak1 h) (Nat.le_of_lt_succ q)
    · obtain rfl : k = j + 1 := Nat.le_antisymm l q; exact h
end
end Nl
end
section
set_option Elab.async false
set_option linter.all false
set_option maxRecDepth 100000
set_option maxHeartbeats 1000000
/-! Nl, 7: one rule for each expression of the IR. -/
namespace Nl
open PySem PySem.Spec PyProof.Rows L2

/-! ### the syntax, seen -/
def asName : Expr → Option PySem.Str
  | .Name x _ => some x
  | _ => none
theorem asName_eq {e : Expr} {x : PySem.Str} (h : asName e = some x) : ∃ p, e = .Name x p := by
  cases e with
  | Name y p => cases h; exact ⟨_, rfl⟩
  | _ => cases h
def asInt : Expr → Option Int
  | .Constant (.int i) _ _ => some i
  | _ => none
theorem asInt_eq {e : Expr} {i : Int} (h : asInt e = some i) : ∃ j p, e = .Constant (.int i) j p := by
  cases e with
  | Constant c j p =>
    cases c with
    | int k => cases h; exact ⟨_, _, rfl⟩
    | _ => cases h
  | _ => cases h
def asBl : Expr → Option Bool
  | .Constant (.bool i) _ _ => some i
  | _ => none
theorem asBl_eq {e : Expr} {i : Bool} (h : asBl e = some i) : ∃ j p, e = .Constant (.bool i) j p := by
  cases e with
  | Constant c j p =>
    cases c with
    | bool k => cases h; exact ⟨_, _, rfl⟩
    | _ => cases h
  | _ => cases h
def asStr : Expr → Option PySem.Str
  | .Constant (.str i) _ _ => some i
  | _ => none
theorem asStr_eq {e : Expr} {i : PySem.Str} (h : asStr e = some i) : ∃ j p, e = .Constant (.str i) j p := by
  cases e with
  | Constant c j p =>
    cases c with
    | str k => cases h; exact ⟨_, _, rfl⟩
    | _ => cases h
  | _ => cases h
def isNon : Expr → Bool
  | .Constant .none _ _ => true
  | _ => false
theorem isNon_eq {e : Expr} (h : isNon e = true) : ∃ j p, e = .Constant .none j p := by
  cases e with
  | Constant c j p =>
    cases c with
    | none => exact ⟨_, _, rfl⟩
    | _ => cases h
  | _ => cases h
def asCall : Expr → Option (PySem.Str × List Expr × List Keyword)
  | .Call (.Name x _) es ks _ => some (x, es, ks)
  | _ => none
theorem asCall_eq {e : Expr} {x : PySem.Str} {es : List Expr} {ks : List Keyword} (h : asCall e = some (x, es, ks)) : ∃ p q, e = .Call (.Name x p) es ks q := by
  cases e with
  | Call f es ks q =>
    cases f with
    | Name y p => cases h; exact ⟨_, _, rfl⟩
    | _ => cases h
  | _ => cases h
def asMeth : Expr → Option (Expr × PySem.Str × List Expr × List Keyword)
  | .Call (.Attribute o m _) es ks _ => some (o, m, es, ks)
  | _ => none
theorem asMeth_eq {e o : Expr} {x : PySem.Str} {es : List Expr} {ks : List Keyword} (h : asMeth e = some (o, x, es, ks)) : ∃ p q, e = .Call (.Attribute o x p) es ks q := by
  cases e with
  | Call f es ks q =>
    cases f with
    | Attribute o y p => cases h; exact ⟨_, _, rfl⟩
    | _ => cases h
  | _ => cases h
def asBin : Expr → Option (Expr × Operator × Expr)
  | .BinOp a o b _ => some (a, o, b)
  | _ => none
theorem asBin_eq {e a b : Expr} {o : Operator} (h : asBin e = some (a, o, b)) : ∃ p, e = .BinOp a o b p := by
  cases e with
  | BinOp a o b p => cases h; exact ⟨_, rfl⟩
  | _ => cases h
def asNeg : Expr → Option Expr
  | .UnaryOp .USub a _ => some a
  | _ => none
theorem asNeg_eq {e a : Expr} (h : asNeg e = some a) : ∃ p, e = .UnaryOp .USub a p := by
  cases e with
  | UnaryOp o b p =>
    cases o with
    | USub => cases h; exact ⟨_, rfl⟩
    | _ => cases h
  | _ => cases h
def asNot : Expr → Option Expr
  | .UnaryOp .Not a _ => some a
  | _ => none
theorem asNot_eq {e a : Expr} (h : asNot e = some a) : ∃ p, e = .UnaryOp .Not a p := by
  cases e with
  | UnaryOp o b p =>
    cases o with
    | Not => cases h; exact ⟨_, rfl⟩
    | _ => cases h
  | _ => cases h
def asCmp : Expr → Option (Expr × CmpOp × Expr)
  | .Compare a [o] [b] _ => some (a, o, b)
  | _ => none
theorem asCmp_eq {e a b : Expr} {o : CmpOp} (h : asCmp e = some (a, o, b)) : ∃ p, e = .Compare a [o] [b] p := by
  cases e with
  | Compare a os bs p =>
    match os, bs, h with
    | [o], [b], h => cases h; exact ⟨_, rfl⟩
    | [], _, h => cases h
    | _ :: _ :: _, _, h => cases h
    | [_], [], h => cases h
    | [_], _ :: _ :: _, h => cases h
  | _ => cases h
def asCmp2 : Expr → Option (Expr × CmpOp × CmpOp × Expr × Expr)
  | .Compare a [o, o'] [b, c] _ => some (a, o, o', b, c)
  | _ => none
theorem asCmp2_eq {e a b c : Expr} {o o' : CmpOp} (h : asCmp2 e = some (a, o, o', b, c)) : ∃ p, e = .Compare a [o, o'] [b, c] p := by
  cases e with
  | Compare a os bs p =>
    match os, bs, h with
    | [o, o'], [b, c], h => cases h; exact ⟨_, rfl⟩
    | [], _, h => cases h
    | [_], _, h => cases h
    | _ :: _ :: _ :: _, _, h => cases h
    | [_, _], [], h => cases h
    | [_, _], [_], h => cases h
    | [_, _], _ :: _ :: _ :: _, h => cases h
  | _ => cases h
/-- the first of a chain of and / or, the rest -/
def asBool : Expr → Option (Bool × Expr × Expr)
  | .BoolOp .And [a, b] _ => some (true, a, b)
  | .BoolOp .And (a :: b :: c :: r) p => some (true, a, .BoolOp .And (b :: c :: r) p)
  | .BoolOp .Or [a, b] _ => some (false, a, b)
  | .BoolOp .Or (a :: b :: c :: r) p => some (false, a, .BoolOp .Or (b :: c :: r) p)
  | _ => none
def bop : Bool → BoolOp
  | true => .And
  | false => .Or
theorem asBool_eq {k : Bool} {e a b : Expr} (h : asBool e = some (k, a, b)) : (∃ p, e = .BoolOp (bop k) [a, b] p) ∨ ∃ c d r p, e = .BoolOp (bop k) (a :: c :: d :: r) p ∧ b = .BoolOp (bop k) (c :: d :: r) p := by
  cases e with
  | BoolOp o es p =>
    cases o with
    | And =>
      match es, h with
      | [], h => cases h
      | [_], h => cases h
      | [a, b], h => cases h; exact .inl ⟨_, rfl⟩
      | a :: b :: c :: r, h => cases h; exact .inr ⟨_, _, _, _, rfl, rfl⟩
    | Or =>
      match es, h with
      | [], h => cases h
      | [_], h => cases h
      | [a, b], h => cases h; exact .inl ⟨_, rfl⟩
      | a :: b :: c :: r, h => cases h; exact .inr ⟨_, _, _, _, rfl, rfl⟩
  | _ => cases h
def asIf : Expr → Option (Expr × Expr × Expr)
  | .IfExp c a b _ => some (c, a, b)
  | _ => none
theorem asIf_eq {e c a b : Expr} (h : asIf e = some (c, a, b)) : ∃ p, e = .IfExp c a b p := by
  cases e with
  | IfExp c a b p => cases h; exact ⟨_, rfl⟩
  | _ => cases h
def asTup : Expr → Option (List Expr)
  | .Tuple es _ _ => some es
  | _ => none
theorem asTup_eq {e : Expr} {es : List Expr} (h : asTup e = some es) : ∃ k p, e = .Tuple es k p := by
  cases e with
  | Tuple es k p => cases h; exact ⟨_, _, rfl⟩
  | _ => cases h
def asLst : Expr → Option (List Expr)
  | .List es _ => some es
  | _ => none
theorem asLst_eq {e : Expr} {es : List Expr} (h : asLst e = some es) : ∃ p, e = .List es p := by
  cases e with
  | List es p => cases h; exact ⟨_, rfl⟩
  | _ => cases h
def asSub : Expr → Option (Expr × Expr)
  | .Subscript a b _ => some (a, b)
  | _ => none
theorem asSub_eq {e a b : Expr} (h : asSub e = some (a, b)) : ∃ p, e = .Subscript a b p := by
  cases e with
  | Subscript a b p => cases h; exact ⟨_, rfl⟩
  | _ => cases h
def asSl : Expr → Option (Expr × Option Expr × Option Expr)
  | .Subscript a (.Slice lo hi none _) _ => some (a, lo, hi)
  | _ => none
theorem asSl_eq {e a : Expr} {lo hi : Option Expr} (h : asSl e = some (a, lo, hi)) : ∃ p q, e = .Subscript a (.Slice lo hi none p) q := by
  cases e with
  | Subscript a b p =>
    cases b with
    | Slice lo hi st q =>
      cases st with
      | none => cases h; exact ⟨_, _, rfl⟩
      | some _ => cases h
    | _ => cases h
  | _ => cases h
def asRev : Expr → Option Expr
  | .Subscript a (.Slice none none (some (.UnaryOp .USub (.Constant (.int i) _ _) _)) _) _ => if i = 1 then some a else none
  | _ => none
theorem asRev_eq {e a : Expr} (h : asRev e = some a) : ∃ k p1 p2 p3 pos, e = .Subscript a (.Slice none none (some (.UnaryOp .USub (.Constant (.int 1) k p1) p2)) p3) pos := by
  unfold asRev at h
  split at h
  · split at h
    · rename_i q
      cases h
      subst q
      exact ⟨_, _, _, _, _, rfl⟩
    · cases h
  · cases h
def isOp : Bop → Operator → Bool
  | .add, .Add => true | .sub, .Sub => true | .mul, .Mult => true | .fdiv, .FloorDiv => true | .mod, .Mod => true | .pow, .Pow => true
  | _, _ => false
theorem isOp_eq {o : Bop} {p : Operator} (h : isOp o p = true) : p = opOf o := by
  cases o <;> cases p <;> first | rfl | cases h
def isCop : Cop → CmpOp → Bool
  | .eq, .Eq => true | .ne, .NotEq => true | .lt, .Lt => true | .le, .LtE => true | .gt, .Gt => true | .ge, .GtE => true | .isN, .Is => true | .notN, .IsNot => true | .In, .In => true | .notIn, .NotIn => true
  | _, _ => false
theorem isCop_eq {o : Cop} {p : CmpOp} (h : isCop o p = true) : p = copOf o := by
  cases o <;> cases p <;> first | rfl | cases h

/-! ### names -/
def visB (sc : Scope) (x : PySem.Str) : Bool := match sc.names.lookup x with
  | some .local => true
  | some .cell => true
  | some .free => true
  | _ => false
theorem visB_eq {sc : Scope} {x : PySem.Str} (h : visB sc x = true) : Vis sc x := by
  unfold visB at h
  unfold Vis
  split at h
  · rename_i q; exact .inl q
  · rename_i q; exact .inr (.inl q)
  · rename_i q; exact .inr (.inr q)
  · cases h
def glB (sc : Scope) (x : PySem.Str) : Bool := match sc.names.lookup x with
  | some .globalImplicit => true
  | _ => false
theorem glB_eq {X : Cx} {x : PySem.Str} (h : glB X.env.scope x = true) : Gl X x := by
  unfold glB at h
  split at h
  · rename_i q; exact q
  · cases h
def nameOk (x : PySem.Str) : Bool := !(x == "__debug__") && (!(x == "__classdict__") && !(x == "__name__"))
theorem nameOk_eq {x : PySem.Str} (h : nameOk x = true) : (x == "__debug__") = false ∧ (x == "__classdict__") = false ∧ x ≠ "__name__" := by
  unfold nameOk at h
  have z := Bool.and_eq_true_iff.mp h
  have z2 := Bool.and_eq_true_iff.mp z.2
  refine ⟨by simpa using z.1, by simpa using z2.1, fun e => ?_⟩
  have z3 := z2.2
  rw [e] at z3
  exact absurd z3 (by decide)

/-! ### the def's surroundings -/
structure Ck where
  N : List PySem.Str
  fns : List PySem.Str
  fr : List Bool
  ar : List Nat
  gi : List (PySem.Str × Int)
  gs : List (PySem.Str × PySem.Str)
def Ck.fk (ck : Ck) (f : Nat) : Nat := if ck.fr.getD f false then 3 else 2
def spC (L : Lk) (C : Calls) (k f : Nat) : Sp := fun vs H Q E => vs.length = (C.ps f).length ∧ ∃ (g : G) (m : Mem) (args : List PV), Ok L g H m ∧ RepL L g args vs ∧ Out L (fun c d _ H => E c d H) [] g H (C.fn f args m) (RK L k H) Q
def BindsA (fd : FuncData) (ps : List PySem.Str) : Prop := ∀ (s : Shared) (us : List Value) (kws : List (PySem.Str × Value)) (l : List Value), arrange ps us kws = some l → BindsTo s fd ⟨us, kws⟩ (ps.zip l)
def bltNames : List PySem.Str := ["len", "abs", "max", "min", "sum", "sorted", "list", "tuple", "str", "int", "bool", "repr", "all", "any", "divmod", "range", "enumerate", "zip", "isinstance", "dict"]
structure XOk (L : Lk) (C : Calls) (ck : Ck) (W : WX) (X : Cx) : Prop where
  N : X.N = ck.N
  nd : ck.N.Nodup
  calm : X.calm = true
  gds : X.A.guards = some []
  units : X.A.units + 200 < cLine
  fn : ∀ (f : Nat) (x : PySem.Str), ck.fns[f]? = some x → ∃ (k : Nat) (a : Addr) (fd : FuncData), Room k X.A ∧ X.mg x = some (.ref a) ∧ L.fnA f = some a ∧ PySem.W.keepIn X.K (.ref a) = true ∧
    FnG X.prog X.w X.K X.mg X.base k a fd (C.ps f) (spC L C (ck.fk f) f) ∧ BindsA fd (C.ps f)
  ar : ∀ (f : Nat) (x : PySem.Str), ck.fns[f]? = some x → ck.ar.getD f 0 = (C.ps f).length
  takes : Takes X W
  blt : ∀ x, x ∈ bltNames → X.mg x = none
  gi : ∀ p, p ∈ ck.gi → ∃ t, X.mg p.1 = some (.int p.2 t)
  gs : ∀ p, p ∈ ck.gs → ∃ t, X.mg p.1 = some (.str p.2 t)

/-! ### the rules -/
section
variable {C : Calls} {L : Lk} {W : WX} {H0 : Hp} {X : Cx} {ck : Ck} {x y z : Expr} {a b c : Ex} {pos : Pos}
theorem at_pv {g : G} {H : Hp} {env : Env} {σ : L2.St} (eo : EnvOk L g H H0 env σ) {i : Nat} {p : PV} (h : env.at i = .pv p) : ∃ u, σ[i]? = some (some u) ∧ Rep L g p u := by
  have hi : i < env.length := by
    rcases Nat.lt_or_ge i env.length with q | q
    · exact q
    · have : env.at i = .no := by show env.getD i .no = .no; rw [List.getD_eq_getElem?_getD, List.getElem?_eq_none q]; rfl
      rw [this] at h; cases h
  have e : env[i]? = some (.pv p) := by
    have : env.at i = env[i] := by show env.getD i .no = _; rw [List.getD_eq_getElem?_getD, List.getElem?_eq_getElem hi]; rfl
    rw [List.getElem?_eq_getElem hi, ← this, h]
  exact eo.at_ i _ e
theorem at_own {g : G} {H : Hp} {env : Env} {σ : L2.St} (eo : EnvOk L g H H0 env σ) {i : Nat} {ps : List PV} (h : env.at i = .own ps) :
    ∃ a vs, σ[i]? = some (some (.ref a)) ∧ H a = some (.lst vs) ∧ RepL L g ps vs ∧ g.F a = none ∧ a ∉ g.al ∧ H0 a = none := by
  have hi : i < env.length := by
    rcases Nat.lt_or_ge i env.length with q | q
    · exact q
    · have : env.at i = .no := by show env.getD i .no = .no; rw [List.getD_eq_getElem?_getD, List.getElem?_eq_none q]; rfl
      rw [this] at h; cases h
  have e : env[i]? = some (.own ps) := by
    have : env.at i = env[i] := by show env.getD i .no = _; rw [List.getD_eq_getElem?_getD, List.getElem?_eq_getElem hi]; rfl
    rw [List.getElem?_eq_getElem hi, ← this, h]
  exact eo.at_ i _ e
/-- a value that needs no run -/
theorem pe_pure {e : Expr} {v : V} {p : PV} {k : Nat} (h : PE X e (tC v)) (hev : ∀ env, ev C a env = pure p) (r : ∀ g H H', RK L k H g H' p v) : PE X e (tK C L W H0 k a) :=
  peImp h fun σ H Q ⟨g, env, m, ok, eo, o⟩ => by
    rw [hev env] at o
    exact o g H v ok .rfl' (r g H H)
theorem ru_var {i : Nat} {n : PySem.Str} {p : Pos} (h1 : X.N[i]? = some n) (h2 : Vis X.env.scope n) (h3 : nameOk n = true) : PE X (.Name n p) (tK C L W H0 2 (.var i)) :=
  peImp (pe_var h1 h2 (nameOk_eq h3).1 (nameOk_eq h3).2.1) fun σ H Q ⟨g, env, m, ok, eo, o⟩ => by
    have o' : Out L W σ g H ((match env.at i with | .pv p => pure p | _ => stuck : Py PV) m) (RV L) Q := o
    cases q : env.at i with
    | pv p =>
      rw [q] at o'
      obtain ⟨u, e, r⟩ := at_pv eo q
      exact ⟨u, e, o' g H u ok .rfl' r⟩
    | no => rw [q] at o'; exact o'.elim
    | own _ => rw [q] at o'; exact o'.elim
    | ownD _ => rw [q] at o'; exact o'.elim
theorem ru_peek {i : Nat} {n : PySem.Str} {p : Pos} (h1 : X.N[i]? = some n) (h2 : Vis X.env.scope n) (h3 : nameOk n = true) : PE X (.Name n p) (tK C L W H0 1 (.peek i)) :=
  peImp (pe_var h1 h2 (nameOk_eq h3).1 (nameOk_eq h3).2.1) fun σ H Q ⟨g, env, m, ok, eo, o⟩ => by
    have o' : Out L W σ g H ((match env.at i with | .pv p => pure p | .own xs => pure (.lst xs) | _ => stuck : Py PV) m) (fun g H p v => Vw L g H p v) Q := o
    cases q : env.at i with
    | pv p =>
      rw [q] at o'
      obtain ⟨u, e, r⟩ := at_pv eo q
      exact ⟨u, e, o' g H u ok .rfl' (Rep.vw ok r)⟩
    | own ps =>
      rw [q] at o'
      obtain ⟨a, vs, e, h1, h2, h3, h4, h5⟩ := at_own eo q
      refine ⟨_, e, o' g H _ ok .rfl' ⟨⟨a, vs, rfl, .inl h1, h2⟩, ?_⟩⟩
      rintro b e _
      cases e
      exact h4
    | no => rw [q] at o'; exact o'.elim
    | ownD _ => rw [q] at o'; exact o'.elim
theorem ru_bin {o : Bop} (ha : PE X x (tK C L W H0 1 a)) (hb : PE X y (tK C L W H0 0 b)) : PE X (.BinOp x (opOf o) y pos) (tK C L W H0 3 (.bin o a b)) :=
  peImp (pe_op (op_bin (L := L) o) ha hb) fun σ H Q ⟨g, env, m, ok, eo, out⟩ => ⟨g, env, m, ok, eo, Out.bind out fun p m1 g1 H1 v k1 q1 r1 o1 =>
    ⟨g1, env, m1, k1, eo.post q1, Out.bind o1 fun p2 m2 g2 H2 v2 k2 q2 r2 o2 => ⟨W, σ, g2, m2, p, p2, k2, (Vw.post q2 k1 r1).1, r2,
      o2.weaken fun _ _ _ _ _ _ _ r => RF.to (fun d z => q1.there d (q2.there d z)) r⟩⟩⟩
theorem ru_cmp {o : Cop} (hu : X.A.units + 200 < cLine) (hm : behindInMarks (copOf o) y = false) (ha : PE X x (tK C L W H0 1 a)) (hb : PE X y (tK C L W H0 0 b)) : PE X (.Compare x [copOf o] [y] pos) (tK C L W H0 3 (.cmp o a b)) :=
  peImp (pe_cmpR (op_cmp (L := L) (by omega) o) ha hb hm) fun σ H Q ⟨g, env, m, ok, eo, out⟩ => ⟨g, env, m, ok, eo, Out.bind out fun p m1 g1 H1 v k1 q1 r1 o1 =>
    ⟨g1, env, m1, k1, eo.post q1, Out.bind o1 fun p2 m2 g2 H2 v2 k2 q2 r2 o2 => ⟨W, σ, g2, m2, p, p2, k2, (Vw.post q2 k1 r1).1, r2,
      Out.bind o2 fun rb m3 g3 H3 v3 k3 q3 r3 o3 => Out.ret o3 k3 .rfl' r3⟩⟩⟩
theorem ru_cmpT {o : Cop} (hu : X.A.units + 200 < cLine) (hm : behindInMarks (copOf o) y = false) (ha : PE X x (tK C L W H0 1 a)) (hb : PE X y (tK C L W H0 0 b)) : PT X (.Compare x [copOf o] [y] pos) (tT C L W H0 (.cmp o a b)) :=
  ptImp (pt_cmpR (op_cmp (L := L) (by omega) o) ha hb hm) fun σ H Q ⟨g, env, m, ok, eo, out⟩ => by
    refine ⟨g, env, m, ok, eo, ?_⟩
    have out2 : Out L W σ g H ((ev C a env >>= fun p => ev C b env >>= fun p2 => cmpP o p p2 >>= fun r => (pure r : Py Bool)) m) (fun _ _ b c => c = b) Q := by
      have e : ((do let x ← ev C (.cmp o a b) env; truthP x : Py Bool) m) = (ev C a env >>= fun p => ev C b env >>= fun p2 => cmpP o p p2 >>= fun r => (pure r : Py Bool)) m := by
        show Py.and (Py.and (ev C a env) fun p => Py.and (ev C b env) fun p2 => Py.and (cmpP o p p2) fun r => Py.ret (.bl r)) truthP m = Py.and (ev C a env) (fun p => Py.and (ev C b env) fun p2 => Py.and (cmpP o p p2) fun r => Py.ret r) m
        unfold Py.and
        cases ev C a env m with
        | ok p m1 =>
          dsimp only
          cases ev C b env m1 with
          | ok p2 m2 =>
            dsimp only
            cases cmpP o p p2 m2 <;> rfl
          | _ => rfl
        | _ => rfl
      rw [e] at out
      exact out
    exact Out.bind out2 fun p m1 g1 H1 v k1 q1 r1 o1 =>
      ⟨g1, env, m1, k1, eo.post q1, Out.bind o1 fun p2 m2 g2 H2 v2 k2 q2 r2 o2 => ⟨W, σ, g2, m2, p, p2, k2, (Vw.post q2 k1 r1).1, r2,
        Out.bind o2 fun rb m3 g3 H3 v3 k3 q3 r3 o3 => ⟨rb, r3, Out.ret o3 k3 .rfl' rfl⟩⟩⟩
end
end Nl
end
section
set_option Elab.async false
set_option linter.all false
set_option maxRecDepth 100000
set_option maxHeartbeats 1000000
/-! Nl, 8: rules, the rest. -/
namespace Nl
open PySem PySem.Spec PyProof.Rows L2

/-! ### many -/
def PW2 (R : PV → V → Prop) : List PV → List V → Prop
  | [], vs => vs = []
  | p :: ps, vs => ∃ v r, vs = v :: r ∧ R p v ∧ PW2 R ps r
theorem PW2.repL {L : Lk} {g : G} : ∀ {ps : List PV} {vs : List V}, PW2 (fun p v => Rep L g p v) ps vs → RepL L g ps vs
  | [], _, h => by unfold RepL; exact h
  | p :: ps, _, ⟨v, r, e, h1, h2⟩ => by rw [e]; exact .cons h1 (PW2.repL h2)
theorem PW2.vdL {L : Lk} {g : G} {H : Hp} {R : PV → V → Prop} (hR : ∀ p v, R p v → Vd L g H p v) : ∀ {ps : List PV} {vs : List V}, PW2 R ps vs → VdL L g H ps vs
  | [], _, h => h
  | p :: ps, _, ⟨v, r, e, h1, h2⟩ => ⟨v, r, e, hR _ _ h1, PW2.vdL hR h2⟩
theorem PW2.length {R : PV → V → Prop} : ∀ {ps : List PV} {vs : List V}, PW2 R ps vs → ps.length = vs.length
  | [], _, h => by rw [show _ = [] from h]; rfl
  | p :: ps, _, ⟨v, r, e, h1, h2⟩ => by rw [e, List.length_cons, List.length_cons, PW2.length h2]
def LK (L : Lk) (k n : Nat) (g : G) (H : Hp) (ps : List PV) (vs : List V) : Prop := PW2 (fun p v => RK L k H g H p v) ps vs ∧ ps.length = n
section
variable {C : Calls} {L : Lk} {W : WX} {H0 : Hp} {X : Cx} {ck : Ck} {x y z : Expr} {a b c : Ex} {pos : Pos} {es : List Expr} {as : List Ex}
theorem stable {k : Nat} (hk : k = 1 ∨ k = 2) {g g' : G} {H H' H1 H2 : Hp} {m : Mem} (q : Post g H g' H') (o : Ok L g H m) {p : PV} {v : V} (r : RK L k H1 g H p v) : RK L k H2 g' H' p v := by
  rcases hk with rfl | rfl
  · exact Vw.post q o r
  · exact Rep.mono q.ext r
theorem ra_nil {k : Nat} : PA X [] (tGs C L W H0 (LK L k 0) []) :=
  paImp pa_nil fun σ H Q ⟨g, env, m, ok, eo, o⟩ => Out.ret (a := []) o ok .rfl' ⟨rfl, rfl⟩
theorem ra_cons {k n : Nat} (hk : k = 1 ∨ k = 2) (hs : notStar x = true) (ha : PE X x (tK C L W H0 k a)) (hr : PA X es (tGs C L W H0 (LK L k n) as)) : PA X (x :: es) (tGs C L W H0 (LK L k (n + 1)) (a :: as)) :=
  paImp (pa_cons ha hr (starEach_cons hs)) fun σ H Q ⟨g, env, m, ok, eo, o⟩ => ⟨g, env, m, ok, eo, Out.bind o fun p m1 g1 H1 v k1 q1 r1 o1 => ⟨g1, env, m1, k1, eo.post q1,
    Out.bind o1 fun ps m2 g2 H2 vs k2 q2 r2 o2 => Out.ret o2 k2 .rfl' ⟨⟨v, vs, rfl, stable hk q2 k1 r1, r2.1⟩, by rw [List.length_cons, r2.2]⟩⟩⟩
theorem ra_one (hs : notStar x = true) (ha : PE X x (tK C L W H0 0 a)) : PA X [x] (tGs C L W H0 (LK L 0 1) [a]) :=
  paImp (pa_cons ha pa_nil (starEach_cons hs)) fun σ H Q ⟨g, env, m, ok, eo, o⟩ => ⟨g, env, m, ok, eo, Out.bind o fun p m1 g1 H1 v k1 q1 r1 o1 =>
    Out.ret (a := [p]) o1 k1 .rfl' ⟨⟨v, [], rfl, r1, rfl⟩, rfl⟩⟩

/-! ### calls of defs -/
theorem arrange_pos {α : Type} {ps : List PySem.Str} {us : List α} (h : us.length = ps.length) : arrange ps us [] = some us := by
  unfold arrange
  rw [if_pos ⟨by rw [h]; rfl, rfl⟩, h, List.drop_length]
  simp [arrF]
theorem call_end {n k f : Nat} {a : Addr} {fd : FuncData} (ok : XOk L C ck W X) (hr : Room k X.A) (F : FnG X.prog X.w X.K X.mg X.base k a fd (C.ps f) (spC L C n f)) {pins : List (Addr × Obj)} {s : Shared} {σ : L2.St} {H H1 : Hp} {Q : VK} {us l : List Value} {kws : List (PySem.Str × Value)} {vs : List V} {g : G} {m : Mem} {args : List PV}
    (hb : BindsTo s fd ⟨us, kws⟩ ((C.ps f).zip l)) (I : Inv X pins σ H s) (r : Vals vs l) (hl : vs.length = (C.ps f).length) (okk : Ok L g H m) (rp : RepL L g args vs) (there : ∀ d, H d = none → H1 d = none)
    (out : Out L W σ g H (C.fn f args m) (RK L n H1) Q) : wpAny (model X.prog X.w) X.A (call (.ref a) us kws) (EP X pins σ Q) X.xe s := by
  refine callG (args := ⟨us, kws⟩) F hr ok.gds ok.takes I hb r ⟨hl, g, m, args, okk, rp, ?_⟩
  have out' : Out L (fun c d _ H => W c d σ H) [] g H (C.fn f args m) (RK L n H1) Q := by
    revert out
    cases C.fn f args m <;> exact fun o => o
  refine out'.weaken fun g' H' p v m' _ _ r => ?_
  match n, r with
  | 0, r => exact r
  | 1, r => exact r
  | 2, r => exact r
  | _ + 3, r => exact RF.to there r
theorem ru_call0 {f : Nat} {n : PySem.Str} {p : Pos} (ok : XOk L C ck W X) (hf : ck.fns[f]? = some n) (ha : 0 = (C.ps f).length) (hg : Gl X n) (hn : nameOk n = true) : PE X (.Call (.Name n p) [] [] pos) (tK C L W H0 (ck.fk f) (.call f [])) := by
  refine ⟨fun pins s σ H Q I ⟨g, env, m, okk, eo, o⟩ => ?_⟩
  obtain ⟨k, a, fd, hr, hm, hl, hk, F, hb⟩ := ok.fn f n hf
  refine wpAny_Call_Name_kw (ld_glob I hg hm ?_ (nameOk_eq hn).1)
  refine PySem.W.callWith_K0 I.kIn hk ?_
  exact call_end ok hr F (hb s [] [] [] (arrange_pos ha)) I .nil ha okk .nil (fun _ h => h) o
theorem ru_call {f n' : Nat} {n : PySem.Str} {p : Pos} (ok : XOk L C ck W X) (hf : ck.fns[f]? = some n) (hl' : n' = (C.ps f).length) (hg : Gl X n) (hn : nameOk n = true) (hs : (x :: es).all notStar = true) (ha : PA X (x :: es) (tGs C L W H0 (LK L 2 n') as)) :
    PE X (.Call (.Name n p) (x :: es) [] pos) (tK C L W H0 (ck.fk f) (.call f as)) := by
  refine ⟨fun pins s σ H Q I ⟨g, env, m, okk, eo, o⟩ => ?_⟩
  obtain ⟨k, a, fd, hr, hm, hl, hk, F, hb⟩ := ok.fn f n hf
  refine wpAny_Call_Name_kw (ld_glob I hg hm ?_ (nameOk_eq hn).1)
  have z := Bool.and_eq_true_iff.mp hs
  have o' : Out L W σ g H ((evs C as env >>= fun vs => C.fn f vs) m) (RK L (ck.fk f) H) Q := o
  refine PySem.W.callWith_K (h₀ := X.base) I.ok.mod.kin hk (thn (ha.run pos pins s σ H (fun vs H1 => ∃ g1 m1 ps, Ok L g1 H1 m1 ∧ Post g H g1 H1 ∧ LK L 2 n' g1 H1 ps vs ∧ Out L W σ g1 H1 (C.fn f ps m1) (RK L (ck.fk f) H) Q) I
    ⟨g, env, m, okk, eo, Out.bind o' fun ps m1 g1 H1 vs k1 q1 r1 o1 => ⟨g1, m1, ps, k1, q1, r1, o1⟩⟩) fun us s1 ⟨vs, H1, I1, r, g1, m1, ps, k1, q1, r1, o1⟩ => ⟨I1.kIn, ?_⟩) (starEach_cons z.1) (starEach_none z.2)
  have lv : vs.length = (C.ps f).length := by rw [← r1.1.length, r1.2, hl']
  exact call_end ok hr F (hb s1 us [] us (arrange_pos (by rw [← r.length]; exact lv))) I1 r lv k1 r1.1.repL q1.there o1
/-! ### calls of built-in functions -/
def bn : Bi → PySem.Str
  | .len => "len" | .abs => "abs" | .max2 => "max" | .min2 => "min" | .maxL => "max" | .minL => "min" | .sum => "sum" | .sorted => "sorted"
  | .list => "list" | .tuple => "tuple" | .str => "str" | .int => "int" | .bool => "bool" | .repr => "repr" | .all => "all" | .any => "any" | .divmod => "divmod"
theorem bn_blt (b : Bi) : bn b ∈ bltNames := by cases b <;> decide +kernel
theorem bn_ok (b : Bi) : nameOk (bn b) = true := by cases b <;> decide +kernel
theorem bn_boot (b : Bi) : bootBuiltins (bn b) = some (fOf b) := by cases b <;> decide +kernel
theorem bn_kind (b : Bi) : (∃ T, fOf b = .type T) ∨ ∃ id, fOf b = .builtin id := by
  cases b <;> first | exact .inl ⟨_, rfl⟩ | exact .inr ⟨_, rfl⟩
theorem ru_bi {k n : Nat} {b : Bi} {p : Pos} (ok : XOk L C ck W X) (hk : k = 0 ∨ k = 1) (hg : Gl X (bn b)) (hs : (x :: es).all notStar = true) (ha : PA X (x :: es) (tGs C L W H0 (LK L k n) as)) :
    PE X (.Call (.Name (bn b) p) (x :: es) [] pos) (tK C L W H0 3 (.bi b as)) := by
  refine ⟨fun pins s σ H Q I ⟨g, env, m, okk, eo, o⟩ => ?_⟩
  refine wpAny_Call_Name_kw (ld_blt I hg (ok.blt _ (bn_blt b)) (bn_boot b) ?_ (nameOk_eq (bn_ok b)).2.2 (nameOk_eq (bn_ok b)).1)
  have z := Bool.and_eq_true_iff.mp hs
  have o' : Out L W σ g H ((evs C as env >>= fun vs => biP b vs) m) (RF L H) Q := o
  have run : wpAny (model X.prog X.w) X.A (spliced (backTo pos (starEach (x :: es) X.env))) (fun us s1 => wpAny (model X.prog X.w) X.A (call (fOf b) us) (EP X pins σ Q) X.xe s1) X.xe s := by
    refine thn (ha.run pos pins s σ H (fun vs H1 => rBi L b vs H1 Q) I ⟨g, env, m, okk, eo, Out.bind o' fun ps m1 g1 H1 vs k1 q1 r1 o1 => ⟨W, σ, g1, m1, ps, k1, r1.1.vdL fun p v r => ?_,
      o1.weaken fun _ _ _ _ _ _ _ r => RF.to q1.there r⟩⟩) fun us s1 ⟨vs, H1, I1, r, q⟩ => cr_bi ok.calm ok.gds (by have := ok.units; omega) b pins s1 σ H1 vs us Q I1 r q
    rcases hk with rfl | rfl
    · exact r
    · exact r.1
  rcases bn_kind b with ⟨T, e⟩ | ⟨id, e⟩
  · rw [e] at run ⊢
    exact PyProof.Rows.callWith_type1 run (starEach_cons z.1) (starEach_none z.2)
  · rw [e] at run ⊢
    exact PyProof.Rows.callWith_builtin1 run (starEach_cons z.1) (starEach_none z.2)
theorem ru_sortedRev {p p' kp : Pos} {j : Nat} (ok : XOk L C ck W X) (hg : Gl X "sorted") (hs : notStar x = true) (ha : PE X x (tK C L W H0 1 a)) :
    PE X (.Call (.Name "sorted" p) [x] [⟨some "reverse", .Constant (.bool true) j p', kp⟩] pos) (tK C L W H0 3 (.sortedRev a)) := by
  have hl : ([⟨some "reverse", .Constant (.bool true) j p', kp⟩] : List Keyword).all (fun k => k.arg.isSome) = true := rfl
  refine peImp (pe_callBK (cr_sortedRevP (X := X) (L := L)) hg (ok.blt _ (by decide +kernel)) (by decide +kernel) (pa_cons ha pa_nil (starEach_cons hs)) (pk_cons pe_bl pk_nil) (by decide +kernel) (by decide +kernel)
    (by rw [starEach_cons hs]; rfl) (starEach_none (by show (notStar x && true) = true; rw [hs]; rfl)) (kw_some hl).1 (kw_some hl).2.1 ((kw_some hl).2.2.trans rfl)) fun σ H Q ⟨g, env, m, okk, eo, o⟩ => ⟨g, env, m, okk, eo, ?_⟩
  have o' : Out L W σ g H ((ev C a env >>= fun v => sortedRevP v) m) (RF L H) Q := o
  exact Out.bind o' fun p m1 g1 H1 v k1 q1 r1 o1 => ⟨W, σ, g1, m1, p, v, rfl, rfl, k1, r1.1, o1.weaken fun _ _ _ _ _ _ _ r => RF.to q1.there r⟩
end
end Nl
end
section
set_option Elab.async false
set_option linter.all false
set_option maxRecDepth 100000
set_option maxHeartbeats 1000000
/-! Nl, 9: rules, the rest. -/
namespace Nl
open PySem PySem.Spec PyProof.Rows L2
section
variable {C : Calls} {L : Lk} {W : WX} {H0 : Hp} {X : Cx} {ck : Ck} {x y z : Expr} {a b c : Ex} {pos : Pos} {es : List Expr} {as : List Ex}
theorem ru_plainT {k : Nat} (h : plainT x = true) (hx : PE X x (tK C L W H0 k a)) : PT X x (tT C L W H0 a) :=
  ptImp (pt_val (weak (k := 0) hx (Nat.zero_le _)) (isTrue_plain h)) fun σ H Q ⟨g, env, m, ok, eo, o⟩ => ⟨g, env, m, ok, eo, Out.bind o fun p m1 g1 H1 v k1 q1 r1 o1 => by
    cases p with
    | bl b =>
      obtain rfl : v = V.bl b := r1
      exact ⟨b, rfl, Out.ret o1 k1 .rfl' rfl⟩
    | _ => exact (o1 : False).elim⟩
theorem ru_not (ha : PE X x (tK C L W H0 0 a)) : PE X (.UnaryOp .Not x pos) (tK C L W H0 3 (.not a)) :=
  peImp (pe_not ha) fun σ H Q ⟨g, env, m, ok, eo, o⟩ => ⟨g, env, m, ok, eo, Out.bind o fun p m1 g1 H1 v k1 q1 r1 o1 => by
    cases p with
    | bl b =>
      obtain rfl : v = V.bl b := r1
      exact ⟨b, rfl, Out.ret o1 k1 .rfl' rfl⟩
    | _ => exact (o1 : False).elim⟩
theorem ru_notT (ha : PT X x (tT C L W H0 a)) : PT X (.UnaryOp .Not x pos) (tT C L W H0 (.not a)) :=
  ptImp (pt_not ha) fun σ H Q ⟨g, env, m, ok, eo, o⟩ => by
    have e : ((do let x ← ev C (.not a) env; truthP x : Py Bool) m) = (((ev C a env >>= truthP) >>= fun r => (pure (!r) : Py Bool)) m) := by
      show Py.and (Py.and (ev C a env) fun x => Py.and (truthP x) fun r => Py.ret (.bl (!r))) truthP m = Py.and (Py.and (ev C a env) truthP) (fun r => Py.ret (!r)) m
      unfold Py.and
      cases ev C a env m with
      | ok p m1 =>
        dsimp only
        cases truthP p m1 <;> rfl
      | _ => rfl
    rw [e] at o
    exact ⟨g, env, m, ok, eo, Out.bind o fun p m1 g1 H1 v k1 q1 r1 o1 => by
      subst r1
      exact Out.ret o1 k1 .rfl' rfl⟩
theorem RK.bl {k : Nat} {g : G} {H H1 : Hp} {v : Bool} : RK L k H1 g H (.bl v) (V.bl v) := by
  match k with
  | 0 => exact rfl
  | 1 => exact ⟨rfl, fun _ e => nomatch e⟩
  | 2 => exact rfl
  | _ + 3 => exact rfl
theorem RK.to {k : Nat} {g : G} {H H1 H2 : Hp} (h : ∀ d, H1 d = none → H2 d = none) {p : PV} {v : V} (r : RK L k H1 g H p v) : RK L k H2 g H p v := by
  match k with
  | 0 => exact r
  | 1 => exact r
  | 2 => exact r
  | _ + 3 => exact RF.to h r
theorem ru_and {k : Nat} {r : List Expr} (ha : PE X x (tK C L W H0 0 a)) (hb : PE X (.BoolOp .And (y :: r) pos) (tK C L W H0 k b)) : PE X (.BoolOp .And (x :: y :: r) pos) (tK C L W H0 k (.and a b)) :=
  peImp (pe_and ha hb) fun σ H Q ⟨g, env, m, ok, eo, o⟩ => ⟨g, env, m, ok, eo, Out.bind o fun p m1 g1 H1 v k1 q1 r1 o1 => by
    cases p with
    | bl t =>
      obtain rfl : v = V.bl t := r1
      refine ⟨t, rfl, ?_⟩
      cases t with
      | true =>
        rw [if_pos rfl]
        exact ⟨g1, env, m1, k1, eo.post q1, Out.weaken o1 fun _ _ _ _ _ _ _ r => RK.to q1.there r⟩
      | false =>
        rw [if_neg (by simp)]
        exact Out.ret o1 k1 .rfl' RK.bl
    | _ => exact (o1 : False).elim⟩
theorem ru_or {k : Nat} {r : List Expr} (ha : PE X x (tK C L W H0 0 a)) (hb : PE X (.BoolOp .Or (y :: r) pos) (tK C L W H0 k b)) : PE X (.BoolOp .Or (x :: y :: r) pos) (tK C L W H0 k (.or a b)) :=
  peImp (pe_or ha hb) fun σ H Q ⟨g, env, m, ok, eo, o⟩ => ⟨g, env, m, ok, eo, Out.bind o fun p m1 g1 H1 v k1 q1 r1 o1 => by
    cases p with
    | bl t =>
      obtain rfl : v = V.bl t := r1
      refine ⟨t, rfl, ?_⟩
      cases t with
      | false =>
        rw [if_neg (by simp)]
        exact ⟨g1, env, m1, k1, eo.post q1, Out.weaken o1 fun _ _ _ _ _ _ _ r => RK.to q1.there r⟩
      | true =>
        rw [if_pos rfl]
        exact Out.ret o1 k1 .rfl' RK.bl
    | _ => exact (o1 : False).elim⟩
theorem and_truth {C : Calls} {a b : Ex} {env : Env} {m : Mem} : ((do let x ← ev C (.and a b) env; truthP x : Py Bool) m) = (((ev C a env >>= truthP) >>= fun r => if r then ev C b env >>= truthP else (pure false : Py Bool)) m) := by
  show Py.and (Py.and (ev C a env) fun x => match x with | .bl true => ev C b env | .bl false => Py.ret (.bl false) | _ => stuck) truthP m = Py.and (Py.and (ev C a env) truthP) (fun r => if r then Py.and (ev C b env) truthP else Py.ret false) m
  unfold Py.and
  cases ev C a env m with
  | ok p m1 =>
    cases p with
    | bl t =>
      cases t with
      | true => rfl
      | false => rfl
    | _ => rfl
  | _ => rfl
theorem or_truth {C : Calls} {a b : Ex} {env : Env} {m : Mem} : ((do let x ← ev C (.or a b) env; truthP x : Py Bool) m) = (((ev C a env >>= truthP) >>= fun r => if r then (pure true : Py Bool) else ev C b env >>= truthP) m) := by
  show Py.and (Py.and (ev C a env) fun x => match x with | .bl true => Py.ret (.bl true) | .bl false => ev C b env | _ => stuck) truthP m = Py.and (Py.and (ev C a env) truthP) (fun r => if r then Py.ret true else Py.and (ev C b env) truthP) m
  unfold Py.and
  cases ev C a env m with
  | ok p m1 =>
    cases p with
    | bl t =>
      cases t with
      | true => rfl
      | false => rfl
    | _ => rfl
  | _ => rfl
/-- a test, whatever asks -/
structure PWt (X : Cx) (e : Expr) (t : TT) : Prop where
  w : PW X e t
theorem ru_andT {r : List Expr} (ha : PT X x (tT C L W H0 a)) (hb : PW X (.BoolOp .And (y :: r) pos) (tT C L W H0 b)) : PW X (.BoolOp .And (x :: y :: r) pos) (tT C L W H0 (.and a b)) :=
  ⟨fun whole pins s σ H Q I ⟨g, env, m, ok, eo, o⟩ => (pw_and ha hb).run whole pins s σ H Q I (by
    rw [and_truth] at o
    exact ⟨g, env, m, ok, eo, Out.bind o fun p m1 g1 H1 v k1 q1 r1 o1 => by
      subst r1
      cases v with
      | true => rw [if_pos rfl]; exact ⟨g1, env, m1, k1, eo.post q1, o1⟩
      | false => rw [if_neg (by simp)]; exact Out.ret o1 k1 .rfl' rfl⟩)⟩
theorem ru_orT {r : List Expr} (ha : PT X x (tT C L W H0 a)) (hb : PW X (.BoolOp .Or (y :: r) pos) (tT C L W H0 b)) : PW X (.BoolOp .Or (x :: y :: r) pos) (tT C L W H0 (.or a b)) :=
  ⟨fun whole pins s σ H Q I ⟨g, env, m, ok, eo, o⟩ => (pw_or ha hb).run whole pins s σ H Q I (by
    rw [or_truth] at o
    exact ⟨g, env, m, ok, eo, Out.bind o fun p m1 g1 H1 v k1 q1 r1 o1 => by
      subst r1
      cases v with
      | true => rw [if_pos rfl]; exact Out.ret o1 k1 .rfl' rfl
      | false => rw [if_neg (by simp)]; exact ⟨g1, env, m1, k1, eo.post q1, o1⟩⟩)⟩
theorem ru_ite {k : Nat} (hc : PT X z (tT C L W H0 c)) (ha : PE X x (tK C L W H0 k a)) (hb : PE X y (tK C L W H0 k b)) : PE X (.IfExp z x y pos) (tK C L W H0 k (.ite c a b)) :=
  peImp (pe_ifExp hc ha hb) fun σ H Q ⟨g, env, m, ok, eo, o⟩ => by
    have e : ev C (.ite c a b) env m = ((ev C c env >>= truthP) >>= fun r => if r then ev C a env else ev C b env) m := by
      show Py.and (ev C c env) (fun x => Py.and (truthP x) fun r => if r then ev C a env else ev C b env) m = Py.and (Py.and (ev C c env) truthP) (fun r => if r then ev C a env else ev C b env) m
      unfold Py.and
      cases ev C c env m <;> rfl
    rw [e] at o
    exact ⟨g, env, m, ok, eo, Out.bind o fun p m1 g1 H1 v k1 q1 r1 o1 => by
      subst r1
      cases v with
      | true => rw [if_pos rfl]; exact ⟨g1, env, m1, k1, eo.post q1, Out.weaken o1 fun _ _ _ _ _ _ _ r => RK.to q1.there r⟩
      | false => rw [if_neg (by simp)]; exact ⟨g1, env, m1, k1, eo.post q1, Out.weaken o1 fun _ _ _ _ _ _ _ r => RK.to q1.there r⟩⟩
theorem ru_neg (ha : PE X x (tK C L W H0 0 a)) : PE X (.UnaryOp .USub x pos) (tK C L W H0 3 (.neg a)) :=
  peImp (pe_un un_neg ha) fun σ H Q ⟨g, env, m, ok, eo, o⟩ => ⟨g, env, m, ok, eo, Out.bind o fun p m1 g1 H1 v k1 q1 r1 o1 => by
    cases p with
    | int i =>
      obtain rfl : v = V.int i := r1
      exact ⟨i, rfl, Out.ret o1 k1 .rfl' rfl⟩
    | _ => exact (o1 : False).elim⟩
theorem ru_chain {o o' : Cop} (hu : X.A.units + 200 < cLine) (hm : lastMarks [copOf o, copOf o'] [y, z] = false) (ha : PE X x (tK C L W H0 1 a)) (hb : PE X y (tK C L W H0 1 b)) (hc : PE X z (tK C L W H0 0 c)) : PE X (.Compare x [copOf o, copOf o'] [y, z] pos) (tK C L W H0 3 (.chain o o' a b c)) :=
  peImp (pe_chain (op_cmp (L := L) (by omega) o) (op_cmp (L := L) (by omega) o') ha hb hc hm) fun σ H Q ⟨g, env, m, ok, eo, out⟩ => ⟨g, env, m, ok, eo, Out.bind out fun p m1 g1 H1 v k1 q1 r1 o1 =>
    ⟨g1, env, m1, k1, eo.post q1, Out.bind o1 fun p2 m2 g2 H2 v2 k2 q2 r2 o2 => ⟨W, σ, g2, m2, p, p2, k2, (Vw.post q2 k1 r1).1, r2.1,
      Out.bind o2 fun rb m3 g3 H3 v3 k3 q3 r3 o3 => ⟨rb, r3, by
        cases rb with
        | true =>
          rw [if_pos rfl]
          exact ⟨g3, env, m3, k3, ((eo.post q1).post q2).post q3, Out.bind o3 fun p4 m4 g4 H4 v4 k4 q4 r4 o4 => ⟨W, σ, g4, m4, p2, p4, k4, (Vw.post (q3.trans q4) k2 r2).1, r4,
            Out.bind o4 fun rb m5 g5 H5 v5 k5 q5 r5 o5 => Out.ret o5 k5 .rfl' r5⟩⟩
        | false =>
          rw [if_neg (by simp)]
          exact Out.ret o3 k3 .rfl' rfl⟩⟩⟩⟩
theorem bl_truth {C : Calls} {a : Ex} {env : Env} {m : Mem} {σ : L2.St} {g : G} {H : Hp} {Q : Bool → Hp → Prop} (hb : ∀ p m', ev C a env m = .ok p m' → ∃ b, p = .bl b) (o : Out L W σ g H ((do let x ← ev C a env; truthP x : Py Bool) m) (fun _ _ b c => c = b) Q) :
    Out L W σ g H (ev C a env m) (RF L H) (fun z H' => ∃ k, z = .bl k ∧ Q k H') :=
  Out.bind o fun p m1 g1 H1 v k1 q1 r1 o1 => by
    cases p with
    | bl t =>
      obtain rfl : v = V.bl t := r1
      exact ⟨t, rfl, Out.ret o1 k1 .rfl' rfl⟩
    | _ => exact (o1 : False).elim
theorem ru_chainT {o o' : Cop} (hu : X.A.units + 200 < cLine) (hm : lastMarks [copOf o, copOf o'] [y, z] = false) (ha : PE X x (tK C L W H0 1 a)) (hb : PE X y (tK C L W H0 1 b)) (hc : PE X z (tK C L W H0 0 c)) : PT X (.Compare x [copOf o, copOf o'] [y, z] pos) (tT C L W H0 (.chain o o' a b c)) :=
  ptImp (pt_chain (op_cmp (L := L) (by omega) o) (op_cmp (L := L) (by omega) o') ha hb hc hm) fun σ H Q ⟨g, env, m, ok, eo, out⟩ => by
    have out' : Out L W σ g H (ev C (.chain o o' a b c) env m) (RF L H) (fun z H' => ∃ k, z = .bl k ∧ Q k H') := by
      refine Out.bind out fun p m1 g1 H1 v k1 q1 r1 o1 => ?_
      cases p with
      | bl t =>
        obtain rfl : v = V.bl t := r1
        exact ⟨t, rfl, Out.ret o1 k1 .rfl' rfl⟩
      | _ => exact (o1 : False).elim
    exact ⟨g, env, m, ok, eo, Out.bind out' fun p m1 g1 H1 v k1 q1 r1 o1 =>
    ⟨g1, env, m1, k1, eo.post q1, Out.bind o1 fun p2 m2 g2 H2 v2 k2 q2 r2 o2 => ⟨W, σ, g2, m2, p, p2, k2, (Vw.post q2 k1 r1).1, r2.1,
      Out.bind o2 fun rb m3 g3 H3 v3 k3 q3 r3 o3 => ⟨rb, r3, by
        cases rb with
        | true =>
          rw [if_pos rfl]
          exact ⟨g3, env, m3, k3, ((eo.post q1).post q2).post q3, Out.bind o3 fun p4 m4 g4 H4 v4 k4 q4 r4 o4 => ⟨W, σ, g4, m4, p2, p4, k4, (Vw.post (q3.trans q4) k2 r2).1, r4,
            Out.bind o4 fun rb m5 g5 H5 v5 k5 q5 r5 o5 => Out.ret o5 k5 .rfl' r5⟩⟩
        | false =>
          rw [if_neg (by simp)]
          exact Out.ret o3 k3 .rfl' rfl⟩⟩⟩⟩
theorem ru_tup {k n : Nat} (ha : PA X es (tGs C L W H0 (LK L 2 n) as)) : PE X (.Tuple es k pos) (tK C L W H0 3 (.tup as)) :=
  peImp (pe_tup ha) fun σ H Q ⟨g, env, m, ok, eo, o⟩ => ⟨g, env, m, ok, eo, Out.bind o fun ps m1 g1 H1 vs k1 q1 r1 o1 => by
    obtain ⟨hz, o2⟩ := Out.need o1
    exact ⟨by rw [← r1.1.length]; exact fits_line hz, RF.newT k1 r1.1.repL (Out.weaken o2 fun _ _ _ _ _ _ _ r => RF.to q1.there r)⟩⟩
theorem ru_lst {n : Nat} (ha : PA X es (tGs C L W H0 (LK L 2 n) as)) : PE X (.List es pos) (tK C L W H0 3 (.lst as)) :=
  peImp (pe_lst ha) fun σ H Q ⟨g, env, m, ok, eo, o⟩ => ⟨g, env, m, ok, eo, Out.bind o fun ps m1 g1 H1 vs k1 q1 r1 o1 => by
    obtain ⟨hz, o2⟩ := Out.need o1
    exact ⟨by rw [← r1.1.length]; exact fits_line hz, RF.newL k1 r1.1.repL (Out.weaken o2 fun _ _ _ _ _ _ _ r => RF.to q1.there r)⟩⟩
theorem ru_ix (hs : notSlice y = true) (ha : PE X x (tK C L W H0 1 a)) (hb : PE X y (tK C L W H0 0 b)) : PE X (.Subscript x y pos) (tK C L W H0 2 (.ix a b)) :=
  peImp (pe_ix (ix_any (L := L)) ha hb (plainIx hs)) fun σ H Q ⟨g, env, m, ok, eo, out⟩ => ⟨g, env, m, ok, eo, Out.bind out fun p m1 g1 H1 v k1 q1 r1 o1 =>
    ⟨g1, env, m1, k1, eo.post q1, Out.bind o1 fun p2 m2 g2 H2 v2 k2 q2 r2 o2 => ⟨W, σ, g2, m2, p, p2, k2, (Vw.post q2 k1 r1).1, r2, o2⟩⟩⟩
theorem mlst_out {n : Nat} {g : G} {H : Hp} {m : Mem} {σ : L2.St} {α β : Type} {f : List PV → Py α} {Rl : G → Hp → α → β → Prop} {Q : β → Hp → Prop} (ok : Ok L g H m) {v : V} (r : Rep L g (.ref n) v) (o : Out L W σ g H ((mlst n >>= f) m) Rl Q) :
    ∃ l xs vs, v = .ref l ∧ l ∈ g.al ∧ m[n]? = some (.lst xs) ∧ H l = some (.lst vs) ∧ RepL L g xs vs ∧ Out L W σ g H (f xs m) Rl Q := by
  unfold Rep at r
  obtain ⟨l, rfl, hl⟩ := r
  have o' : Out L W σ g H ((Py.and (mlst n) f) m) Rl Q := o
  unfold Py.and mlst at o'
  cases e : m[n]? with
  | none => rw [e] at o'; exact o'.elim
  | some ob =>
    cases ob with
    | lst xs =>
      rw [e] at o'
      obtain ⟨_, vs, h1, h2⟩ := ok.obj n l _ hl e
      exact ⟨l, xs, vs, rfl, List.mem_iff_getElem?.mpr ⟨n, hl⟩, rfl, h1, h2, o'⟩
    | ins c fs => rw [e] at o'; exact o'.elim
theorem ru_mix (hs : notSlice y = true) (ha : PE X x (tK C L W H0 1 a)) (hb : PE X y (tK C L W H0 0 b)) : PE X (.Subscript x y pos) (tK C L W H0 2 (.mix a b)) :=
  peImp (pe_ix (ix_any (L := L)) ha hb (plainIx hs)) fun σ H Q ⟨g, env, m, ok, eo, out⟩ => ⟨g, env, m, ok, eo, Out.bind out fun p m1 g1 H1 v k1 q1 r1 o1 =>
    ⟨g1, env, m1, k1, eo.post q1, Out.bind o1 fun p2 m2 g2 H2 v2 k2 q2 r2 o2 => by
      cases p with
      | ref n =>
        obtain ⟨l, xs, vs, rfl, _, _, h1, h2, o3⟩ := mlst_out k2 (Vw.post q2 k1 r1).1 o2
        exact ⟨W, σ, g2, m2, .lst xs, p2, k2, ⟨l, vs, rfl, .inl h1, h2⟩, r2, o3⟩
      | _ => exact (o2 : False).elim⟩⟩
theorem ru_deref (ha : PE X x (tK C L W H0 0 a)) : PE X x (tK C L W H0 0 (.deref a)) :=
  peImp ha fun σ H Q ⟨g, env, m, ok, eo, out⟩ => ⟨g, env, m, ok, eo, Out.bind out fun p m1 g1 H1 v k1 q1 r1 o1 => by
    cases p with
    | ref n =>
      obtain ⟨l, xs, vs, rfl, _, _, h1, h2, o3⟩ := mlst_out k1 r1 o1
      exact Out.ret o3 k1 .rfl' ⟨l, vs, rfl, .inl h1, h2⟩
    | _ => exact (o1 : False).elim⟩
theorem ru_poNone {σ : L2.St} {H : Hp} {Q : Option Int → Hp → Prop} {g : G} {env : Env} {m : Mem} (ok : Ok L g H m) (o : Out L W σ g H (evO C none env m) (fun _ _ (p : Option Int) (v : Option Int) => v = p) Q) : tNoPart σ H Q :=
  Out.ret (a := (none : Option Int)) o ok .rfl' rfl
def tPo (C : Calls) (L : Lk) (W : WX) (H0 : Hp) (a : Option Ex) : TO := fun σ H Q => ∃ (g : G) (env : Env) (m : Mem), Ok L g H m ∧ EnvOk L g H H0 env σ ∧ Out L W σ g H (evO C a env m) (fun _ _ (p : Option Int) (v : Option Int) => v = p) Q
theorem poImp {e : Option Expr} {t t' : TO} (h : PO X e t) (i : ∀ σ H Q, t' σ H Q → t σ H Q) : PO X e t' := ⟨fun pins s σ H Q I q => h.run pins s σ H Q I (i σ H Q q)⟩
theorem ru_po0 : PO X none (tPo C L W H0 none) := poImp po_none fun σ H Q ⟨g, env, m, ok, eo, o⟩ => Out.ret (a := (none : Option Int)) o ok .rfl' rfl
theorem ru_po1 (ha : PE X x (tK C L W H0 0 a)) : PO X (some x) (tPo C L W H0 (some a)) := poImp (po_some ha) fun σ H Q ⟨g, env, m, ok, eo, o⟩ => ⟨g, env, m, ok, eo, Out.bind o fun p m1 g1 H1 v k1 q1 r1 o1 => by
  cases p with
  | int i =>
    obtain rfl : v = V.int i := r1
    exact ⟨i, rfl, Out.ret o1 k1 .rfl' rfl⟩
  | _ => exact (o1 : False).elim⟩
theorem ru_sl {lo hi : Option Expr} {l h : Option Ex} {p2 : Pos} (ha : PE X x (tK C L W H0 1 a)) (hl : PO X lo (tPo C L W H0 l)) (hh : PO X hi (tPo C L W H0 h)) : PE X (.Subscript x (.Slice lo hi none p2) pos) (tK C L W H0 3 (.sl a l h)) :=
  peImp (pe_slice (sl_any (L := L)) ha hl hh) fun σ H Q ⟨g, env, m, ok, eo, out⟩ => ⟨g, env, m, ok, eo, Out.bind out fun p m1 g1 H1 v k1 q1 r1 o1 =>
    ⟨g1, env, m1, k1, eo.post q1, Out.bind o1 fun p2 m2 g2 H2 v2 k2 q2 r2 o2 => ⟨g2, env, m2, k2, (eo.post q1).post q2, Out.bind o2 fun p3 m3 g3 H3 v3 k3 q3 r3 o3 => by
      subst r2 r3
      exact ⟨W, σ, g3, m3, p, k3, (Vw.post (q2.trans q3) k1 r1).1, o3.weaken fun _ _ _ _ _ _ _ r => RF.to (fun d z => q1.there d (q2.there d (q3.there d z))) r⟩⟩⟩⟩
theorem ru_rev {k : Nat} {p1 p2 p3 : Pos} (ha : PE X x (tK C L W H0 0 a)) : PE X (.Subscript x (.Slice none none (some (.UnaryOp .USub (.Constant (.int 1) k p1) p2)) p3) pos) (tK C L W H0 3 (.rev a)) :=
  peImp (pe_revL ha) fun σ H Q ⟨g, env, m, ok, eo, out⟩ => ⟨g, env, m, ok, eo, Out.bind out fun p m1 g1 H1 v k1 q1 r1 o1 => by
    cases p with
    | lst xs =>
      obtain ⟨l, vs, rfl, h1, h2⟩ := r1
      exact ⟨l, vs, rfl, LL.sq h1, RF.newL k1 h2.reverse (Out.weaken o1 fun _ _ _ _ _ _ _ r => RF.to q1.there r)⟩
    | _ => exact (o1 : False).elim⟩
end
end Nl
end
section
set_option Elab.async false
set_option linter.all false
set_option maxRecDepth 100000
set_option maxHeartbeats 1000000
/-! Nl, 10: targets, iteration, comprehensions. -/
namespace Nl
open PySem PySem.Spec PyProof.Rows L2

/-! ### scopes -/
structure Sc where
  sc : Scope
  fn : PySem.Str → Bool
structure ScOk (S : Sc) (X : Cx) : Prop where
  sc : X.env.scope = S.sc
  fn : ∀ x, S.fn x = true → X.fn x = true
def locB (S : Sc) (x : PySem.Str) : Bool := match S.sc.names.lookup x with
  | some .local => true
  | some .cell => S.fn x
  | _ => false
theorem locB_eq {S : Sc} {X : Cx} {x : PySem.Str} (h : locB S x = true) (k : ScOk S X) : L2.Loc X.env.scope x ∧ (X.fn x = true ∨ X.env.scope.names.lookup x = some .local) := by
  unfold locB at h
  unfold L2.Loc
  rw [k.sc]
  split at h
  · rename_i q; exact ⟨.inl q, .inr q⟩
  · rename_i q; exact ⟨.inr q, .inl (k.fn x h)⟩
  · cases h

/-! ### slots changed -/
section
variable {L : Lk} {g : G} {H H0 : Hp} {env : Env} {σ : L2.St}
theorem set_at {α : Type} {l : List α} {i j : Nat} {x y : α} (h : (l.set i x)[j]? = some y) : (i = j ∧ x = y) ∨ (i ≠ j ∧ l[j]? = some y) := by
  rw [List.getElem?_set] at h
  by_cases q : i = j
  · rw [if_pos q] at h
    by_cases z : i < l.length
    · rw [if_pos z] at h; exact .inl ⟨q, Option.some.inj h⟩
    · rw [if_neg z] at h; cases h
  · rw [if_neg q] at h; exact .inr ⟨q, h⟩
theorem EnvOk.set (e : EnvOk L g H H0 env σ) {i : Nat} {s : Slot} {v : Option V} (hs : i < env.length → SlotOk L g H H0 s (some v))
    (ap : ∀ (j : Nat) (ps qs : List PV) (a : Addr), i ≠ j → s = .own ps → env[j]? = some (.own qs) → v = some (.ref a) → σ[j]? = some (some (.ref a)) → False) : EnvOk L g H H0 (env.set i s) (σ.set i v) := by
  refine ⟨by rw [List.length_set, List.length_set, e.len], fun j t h => ?_, fun j k ps qs a hjk h1 h2 h3 h4 => ?_⟩
  · rcases set_at h with ⟨rfl, rfl⟩ | ⟨q, h⟩
    · have hi : i < env.length := by
        have := (List.getElem?_eq_some_iff.mp h).1
        rwa [List.length_set] at this
      rw [List.getElem?_set_self (by rw [← e.len]; exact hi)]
      exact hs hi
    · rw [List.getElem?_set_ne q]; exact e.at_ j t h
  · rcases set_at h1 with ⟨rfl, e1⟩ | ⟨q1, h1⟩
    · rcases set_at h2 with ⟨rfl, _⟩ | ⟨q2, h2⟩
      · exact hjk rfl
      · rcases set_at h3 with ⟨_, e3⟩ | ⟨q3, h3⟩
        · rw [List.getElem?_set_ne q2] at h4; exact ap k ps qs a q2 e1 h2 e3 h4
        · exact absurd rfl q3
    · rw [List.getElem?_set_ne q1] at h3
      rcases set_at h2 with ⟨rfl, e2⟩ | ⟨q2, h2⟩
      · rcases set_at h4 with ⟨_, e4⟩ | ⟨q4, h4⟩
        · exact ap j qs ps a (Ne.symm hjk) e2 h1 e4 h3
        · exact absurd rfl q4
      · rw [List.getElem?_set_ne q2] at h4; exact e.apart j k ps qs a hjk h1 h2 h3 h4
theorem EnvOk.setPv (e : EnvOk L g H H0 env σ) {i : Nat} {p : PV} {v : V} (r : Rep L g p v) : EnvOk L g H H0 (env.set i (.pv p)) (σ.set i (some v)) :=
  e.set (fun _ => ⟨v, rfl, r⟩) fun _ _ _ _ _ z => nomatch z
theorem EnvOk.wipe (e : EnvOk L g H H0 env σ) : ∀ vs : List Nat, EnvOk L g H H0 (wipeE env vs) (L2.wipe σ vs)
  | [] => e
  | v :: vs => (EnvOk.wipe e vs).set (fun _ => trivial) fun _ _ _ _ _ z => nomatch z
end

/-! ### targets -/
mutual
def tgV : Tg → List Nat
  | .var i => [i]
  | .tup gs => tgVs gs
def tgVs : List Tg → List Nat
  | [] => []
  | g :: gs => tgV g ++ tgVs gs
end
mutual
def chkT (N : List PySem.Str) (S : Sc) : Tg → Expr → Bool
  | .var i, e => match asName e with
    | some x => decide (N[i]? = some x) && locB S x
    | none => false
  | .tup gs, e => match asTup e with
    | some es => chkTs N S gs es && es.all notStar
    | none => false
def chkTs (N : List PySem.Str) (S : Sc) : List Tg → List Expr → Bool
  | [], [] => true
  | g :: gs, e :: es => chkT N S g e && chkTs N S gs es
  | _, _ => false
end
/-- what stands at the slots behind a target's stores -/
def OnlyAt (σ σ' : L2.St) (vs : List Nat) : Prop := σ'.length = σ.length ∧ ∀ i, i ∉ vs → σ'[i]? = σ[i]?
theorem OnlyAt.rfl' {σ : L2.St} {vs : List Nat} : OnlyAt σ σ vs := ⟨rfl, fun _ _ => rfl⟩
theorem OnlyAt.trans {a b c : L2.St} {vs ws : List Nat} (x : OnlyAt a b vs) (y : OnlyAt b c ws) : OnlyAt a c (vs ++ ws) :=
  ⟨y.1.trans x.1, fun i h => (y.2 i fun q => h (List.mem_append_right _ q)).trans (x.2 i fun q => h (List.mem_append_left _ q))⟩
theorem OnlyAt.wipe {σ σ' : L2.St} {vs ws : List Nat} (h : OnlyAt (L2.wipe σ vs) σ' ws) (sub : ∀ i ∈ ws, i ∈ vs) : L2.wipe σ' vs = L2.wipe σ vs := by
  have wg : ∀ (σ : L2.St) (vs : List Nat) (i : Nat), (L2.wipe σ vs)[i]? = if i ∈ vs then (if i < σ.length then some none else none) else σ[i]? := by
    intro σ vs i
    induction vs with
    | nil => simp [L2.wipe]
    | cons v vs ih =>
      unfold L2.wipe
      rw [List.getElem?_set, L2.wipe_length]
      by_cases q : v = i
      · subst q; simp
      · rw [if_neg q, ih]
        simp [Ne.symm q]
  have len : (L2.wipe σ' vs).length = (L2.wipe σ vs).length := by rw [L2.wipe_length, h.1]
  refine List.ext_getElem? fun i => ?_
  rw [wg, wg]
  have l2 : σ'.length = σ.length := by rw [h.1, L2.wipe_length]
  by_cases q : i ∈ vs
  · rw [if_pos q, if_pos q, l2]
  · rw [if_neg q, if_neg q, h.2 i (fun z => q (sub i z)), wg, if_neg q]
section
variable (L : Lk) (H0 : Hp)
def gT (t : Tg) : TG := fun v σ H Q => ∃ (g : G) (env env' : Env) (p : PV) (m : Mem), Ok L g H m ∧ EnvOk L g H H0 env σ ∧ Rep L g p v ∧ setTg t p env = some env' ∧ ∀ σ', EnvOk L g H H0 env' σ' → OnlyAt σ σ' (tgV t) → Q σ' H
def gTs (ts : List Tg) : TGs := fun vs σ H Q => ∃ (g : G) (env env' : Env) (ps : List PV) (m : Mem), Ok L g H m ∧ EnvOk L g H H0 env σ ∧ RepL L g ps vs ∧ setTg.setTgs ts ps env = some env' ∧ ∀ σ', EnvOk L g H H0 env' σ' → OnlyAt σ σ' (tgVs ts) → Q σ' H
end
section
variable {L : Lk} {H0 : Hp} {X : Cx} {S : Sc} {N : List PySem.Str}
theorem pgImp {e : Expr} {t t' : TG} (h : PG X e t) (i : ∀ v σ H Q, t' v σ H Q → t v σ H Q) : PG X e t' := ⟨fun pins s σ H v u Q I r q => h.run pins s σ H v u Q I r (i v σ H Q q)⟩
theorem pgsImp {e : List Expr} {t t' : TGs} (h : PGs X e t) (i : ∀ v σ H Q, t' v σ H Q → t v σ H Q) : PGs X e t' := ⟨fun pins s σ H v u Q I r q => h.run pins s σ H v u Q I r (i v σ H Q q)⟩
theorem assignEach_cons {e : Expr} {es : List Expr} {env : PySem.Env} (h : notStar e = true) : assignEach (e :: es) env = (false, assign e env) :: assignEach es env := by
  cases e <;> first | rfl | (cases h)
theorem assignEach_len {env : PySem.Env} : ∀ {es : List Expr}, es.all notStar = true → (assignEach es env).length = es.length ∧ (assignEach es env).findIdx? (·.1) = none
  | [], _ => ⟨rfl, rfl⟩
  | e :: es, h => by
    have z := Bool.and_eq_true_iff.mp h
    obtain ⟨h1, h2⟩ := assignEach_len (env := env) z.2
    rw [assignEach_cons z.1]
    exact ⟨by rw [List.length_cons, List.length_cons, h1], by rw [List.findIdx?_cons]; simp [h2]⟩
mutual
theorem sT (hN : X.N = N) (nd : N.Nodup) (hc : X.calm = true) (k : ScOk S X) : ∀ (t : Tg) (e : Expr), chkT N S t e = true → PG X e (gT L H0 t)
  | .var i, e, h => by
    unfold chkT at h
    cases q : asName e with
    | none => rw [q] at h; cases h
    | some x =>
      rw [q] at h
      obtain ⟨p, rfl⟩ := asName_eq q
      have z := Bool.and_eq_true_iff.mp h
      have l := locB_eq z.2 k
      refine pgImp (pg_name (X := X) (i := i) (by rw [hN]; exact nd) (by rw [hN]; exact of_decide_eq_true z.1) l.1 l.2) fun v σ H Q ⟨g, env, env', p, m, ok, eo, r, e, q⟩ => ?_
      have e' : (if i < env.length then some (env.set i (.pv p)) else none) = some env' := e
      by_cases hi : i < env.length
      · rw [if_pos hi] at e'
        cases e'
        refine q _ (eo.setPv r) ⟨by rw [List.length_set], fun j hj => ?_⟩
        have : i ≠ j := fun z => hj (by rw [← z]; exact List.mem_singleton.mpr rfl)
        rw [List.getElem?_set_ne this]
      · rw [if_neg hi] at e'; cases e'
  | .tup gs, e, h => by
    unfold chkT at h
    cases q : asTup e with
    | none => rw [q] at h; cases h
    | some es =>
      rw [q] at h
      obtain ⟨j, p, rfl⟩ := asTup_eq q
      have z := Bool.and_eq_true_iff.mp h
      have al := assignEach_len (env := X.env) z.2
      refine pgImp (pg_tup hc (sTs hN nd hc k gs es z.1) rfl al.2) fun v σ H Q ⟨g, env, env', p, m, ok, eo, r, e, q⟩ => ?_
      cases p with
      | tup ps =>
        have e' : setTg.setTgs gs ps env = some env' := e
        have r' : Rep L g (.tup ps) v := r
        unfold Rep at r'
        obtain ⟨a, vs, rfl, h1, h2⟩ := r'
        have len : ∀ {gs : List Tg} {es : List Expr} {ps : List PV} {env env' : Env}, chkTs N S gs es = true → setTg.setTgs gs ps env = some env' → ps.length = es.length := by
          intro gs
          induction gs with
          | nil =>
            intro es ps env env' c e
            cases es with
            | nil => cases ps with
              | nil => rfl
              | cons _ _ => cases e
            | cons _ _ => cases c
          | cons g gs ih =>
            intro es ps env env' c e
            cases es with
            | nil => cases c
            | cons x es =>
              cases ps with
              | nil => cases e
              | cons p ps =>
                have c' := (Bool.and_eq_true_iff.mp (show (chkT N S g x && chkTs N S gs es) = true from c)).2
                have e2 : (match setTg g p env with | some e1 => setTg.setTgs gs ps e1 | none => none) = some env' := e
                cases q : setTg g p env with
                | none => rw [q] at e2; cases e2
                | some e1 =>
                  rw [q] at e2
                  rw [List.length_cons, List.length_cons, ih c' e2]
        refine ⟨a, vs, rfl, SqT.of (ok.sub _ _ h1), ?_, g, env, env', ps, m, ok, eo, h2, e', fun σ' x y => q σ' x y⟩
        rw [al.1, ← h2.length]
        exact len z.1 e'
      | _ => cases e
theorem sTs (hN : X.N = N) (nd : N.Nodup) (hc : X.calm = true) (k : ScOk S X) : ∀ (ts : List Tg) (es : List Expr), chkTs N S ts es = true → PGs X es (gTs L H0 ts)
  | [], [], _ => pgsImp pgs_nil fun vs σ H Q ⟨g, env, env', ps, m, ok, eo, r, e, q⟩ => by
    cases ps with
    | nil =>
      cases e
      exact ⟨r.nil_inv, q σ eo .rfl'⟩
    | cons _ _ => cases e
  | t :: ts, e :: es, h => by
    have z := Bool.and_eq_true_iff.mp (show (chkT N S t e && chkTs N S ts es) = true from h)
    have ns : notStar e = true := by
      cases t with
      | var i =>
        have h1 := z.1
        unfold chkT at h1
        cases e <;> first | rfl | (cases h1)
      | tup gs =>
        have h1 := z.1
        unfold chkT at h1
        cases e <;> first | rfl | (cases h1)
    refine pgsImp (pgs_cons (sT hN nd hc k t e z.1) (sTs hN nd hc k ts es z.2) (by rw [assignEach_cons ns]; rfl)) fun vs σ H Q ⟨g, env, env', ps, m, ok, eo, r, e, q⟩ => ?_
    cases ps with
    | nil => cases e
    | cons p ps =>
      have e2 : (match setTg t p env with | some e1 => setTg.setTgs ts ps e1 | none => none) = some env' := e
      obtain ⟨v, vs', rfl, r1, r2⟩ := r.cons_inv
      cases w : setTg t p env with
      | none => rw [w] at e2; cases e2
      | some e1 =>
        rw [w] at e2
        exact ⟨v, vs', rfl, g, env, e1, p, m, ok, eo, r1, w, fun σ' x y => ⟨g, e1, env', ps, m, ok, x, r2, e2, fun σ2 x2 y2 => q σ2 x2 (y.trans y2)⟩⟩
  | [], _ :: _, h => by cases h
  | _ :: _, [], h => by cases h
end
end
end Nl
end
section
set_option Elab.async false
set_option linter.all false
set_option maxRecDepth 100000
set_option maxHeartbeats 1000000
/-! Nl, 11: iteration, comprehensions. -/
namespace Nl
open PySem PySem.Spec PyProof.Rows L2

/-! ### writes to one's own list -/
section
variable {L : Lk} {g g0 : G} {H H0 : Hp} {m : Mem} {d : Addr}
theorem Ok.own (k : Ok L g H m) (hF : g.F d = none) (hA : d ∉ g.al) {o : HO} : Ok L g (upd H d o) m := by
  have kp : ∀ b, b ≠ d → ∀ u, H b = some u → upd H d o b = some u := fun b hb u e => by rw [upd_ne hb]; exact e
  refine ⟨fun b u e => (k.sub b u e).keep (kp b fun z => ?_), k.len, k.nd, fun n b u h1 h2 => ⟨(k.obj n b u h1 h2).1, (k.obj n b u h1 h2).2.keep .rfl' (kp b fun z => ?_)⟩⟩
  · rw [z, hF] at e; cases e
  · exact hA (z ▸ List.mem_iff_getElem?.mpr ⟨n, h1⟩)
theorem Post.own (q : Post g0 H0 g H) (h0 : H0 d = none) {o : HO} : Post g0 H0 g (upd H d o) :=
  ⟨q.ext, fun b u e n => by rw [upd_ne (fun z => by rw [z, h0] at e; cases e)]; exact q.keep b u e n, q.newF, q.newA, fun b e => by
    by_cases z : b = d
    · rw [z]; exact h0
    · rw [upd_ne z] at e; exact q.there b e⟩
end
section
variable {L : Lk} {W : WX} {σ σ' : L2.St} {α β γ δ : Type}
theorem Out.bindB {gb g : G} {Hb H : Hp} {m : Mem} {x : Py α} {f : α → Py γ} {RA : G → Hp → α → β → Prop} {RB : G → Hp → γ → δ → Prop} {Q : δ → Hp → Prop} {Q1 : β → Hp → Prop} (h : Out L W σ gb Hb ((x >>= f) m) RB Q) (q : Post gb Hb g H)
    (k : ∀ p m1 g1 H1 v, Ok L g1 H1 m1 → Post g H g1 H1 → RA g1 H1 p v → Out L W σ gb Hb (f p m1) RB Q → Q1 v H1) : Out L W σ g H (x m) RA Q1 := by
  have h' : Out L W σ gb Hb (match x m with | .ok a m' => f a m' | .exc e m' => .exc e m' | .stuck => .stuck) RB Q := h
  cases e : x m with
  | ok a m' =>
    rw [e] at h'
    exact fun g' H' v o p r => k a m' g' H' v o p r h'
  | exc ex m' =>
    rw [e] at h'
    exact fun g' H' cls dd o p r => h' g' H' cls dd o (q.trans p) r
  | stuck =>
    rw [e] at h'
    exact h'
abbrev WF : WX := fun _ _ _ _ => False
theorem Out.bindN {gb g : G} {Hb H : Hp} {m : Mem} {x : Py α} {f : α → Py γ} {k2 : γ → Py ε} {RA : G → Hp → α → β → Prop} {RB : G → Hp → ε → δ → Prop} {Q : δ → Hp → Prop} {Q1 : β → Hp → Prop} (h : Out L W σ gb Hb ((noexc (x >>= f) >>= k2) m) RB Q) (q : Post gb Hb g H)
    (k : ∀ p m1 g1 H1 v, Ok L g1 H1 m1 → Post g H g1 H1 → RA g1 H1 p v → Out L W σ gb Hb ((noexc (f p) >>= k2) m1) RB Q → Q1 v H1) : Out L WF σ' g H (x m) RA Q1 := by
  have h' : Out L W σ gb Hb (Py.and (noexc (Py.and x f)) k2 m) RB Q := h
  unfold Py.and noexc at h'
  dsimp only at h'
  cases e : x m with
  | ok a m' =>
    rw [e] at h'
    exact fun g' H' v o p r => k a m' g' H' v o p r h'
  | exc ex m' =>
    rw [e] at h'
    exact h'.elim
  | stuck =>
    rw [e] at h'
    exact h'.elim
end

/-! ### iteration -/
def Pf (stm : Bool) (g1 : G) (H1 : Hp) (g : G) (H : Hp) : Prop := if stm = true then Ext g1 g else Post g1 H1 g H
structure ItOk (L : Lk) (J : L2.It) (P : G → Hp → Prop) (xs : List PV) : Prop where
  go : ∀ i g H m, Ok L g H m → P g H → i < xs.length → J.go i H
  stop : ∀ g H m, Ok L g H m → P g H → J.stop xs.length H
  yld : ∀ i g H m x H', Ok L g H m → P g H → (h : i < xs.length) → J.yld i H x H' → ∃ g', Ok L g' H' m ∧ Post g H g' H' ∧ Rep L g' xs[i] x
def tIt (C : Calls) (L : Lk) (W : WX) (H0 : Hp) (stm : Bool) (it : It) : TI := fun σ H R => ∃ (g : G) (env : Env) (m : Mem), Ok L g H m ∧ EnvOk L g H H0 env σ ∧ Out L W σ g H (evIt C it env m) (fun g' H' xs J => ItOk L J (Pf stm g' H') xs) (fun (J : L2.It) H' => R J H')
section
variable {C : Calls} {L : Lk} {W : WX} {H0 : Hp} {X : Cx} {ck : Ck} {x y z tg : Expr} {a b c : Ex} {pos : Pos} {es : List Expr} {as : List Ex} {stm : Bool}
theorem piImp {e : Expr} {t t' : TI} (h : PI X tg e t) (i : ∀ σ H Q, t' σ H Q → t σ H Q) : PI X tg e t' := ⟨fun pins s σ H Q I q => h.run pins s σ H Q I (i σ H Q q)⟩
theorem pf_vd {k : Nat} (hk : k = if stm = true then 2 else 1) {g1 g : G} {H1 H Hx : Hp} {m1 m : Mem} (k1 : Ok L g1 H1 m1) (k2 : Ok L g H m) {p : PV} {v : V} (r : RK L k Hx g1 H1 p v) (q : Pf stm g1 H1 g H) : Vd L g H p v := by
  subst hk
  unfold Pf at q
  cases stm with
  | true =>
    rw [if_pos rfl] at q r
    exact (Rep.mono q r).vd k2
  | false =>
    rw [if_neg (by simp)] at q r
    exact (Vw.post q k1 r).1
def iSq (K : PySem.W.Frag) (tl : TE) : TI := fun σ H R => tl σ H fun x H1 => ∃ a, x = .ref a ∧ (((∃ xs, SqL K H1 a xs) ∧ R (Itl K a) H1) ∨ ((∃ xs, SqT K H1 a xs) ∧ R (Itt K a) H1))
theorem pi_sq {tl : TE} (hl : PE X x tl) : PI X tg x (iSq X.K tl) := by
  refine ⟨fun pins s σ H R I h => ?_⟩
  refine thn (hl.run pins s σ H _ I h) fun v s1 ⟨x, H1, I1, r1, q1⟩ => ?_
  obtain ⟨a, rfl, q1⟩ := q1
  cases r1
  have fp : ∀ b ∈ [s1.heap.objs.size], FpOk X pins H1 b := fun b hb => by
    obtain rfl : b = s1.heap.objs.size := List.mem_singleton.mp hb
    exact I1.fpOk (Nat.le_refl _) (I1.hok.fresh (Nat.le_refl _))
  rcases q1 with ⟨⟨xs, hq⟩, q⟩ | ⟨⟨xs, hq⟩, q⟩
  · obtain ⟨its, rv, p, hz⟩ := I1.list hq
    exact wpAny_pyIter_list p.isList ⟨_, _, _, _, H1, rfl, I1.kept (t' := s1.toks) fun b o e => Heap.get?_push_of_some _ e, turn_list a _, ⟨_, Heap.get?_push_size _ rfl, rfl, rfl⟩, fp, q⟩
  · obtain ⟨its, rv, p, hz⟩ := I1.tuple hq
    exact wpAny_pyIter_tuple (show s1.heap.IsTuple a its.toArray from p) ⟨_, _, _, _, H1, rfl, I1.kept (t' := s1.toks) fun b o e => Heap.get?_push_of_some _ e, turn_tuple a _, ⟨_, Heap.get?_push_size _ rfl, rfl, rfl⟩, fp, q⟩
theorem itl_ok {K : PySem.W.Frag} {l : Addr} {ps : List PV} {P : G → Hp → Prop} (h : ∀ g H m, Ok L g H m → P g H → ∃ vs, SqL K H l vs ∧ RepL L g ps vs) : ItOk L (Itl K l) P ps where
  go := fun i g H m k q hi => by
    obtain ⟨vs, h1, h2⟩ := h g H m k q
    exact ⟨vs, vs[i]'(by rw [← h2.length]; exact hi), h1, List.getElem?_eq_getElem _⟩
  stop := fun g H m k q => by
    obtain ⟨vs, h1, h2⟩ := h g H m k q
    exact ⟨vs, h1, by rw [h2.length]; exact Nat.le_refl _⟩
  yld := fun i g H m x H' k q hi y => by
    obtain ⟨vs, h1, h2⟩ := h g H m k q
    obtain ⟨rfl, y⟩ := y
    obtain ⟨v, e1, e2⟩ := h2.at (List.getElem?_eq_getElem hi)
    have e := y vs h1
    rw [e1] at e
    cases e
    exact ⟨g, k, .rfl', e2⟩
theorem itt_ok {K : PySem.W.Frag} {l : Addr} {ps : List PV} {P : G → Hp → Prop} (h : ∀ g H m, Ok L g H m → P g H → ∃ vs, SqT K H l vs ∧ RepL L g ps vs) : ItOk L (Itt K l) P ps where
  go := fun i g H m k q hi => by
    obtain ⟨vs, h1, h2⟩ := h g H m k q
    exact ⟨vs, vs[i]'(by rw [← h2.length]; exact hi), h1, List.getElem?_eq_getElem _⟩
  stop := fun g H m k q => by
    obtain ⟨vs, h1, h2⟩ := h g H m k q
    exact ⟨vs, h1, by rw [h2.length]; exact Nat.le_refl _⟩
  yld := fun i g H m x H' k q hi y => by
    obtain ⟨vs, h1, h2⟩ := h g H m k q
    obtain ⟨rfl, y⟩ := y
    obtain ⟨v, e1, e2⟩ := h2.at (List.getElem?_eq_getElem hi)
    have e := y vs h1
    rw [e1] at e
    cases e
    exact ⟨g, k, .rfl', e2⟩
theorem vdTup {g : G} {H : Hp} {ps : List PV} {v : V} {m : Mem} (k : Ok L g H m) (r : Vd L g H (.tup ps) v) : ∃ l vs, v = .ref l ∧ H l = some (.tup vs) ∧ RepL L g ps vs := by
  have r' : Rep L g (.tup ps) v := r
  unfold Rep at r'
  obtain ⟨l, vs, e, h1, h2⟩ := r'
  exact ⟨l, vs, e, k.sub _ _ h1, h2⟩
theorem pf_self {g : G} {H : Hp} : Pf stm g H g H := by
  unfold Pf
  cases stm with
  | true => rw [if_pos rfl]; exact .rfl'
  | false => rw [if_neg (by simp)]; exact .rfl'
theorem ri_seq {k : Nat} (hk : k = if stm = true then 2 else 1) (ha : PE X x (tK C L W H0 k a)) : PI X tg x (tIt C L W H0 stm (.seq a)) :=
  piImp (pi_sq ha) fun σ H Q ⟨g, env, m, ok, eo, out⟩ => ⟨g, env, m, ok, eo, Out.bind out fun p m1 g1 H1 v k1 q1 r1 o1 => by
    have all : ∀ g' H' m', Ok L g' H' m' → Pf stm g1 H1 g' H' → Vd L g' H' p v := fun g' H' m' k' q' => pf_vd hk k1 k' r1 q'
    have now := all g1 H1 m1 k1 pf_self
    cases p with
    | lst ps =>
      obtain ⟨l, vs, rfl, h1, h2⟩ := now
      exact ⟨l, rfl, .inl ⟨⟨vs, LL.sq h1⟩, o1 g1 H1 _ k1 .rfl' (itl_ok fun g' H' m' k' q' => by
        obtain ⟨l', vs', e, h1', h2'⟩ := all g' H' m' k' q'
        cases e
        exact ⟨vs', LL.sq h1', h2'⟩)⟩⟩
    | tup ps =>
      obtain ⟨l, vs, rfl, h1, h2⟩ := vdTup k1 now
      exact ⟨l, rfl, .inr ⟨⟨vs, SqT.of h1⟩, o1 g1 H1 _ k1 .rfl' (itt_ok fun g' H' m' k' q' => by
        obtain ⟨l', vs', e, h1', h2'⟩ := vdTup k' (all g' H' m' k' q')
        cases e
        exact ⟨vs', SqT.of h1', h2'⟩)⟩⟩
    | _ => exact (o1 : False).elim⟩
theorem itr_ok {P : G → Hp → Prop} (lo : Int) (n : Nat) : ItOk L (Itr lo n) P ((List.range n).map fun i => .int (lo + (i : Nat))) where
  go := fun i g H m k q hi => by
    show i < n
    rw [List.length_map, List.length_range] at hi
    exact hi
  stop := fun g H m k q => by
    show n ≤ _
    rw [List.length_map, List.length_range]
    exact Nat.le_refl _
  yld := fun i g H m x H' k q hi y => by
    obtain ⟨rfl, rfl⟩ := y
    refine ⟨g, k, .rfl', ?_⟩
    rw [List.getElem_map, List.getElem_range]
    rfl
theorem ri_rng1 {p : Pos} (ok : XOk L C ck W X) (hg : Gl X "range") (hs : notStar x = true) (ha : PE X x (tK C L W H0 0 a)) : PI X tg (.Call (.Name "range" p) [x] [] pos) (tIt C L W H0 stm (.rng1 a)) :=
  piImp (pi_range1 hg (ok.blt _ (by decide +kernel)) (pa_cons ha pa_nil (starEach_cons hs)) (starEach_cons hs)) fun σ H Q ⟨g, env, m, ok, eo, out⟩ => ⟨g, env, m, ok, eo, Out.bind out fun p m1 g1 H1 v k1 q1 r1 o1 => by
    cases p with
    | int j =>
      obtain rfl : v = V.int j := r1
      obtain ⟨hz, o2⟩ := Out.need o1
      have z := Bool.and_eq_true_iff.mp hz
      have z3 := of_decide_eq_true z.2
      have z2 := of_decide_eq_true (Bool.and_eq_true_iff.mp z.1).2
      refine ⟨j, rfl, by omega, by omega, o2 g1 H1 _ k1 .rfl' ?_⟩
      rw [Int.sub_zero]
      exact itr_ok 0 j.toNat
    | _ => exact (o1 : False).elim⟩
theorem ri_rng2 {p : Pos} (ok : XOk L C ck W X) (hg : Gl X "range") (hs : notStar x = true) (hs2 : notStar y = true) (ha : PE X x (tK C L W H0 1 a)) (hb : PE X y (tK C L W H0 0 b)) : PI X tg (.Call (.Name "range" p) [x, y] [] pos) (tIt C L W H0 stm (.rng2 a b)) :=
  piImp (pi_range2 hg (ok.blt _ (by decide +kernel)) (pa_cons ha (pa_cons hb pa_nil (starEach_cons hs2)) (starEach_cons hs)) (by rw [starEach_cons hs, starEach_cons hs2]; rfl) (starEach_cons hs2)) fun σ H Q ⟨g, env, m, ok, eo, out⟩ => ⟨g, env, m, ok, eo, Out.bind out fun p m1 g1 H1 v k1 q1 r1 o1 =>
    ⟨g1, env, m1, k1, eo.post q1, Out.bind o1 fun p2 m2 g2 H2 v2 k2 q2 r2 o2 => by
      cases p with
      | int i =>
        cases p2 with
        | int j =>
          obtain rfl : v = V.int i := r1.1
          obtain rfl : v2 = V.int j := r2
          obtain ⟨hz, o3⟩ := Out.need o2
          have z := Bool.and_eq_true_iff.mp hz
          have z2 := Bool.and_eq_true_iff.mp z.1
          have z3 := Bool.and_eq_true_iff.mp z2.1
          have y1 := of_decide_eq_true z.2
          have y2 := of_decide_eq_true z2.2
          have y3 := of_decide_eq_true z3.2
          have y4 := of_decide_eq_true z3.1
          exact ⟨i, j, rfl, ⟨by omega, by omega, by omega, by omega⟩, o3 g2 H2 _ k2 .rfl' (itr_ok i _)⟩
        | _ => exact (o2 : False).elim
      | _ => exact (o2 : False).elim⟩⟩

/-! ### comprehensions -/
def tTc (C : Calls) (L : Lk) (H0 : Hp) (c : Option Ex) : TT := fun σ H Q => ∃ (g : G) (env : Env) (m : Mem), Ok L g H m ∧ EnvOk L g H H0 env σ ∧ Out L WF σ g H (evC C c env m) (fun _ _ b k => k = b) Q
theorem ptsImp {e : List Expr} {t t' : TT} (h : PTs X e t) (i : ∀ σ H Q, t' σ H Q → t σ H Q) : PTs X e t' := ⟨fun pins s σ H Q I q => h.run pins s σ H Q I (i σ H Q q)⟩
theorem rt_none : PTs X [] (tTc C L H0 none) := ptsImp pts_nil fun σ H Q ⟨g, env, m, ok, eo, o⟩ => Out.ret (a := true) o ok .rfl' rfl
theorem rt_some (h : PT X x (tT C L WF H0 a)) : PTs X [x] (tTc C L H0 (some a)) := ptsImp (pts_one h) fun σ H Q ⟨g, env, m, ok, eo, o⟩ => ⟨g, env, m, ok, eo, o⟩
def notSet : Expr → Bool
  | .Set .. => false
  | _ => true
theorem notSet_eq {e : Expr} (h : notSet e = true) {env : PySem.Env} : ∀ x, foldedSetIterable e env x = pure x := fun v => by
  cases e <;> first | rfl | cases h
theorem ru_comp {elt iter : Expr} {ifs : List Expr} {scope : Scope} {own : List (PySem.Str × Nat)} {t : Tg} {it : It} {co : Option Ex} {e : Ex} (hc : X.calm = true) (hN : X.N.Nodup) (hi : PI X tg iter (tIt C L W H0 false it)) (blk : BlkOk X.N X.env.scope scope own)
    (hg : ∀ (s : Shared) (H : Hp) (C' : Addr) (cl : List (PySem.Str × Addr)) (fp : List Addr), PG (X.blk s H scope (compEnvC scope cl C' X.env) fp) tg (gT L H0 t)) (hsub : ∀ i ∈ tgV t, i ∈ own.map (·.2))
    (ht : ∀ (s : Shared) (H : Hp) (C' : Addr) (cl : List (PySem.Str × Addr)) (fp : List Addr), PTs (X.blk s H scope (compEnvC scope cl C' X.env) fp) ifs (tTc C L H0 co))
    (he : ∀ (s : Shared) (H : Hp) (C' : Addr) (cl : List (PySem.Str × Addr)) (fp : List Addr), PE (X.blk s H scope (compEnvC scope cl C' X.env) fp) elt (tK C L WF H0 2 e)) (hs : notSet iter = true) :
    (∀ σ H Q, tK C L W H0 3 (.comp (own.map (·.2)) t it co e) σ H Q → tLc (tIt C L W H0 false it) (gT L H0 t) (tTc C L H0 co) (tK C L WF H0 2 e) (own.map (·.2)) σ H Q) ∧
    PE X (.ListComp elt [⟨tg, iter, ifs, 0⟩] scope pos) (tK C L W H0 3 (.comp (own.map (·.2)) t it co e)) := by
  have key : ∀ σ H Q, tK C L W H0 3 (.comp (own.map (·.2)) t it co e) σ H Q → tLc (tIt C L W H0 false it) (gT L H0 t) (tTc C L H0 co) (tK C L WF H0 2 e) (own.map (·.2)) σ H Q := by
    intro σ H Q ⟨g, env, m, ok, eo, out⟩
    refine ⟨g, env, m, ok, eo, Out.bind out fun xs m1 g1 H1 J k1 q1 r1 o1 => ?_⟩
    obtain ⟨hz, o1⟩ := Out.need o1
    have hz := fits_le hz
    intro D hD
    have eo1 := eo.post q1
    generalize hF : (fun x => match setTg t x (wipeE env (own.map (·.2))) with
      | some e' => noexc (do
        let b ← evC C co e'
        if b then do let y ← ev C e e'; pure (some y) else pure none)
      | none => stuck : PV → Py (Option PV)) = F at o1
    have hF' : ∀ x, F x = (match setTg t x (wipeE env (own.map (·.2))) with
      | some e' => noexc (do
        let b ← evC C co e'
        if b then do let y ← ev C e e'; pure (some y) else pure none)
      | none => stuck) := fun x => by rw [← hF]
    let St : Nat → Hp → Prop := fun i H' => ∃ (g' : G) (m' : Mem) (ps : List PV) (vs : List V), Ok L g' H' m' ∧ Post g1 H1 g' H' ∧ H' D = some (.lst vs) ∧ RepL L g' ps vs ∧ g'.F D = none ∧ D ∉ g'.al ∧ ps.length ≤ i ∧
      Out L W σ g1 H1 ((compLoop F (xs.drop i) >>= fun l => (pure (.lst (ps ++ l)) : Py PV)) m') (RF L H) Q
    refine ⟨fun i mm H' => mm = xs.length - i ∧ i ≤ xs.length ∧ St i H', ⟨xs.length, by simp, Nat.zero_le _, g1, m1, [], [], k1.new hD, post_new hD, upd_same, .nil, F_new k1 hD, al_new k1 hD, Nat.le_refl _, ?_⟩, ?_⟩
    · show Out L W σ g1 H1 ((compLoop F xs >>= fun l => (pure (.lst l) : Py PV)) m1) (RF L H) Q
      exact o1
    · rintro i mm H' ⟨rfl, hi', g', m', ps, vs, k', q', hd, rp, fd, ad, lp, o'⟩
      rcases Nat.lt_or_ge i xs.length with hlt | hge
      · refine .inr ⟨r1.go i g' H' m' k' q' hlt, St (i + 1), fun H2 s2 => ⟨xs.length - (i + 1), by omega, rfl, hlt, s2⟩, fun x H2 hy => ?_⟩
        obtain ⟨g2, k2, q2, r2⟩ := r1.yld i g' H' m' x H2 k' q' hlt hy
        have hd2 : H2 D = some (.lst vs) := q2.keep _ _ hd ad
        have fd2 : g2.F D = none := by
          cases z : g2.F D with
          | none => rfl
          | some o =>
            rcases q2.newF D o z with w | w
            · rw [fd] at w; cases w
            · rw [hd] at w; cases w
        have ad2 : D ∉ g2.al := fun z => by
          rcases q2.newA D z with w | w
          · exact ad w
          · rw [hd] at w; cases w
        have q12 := q'.trans q2
        have e1 : xs.drop i = xs[i] :: xs.drop (i + 1) := List.drop_eq_getElem_cons hlt
        rw [e1] at o'
        have o2 : Out L W σ g1 H1 ((F xs[i] >>= fun o => compLoop F (xs.drop (i + 1)) >>= fun l => (pure (.lst (ps ++ (match o with | some y => y :: l | none => l))) : Py PV)) m') (RF L H) Q := by
          have e2 : ((compLoop F (xs[i] :: xs.drop (i + 1)) >>= fun l => (pure (.lst (ps ++ l)) : Py PV)) m') = ((F xs[i] >>= fun o => compLoop F (xs.drop (i + 1)) >>= fun l => (pure (.lst (ps ++ (match o with | some y => y :: l | none => l))) : Py PV)) m') := by
            show Py.and (Py.and (F xs[i]) fun o => Py.and (compLoop F (xs.drop (i + 1))) fun l => match o with | some y => Py.ret (y :: l) | none => Py.ret l) (fun l => Py.ret (PV.lst (ps ++ l))) m' = Py.and (F xs[i]) (fun o => Py.and (compLoop F (xs.drop (i + 1))) fun l => Py.ret (PV.lst (ps ++ (match o with | some y => y :: l | none => l)))) m'
            unfold Py.and
            cases F xs[i] m' with
            | ok o m2 =>
              dsimp only
              cases compLoop F (xs.drop (i + 1)) m2 with
              | ok l m3 => cases o <;> rfl
              | _ => rfl
            | _ => rfl
          rw [e2] at o'
          exact o'
        rw [hF'] at o2
        cases est : setTg t xs[i] (wipeE env (own.map (·.2))) with
        | none => rw [est] at o2; exact (o2 : False).elim
        | some env' =>
          rw [est] at o2
          refine ⟨g2, wipeE env (own.map (·.2)), env', xs[i], m', k2, (eo1.post q12).wipe _, r2, est, fun σ2 eo2 oa => ⟨oa.wipe hsub, ?_⟩⟩
          refine ⟨g2, env', m', k2, eo2, Out.bindN o2 q12 fun b m3 g3 H3 bv k3 q3 r3 o3 => ?_⟩
          subst r3
          have hd3 : H3 D = some (.lst vs) := q3.keep _ _ hd2 ad2
          have new3 : ∀ {g4 : G} {H4 : Hp}, Post g2 H2 g4 H4 → H4 D = some (.lst vs) ∧ g4.F D = none ∧ D ∉ g4.al := by
            intro g4 H4 q
            refine ⟨q.keep _ _ hd2 ad2, ?_, ?_⟩
            · cases z : g4.F D with
              | none => rfl
              | some o =>
                rcases q.newF D o z with w | w
                · rw [fd2] at w; cases w
                · rw [hd2] at w; cases w
            · intro z
              rcases q.newA D z with w | w
              · exact ad2 w
              · rw [hd2] at w; cases w
          cases bv with
          | false =>
            rw [if_neg (by simp)]
            obtain ⟨d1, d2, d3⟩ := new3 q3
            exact ⟨g3, m3, ps, vs, k3, q12.trans q3, d1, rp.mono (q2.ext.trans q3.ext), d2, d3, Nat.le_succ_of_le lp, o3⟩
          | true =>
            rw [if_pos rfl]
            refine ⟨g3, env', m3, k3, eo2.post q3, Out.bindN o3 (q12.trans q3) fun p m4 g4 H4 v k4 q4 r4 o4 => ?_⟩
            obtain ⟨d1, d2, d3⟩ := new3 (q3.trans q4)
            have ee := q2.ext.trans (q3.trans q4).ext
            refine ⟨vs, d1, ?_, g4, m4, ps ++ [p], vs ++ [v], k4.own d2 d3, (q12.trans (q3.trans q4)).own hD, upd_same, (rp.mono ee).append (.cons r4 .nil), d2, d3, ?_, ?_⟩
            · rw [← rp.length, show sizeLine = 16777216 from rfl]; omega
            · rw [List.length_append]; simp; exact lp
            · have o5 : Out L W σ g1 H1 ((compLoop F (xs.drop (i + 1)) >>= fun l => (pure (.lst (ps ++ p :: l)) : Py PV)) m4) (RF L H) Q := o4
              have e3 : ∀ l, ps ++ [p] ++ l = ps ++ p :: l := fun l => by simp
              simp only [e3]
              exact o5
      · obtain rfl : i = xs.length := Nat.le_antisymm hi' hge
        refine .inl ⟨r1.stop g' H' m' k' q', ?_⟩
        rw [List.drop_length] at o'
        have o2 : Out L W σ g1 H1 (.ok (.lst (ps ++ [])) m' : R PV) (RF L H) Q := o'
        rw [List.append_nil] at o2
        exact o2 g' H' (.ref D) k' q' ⟨D, vs, rfl, hd, rp, fd, ad, q1.there _ hD⟩
  exact ⟨key, peImp (pe_lc hc hN hi blk hg ht he (notSet_eq hs)) key⟩
end
end Nl
end
section
set_option Elab.async false
set_option linter.all false
set_option maxRecDepth 100000
set_option maxHeartbeats 1000000
/-! Nl, 11b: enumerate and zip over lists and tuples. -/
namespace Nl
open PySem PySem.Spec PyProof.Rows L2

/-! ### a list or a tuple (kd) as a source of turns -/
def SqK (kd : Bool) (K : PySem.W.Frag) (H : Hp) (a : Addr) (xs : List V) : Prop := if kd = true then SqL K H a xs else SqT K H a xs
def ItrK (kd : Bool) (h : Heap) (it a : Addr) (i : Nat) : Prop := if kd = true then h.IsListIter it a i else h.IsTupleIter it a i
def SeK (kd : Bool) (h : Heap) (a : Addr) (its : Array Value) : Prop := if kd = true then h.IsList a its else h.IsTuple a its
def obK (kd : Bool) (a : Addr) : Obj := if kd = true then { cls := .type "list_iterator", data := .fields #[.ref a, .int 0 0] } else { cls := .type "tuple_iterator", data := .fields #[.ref a, .int 0 0] }
theorem obK_free (kd : Bool) (a : Addr) : (obK kd a).isFreed = false := by cases kd <;> rfl
theorem drawsK {prog : Program} {w : World} {A : Around} (hh : A.handled = none) (kd : Bool) (it a : Addr) (hne : a ≠ it) (items : Array Value) :
    Draws prog w A it [it, a] items.size (fun i v => items[i]? = some v) (fun i h => ItrK kd h it a i ∧ SeK kd h a items) := by
  cases kd with
  | true => exact Draws.list hh it a hne items
  | false => exact Draws.tuple hh it a hne items
theorem beginsK (kd : Bool) (a : Addr) (items : Array Value) : Begins (.ref a) (obK kd a) fun h => SeK kd h a items := by
  cases kd with
  | true => exact begins_list a items
  | false => exact begins_tuple a items
theorem itrK_new (kd : Bool) {h : Heap} {it a : Addr} (e : h.get? it = some (obK kd a)) : ItrK kd h it a 0 := by
  cases kd with
  | true => exact ⟨_, e, rfl, rfl⟩
  | false => exact ⟨_, e, rfl, rfl⟩
theorem itrK_obj {kd : Bool} {h : Heap} {it a : Addr} {i : Nat} (e : ItrK kd h it a i) : ∃ o, h.get? it = some o ∧ ∀ v, o.data ≠ .cell v := by
  cases kd with
  | true =>
    obtain ⟨o, h1, _, h2⟩ := (show h.IsListIter it a i from e)
    exact ⟨o, h1, fun v q => by rw [h2] at q; cases q⟩
  | false =>
    obtain ⟨o, h1, _, h2⟩ := (show h.IsTupleIter it a i from e)
    exact ⟨o, h1, fun v q => by rw [h2] at q; cases q⟩
theorem itrK_at {kd : Bool} {h h' : Heap} {it a : Addr} {i : Nat} (e : ItrK kd h it a i) (k : ∀ o, h.get? it = some o → h'.get? it = some o) : ItrK kd h' it a i := by
  cases kd with
  | true => exact (show h.IsListIter it a i from e).at k
  | false =>
    obtain ⟨o, h1, h2⟩ := (show h.IsTupleIter it a i from e)
    exact ⟨o, k o h1, h2⟩
/-- the source's object -/
theorem seK_of {X : Cx} {pins : List (Addr × Obj)} {σ : L2.St} {H : Hp} {s : Shared} {kd : Bool} {a : Addr} {xs : List V} (I : Inv X pins σ H s) (h : SqK kd X.K H a xs) : ∃ its : List Value, Vals xs its ∧ SeK kd s.heap a its.toArray ∧ ∃ o c, s.heap.get? a = some o ∧ o.cls = .type c ∧ (c = "list" ∨ c = "tuple") := by
  cases kd with
  | true =>
    obtain ⟨its, r, p, _⟩ := I.list (show SqL X.K H a xs from h)
    have q := p.isList
    obtain ⟨o, h1, h2, _⟩ := id q
    exact ⟨its, r, q, o, "list", h1, h2, .inl rfl⟩
  | false =>
    obtain ⟨its, r, p, _⟩ := I.tuple (show SqT X.K H a xs from h)
    obtain ⟨o, h1, h2, _⟩ := id p
    exact ⟨its, r, p, o, "tuple", h1, h2, .inr rfl⟩
theorem sqK_inj {X : Cx} {pins : List (Addr × Obj)} {σ : L2.St} {H : Hp} {s : Shared} {kd : Bool} {a : Addr} {xs ys : List V} (I : Inv X pins σ H s) (h : SqK kd X.K H a xs) (h' : SqK kd X.K H a ys) : xs = ys := by
  cases kd with
  | true => exact I.list_inj h h'
  | false => exact I.tuple_inj h h'

theorem cls_no {c c' : String} {o : Obj} (hc : o.cls = .type c) (hcc : c = "list" ∨ c = "tuple") (h : o.cls = .type c') (h1 : c' ≠ "list") (h2 : c' ≠ "tuple") : False := by
  rw [hc] at h
  injection h with h
  subst h
  exact hcc.elim h1 h2
theorem src_ne {kd : Bool} {h : Heap} {it a : Addr} {i : Nat} {o : Obj} {c : String} (ha : h.get? a = some o) (hc : o.cls = .type c) (hcc : c = "list" ∨ c = "tuple") (hit : ItrK kd h it a i) : a ≠ it := by
  rintro rfl
  cases kd with
  | true =>
    obtain ⟨o', w1, w2, _⟩ := (show h.IsListIter a a i from hit)
    rw [ha] at w1; cases w1
    exact cls_no hc hcc w2 (by decide) (by decide)
  | false =>
    obtain ⟨o', w1, w2, _⟩ := (show h.IsTupleIter a a i from hit)
    rw [ha] at w1; cases w1
    exact cls_no hc hcc w2 (by decide) (by decide)

/-! ### enumerate -/
def IeK (kd : Bool) (K : PySem.W.Frag) (a : Addr) : L2.It :=
  ⟨fun i H => ∃ (xs : List V) (x : V), SqK kd K H a xs ∧ xs[i]? = some x, fun i H v H' => ∃ d x, v = .ref d ∧ H d = none ∧ H' = upd H d (.tup [.int (i : Nat), x]) ∧ ∀ xs, SqK kd K H a xs → xs[i]? = some x, fun i H => ∃ xs : List V, SqK kd K H a xs ∧ xs.length = i⟩
theorem turn_eK {P : Program} {w : World} {K : PySem.W.Frag} {elts : List Expr} {kk : Nat} {tpos : Pos} (kd : Bool) (a e it : Addr) :
    Turn P w K (.Tuple elts kk tpos) (IeK kd K a) [e, it] e (fun i h => (∃ old, IsEnum h e it ((i : Nat) : Int) old) ∧ ItrK kd h it a i ∧ e ≠ it) := by
  refine ⟨by simp, ?_, ?_, ?_, ?_, fun A i s Q E st h => let ⟨⟨_, he⟩, _⟩ := st; wpAny_pyIter_enum he h⟩
  · intro i h ⟨⟨old, he⟩, hit, _⟩ b hb
    rcases List.mem_cons.mp hb with z | z
    · rw [z]; exact ⟨_, he, fun v q => nomatch q⟩
    · rw [List.mem_singleton.mp z]
      exact itrK_obj hit
  · intro i h h' ⟨⟨old, he⟩, hit, hne⟩ k
    exact ⟨⟨old, k e (by simp) _ he⟩, itrK_at hit fun o q => k it (by simp) o q, hne⟩
  · intro X hP hw hK hc i pins s σ H E I hf st hg
    subst hP hw hK
    obtain ⟨⟨old, he⟩, hit, hne⟩ := st
    obtain ⟨xs, x, hq, hx⟩ := hg
    obtain ⟨its, rv, sk, oa, ca, ha, hca, hcc⟩ := seK_of I hq
    obtain ⟨u, hu, ru⟩ := rv.get hx
    have hel := Heap.lt_size he
    obtain ⟨oi, hoi, _⟩ := itrK_obj hit
    have hil := Heap.lt_size hoi
    have nai := src_ne ha hca hcc hit
    have nae : e ≠ a := by
      rintro rfl
      have he' : s.heap.get? e = some _ := he
      rw [ha] at he'
      exact cls_no hca hcc (congrArg Obj.cls (Option.some.inj he')) (by decide) (by decide)
    have hlt : i < its.toArray.size := by
      have := (List.getElem?_eq_some_iff.mp hu).1
      simpa using this
    refine wpAny_pyNext_enum_itemD (drawsK (A := X.A.in1) (I.ok.hd hc) kd it a nai its.toArray) he ⟨hit, sk⟩ hlt hne (by simp; exact ⟨hne, nae⟩) fun y h' tk hy ho st' hT hsz hk => ?_
    have ey : y = u := by
      have hy' : its[i]? = some y := by simpa using hy
      rw [hu] at hy'
      exact (Option.some.inj hy').symm
    subst ey
    refine ⟨_, rfl, wpAny_letOwnedTupleGo_enum (s := { s with heap := h', toks := tk + 1 }) ho fun h'' he' sb => ?_⟩
    have hT2 : h''.get? s.heap.objs.size = some { cls := .type "tuple", data := .seq #[.int i tk, y] } := (sb.2 _ (Nat.ne_of_gt hel)).trans hT
    have new : ObjOk X.prog X.w (upd H s.heap.objs.size (.tup [.int (i : Nat), x])) h'' s.heap.objs.size (.tup [.int (i : Nat), x]) :=
      ⟨by show 2 ≤ sizeLine; decide, [.int i tk, y], .cons ⟨_, rfl⟩ (.cons ru .nil), ⟨_, hT2, rfl, _, rfl⟩⟩
    have stay : ∀ b o, b ∉ [e, it] → s.heap.get? b = some o → h''.get? b = some o := fun b ob hb q => by
      have hb1 : b ≠ e := fun z => hb (by simp [z])
      have hb2 : b ≠ it := fun z => hb (by simp [z])
      exact (sb.2 b hb1).trans (hk b ob hb1 hb2 q)
    have I1 := I.turnedNew (t' := tk + 1) stay hf (Nat.le_refl _) new
    refine ⟨.ref s.heap.objs.size, _, I1, rfl, ⟨_, x, rfl, I.hok.fresh (Nat.le_refl _), rfl, fun ys hz => by rw [sqK_inj I hz hq]; exact hx⟩, ⟨⟨y, ?_⟩, itrK_at st'.1 fun o q => (sb.2 it (Ne.symm hne)).trans q, hne⟩, fun b hb => ?_⟩
    · have e1 : ((i + 1 : Nat) : Int) = (i : Int) + 1 := by omega
      rw [e1]; exact he'
    · have hb' : b < s.heap.objs.size := by
        rcases List.mem_cons.mp hb with z | z
        · rw [z]; exact hel
        · rw [List.mem_singleton.mp z]; exact hil
      rw [upd_ne (Nat.ne_of_lt hb')]
      exact (hf b hb).1
  · intro X hP hw hK hc i pins s σ H E I hf st hg
    subst hP hw hK
    obtain ⟨⟨old, he⟩, hit, hne⟩ := st
    obtain ⟨xs, hq, hx⟩ := hg
    obtain ⟨its, rv, sk, oa, ca, ha, hca, hcc⟩ := seK_of I hq
    obtain ⟨f0, f1, f2, f3, f4, f5⟩ := hf it (by simp)
    obtain ⟨oi, hoi, _⟩ := itrK_obj hit
    have nai := src_ne ha hca hcc hit
    have hn : its.toArray.size = i := by
      have hl := rv.length
      simp; omega
    have dr := drawsK (prog := X.prog) (w := X.w) (A := X.A.in1) (I.ok.hd hc) kd it a nai its.toArray
    rw [hn] at dr
    exact wpAny_pyNext_enum_endD dr he ⟨hit, sk⟩ fun h' eb => ⟨rfl, I.turned (t' := s.toks) (fun b o hb q => eb b o hb q) f0 f1 f3 f4 f5⟩
theorem en_new {v : Value} {o : Obj} {B : Heap → Prop} (b : Begins v o B) : Meets (Builtin.«enumerate.__new__» ⟨[.type "enumerate", v], []⟩) (fun _ R s => B s.heap ∧
      R (.ok (.ret (.ref (s.heap.push o).objs.size))) { s with heap := (s.heap.push o).push { cls := .type "enumerate", data := .fields #[.none, .bool false, .ref s.heap.objs.size, rawInt 0, .none, .none] } }) :=
  .of_wp fun prog w A R s h => by
    obtain ⟨hp, gs, dr, tk, os⟩ := s
    obtain ⟨hb, h⟩ := h
    have sub := sub_enumerate
    have go : ∀ {A' : Around} {E : Value → Shared → Prop} {Q : Value → Shared → Prop}, Q (.ref hp.objs.size) ⟨hp.push o, gs, dr, tk, os⟩ → wpAny (model prog w) A' (pyIter v) Q E ⟨hp, gs, dr, tk, os⟩ :=
      fun q => b.iter prog w _ _ ⟨hp, gs, dr, tk, os⟩ _ hb q
    wp_walk using go
    refine wpAny_stack_any fun st => wpAny_pure ?_
    split
    · rename_i c _ _ _ _ _
      cases (c == Value.type "enumerate") <;> (wp_walk using go; exact ⟨_, rfl, h⟩)
    · wp_walk using go
      exact ⟨_, rfl, h⟩
theorem en_begins {prog : Program} {w : World} {A : Around} {E : Value → Shared → Prop} {s : Shared} {v : Value} {o : Obj} {B : Heap → Prop} {Q : Value → Shared → Prop} (b : Begins v o B) (hb : B s.heap)
    (h : ∀ h', IsEnum h' (s.heap.objs.size + 1) s.heap.objs.size 0 .none → h'.get? s.heap.objs.size = some o → (∀ b o, s.heap.get? b = some o → h'.get? b = some o) → Q (.ref (s.heap.objs.size + 1)) { s with heap := h' }) :
    wpAny (model prog w) A (call (.type "enumerate") [v]) Q E s := by
  refine callType_new F.called_enumerate (by decide) (F.typeCall_enumerate_1 _) (F.newCall_enumerate_1 _) (fun obj => F.args_object_init_2 obj _) F.entry_enumerate_new (en_new b) ⟨hb, ?_⟩
  have sz : (s.heap.push o).objs.size = s.heap.objs.size + 1 := Heap.size_push ..
  show _ ∧ _
  rw [sz]
  have made : IsEnum ((s.heap.push o).push { cls := .type "enumerate", data := .fields #[.none, .bool false, .ref s.heap.objs.size, rawInt 0, .none, .none] }) (s.heap.objs.size + 1) s.heap.objs.size 0 .none := by
    have := Heap.get?_push_size (s.heap.push o) (o := { cls := .type "enumerate", data := .fields #[.none, .bool false, .ref s.heap.objs.size, rawInt 0, .none, .none] }) rfl
    rw [sz] at this
    exact this
  exact ⟨⟨_, made, rfl⟩, h _ made (Heap.get?_push_of_some _ (Heap.get?_push_size _ b.free)) fun b o x => Heap.get?_push_of_some _ (Heap.get?_push_of_some _ x)⟩
section
variable {C : Calls} {L : Lk} {W : WX} {H0 : Hp} {X : Cx} {ck : Ck} {x y z tg : Expr} {a b c : Ex} {pos : Pos} {es : List Expr} {as : List Ex} {stm : Bool}
def iEK (K : PySem.W.Frag) (ta : TA) : TI := fun σ H R => ta σ H fun vs H1 => ∃ d xs kd, vs = [.ref d] ∧ SqK kd K H1 d xs ∧ R (IeK kd K d) H1
theorem pi_eK {ta : TA} {p pos tpos : Pos} {elts : List Expr} {kk : Nat} (hg : Gl X "enumerate") (hm : X.mg "enumerate" = none) (hs : notStar x = true) (ha : PA X [x] ta) : PI X (.Tuple elts kk tpos) (.Call (.Name "enumerate" p) [x] [] pos) (iEK X.K ta) := by
  refine ⟨fun pins s σ H R I h => ?_⟩
  refine Call_ (ld_blt I hg hm boot_enumerate (PyProof.Rows.callWith_type1 (thn (ha.run pos pins s σ H _ I h) fun us s1 ⟨vs, H1, I1, r1, q1⟩ => ?_) (starEach_cons hs) rfl))
  obtain ⟨d, xs, kd, rfl, hq, q⟩ := q1
  obtain ⟨u, rfl, ru⟩ := vals1 r1
  cases ru
  obtain ⟨its, rv, sk, _⟩ := seK_of I1 hq
  refine en_begins (beginsK kd d its.toArray) sk fun h' he hit hk => wpAny_pyIter_enum he ?_
  refine ⟨s1.heap.objs.size + 1, [s1.heap.objs.size + 1, s1.heap.objs.size], _, _, H1, rfl, I1.kept (t' := s1.toks) hk, turn_eK kd d (s1.heap.objs.size + 1) s1.heap.objs.size, ⟨⟨.none, he⟩, itrK_new kd hit, Nat.succ_ne_self _⟩, fun b hb => ?_, q⟩
  have hle : s1.heap.objs.size ≤ b := by
    rcases List.mem_cons.mp hb with z | z
    · rw [z]; exact Nat.le_add_right _ _
    · rw [List.mem_singleton.mp z]; exact Nat.le_refl _
  exact I1.fpOk hle (I1.hok.fresh hle)
theorem vd_sqK {g : G} {H : Hp} {m : Mem} {K : PySem.W.Frag} {p : PV} {v : V} {ps : List PV} (k : Ok L g H m) (r : Vd L g H p v) (e : itemsP p = some ps) : ∃ d vs, v = .ref d ∧ SqK (match p with | .lst _ => true | _ => false) K H d vs ∧ RepL L g ps vs := by
  cases p with
  | lst xs =>
    cases e
    obtain ⟨d, vs, rfl, h1, h2⟩ := r
    exact ⟨d, vs, rfl, LL.sq h1, h2⟩
  | tup xs =>
    cases e
    obtain ⟨d, vs, rfl, h1, h2⟩ := vdTup k r
    exact ⟨d, vs, rfl, SqT.of h1, h2⟩
  | _ => cases e
theorem pair_new {g : G} {H : Hp} {m : Mem} {d : Addr} {ps : List PV} {vs : List V} (k : Ok L g H m) (hd : H d = none) (r : RepL L g ps vs) : ∃ g', Ok L g' (upd H d (.tup vs)) m ∧ Post g H g' (upd H d (.tup vs)) ∧ Rep L g' (.tup ps) (.ref d) := by
  have f := F_new k hd
  refine ⟨g.add d (.tup vs), (k.new hd).add f (al_new k hd) upd_same, post_add f (post_new hd) hd, ?_⟩
  unfold Rep
  exact ⟨d, vs, rfl, if_pos rfl, r.mono (ext_add f)⟩
theorem ri_enum {p tpos : Pos} {elts : List Expr} {kk k : Nat} (ok : XOk L C ck W X) (hk : k = if stm = true then 2 else 1) (hg : Gl X "enumerate") (hs : notStar x = true) (ha : PE X x (tK C L W H0 k a)) : PI X (.Tuple elts kk tpos) (.Call (.Name "enumerate" p) [x] [] pos) (tIt C L W H0 stm (.enum a)) :=
  piImp (pi_eK hg (ok.blt _ (by decide +kernel)) hs (pa_cons ha pa_nil (starEach_cons hs))) fun σ H Q ⟨g, env, m, ok, eo, out⟩ => ⟨g, env, m, ok, eo, Out.bind out fun p m1 g1 H1 v k1 q1 r1 o1 => by
    have all : ∀ g' H' m', Ok L g' H' m' → Pf stm g1 H1 g' H' → Vd L g' H' p v := fun g' H' m' k' q' => pf_vd hk k1 k' r1 q'
    have o2 : Out L W σ g1 H1 ((ofO (itemsP p) >>= fun xs => (pure ((List.range xs.length).zipWith (fun i p => .tup [.int (i : Nat), p]) xs) : Py (List PV))) m1) (fun g' H' xs J => ItOk L J (Pf stm g' H') xs) (fun (J : L2.It) H' => Q J H') := o1
    cases e : itemsP p with
    | none => rw [e] at o2; exact (o2 : False).elim
    | some ps =>
      rw [e] at o2
      obtain ⟨d, vs, rfl, h1, h2⟩ := vd_sqK (K := X.K) k1 (all g1 H1 m1 k1 pf_self) e
      have now : ∀ g' H' m', Ok L g' H' m' → Pf stm g1 H1 g' H' → ∃ vs', SqK (match p with | .lst _ => true | _ => false) X.K H' d vs' ∧ RepL L g' ps vs' := fun g' H' m' k' q' => by
        obtain ⟨d', vs', e', w1, w2⟩ := vd_sqK (K := X.K) k' (all g' H' m' k' q') e
        cases e'
        exact ⟨vs', w1, w2⟩
      refine ⟨d, vs, _, rfl, h1, o2 g1 H1 _ k1 .rfl' ⟨fun i g' H' m' k' q' hi => ?_, fun g' H' m' k' q' => ?_, fun i g' H' m' x' H2 k' q' hi y => ?_⟩⟩
      · obtain ⟨vs', w1, w2⟩ := now g' H' m' k' q'
        have hl : i < vs'.length := by rw [← w2.length]; simpa using hi
        exact ⟨vs', vs'[i], w1, List.getElem?_eq_getElem hl⟩
      · obtain ⟨vs', w1, w2⟩ := now g' H' m' k' q'
        exact ⟨vs', w1, by rw [← w2.length]; simp⟩
      · obtain ⟨vs', w1, w2⟩ := now g' H' m' k' q'
        obtain ⟨d', x2, rfl, hd', rfl, hx⟩ := y
        have hi' : i < ps.length := by simpa using hi
        obtain ⟨v2, e1, e2⟩ := w2.at (List.getElem?_eq_getElem hi')
        have e3 := hx vs' w1
        rw [e1] at e3
        cases e3
        have pr := pair_new (ps := [.int (i : Nat), ps[i]]) (vs := [.int (i : Nat), x2]) k' hd' (.cons rfl (.cons e2 .nil))
        obtain ⟨g2, a1, a2, a3⟩ := pr
        refine ⟨g2, a1, a2, ?_⟩
        rw [List.getElem_zipWith, List.getElem_range]
        exact a3⟩
end
end Nl
end
section
set_option Elab.async false
set_option linter.all false
set_option maxRecDepth 100000
set_option maxHeartbeats 1000000
/-! Nl, 12: isinstance, new objects of the memory. -/
namespace Nl
open PySem PySem.Spec PyProof.Rows L2
def tyNames : List String := ["int", "bool", "str", "list", "tuple", "dict"]
theorem ty_boot : ∀ t ∈ tyNames, bootBuiltins (Str.ofString t) = some (.type t) ∧ Str.ofString t ∈ bltNames ∧ nameOk (Str.ofString t) = true := by decide +kernel
theorem ty_kit {K : PySem.W.Frag} : ∀ s ∈ ["NoneType", "bool", "int", "str", "tuple", "list", "dict"], ∀ t ∈ tyNames, PySem.W.kitOne K (.type s) (.type t) = some (s == t || (t == "int" && s == "bool")) := by
  intro s hs t ht
  unfold tyNames at ht
  simp only [List.mem_cons, List.not_mem_nil, or_false] at hs ht
  rcases hs with rfl | rfl | rfl | rfl | rfl | rfl | rfl <;> rcases ht with rfl | rfl | rfl | rfl | rfl | rfl <;> rfl
theorem tyOf_mem {p : PV} (h : (tyOf p != "?") = true) : tyOf p ∈ ["NoneType", "bool", "int", "str", "tuple", "list", "dict"] := by
  cases p <;> first | (show _ ∈ _; simp [tyOf]; done) | (exact absurd h (by simp [tyOf]))
theorem isTy_kit {K : PySem.W.Frag} {p : PV} {t : String} (h : (tyOf p != "?") = true) (ht : t ∈ tyNames) : PySem.W.kitOne K (.type (tyOf p)) (.type t) = some (isTy p t) := ty_kit _ (tyOf_mem h) t ht
theorem isTys_kit {K : PySem.W.Frag} {p : PV} (h : (tyOf p != "?") = true) : ∀ {ts : List String}, (∀ t ∈ ts, t ∈ tyNames) → PySem.W.kitAny K (.type (tyOf p)) (ts.map Value.type) = some (ts.any (isTy p))
  | [], _ => rfl
  | t :: ts, ht => by
    have e := isTy_kit (K := K) h (ht t List.mem_cons_self)
    have ih := isTys_kit (K := K) h (ts := ts) fun u hu => ht u (List.mem_cons_of_mem _ hu)
    rw [List.map_cons, List.any_cons]
    unfold PySem.W.kitAny
    rw [e]
    cases isTy p t with
    | true => rfl
    | false => exact ih
section
variable {C : Calls} {L : Lk} {W : WX} {H0 : Hp} {X : Cx} {ck : Ck} {x y z tg : Expr} {a b c : Ex} {pos : Pos} {es : List Expr} {as : List Ex} {stm : Bool}
theorem rep_ty {g : G} {H : Hp} {m : Mem} {p : PV} {v : V} (k : Ok L g H m) (r : Vd L g H p v) (h : (tyOf p != "?") = true) : TyX X.K H v (.type (tyOf p)) := by
  cases p with
  | non => obtain rfl : v = V.non := r; exact .base .non
  | bl b => obtain rfl : v = V.bl b := r; exact .base (.bl b)
  | int b => obtain rfl : v = V.int b := r; exact .base (.int b)
  | str b => obtain rfl : v = V.str b := r; exact .base (.str b)
  | tup ps =>
    obtain ⟨l, vs, rfl, h1, _⟩ := vdTup k r
    exact .base (.tup h1)
  | lst ps =>
    obtain ⟨l, vs, rfl, h1, _⟩ := r
    rcases h1 with h1 | ⟨o, h1⟩
    · exact .base (.lst h1)
    · exact .base (.frz h1)
  | dic kvs => exact (r : False).elim
  | ref n => exact absurd h (by simp [tyOf])
  | fn n => exact absurd h (by simp [tyOf])
  | cls n => exact absurd h (by simp [tyOf])
  | ty n => exact absurd h (by simp [tyOf])
  | lam n e => exact absurd h (by simp [tyOf])
def isTyE (S : Scope) (t : String) (e : Expr) : Bool := match asName e with
  | some n => decide (n = Str.ofString t) && glB S n && decide (t ∈ tyNames)
  | none => false
theorem isTyE_eq {t : String} (ok : XOk L C ck W X) (h : isTyE X.env.scope t x = true) : PE X x (tC (.ty t)) ∧ notStar x = true ∧ t ∈ tyNames := by
  unfold isTyE at h
  cases q : asName x with
  | none => rw [q] at h; cases h
  | some n =>
    rw [q] at h
    obtain ⟨p, rfl⟩ := asName_eq q
    have z := Bool.and_eq_true_iff.mp h
    have z2 := Bool.and_eq_true_iff.mp z.1
    have m := of_decide_eq_true z.2
    have e := of_decide_eq_true z2.1
    subst e
    obtain ⟨b1, b2, b3⟩ := ty_boot t m
    exact ⟨pe_bltn (glB_eq z2.2) (ok.blt _ b2) b1 rfl (nameOk_eq b3).2.2 (nameOk_eq b3).1, rfl, m⟩
theorem ru_isi {t : String} {p : Pos} (ok : XOk L C ck W X) (hg : Gl X "isinstance") (hs : notStar x = true) (ht : isTyE X.env.scope t y = true) (ha : PE X x (tK C L W H0 1 a)) : PE X (.Call (.Name "isinstance" p) [x, y] [] pos) (tK C L W H0 3 (.isi a [t])) := by
  obtain ⟨hy, ns, tm⟩ := isTyE_eq ok ht
  have hss : ([x, y] : List Expr).all notStar = true := by simp [hs, ns]
  refine peImp (pe_callB call_isi hg (ok.blt _ (by decide +kernel)) (by decide +kernel) (pa_cons ha (pa_cons hy pa_nil (starEach_cons ns)) (starEach_cons hs)) (by decide +kernel) (by decide +kernel) (starEach_cons hs) (starEach_none (by simp [ns])))
    fun σ H Q ⟨g, env, m, ok, eo, o⟩ => ⟨g, env, m, ok, eo, Out.bind o fun p m1 g1 H1 v k1 q1 r1 o1 => ?_⟩
  obtain ⟨h, o2⟩ := Out.need o1
  refine ⟨v, .ty t, _, _, isTy p t, rfl, .ty t, rep_ty k1 r1.1 h, isTy_kit h tm, ?_⟩
  have e : ([t].any (isTy p)) = isTy p t := by simp
  rw [e] at o2
  exact Out.ret (a := PV.bl (isTy p t)) o2 k1 .rfl' rfl
def tTys (ts : List String) : TA := fun _ H Q => Q (ts.map V.ty) H
theorem ra_tys (ok : XOk L C ck W X) : ∀ {ts : List String} {es : List Expr}, ts.length = es.length → (List.zipWith (isTyE X.env.scope) ts es).all id = true → PA X es (tTys ts) ∧ ∀ t ∈ ts, t ∈ tyNames
  | [], [], _, _ => ⟨pa_nil, fun _ h => nomatch h⟩
  | t :: ts, e :: es, l, h => by
    have z := Bool.and_eq_true_iff.mp (show (isTyE X.env.scope t e && (List.zipWith (isTyE X.env.scope) ts es).all id) = true from h)
    obtain ⟨hy, ns, tm⟩ := isTyE_eq ok z.1
    obtain ⟨h1, h2⟩ := ra_tys ok (ts := ts) (es := es) (by simpa using l) z.2
    exact ⟨pa_cons hy h1 (starEach_cons ns), fun u hu => by
      rcases List.mem_cons.mp hu with rfl | hu
      · exact tm
      · exact h2 u hu⟩
  | [], _ :: _, l, _ => by cases l
  | _ :: _, [], l, _ => by cases l
theorem clsV_tys : ∀ ts : List String, Paired ClsV (ts.map V.ty) (ts.map Value.type)
  | [] => .nil
  | t :: ts => .cons (.ty t) (clsV_tys ts)
theorem ru_isiT {ts : List String} {p p2 : Pos} {k : Nat} (ok : XOk L C ck W X) (hg : Gl X "isinstance") (hs : notStar x = true) (hl : ts.length = es.length) (ht : (List.zipWith (isTyE X.env.scope) ts es).all id = true) (hz : ts.length ≤ 100) (ha : PE X x (tK C L W H0 1 a)) :
    PE X (.Call (.Name "isinstance" p) [x, .Tuple es k p2] [] pos) (tK C L W H0 3 (.isi a ts)) := by
  obtain ⟨hy, tm⟩ := ra_tys ok hl ht
  refine peImp (pe_callB call_isiT hg (ok.blt _ (by decide +kernel)) (by decide +kernel) (pa_cons ha (pa_cons (pe_tup hy) pa_nil (starEach_cons rfl)) (starEach_cons hs)) (by decide +kernel) (by decide +kernel) (starEach_cons hs) (starEach_none rfl))
    fun σ H Q ⟨g, env, m, ok, eo, o⟩ => ⟨g, env, m, ok, eo, Out.bind o fun p m1 g1 H1 v k1 q1 r1 o1 => ⟨by rw [List.length_map, show sizeLine = 16777216 from rfl]; omega, fun d hd => ?_⟩⟩
  obtain ⟨h, o2⟩ := Out.need o1
  have ty := rep_ty (X := X) (k1.new (o := .tup (ts.map V.ty)) hd) (Vw.post (post_new hd) k1 r1).1 h
  exact ⟨v, d, ts.map V.ty, _, ts.map Value.type, ts.any (isTy p), rfl, upd_same, clsV_tys ts, ty, isTys_kit h tm, Out.ret (a := PV.bl (ts.any (isTy p))) o2 (k1.new hd) (post_new hd) rfl⟩
theorem Ok.alloc {g : G} {H : Hp} {m : Mem} {l : Addr} {o : MO} (k : Ok L g H m) (hF : g.F l = none) (hA : l ∉ g.al) (h : ObjR L g H l o) : Ok L ⟨g.F, g.al ++ [l]⟩ H (m ++ [o]) := by
  have ex : Ext g ⟨g.F, g.al ++ [l]⟩ := ⟨fun _ _ h => h, [l], rfl⟩
  refine ⟨k.sub, by show (g.al ++ [l]).length = _; rw [List.length_append, List.length_append, k.len]; rfl, ?_, fun n d u h1 h2 => ?_⟩
  · show (g.al ++ [l]).Nodup
    rw [List.nodup_append]
    exact ⟨k.nd, by simp, fun x hx y hy => by
      have : y = l := by simpa using hy
      rw [this]
      exact fun z => hA (z ▸ hx)⟩
  · have h1' : (g.al ++ [l])[n]? = some d := h1
    rcases Nat.lt_or_ge n g.al.length with q | q
    · rw [List.getElem?_append_left q] at h1'
      rw [List.getElem?_append_left (by rw [← k.len]; exact q)] at h2
      obtain ⟨z1, z2⟩ := k.obj n d u h1' h2
      exact ⟨z1, z2.keep ex fun _ e => e⟩
    · rw [List.getElem?_append_right q] at h1'
      rw [List.getElem?_append_right (by rw [← k.len]; exact q)] at h2
      rw [← k.len] at h2
      match n - g.al.length, h1', h2 with
      | 0, h1', h2 =>
        cases h1'
        cases h2
        exact ⟨hF, h.keep ex fun _ e => e⟩
      | _ + 1, h1', _ => cases h1'
theorem Post.alloc {g0 g : G} {H0 H : Hp} {l : Addr} (q : Post g0 H0 g H) (h : H0 l = none) : Post g0 H0 ⟨g.F, g.al ++ [l]⟩ H :=
  ⟨q.ext.trans ⟨fun _ _ h => h, [l], rfl⟩, q.keep, q.newF, fun d hd => by
    have hd' : d ∈ g.al ++ [l] := hd
    rcases List.mem_append.mp hd' with z | z
    · exact q.newA d z
    · have : d = l := by simpa using z
      rw [this]; exact .inr h, q.there⟩
theorem ru_malloc (ha : PE X x (tK C L W H0 3 a)) : PE X x (tK C L W H0 3 (.malloc a)) :=
  peImp ha fun σ H Q ⟨g, env, m, ok, eo, o⟩ => ⟨g, env, m, ok, eo, Out.bindB o .rfl' fun p m1 g1 H1 v k1 q1 r1 o1 => by
    cases p with
    | lst ps =>
      obtain ⟨l, vs, rfl, h1, h2, hF, hA, h0⟩ := r1
      refine (o1 : Out L W σ g H (.ok (.ref m1.length) (m1 ++ [.lst ps]) : R PV) (RF L H) Q) ⟨g1.F, g1.al ++ [l]⟩ H1 (.ref l) (k1.alloc hF hA ⟨vs, h1, h2⟩) (q1.alloc h0) ?_
      · show Rep _ _ _ _
        unfold Rep
        refine ⟨l, rfl, ?_⟩
        show (g1.al ++ [l])[m1.length]? = some l
        rw [← k1.len]
        simp
    | _ => exact (o1 : False).elim⟩
end
end Nl
end
section
set_option Elab.async false
set_option linter.all false
set_option maxRecDepth 100000
set_option maxHeartbeats 1000000
/-! Nl, 13: keyword calls; blocks. -/
namespace Nl
open PySem PySem.Spec PyProof.Rows L2

/-! ### arguments by name -/
section
variable {α β : Type} {R : α → β → Prop}
theorem lookup_rel : ∀ {ks : List PySem.Str} {xs : List α} {ys : List β} (h : Paired R xs ys) (p : PySem.Str) {a : α}, (ks.zip xs).lookup p = some a → ∃ b, (ks.zip ys).lookup p = some b ∧ R a b
  | [], _, _, _, _, _, e => by simp at e
  | k :: ks, _, _, .nil, _, _, e => by simp at e
  | k :: ks, x :: xs, y :: ys, .cons r t, p, a, e => by
    rw [List.zip_cons_cons, List.lookup_cons] at e ⊢
    cases q : p == k with
    | true => rw [q] at e; cases e; exact ⟨y, rfl, r⟩
    | false => rw [q] at e; exact lookup_rel t p e
theorem fold_rel {ks : List PySem.Str} {xs : List α} {ys : List β} (h : Paired R xs ys) : ∀ (qs : List PySem.Str) {l : List α}, arrF (ks.zip xs) qs = some l → ∃ l', arrF (ks.zip ys) qs = some l' ∧ Paired R l l'
  | [], l, e => by cases e; exact ⟨[], rfl, .nil⟩
  | q :: qs, l, e => by
    unfold arrF at e ⊢
    cases w : arrF (ks.zip xs) qs with
    | none =>
      rw [w] at e
      cases z : (ks.zip xs).lookup q <;> (rw [z] at e; cases e)
    | some l0 =>
      rw [w] at e
      obtain ⟨l1, e1, r1⟩ := fold_rel h qs w
      cases z : (ks.zip xs).lookup q with
      | none => rw [z] at e; cases e
      | some v =>
        rw [z] at e
        cases e
        obtain ⟨b, e2, r2⟩ := lookup_rel h q z
        rw [e1, e2]
        exact ⟨_, rfl, .cons r2 r1⟩
theorem Paired.app : ∀ {xs : List α} {ys : List β} {xs' : List α} {ys' : List β}, Paired R xs ys → Paired R xs' ys' → Paired R (xs ++ xs') (ys ++ ys')
  | _, _, _, _, .nil, k => k
  | _, _, _, _, .cons r t, k => .cons r (Paired.app t k)
theorem Paired.len : ∀ {xs : List α} {ys : List β}, Paired R xs ys → xs.length = ys.length
  | _, _, .nil => rfl
  | _, _, .cons r t => by rw [List.length_cons, List.length_cons, Paired.len t]
theorem zip_fst : ∀ (ks : List PySem.Str) {xs : List α} {ys : List β}, Paired R xs ys → (ks.zip xs).map (·.1) = (ks.zip ys).map (·.1)
  | [], _, _, _ => rfl
  | k :: ks, _, _, .nil => rfl
  | k :: ks, _, _, .cons r t => by rw [List.zip_cons_cons, List.zip_cons_cons, List.map_cons, List.map_cons, zip_fst ks t]
theorem arrange_rel {ps ks : List PySem.Str} {us zs : List α} {us' zs' : List β} (h : Paired R us us') (k : Paired R zs zs') {l : List α} (e : arrange ps us (ks.zip zs) = some l) : ∃ l', arrange ps us' (ks.zip zs') = some l' ∧ Paired R l l' := by
  unfold arrange at e ⊢
  have len : (ks.zip zs).length = (ks.zip zs').length := by rw [List.length_zip, List.length_zip, Paired.len k]
  have fst : (ks.zip zs).map (·.1) = (ks.zip zs').map (·.1) := zip_fst ks k
  rw [← Paired.len h, ← len, ← fst]
  by_cases c : ps.length = us.length + (ks.zip zs).length ∧ (((ks.zip zs).map (·.1)).all (fun k => (ps.drop us.length).contains k) && nodupB ((ks.zip zs).map (·.1))) = true
  · rw [if_pos c] at e ⊢
    cases w : arrF (ks.zip zs) (ps.drop us.length) with
    | none => rw [w] at e; cases e
    | some l0 =>
      rw [w] at e
      cases e
      obtain ⟨l1, e1, r1⟩ := fold_rel k _ w
      rw [e1]
      exact ⟨_, rfl, Paired.app h r1⟩
  · rw [if_neg c] at e; cases e
theorem fold_len {ks : List (PySem.Str × α)} : ∀ (qs : List PySem.Str) {l : List α}, arrF ks qs = some l → l.length = qs.length
  | [], l, e => by cases e; rfl
  | q :: qs, l, e => by
    unfold arrF at e
    cases w : arrF ks qs with
    | none =>
      rw [w] at e
      cases z : ks.lookup q <;> (rw [z] at e; cases e)
    | some l0 =>
      rw [w] at e
      cases z : ks.lookup q with
      | none => rw [z] at e; cases e
      | some v =>
        rw [z] at e
        cases e
        rw [List.length_cons, List.length_cons, fold_len qs w]
theorem arrange_len {ps : List PySem.Str} {us : List α} {kws : List (PySem.Str × α)} {l : List α} (e : arrange ps us kws = some l) : l.length = ps.length := by
  unfold arrange at e
  by_cases c : ps.length = us.length + kws.length ∧ ((kws.map (·.1)).all (fun k => (ps.drop us.length).contains k) && nodupB (kws.map (·.1))) = true
  · rw [if_pos c] at e
    cases w : arrF kws (ps.drop us.length) with
    | none => rw [w] at e; cases e
    | some l0 =>
      rw [w] at e
      cases e
      rw [List.length_append, fold_len _ w, List.length_drop]
      have := c.1
      omega
  · rw [if_neg c] at e; cases e
end
theorem zip_fst_snd {α : Type} : ∀ (l : List (PySem.Str × α)), (l.map (·.1)).zip (l.map (·.2)) = l
  | [] => rfl
  | (a, b) :: l => by simp [zip_fst_snd l]
section
variable {C : Calls} {L : Lk} {W : WX} {H0 : Hp} {X : Cx} {ck : Ck} {x y z tg : Expr} {a b c : Ex} {pos : Pos} {es : List Expr} {as : List Ex} {stm : Bool} {kws : List Keyword} {ks : List (PySem.Str × Ex)}
def tKs (C : Calls) (L : Lk) (W : WX) (H0 : Hp) (nm : List PySem.Str) (ks : List (PySem.Str × Ex)) : TA := fun σ H Q => ∃ (g : G) (env : Env) (m : Mem), Ok L g H m ∧ EnvOk L g H H0 env σ ∧ Out L W σ g H (evk C ks env m) (fun g H zs ws => RepL L g (zs.map (·.2)) ws ∧ zs.map (·.1) = nm) Q
theorem pkImp {t t' : TA} (h : PK X kws t) (i : ∀ σ H Q, t' σ H Q → t σ H Q) : PK X kws t' := ⟨fun pos pins s σ H Q I q => h.run pos pins s σ H Q I (i σ H Q q)⟩
theorem rk_nil : PK X [] (tKs C L W H0 [] []) := pkImp pk_nil fun σ H Q ⟨g, env, m, ok, eo, o⟩ => Out.ret (a := []) o ok .rfl' ⟨.nil, rfl⟩
theorem rk_cons {n : PySem.Str} {nm : List PySem.Str} {kp : Pos} (ha : PE X x (tK C L W H0 2 a)) (hr : PK X kws (tKs C L W H0 nm ks)) : PK X (⟨some n, x, kp⟩ :: kws) (tKs C L W H0 (n :: nm) ((n, a) :: ks)) :=
  pkImp (pk_cons ha hr) fun σ H Q ⟨g, env, m, ok, eo, o⟩ => ⟨g, env, m, ok, eo, Out.bind o fun p m1 g1 H1 v k1 q1 r1 o1 => ⟨g1, env, m1, k1, eo.post q1, Out.bind o1 fun zs m2 g2 H2 ws k2 q2 r2 o2 =>
    Out.ret (a := (n, p) :: zs) o2 k2 .rfl' ⟨.cons (Rep.mono q2.ext r1) r2.1, by rw [List.map_cons, r2.2]⟩⟩⟩
theorem rep_paired {g : G} : ∀ {ps : List PV} {vs : List V} {us : List Value}, RepL L g ps vs → Vals vs us → Paired (fun p u => ∃ v, Rep L g p v ∧ RelV v u) ps us
  | [], _, _, h, k => by rw [h.nil_inv] at k; cases k; exact .nil
  | p :: ps, _, _, h, k => by
    obtain ⟨v, r, rfl, h2, h3⟩ := h.cons_inv
    cases k with
    | cons k1 k2 => exact .cons ⟨v, h2, k1⟩ (rep_paired h3 k2)
theorem paired_rep {g : G} : ∀ {ps : List PV} {us : List Value}, Paired (fun p u => ∃ v, Rep L g p v ∧ RelV v u) ps us → ∃ vs, RepL L g ps vs ∧ Vals vs us
  | _, _, .nil => ⟨[], .nil, .nil⟩
  | _, _, .cons ⟨v, h1, h2⟩ t => by
    obtain ⟨vs, k1, k2⟩ := paired_rep t
    exact ⟨v :: vs, .cons h1 k1, .cons h2 k2⟩
theorem arrange_self {ps : List PySem.Str} {vs : List PV} {zs : List (PySem.Str × PV)} : arrange ps vs zs = arrange ps vs ((zs.map (·.1)).zip (zs.map (·.2))) := by rw [zip_fst_snd]
theorem kw_end {f n : Nat} {s : Shared} {σ : L2.St} {H H1 : Hp} {pins : List (Addr × Obj)} {Q : VK} {us ws : List Value} {vs zv : List V} {g : G} {m : Mem} {args : List PV} {zs : List (PySem.Str × PV)} {k : Nat} {d : Addr} {fd : FuncData}
    (ok : XOk L C ck W X) (hr : Room k X.A) (F : FnG X.prog X.w X.K X.mg X.base k d fd (C.ps f) (spC L C n f)) (hb : BindsA fd (C.ps f)) (I : Inv X pins σ H s) (okk : Ok L g H m)
    (r1 : RepL L g args vs) (r2 : Vals vs us) (r3 : RepL L g (zs.map (·.2)) zv) (r4 : Vals zv ws) (there : ∀ d, H d = none → H1 d = none)
    (out : Out L W σ g H ((match arrange (C.ps f) args zs with | some l => C.fn f l | none => stuck : Py PV) m) (RK L n H1) Q) : wpAny (model X.prog X.w) X.A (call (.ref d) us ((zs.map (·.1)).zip ws)) (EP X pins σ Q) X.xe s := by
  cases e : arrange (C.ps f) args zs with
  | none => rw [e] at out; exact out.elim
  | some l =>
    rw [e] at out
    rw [arrange_self] at e
    obtain ⟨l', e', pr⟩ := arrange_rel (rep_paired r1 r2) (rep_paired r3 r4) e
    obtain ⟨lv, p1, p2⟩ := paired_rep pr
    refine call_end ok hr F (hb s us _ l' e') I p2 ?_ okk p1 there out
    rw [← p1.length]
    exact arrange_len e
theorem ru_callK0 {f : Nat} {n : PySem.Str} {p : Pos} {nm : List PySem.Str} (ok : XOk L C ck W X) (hf : ck.fns[f]? = some n) (hg : Gl X n) (hn : nameOk n = true) (hkw : kws.all (fun k => k.arg.isSome) = true) (hnm : kws.filterMap (·.arg) = nm) (hk : PK X kws (tKs C L W H0 nm ks)) :
    PE X (.Call (.Name n p) [] kws pos) (tK C L W H0 (ck.fk f) (.callK f [] ks)) := by
  refine ⟨fun pins s σ H Q I ⟨g, env, m, okk, eo, o⟩ => ?_⟩
  obtain ⟨k, d, fd, hr, hm, hl, hkp, F, hb⟩ := ok.fn f n hf
  refine wpAny_Call_Name_kw (ld_glob I hg hm ?_ (nameOk_eq hn).1)
  obtain ⟨w1, w2, w3⟩ := kw_some (pos := pos) (env := X.env) hkw
  refine PySem.W.callWith_KW0 (h₀ := X.base) I.ok.mod.kin hkp w1 ?_ (by rw [w2]; rfl)
  have o' : Out L W σ g H ((evk C ks env >>= fun zs => (match arrange (C.ps f) [] zs with | some l => C.fn f l | none => stuck : Py PV)) m) (RK L (ck.fk f) H) Q := o
  refine thn (hk.run pos pins s σ H (fun ws H1 => ∃ g1 m1 zs, Ok L g1 H1 m1 ∧ Post g H g1 H1 ∧ RepL L g1 (zs.map (·.2)) ws ∧ zs.map (·.1) = nm ∧ Out L W σ g1 H1 ((match arrange (C.ps f) [] zs with | some l => C.fn f l | none => stuck : Py PV) m1) (RK L (ck.fk f) H) Q) I
    ⟨g, env, m, okk, eo, Out.bind o' fun zs m1 g1 H1 ws k1 q1 r1 o1 => ⟨g1, m1, zs, k1, q1, r1.1, r1.2, o1⟩⟩) fun ws s1 ⟨zv, H1, I1, r, g1, m1, zs, k1, q1, r1, r2, o1⟩ => ⟨I1.kIn, ?_⟩
  rw [w3, hnm, ← r2]
  exact kw_end ok hr F hb I1 k1 .nil .nil r1 r q1.there o1
theorem ru_callK {f n' : Nat} {n : PySem.Str} {p : Pos} {nm : List PySem.Str} (ok : XOk L C ck W X) (hf : ck.fns[f]? = some n) (hg : Gl X n) (hn : nameOk n = true) (hkw : kws.all (fun k => k.arg.isSome) = true) (hnm : kws.filterMap (·.arg) = nm) (hs : (x :: es).all notStar = true)
    (ha : PA X (x :: es) (tGs C L W H0 (LK L 2 n') as)) (hk : PK X kws (tKs C L W H0 nm ks)) :
    PE X (.Call (.Name n p) (x :: es) kws pos) (tK C L W H0 (ck.fk f) (.callK f as ks)) := by
  refine ⟨fun pins s σ H Q I ⟨g, env, m, okk, eo, o⟩ => ?_⟩
  obtain ⟨k, d, fd, hr, hm, hl, hkp, F, hb⟩ := ok.fn f n hf
  refine wpAny_Call_Name_kw (ld_glob I hg hm ?_ (nameOk_eq hn).1)
  obtain ⟨w1, w2, w3⟩ := kw_some (pos := pos) (env := X.env) hkw
  have z := Bool.and_eq_true_iff.mp hs
  refine PySem.W.callWith_KW (h₀ := X.base) I.ok.mod.kin hkp w1 ?_ (by rw [w2, starEach_none hs]; rfl) (starEach_cons z.1)
  have o' : Out L W σ g H ((evs C as env >>= fun vs => evk C ks env >>= fun zs => (match arrange (C.ps f) vs zs with | some l => C.fn f l | none => stuck : Py PV)) m) (RK L (ck.fk f) H) Q := o
  refine thn (ha.run pos pins s σ H (fun vs H1 => ∃ g1 m1 ps, Ok L g1 H1 m1 ∧ EnvOk L g1 H1 H0 env σ ∧ Post g H g1 H1 ∧ LK L 2 n' g1 H1 ps vs ∧ Out L W σ g1 H1 ((evk C ks env >>= fun zs => (match arrange (C.ps f) ps zs with | some l => C.fn f l | none => stuck : Py PV)) m1) (RK L (ck.fk f) H) Q) I
    ⟨g, env, m, okk, eo, Out.bind o' fun ps m1 g1 H1 vs k1 q1 r1 o1 => ⟨g1, m1, ps, k1, eo.post q1, q1, r1, o1⟩⟩) fun us s1 ⟨vs, H1, I1, r, g1, m1, ps, k1, eo1, q1, r1, o1⟩ => ?_
  refine thn (hk.run pos pins s1 σ H1 (fun ws H2 => ∃ g2 m2 zs, Ok L g2 H2 m2 ∧ Post g1 H1 g2 H2 ∧ RepL L g2 (zs.map (·.2)) ws ∧ zs.map (·.1) = nm ∧ Out L W σ g2 H2 ((match arrange (C.ps f) ps zs with | some l => C.fn f l | none => stuck : Py PV) m2) (RK L (ck.fk f) H) Q) I1
    ⟨g1, env, m1, k1, eo1, Out.bind o1 fun zs m2 g2 H2 ws k2 q2 r2 o2 => ⟨g2, m2, zs, k2, q2, r2.1, r2.2, o2⟩⟩) fun ws s2 ⟨zv, H2, I2, rz, g2, m2, zs, k2, q2, r2, r3, o2⟩ => ⟨I2.kIn, ?_⟩
  rw [w3, hnm, ← r3]
  exact kw_end ok hr F hb I2 k2 (r1.1.repL.mono q2.ext) r r2 rz (fun d h => q1.there d (q2.there d h)) o2

/-! ### blocks -/
theorem XOk.blk (ok : XOk L C ck W X) {s : Shared} {H : Hp} {scope : Scope} {cenv : PySem.Env} {fp : List Addr} : XOk L C ck WF (X.blk s H scope cenv fp) where
  N := ok.N
  nd := ok.nd
  calm := ok.calm
  gds := ok.gds
  units := ok.units
  fn := ok.fn
  ar := ok.ar
  takes := fun u s' ⟨a, B, sI, pins, σ, H, cls, d, e, I, nb, up, sky, na, os, ag, w⟩ => w.elim
  blt := ok.blt
  gi := ok.gi
  gs := ok.gs
def blkS (S : Sc) (scope : Scope) : Sc := ⟨relS scope S.sc, fun x => scope.names.lookup x == some .cell⟩
theorem ScOk.blk {S : Sc} (k : ScOk S X) {s : Shared} {H : Hp} {scope : Scope} {C' : Addr} {cl : List (PySem.Str × Addr)} {fp : List Addr} : ScOk (blkS S scope) (X.blk s H scope (compEnvC scope cl C' X.env) fp) where
  sc := by
    show relabel scope X.env = relS scope S.sc
    rw [← k.sc]
    rfl
  fn := fun x h => h
end
end Nl
end
section
set_option Elab.async false
set_option linter.all false
set_option maxRecDepth 100000
set_option maxHeartbeats 2000000
/-! Nl, 14: the check of an expression, its soundness. -/
namespace Nl
open PySem PySem.Spec PyProof.Rows L2
def Ck.kd (ck : Ck) : Ex → Nat
  | .var _ => 2
  | .peek _ => 1
  | .deref _ => 0
  | .mix _ _ => 2
  | .call f _ => ck.fk f
  | .callK f _ _ => ck.fk f
  | .and _ b => ck.kd b
  | .or _ b => ck.kd b
  | .ite _ a b => min (ck.kd a) (ck.kd b)
  | .ix _ _ => 2
  | _ => 3
def asComp : Expr → Option (Expr × Expr × Expr × List Expr × Scope)
  | .ListComp elt [⟨tg, iter, ifs, a⟩] scope _ => if a = 0 then some (elt, tg, iter, ifs, scope) else none
  | _ => none
theorem asComp_eq {e elt tg iter : Expr} {ifs : List Expr} {scope : Scope} (h : asComp e = some (elt, tg, iter, ifs, scope)) : ∃ p, e = .ListComp elt [⟨tg, iter, ifs, 0⟩] scope p := by
  unfold asComp at h
  split at h
  · split at h
    · rename_i q
      cases h
      subst q
      exact ⟨_, rfl⟩
    · cases h
  · cases h
def asSortR : Expr → Option Expr
  | .Call (.Name n _) [x] [⟨some m, .Constant (.bool true) _ _, _⟩] _ => if n = "sorted" ∧ m = "reverse" then some x else none
  | _ => none
theorem asSortR_eq {e x : Expr} (h : asSortR e = some x) : ∃ p j p' kp pos, e = .Call (.Name "sorted" p) [x] [⟨some "reverse", .Constant (.bool true) j p', kp⟩] pos := by
  unfold asSortR at h
  split at h
  · split at h
    · rename_i q
      cases h
      obtain ⟨rfl, rfl⟩ := q
      exact ⟨_, _, _, _, _, rfl⟩
    · cases h
  · cases h
def chkVar (ck : Ck) (S : Sc) (i : Nat) (e : Expr) : Bool := match asName e with
  | some x => decide (ck.N[i]? = some x) && (visB S.sc x && nameOk x)
  | none => false
def ownP (ck : Ck) (own : List Nat) : List (PySem.Str × Nat) := own.map fun i => (ck.N.getD i "", i)
def subL (a b : List Nat) : Bool := a.all fun i => b.contains i
mutual
def chkE (ck : Ck) (S : Sc) (t : Bool) : Ex → Expr → Bool
  | .bad, _ => true
  | .var i, e => chkVar ck S i e
  | .peek i, e => chkVar ck S i e
  | .deref a, e => !t && chkE ck S false a e
  | .mix a b, e => match asSub e with
    | some (x, y) => notSlice y && (decide (1 ≤ ck.kd a) && (chkE ck S false a x && chkE ck S false b y))
    | none => false
  | .non, e => isNon e
  | .bl b, e => decide (asBl e = some b)
  | .int i, e => decide (asInt e = some i)
  | .str x, e => decide (asStr e = some x)
  | .gint n i, e => decide (asName e = some n) && (glB S.sc n && (nameOk n && decide ((n, i) ∈ ck.gi)))
  | .gstr n i, e => decide (asName e = some n) && (glB S.sc n && (nameOk n && decide ((n, i) ∈ ck.gs)))
  | .call f as, e => match asCall e with
    | some (n, es, ks) => ks.isEmpty && (decide (ck.fns[f]? = some n) && (glB S.sc n && (nameOk n && (es.all notStar && (decide (as.length = ck.ar.getD f 0) && chkEs ck S 2 as es)))))
    | none => false
  | .callK f as ks, e => match asCall e with
    | some (n, es, kws) => decide (ck.fns[f]? = some n) && (glB S.sc n && (nameOk n && (es.all notStar && (chkEs ck S 2 as es && (chkKs ck S ks kws)))))
    | none => false
  | .bi b as, e => match asCall e with
    | some (n, es, ks) => ks.isEmpty && (decide (n = bn b) && (glB S.sc n && (es.all notStar && (!es.isEmpty && chkEs ck S (if as.length = 1 then 0 else 1) as es))))
    | none => false
  | .sortedRev a, e => match asSortR e with
    | some x => glB S.sc "sorted" && (notStar x && (decide (1 ≤ ck.kd a) && chkE ck S false a x))
    | none => false
  | .bin o a b, e => match asBin e with
    | some (x, p, y) => isOp o p && (decide (1 ≤ ck.kd a) && (chkE ck S false a x && chkE ck S false b y))
    | none => false
  | .neg a, e => match asNeg e with
    | some x => chkE ck S false a x
    | none => false
  | .cmp o a b, e => match asCmp e with
    | some (x, p, y) => isCop o p && (!behindInMarks p y && (decide (1 ≤ ck.kd a) && (chkE ck S false a x && chkE ck S false b y)))
    | none => false
  | .chain o o' a b c, e => match asCmp2 e with
    | some (x, p, p', y, z) => isCop o p && (isCop o' p' && (!lastMarks [p, p'] [y, z] && (decide (1 ≤ ck.kd a) && (decide (1 ≤ ck.kd b) && (chkE ck S false a x && (chkE ck S false b y && chkE ck S false c z))))))
    | none => false
  | .and a b, e => match asBool e with
    | some (k, x, y) => k && (chkE ck S t a x && chkE ck S t b y)
    | none => false
  | .or a b, e => match asBool e with
    | some (k, x, y) => !k && (chkE ck S t a x && chkE ck S t b y)
    | none => false
  | .not a, e => match asNot e with
    | some x => chkE ck S t a x
    | none => false
  | .ite c a b, e => match asIf e with
    | some (z, x, y) => !t && (chkE ck S true c z && (chkE ck S false a x && chkE ck S false b y))
    | none => false
  | .tup as, e => match asTup e with
    | some es => es.all notStar && chkEs ck S 2 as es
    | none => false
  | .lst as, e => match asLst e with
    | some es => es.all notStar && chkEs ck S 2 as es
    | none => false
  | .ix a b, e => match asSub e with
    | some (x, y) => notSlice y && (decide (1 ≤ ck.kd a) && (chkE ck S false a x && chkE ck S false b y))
    | none => false
  | .sl a lo hi, e => match asSl e with
    | some (x, l, h) => decide (1 ≤ ck.kd a) && (chkE ck S false a x && (chkO ck S lo l && chkO ck S hi h))
    | none => false
  | .rev a, e => match asRev e with
    | some x => chkE ck S false a x
    | none => false
  | .isi a ts, e => match asCall e with
    | some (n, [x, y], ks) => ks.isEmpty && (decide (n = "isinstance") && (glB S.sc n && (notStar x && (decide (1 ≤ ck.kd a) && (chkE ck S false a x && (match asTup y with
      | some ys => decide (ts.length ≤ 100) && (decide (ts.length = ys.length) && (List.zipWith (isTyE S.sc) ts ys).all id)
      | none => match ts with
        | [t] => isTyE S.sc t y
        | _ => false))))))
    | _ => false
  | .comp own g it c el, e => match asComp e with
    | some (elt, tg, iter, ifs, scope) => !t && (blkC ck.N S.sc scope (ownP ck own) && (subL (tgV g) own && (chkT ck.N (blkS S scope) g tg && (notSet iter && (decide (2 ≤ ck.kd el) && (chkIt ck S false tg it iter &&
      (chkC ck (blkS S scope) c ifs && chkE ck (blkS S scope) false el elt)))))))
    | none => false
  | .bm _ _ _, _ => false
  | .malloc a, e => !t && (decide (ck.kd a = 3) && chkE ck S false a e)
  | .mpop0 _, _ => false
def chkEs (ck : Ck) (S : Sc) (n : Nat) : List Ex → List Expr → Bool
  | [], [] => true
  | a :: as, e :: es => decide (n ≤ ck.kd a) && (chkE ck S false a e && chkEs ck S n as es)
  | _, _ => false
def chkKs (ck : Ck) (S : Sc) : List (PySem.Str × Ex) → List Keyword → Bool
  | [], [] => true
  | (n, a) :: as, k :: es => decide (k.arg = some n) && (decide (2 ≤ ck.kd a) && (chkE ck S false a k.value && chkKs ck S as es))
  | _, _ => false
def chkO (ck : Ck) (S : Sc) : Option Ex → Option Expr → Bool
  | none, none => true
  | some a, some e => chkE ck S false a e
  | _, _ => false
def chkC (ck : Ck) (S : Sc) : Option Ex → List Expr → Bool
  | none, [] => true
  | some a, [e] => chkE ck S true a e
  | _, _ => false
def chkIt (ck : Ck) (S : Sc) (stm : Bool) (tg : Expr) : It → Expr → Bool
  | .seq a, e => decide ((if stm = true then 2 else 1) ≤ ck.kd a) && chkE ck S false a e
  | .rng1 a, e => match asCall e with
    | some (n, [x], ks) => ks.isEmpty && (decide (n = "range") && (glB S.sc n && (notStar x && chkE ck S false a x)))
    | _ => false
  | .rng2 a b, e => match asCall e with
    | some (n, [x, y], ks) => ks.isEmpty && (decide (n = "range") && (glB S.sc n && (notStar x && (notStar y && (decide (1 ≤ ck.kd a) && (chkE ck S false a x && chkE ck S false b y))))))
    | _ => false
  | .enum a, e => match asCall e, asTup tg with
    | some (n, [x], ks), some _ => ks.isEmpty && (decide (n = "enumerate") && (glB S.sc n && (notStar x && (decide ((if stm = true then 2 else 1) ≤ ck.kd a) && chkE ck S false a x))))
    | _, _ => false
  | .zip _ _, _ => false
end
example (ck : Ck) (S : Sc) : chkE ck S false (.bin .add (.int 1) (.lst [.int 2])) (.BinOp (.Constant (.int 1) 0 ⟨0,0,0,0⟩) .Add (.List [.Constant (.int 2) 0 ⟨0,0,0,0⟩] ⟨0,0,0,0⟩) ⟨0,0,0,0⟩) = true := by rfl

/-! ### soundness -/
section
variable {C : Calls} {L : Lk} {H0 : Hp} {ck : Ck}
/-- what a check says -/
def Snd (C : Calls) (L : Lk) (H0 : Hp) (ck : Ck) (W : WX) (X : Cx) (t : Bool) (a : Ex) (e : Expr) : Prop := match t with
  | false => PE X e (tK C L W H0 (ck.kd a) a)
  | true => PT X e (tT C L W H0 a) ∧ ∀ o es p, e = .BoolOp o es p → PW X e (tT C L W H0 a)
theorem Snd.plain {W : WX} {X : Cx} {a : Ex} {e : Expr} (hp : plainT e = true) (h : PE X e (tK C L W H0 (ck.kd a) a)) : ∀ t, Snd C L H0 ck W X t a e
  | false => h
  | true => ⟨ru_plainT hp h, fun o es p z => by rw [z] at hp; cases hp⟩
theorem Snd.noBool {W : WX} {X : Cx} {a : Ex} {e : Expr} (h : PT X e (tT C L W H0 a)) (hn : ∀ o es p, e ≠ .BoolOp o es p) : Snd C L H0 ck W X true a e := ⟨h, fun o es p z => absurd z (hn o es p)⟩
theorem b2 {a b : Bool} (h : (a && b) = true) : a = true ∧ b = true := Bool.and_eq_true_iff.mp h
theorem own_map (own : List Nat) : (ownP ck own).map (·.2) = own := by
  unfold ownP
  rw [List.map_map]
  induction own with
  | nil => rfl
  | cons a r ih => rw [List.map_cons, ih]; rfl
theorem subL_eq {a b : List Nat} (h : subL a b = true) : ∀ i ∈ a, i ∈ b := fun i hi => by
  have z := List.all_eq_true.mp h i hi
  simpa using z
theorem chkVar_eq {X : Cx} {S : Sc} {W : WX} {i : Nat} {e : Expr} (ok : XOk L C ck W X) (k : ScOk S X) (h : chkVar ck S i e = true) : ∃ n p, e = .Name n p ∧ X.N[i]? = some n ∧ Vis X.env.scope n ∧ nameOk n = true := by
  unfold chkVar at h
  cases q : asName e with
  | none => rw [q] at h; cases h
  | some x =>
    rw [q] at h
    obtain ⟨p, rfl⟩ := asName_eq q
    obtain ⟨z1, z2⟩ := b2 h
    obtain ⟨z2, z3⟩ := b2 z2
    exact ⟨x, p, rfl, by rw [ok.N]; exact of_decide_eq_true z1, visB_eq (by rw [k.sc]; exact z2), z3⟩
theorem gl_of {X : Cx} {S : Sc} {n : PySem.Str} (k : ScOk S X) (h : glB S.sc n = true) : Gl X n := glB_eq (by rw [k.sc]; exact h)
theorem pe_absurd {X : Cx} {e : Expr} {W : WX} {k : Nat} : PE X e (tK C L W H0 k .bad) := ⟨fun pins s σ H Q I ⟨g, env, m, ok, eo, o⟩ => o.elim⟩
theorem chkEs_len {S : Sc} {n : Nat} : ∀ {as : List Ex} {es : List Expr}, chkEs ck S n as es = true → as.length = es.length
  | [], [], _ => rfl
  | a :: as, e :: es, h => by
    unfold chkEs at h
    rw [List.length_cons, List.length_cons, chkEs_len (b2 (b2 h).2).2]
  | [], _ :: _, h => by unfold chkEs at h; cases h
  | _ :: _, [], h => by unfold chkEs at h; cases h
theorem chkKs_eq {S : Sc} : ∀ {as : List (PySem.Str × Ex)} {es : List Keyword}, chkKs ck S as es = true → es.all (fun k => k.arg.isSome) = true ∧ es.filterMap (·.arg) = as.map (·.1)
  | [], [], _ => ⟨rfl, rfl⟩
  | (n, a) :: as, ⟨ar, v, p⟩ :: es, h => by
    unfold chkKs at h
    obtain ⟨h1, h2⟩ := b2 h
    obtain ⟨w1, w2⟩ := chkKs_eq (b2 (b2 h2).2).2
    have e : ar = some n := of_decide_eq_true h1
    subst e
    exact ⟨by rw [List.all_cons, w1]; rfl, by rw [List.filterMap_cons, w2]; rfl⟩
  | [], _ :: _, h => by unfold chkKs at h; cases h
  | _ :: _, [], h => by unfold chkKs at h; cases h
mutual
theorem sE : ∀ (a : Ex) (W : WX) (X : Cx) (S : Sc) (t : Bool) (e : Expr), XOk L C ck W X → ScOk S X → chkE ck S t a e = true → Snd C L H0 ck W X t a e
  | .bad, W, X, S, t, e, ok, k, h => by
    cases t with
    | false => exact pe_absurd
    | true => exact ⟨⟨fun pins s σ H Q I ⟨g, env, m, ok, eo, o⟩ => (o : False).elim⟩, fun _ _ _ _ => ⟨fun whole pins s σ H Q I ⟨g, env, m, ok, eo, o⟩ => (o : False).elim⟩⟩
  | .var i, W, X, S, t, e, ok, k, h => by
    unfold chkE at h
    obtain ⟨n, p, rfl, h1, h2, h3⟩ := chkVar_eq ok k h
    exact .plain rfl (ru_var h1 h2 h3) t
  | .peek i, W, X, S, t, e, ok, k, h => by
    unfold chkE at h
    obtain ⟨n, p, rfl, h1, h2, h3⟩ := chkVar_eq ok k h
    exact .plain rfl (ru_peek h1 h2 h3) t
  | .deref a, W, X, S, t, e, ok, k, h => by
    unfold chkE at h
    obtain ⟨h1, h2⟩ := b2 h
    cases t with
    | true => cases h1
    | false => exact ru_deref (weak (sE a W X S false e ok k h2) (Nat.zero_le _))
  | .mix a b, W, X, S, t, e, ok, k, h => by
    unfold chkE at h
    split at h
    · rename_i x y q
      obtain ⟨p, rfl⟩ := asSub_eq q
      obtain ⟨h1, h⟩ := b2 h
      obtain ⟨h2, h⟩ := b2 h
      obtain ⟨h3, h4⟩ := b2 h
      exact .plain rfl (ru_mix h1 (weak (sE a W X S false _ ok k h3) (of_decide_eq_true h2)) (weak (sE b W X S false _ ok k h4) (Nat.zero_le _))) t
    · cases h
  | .non, W, X, S, t, e, ok, k, h => by
    unfold chkE at h
    obtain ⟨j, p, rfl⟩ := isNon_eq h
    exact .plain rfl (pe_pure (k := 3) (a := .non) (p := .non) pe_non (fun _ => rfl) fun _ _ _ => rfl) t
  | .bl b, W, X, S, t, e, ok, k, h => by
    unfold chkE at h
    obtain ⟨j, p, rfl⟩ := asBl_eq (of_decide_eq_true h)
    exact .plain rfl (pe_pure (k := 3) (a := .bl b) (p := .bl b) pe_bl (fun _ => rfl) fun _ _ _ => rfl) t
  | .int i, W, X, S, t, e, ok, k, h => by
    unfold chkE at h
    obtain ⟨j, p, rfl⟩ := asInt_eq (of_decide_eq_true h)
    exact .plain rfl (pe_pure (k := 3) (a := .int i) (p := .int i) pe_int (fun _ => rfl) fun _ _ _ => rfl) t
  | .str x, W, X, S, t, e, ok, k, h => by
    unfold chkE at h
    obtain ⟨j, p, rfl⟩ := asStr_eq (of_decide_eq_true h)
    exact .plain rfl (pe_pure (k := 3) (a := .str x) (p := .str x) pe_str (fun _ => rfl) fun _ _ _ => rfl) t
  | .gint n i, W, X, S, t, e, ok, k, h => by
    unfold chkE at h
    obtain ⟨h1, h⟩ := b2 h
    obtain ⟨h2, h⟩ := b2 h
    obtain ⟨h3, h4⟩ := b2 h
    obtain ⟨p, rfl⟩ := asName_eq (of_decide_eq_true h1)
    obtain ⟨tk, hm⟩ := ok.gi _ (of_decide_eq_true h4)
    exact .plain rfl (pe_pure (k := 3) (a := .gint n i) (p := .int i) (pe_glob (gl_of k h2) hm (v := .int i) ⟨tk, rfl⟩ (nameOk_eq h3).1) (fun _ => rfl) fun _ _ _ => rfl) t
  | .gstr n i, W, X, S, t, e, ok, k, h => by
    unfold chkE at h
    obtain ⟨h1, h⟩ := b2 h
    obtain ⟨h2, h⟩ := b2 h
    obtain ⟨h3, h4⟩ := b2 h
    obtain ⟨p, rfl⟩ := asName_eq (of_decide_eq_true h1)
    obtain ⟨tk, hm⟩ := ok.gs _ (of_decide_eq_true h4)
    exact .plain rfl (pe_pure (k := 3) (a := .gstr n i) (p := .str i) (pe_glob (gl_of k h2) hm (v := .str i) ⟨tk, rfl⟩ (nameOk_eq h3).1) (fun _ => rfl) fun _ _ _ => rfl) t
  | .call f as, W, X, S, t, e, ok, k, h => by
    unfold chkE at h
    split at h
    · rename_i n es ks q
      obtain ⟨p, p', rfl⟩ := asCall_eq q
      obtain ⟨h1, h⟩ := b2 h
      obtain ⟨h2, h⟩ := b2 h
      obtain ⟨h3, h⟩ := b2 h
      obtain ⟨h4, h⟩ := b2 h
      obtain ⟨h5, h⟩ := b2 h
      obtain ⟨h6, hh⟩ := b2 h
      obtain rfl : ks = [] := List.isEmpty_iff.mp h1
      have hf := of_decide_eq_true h2
      have hl := (of_decide_eq_true h6).trans (ok.ar f n hf)
      have hes := chkEs_len hh
      refine .plain rfl ?_ t
      cases es with
      | nil =>
        cases as with
        | nil => exact ru_call0 ok hf hl (gl_of k h3) h4
        | cons _ _ => cases hes
      | cons e es => exact ru_call ok hf hl (gl_of k h3) h4 h5 (sEs as W X S 2 _ ok k (.inr rfl) h5 hh)
    · cases h
  | .callK f as ks, W, X, S, t, e, ok, k, h => by
    unfold chkE at h
    split at h
    · rename_i n es kws q
      obtain ⟨p, p', rfl⟩ := asCall_eq q
      obtain ⟨h2, h⟩ := b2 h
      obtain ⟨h3, h⟩ := b2 h
      obtain ⟨h4, h⟩ := b2 h
      obtain ⟨h5, h⟩ := b2 h
      obtain ⟨h6, h7⟩ := b2 h
      have hf := of_decide_eq_true h2
      obtain ⟨w1, w2⟩ := chkKs_eq h7
      have hes := chkEs_len h6
      refine .plain rfl ?_ t
      cases es with
      | nil =>
        cases as with
        | nil => exact ru_callK0 ok hf (gl_of k h3) h4 w1 w2 (sKs ks W X S kws ok k h7)
        | cons _ _ => cases hes
      | cons e es => exact ru_callK ok hf (gl_of k h3) h4 w1 w2 h5 (sEs as W X S 2 _ ok k (.inr rfl) h5 h6) (sKs ks W X S kws ok k h7)
    · cases h
  | .bi b as, W, X, S, t, e, ok, k, h => by
    unfold chkE at h
    split at h
    · rename_i n es ks q
      obtain ⟨p, p', rfl⟩ := asCall_eq q
      obtain ⟨h1, h⟩ := b2 h
      obtain ⟨h2, h⟩ := b2 h
      obtain ⟨h3, h⟩ := b2 h
      obtain ⟨h5, h⟩ := b2 h
      obtain ⟨h6, hh⟩ := b2 h
      obtain rfl : ks = [] := List.isEmpty_iff.mp h1
      obtain rfl : n = bn b := of_decide_eq_true h2
      refine .plain rfl ?_ t
      match as, es, hh, h5, h6 with
      | [], [], _, _, h6 => cases h6
      | [a], [e], h, h5, _ =>
        rw [if_pos (show [a].length = 1 from rfl)] at h
        unfold chkEs at h
        exact ru_bi ok (.inl rfl) (gl_of k h3) h5 (ra_one (b2 h5).1 (weak (sE a W X S false e ok k (b2 (b2 h).2).1) (Nat.zero_le _)))
      | a :: a2 :: as, e :: es, h, h5, _ =>
        rw [if_neg (show ¬ (a :: a2 :: as).length = 1 by simp)] at h
        exact ru_bi ok (.inr rfl) (gl_of k h3) h5 (sEs (a :: a2 :: as) W X S 1 _ ok k (.inl rfl) h5 h)
      | [], _ :: _, h, _, _ => unfold chkEs at h; cases h
      | _ :: _, [], h, _, _ => unfold chkEs at h; cases h
      | [a], e :: e2 :: es, h, _, _ =>
        have := chkEs_len h
        simp at this
    · cases h
  | .sortedRev a, W, X, S, t, e, ok, k, h => by
    unfold chkE at h
    split at h
    · rename_i x q
      obtain ⟨p, j, p', kp, pos, rfl⟩ := asSortR_eq q
      obtain ⟨h1, h⟩ := b2 h
      obtain ⟨h2, h⟩ := b2 h
      obtain ⟨h3, h⟩ := b2 h
      exact .plain rfl (ru_sortedRev ok (gl_of k h1) h2 (weak (sE a W X S false _ ok k h) (of_decide_eq_true h3))) t
    · cases h
  | .bin o a b, W, X, S, t, e, ok, k, h => by
    unfold chkE at h
    split at h
    · rename_i x p y q
      obtain ⟨p', rfl⟩ := asBin_eq q
      obtain ⟨h1, h⟩ := b2 h
      obtain ⟨h2, h⟩ := b2 h
      obtain ⟨h3, h4⟩ := b2 h
      rw [isOp_eq h1]
      exact .plain rfl (ru_bin (weak (sE a W X S false _ ok k h3) (of_decide_eq_true h2)) (weak (sE b W X S false _ ok k h4) (Nat.zero_le _))) t
    · cases h
  | .neg a, W, X, S, t, e, ok, k, h => by
    unfold chkE at h
    split at h
    · rename_i x q
      obtain ⟨p, rfl⟩ := asNeg_eq q
      exact .plain rfl (ru_neg (weak (sE a W X S false _ ok k h) (Nat.zero_le _))) t
    · cases h
  | .cmp o a b, W, X, S, t, e, ok, k, h => by
    unfold chkE at h
    split at h
    · rename_i x p y q
      obtain ⟨p', rfl⟩ := asCmp_eq q
      obtain ⟨h1, h⟩ := b2 h
      obtain ⟨h2, h⟩ := b2 h
      obtain ⟨h3, h⟩ := b2 h
      obtain ⟨h4, h5⟩ := b2 h
      rw [isCop_eq h1] at h2 ⊢
      have ha := weak (sE a W X S false _ ok k h4) (of_decide_eq_true h3)
      have hb := weak (sE b W X S false _ ok k h5) (Nat.zero_le _)
      cases t with
      | false => exact ru_cmp ok.units (by simpa using h2) ha hb
      | true => exact .noBool (ru_cmpT ok.units (by simpa using h2) ha hb) fun _ _ _ z => nomatch z
    · cases h
  | .chain o o' a b c, W, X, S, t, e, ok, k, h => by
    unfold chkE at h
    split at h
    · rename_i x p p' y z q
      obtain ⟨p2, rfl⟩ := asCmp2_eq q
      obtain ⟨h1, h⟩ := b2 h
      obtain ⟨h2, h⟩ := b2 h
      obtain ⟨h3, h⟩ := b2 h
      obtain ⟨h4, h⟩ := b2 h
      obtain ⟨h5, h⟩ := b2 h
      obtain ⟨h6, h⟩ := b2 h
      obtain ⟨h7, h8⟩ := b2 h
      rw [isCop_eq h1, isCop_eq h2] at h3 ⊢
      have ha := weak (sE a W X S false _ ok k h6) (of_decide_eq_true h4)
      have hb := weak (sE b W X S false _ ok k h7) (of_decide_eq_true h5)
      have hc := weak (sE c W X S false _ ok k h8) (Nat.zero_le _)
      cases t with
      | false => exact ru_chain ok.units (by simpa using h3) ha hb hc
      | true => exact .noBool (ru_chainT ok.units (by simpa using h3) ha hb hc) fun _ _ _ z => nomatch z
    · cases h
  | .and a b, W, X, S, t, e, ok, k, h => by
    unfold chkE at h
    split at h
    · rename_i j x y q
      obtain ⟨h1, hh⟩ := b2 h
      obtain ⟨h2, h3⟩ := b2 hh
      subst h1
      have ha := sE a W X S t x ok k h2
      have hb := sE b W X S t y ok k h3
      rcases asBool_eq q with ⟨p, rfl⟩ | ⟨c, d, r, p, rfl, rfl⟩
      · cases t with
        | false => exact ru_and (weak ha (Nat.zero_le _)) (pe_one hb)
        | true =>
          have w := ru_andT (pos := p) ha.1 (pw_and1 (pos := p) hb.1)
          exact ⟨w.pt, fun _ _ _ _ => w⟩
      · cases t with
        | false => exact ru_and (weak ha (Nat.zero_le _)) hb
        | true =>
          have w := ru_andT ha.1 (hb.2 _ _ _ rfl)
          exact ⟨w.pt, fun _ _ _ _ => w⟩
    · cases h
  | .or a b, W, X, S, t, e, ok, k, h => by
    unfold chkE at h
    split at h
    · rename_i j x y q
      obtain ⟨h1, hh⟩ := b2 h
      obtain ⟨h2, h3⟩ := b2 hh
      obtain rfl : j = false := by simpa using h1
      have ha := sE a W X S t x ok k h2
      have hb := sE b W X S t y ok k h3
      rcases asBool_eq q with ⟨p, rfl⟩ | ⟨c, d, r, p, rfl, rfl⟩
      · cases t with
        | false => exact ru_or (weak ha (Nat.zero_le _)) (pe_one hb)
        | true =>
          have w := ru_orT (pos := p) ha.1 (pw_or1 (pos := p) hb.1)
          exact ⟨w.pt, fun _ _ _ _ => w⟩
      · cases t with
        | false => exact ru_or (weak ha (Nat.zero_le _)) hb
        | true =>
          have w := ru_orT ha.1 (hb.2 _ _ _ rfl)
          exact ⟨w.pt, fun _ _ _ _ => w⟩
    · cases h
  | .not a, W, X, S, t, e, ok, k, h => by
    unfold chkE at h
    split at h
    · rename_i x q
      obtain ⟨p, rfl⟩ := asNot_eq q
      have ha := sE a W X S t x ok k h
      cases t with
      | false => exact ru_not (weak ha (Nat.zero_le _))
      | true => exact .noBool (ru_notT ha.1) fun _ _ _ z => nomatch z
    · cases h
  | .ite c a b, W, X, S, t, e, ok, k, h => by
    unfold chkE at h
    split at h
    · rename_i z x y q
      obtain ⟨p, rfl⟩ := asIf_eq q
      obtain ⟨h1, h⟩ := b2 h
      obtain ⟨h2, h⟩ := b2 h
      obtain ⟨h3, h4⟩ := b2 h
      cases t with
      | true => cases h1
      | false => exact ru_ite (sE c W X S true _ ok k h2).1 (weak (sE a W X S false _ ok k h3) (Nat.min_le_left _ _)) (weak (sE b W X S false _ ok k h4) (Nat.min_le_right _ _))
    · cases h
  | .tup as, W, X, S, t, e, ok, k, h => by
    unfold chkE at h
    split at h
    · rename_i es q
      obtain ⟨j, p, rfl⟩ := asTup_eq q
      obtain ⟨h1, h2⟩ := b2 h
      exact .plain rfl (ru_tup (sEs as W X S 2 es ok k (.inr rfl) h1 h2)) t
    · cases h
  | .lst as, W, X, S, t, e, ok, k, h => by
    unfold chkE at h
    split at h
    · rename_i es q
      obtain ⟨p, rfl⟩ := asLst_eq q
      obtain ⟨h1, h2⟩ := b2 h
      exact .plain rfl (ru_lst (sEs as W X S 2 es ok k (.inr rfl) h1 h2)) t
    · cases h
  | .ix a b, W, X, S, t, e, ok, k, h => by
    unfold chkE at h
    split at h
    · rename_i x y q
      obtain ⟨p, rfl⟩ := asSub_eq q
      obtain ⟨h1, h⟩ := b2 h
      obtain ⟨h2, h⟩ := b2 h
      obtain ⟨h3, h4⟩ := b2 h
      exact .plain rfl (ru_ix h1 (weak (sE a W X S false _ ok k h3) (of_decide_eq_true h2)) (weak (sE b W X S false _ ok k h4) (Nat.zero_le _))) t
    · cases h
  | .sl a lo hi, W, X, S, t, e, ok, k, h => by
    unfold chkE at h
    split at h
    · rename_i x l u q
      obtain ⟨p, p', rfl⟩ := asSl_eq q
      obtain ⟨h1, h⟩ := b2 h
      obtain ⟨h2, h⟩ := b2 h
      obtain ⟨h3, h4⟩ := b2 h
      exact .plain rfl (ru_sl (weak (sE a W X S false _ ok k h2) (of_decide_eq_true h1)) (sO lo W X S l ok k h3) (sO hi W X S u ok k h4)) t
    · cases h
  | .rev a, W, X, S, t, e, ok, k, h => by
    unfold chkE at h
    split at h
    · rename_i x q
      obtain ⟨j, p1, p2, p3, p, rfl⟩ := asRev_eq q
      exact .plain rfl (ru_rev (weak (sE a W X S false _ ok k h) (Nat.zero_le _))) t
    · cases h
  | .isi a ts, W, X, S, t, e, ok, k, h => by
    unfold chkE at h
    split at h
    · rename_i n x y ks q
      obtain ⟨p, p', rfl⟩ := asCall_eq q
      obtain ⟨h1, h⟩ := b2 h
      obtain ⟨h2, h⟩ := b2 h
      obtain ⟨h3, h⟩ := b2 h
      obtain ⟨h4, h⟩ := b2 h
      obtain ⟨h5, h⟩ := b2 h
      obtain ⟨h6, hh⟩ := b2 h
      obtain rfl : ks = [] := List.isEmpty_iff.mp h1
      obtain rfl : n = "isinstance" := of_decide_eq_true h2
      have ha := weak (sE a W X S false _ ok k h6) (of_decide_eq_true h5)
      have hg := gl_of k h3
      refine .plain rfl ?_ t
      rw [← k.sc] at hh
      split at hh
      · rename_i ys q2
        obtain ⟨j, p2, rfl⟩ := asTup_eq q2
        obtain ⟨h7, h10⟩ := b2 hh
        obtain ⟨h8, h9⟩ := b2 h10
        exact ru_isiT ok hg h4 (of_decide_eq_true h8) h9 (of_decide_eq_true h7) ha
      · split at hh
        · exact ru_isi ok hg h4 hh ha
        · cases hh
    · cases h
  | .comp own g it c el, W, X, S, t, e, ok, k, h => by
    unfold chkE at h
    split at h
    · rename_i elt tg iter ifs scope q
      obtain ⟨p, rfl⟩ := asComp_eq q
      obtain ⟨h1, h⟩ := b2 h
      obtain ⟨h2, h⟩ := b2 h
      obtain ⟨h3, h⟩ := b2 h
      obtain ⟨h4, h⟩ := b2 h
      obtain ⟨h5, h⟩ := b2 h
      obtain ⟨h6, h⟩ := b2 h
      obtain ⟨h7, h⟩ := b2 h
      obtain ⟨h8, h9⟩ := b2 h
      cases t with
      | true => cases h1
      | false =>
        have hN : X.N.Nodup := by rw [ok.N]; exact ok.nd
        have r := ru_comp (C := C) (L := L) (W := W) (H0 := H0) (X := X) (pos := p) (elt := elt) (iter := iter) (tg := tg) (ifs := ifs) (own := ownP ck own) (t := g) (it := it) (co := c) (e := el) ok.calm hN (sIt it W X S false tg iter ok k h7)
          (blkOk_by (by rw [ok.N, k.sc]; exact h2)) (fun s H C' cl fp => sT (X := X.blk s H scope (compEnvC scope cl C' X.env) fp) ok.N ok.nd ok.calm k.blk g tg h4) (fun i hi => by rw [own_map]; exact subL_eq h3 i hi)
          (fun s H C' cl fp => sC c _ _ ifs ok.blk k.blk h8) (fun s H C' cl fp => weak (sE el WF _ (blkS S scope) false elt ok.blk k.blk h9) (of_decide_eq_true h6)) h5
        rw [own_map] at r
        exact r.2
    · cases h
  | .bm _ _ _, W, X, S, t, e, ok, k, h => by unfold chkE at h; cases h
  | .malloc a, W, X, S, t, e, ok, k, h => by
    unfold chkE at h
    obtain ⟨h1, h⟩ := b2 h
    obtain ⟨h2, h3⟩ := b2 h
    cases t with
    | true => cases h1
    | false =>
      have ha := sE a W X S false e ok k h3
      have ha' : PE X e (tK C L W H0 (ck.kd a) a) := ha
      rw [of_decide_eq_true h2] at ha'
      exact ru_malloc ha'
  | .mpop0 _, W, X, S, t, e, ok, k, h => by unfold chkE at h; cases h
theorem sEs : ∀ (as : List Ex) (W : WX) (X : Cx) (S : Sc) (n : Nat) (es : List Expr), XOk L C ck W X → ScOk S X → (n = 1 ∨ n = 2) → es.all notStar = true → chkEs ck S n as es = true → PA X es (tGs C L W H0 (LK L n as.length) as)
  | [], W, X, S, n, [], ok, k, hn, hs, h => ra_nil
  | a :: as, W, X, S, n, e :: es, ok, k, hn, hs, h => by
    unfold chkEs at h
    obtain ⟨h1, h⟩ := b2 h
    obtain ⟨h2, h3⟩ := b2 h
    exact ra_cons hn (b2 hs).1 (weak (sE a W X S false e ok k h2) (of_decide_eq_true h1)) (sEs as W X S n es ok k hn (b2 hs).2 h3)
  | [], W, X, S, n, _ :: _, ok, k, hn, hs, h => by unfold chkEs at h; cases h
  | _ :: _, W, X, S, n, [], ok, k, hn, hs, h => by unfold chkEs at h; cases h
theorem sKs : ∀ (ks : List (PySem.Str × Ex)) (W : WX) (X : Cx) (S : Sc) (kws : List Keyword), XOk L C ck W X → ScOk S X → chkKs ck S ks kws = true → PK X kws (tKs C L W H0 (ks.map (·.1)) ks)
  | [], W, X, S, [], ok, k, h => rk_nil
  | (n, a) :: ks, W, X, S, ⟨ar, v, p⟩ :: kws, ok, k, h => by
    unfold chkKs at h
    obtain ⟨h1, h⟩ := b2 h
    obtain ⟨h2, h⟩ := b2 h
    obtain ⟨h3, h4⟩ := b2 h
    have e : ar = some n := of_decide_eq_true h1
    subst e
    exact rk_cons (weak (sE a W X S false v ok k h3) (of_decide_eq_true h2)) (sKs ks W X S kws ok k h4)
  | [], W, X, S, _ :: _, ok, k, h => by unfold chkKs at h; cases h
  | _ :: _, W, X, S, [], ok, k, h => by unfold chkKs at h; cases h
theorem sO : ∀ (o : Option Ex) (W : WX) (X : Cx) (S : Sc) (e : Option Expr), XOk L C ck W X → ScOk S X → chkO ck S o e = true → PO X e (tPo C L W H0 o)
  | none, W, X, S, none, ok, k, h => ru_po0
  | some a, W, X, S, some e, ok, k, h => by
    unfold chkO at h
    exact ru_po1 (weak (sE a W X S false e ok k h) (Nat.zero_le _))
  | none, W, X, S, some _, ok, k, h => by unfold chkO at h; cases h
  | some _, W, X, S, none, ok, k, h => by unfold chkO at h; cases h
theorem sC : ∀ (o : Option Ex) (X : Cx) (S : Sc) (es : List Expr), XOk L C ck WF X → ScOk S X → chkC ck S o es = true → PTs X es (tTc C L H0 o)
  | none, X, S, [], ok, k, h => rt_none
  | some a, X, S, [e], ok, k, h => by
    unfold chkC at h
    exact rt_some (sE a WF X S true e ok k h).1
  | none, X, S, _ :: _, ok, k, h => by unfold chkC at h; cases h
  | some _, X, S, [], ok, k, h => by unfold chkC at h; cases h
  | some _, X, S, _ :: _ :: _, ok, k, h => by unfold chkC at h; cases h
theorem sIt : ∀ (it : It) (W : WX) (X : Cx) (S : Sc) (stm : Bool) (tg e : Expr), XOk L C ck W X → ScOk S X → chkIt ck S stm tg it e = true → PI X tg e (tIt C L W H0 stm it)
  | .seq a, W, X, S, stm, tg, e, ok, k, h => by
    unfold chkIt at h
    obtain ⟨h1, h2⟩ := b2 h
    exact ri_seq rfl (weak (sE a W X S false e ok k h2) (of_decide_eq_true h1))
  | .rng1 a, W, X, S, stm, tg, e, ok, k, h => by
    unfold chkIt at h
    split at h
    · rename_i n x ks q
      obtain ⟨p, p', rfl⟩ := asCall_eq q
      obtain ⟨h1, h⟩ := b2 h
      obtain ⟨h2, h⟩ := b2 h
      obtain ⟨h3, h⟩ := b2 h
      obtain ⟨h4, hh⟩ := b2 h
      obtain rfl : ks = [] := List.isEmpty_iff.mp h1
      obtain rfl : n = "range" := of_decide_eq_true h2
      exact ri_rng1 ok (gl_of k h3) h4 (weak (sE a W X S false x ok k hh) (Nat.zero_le _))
    · cases h
  | .rng2 a b, W, X, S, stm, tg, e, ok, k, h => by
    unfold chkIt at h
    split at h
    · rename_i n x y ks q
      obtain ⟨p, p', rfl⟩ := asCall_eq q
      obtain ⟨h1, h⟩ := b2 h
      obtain ⟨h2, h⟩ := b2 h
      obtain ⟨h3, h⟩ := b2 h
      obtain ⟨h4, h⟩ := b2 h
      obtain ⟨h5, h⟩ := b2 h
      obtain ⟨h6, h⟩ := b2 h
      obtain ⟨h7, h8⟩ := b2 h
      obtain rfl : ks = [] := List.isEmpty_iff.mp h1
      obtain rfl : n = "range" := of_decide_eq_true h2
      exact ri_rng2 ok (gl_of k h3) h4 h5 (weak (sE a W X S false x ok k h7) (of_decide_eq_true h6)) (weak (sE b W X S false y ok k h8) (Nat.zero_le _))
    · cases h
  | .enum a, W, X, S, stm, tg, e, ok, k, h => by
    unfold chkIt at h
    split at h
    · rename_i n x ks _ q q2
      obtain ⟨p, p', rfl⟩ := asCall_eq q
      obtain ⟨kk, tp, rfl⟩ := asTup_eq q2
      obtain ⟨h1, h⟩ := b2 h
      obtain ⟨h2, h⟩ := b2 h
      obtain ⟨h3, h⟩ := b2 h
      obtain ⟨h4, h⟩ := b2 h
      obtain ⟨h5, hh⟩ := b2 h
      obtain rfl : ks = [] := List.isEmpty_iff.mp h1
      obtain rfl : n = "enumerate" := of_decide_eq_true h2
      exact ri_enum ok rfl (gl_of k h3) h4 (weak (sE a W X S false x ok k hh) (of_decide_eq_true h5))
    · cases h
  | .zip _ _, W, X, S, stm, tg, e, ok, k, h => by unfold chkIt at h; cases h
end
end
end Nl
end
section
set_option Elab.async false
set_option linter.all false
set_option maxRecDepth 100000
set_option maxHeartbeats 2000000
/-! Nl, 15: rules of the statements. -/
namespace Nl
open PySem PySem.Spec PyProof.Rows L2

section
variable (L : Lk) (W : WX) (rk : Nat) (g0 : G) (H0 : Hp)
def SOut (g : G) (r : R Flow) (D : Ends) : Prop := match r with
  | .ok (.next e) m => ∀ g' H' σ', Ok L g' H' m → EnvOk L g' H' H0 e σ' → Post g0 H0 g' H' → Ext g g' → D.nx σ' H'
  | .ok (.brk e) m => ∀ g' H' σ', Ok L g' H' m → EnvOk L g' H' H0 e σ' → Post g0 H0 g' H' → Ext g g' → D.bk σ' H'
  | .ok (.cont e) m => ∀ g' H' σ', Ok L g' H' m → EnvOk L g' H' H0 e σ' → Post g0 H0 g' H' → Ext g g' → D.ct σ' H'
  | .ok (.ret p) m => ∀ g' H' v, Ok L g' H' m → Post g0 H0 g' H' → RK L rk H0 g' H' p v → D.rt v H'
  | .ok (.exc x e) m => ∀ g' H' σ' cls d, Ok L g' H' m → EnvOk L g' H' H0 e σ' → Post g0 H0 g' H' → Ext g g' → ExnR L g' H' x cls d → W cls d σ' H'
  | _ => False
end
section
variable (C : Calls) (L : Lk) (W : WX) (rk : Nat) (g0 : G) (H0 : Hp)
def tSt (s : St) : TS := fun D σ H => ∃ (g : G) (env : Env) (m : Mem), Ok L g H m ∧ EnvOk L g H H0 env σ ∧ Post g0 H0 g H ∧ SOut L W rk g0 H0 g (exec C s env m) D
def tSs (s : List St) : TS := fun D σ H => ∃ (g : G) (env : Env) (m : Mem), Ok L g H m ∧ EnvOk L g H H0 env σ ∧ Post g0 H0 g H ∧ SOut L W rk g0 H0 g (execs C s env m) D
end
section
variable {C : Calls} {L : Lk} {W : WX} {rk : Nat} {g0 : G} {H0 : Hp} {X : Cx} {ck : Ck} {x y z tg : Expr} {a b c : Ex} {pos : Pos} {es : List Expr} {as : List Ex}
theorem psImp {s : Stmt} {t t' : TS} (h : PS X s t) (i : ∀ D σ H, t' D σ H → t D σ H) : PS X s t' := ⟨fun pins s σ H D I q => h.run pins s σ H D I (i D σ H q)⟩
theorem pssImp {s : List Stmt} {t t' : TS} (h : PSs X s t) (i : ∀ D σ H, t' D σ H → t D σ H) : PSs X s t' := ⟨fun pins s σ H D I q => h.run pins s σ H D I (i D σ H q)⟩
theorem SOut.ext {g g1 : G} {r : R Flow} {D : Ends} (e : Ext g g1) (h : SOut L W rk g0 H0 g r D) : SOut L W rk g0 H0 g1 r D := by
  cases r with
  | ok f m =>
    cases f with
    | next en => exact fun g' H' σ' k eo q x => h g' H' σ' k eo q (e.trans x)
    | brk en => exact fun g' H' σ' k eo q x => h g' H' σ' k eo q (e.trans x)
    | cont en => exact fun g' H' σ' k eo q x => h g' H' σ' k eo q (e.trans x)
    | ret p => exact h
    | exc en x => exact fun g' H' σ' cls d k eo q x => h g' H' σ' cls d k eo q (e.trans x)
  | exc _ _ => exact h
  | stuck => exact h
/-- a first part that is an expression -/
theorem SOut.sx {α β : Type} {g : G} {H : Hp} {env : Env} {σ : L2.St} {m : Mem} {x : Py α} {f : α → Py Flow} {D : Ends} {Rl : G → Hp → α → β → Prop} {Q : β → Hp → Prop} (eo : EnvOk L g H H0 env σ) (po : Post g0 H0 g H) (h : SOut L W rk g0 H0 g (sx x env f m) D)
    (k : ∀ p m1 g1 H1 v, Ok L g1 H1 m1 → EnvOk L g1 H1 H0 env σ → Post g0 H0 g1 H1 → Post g H g1 H1 → Rl g1 H1 p v → SOut L W rk g0 H0 g1 (f p m1) D → Q v H1) : Out L W σ g H (x m) Rl Q := by
  unfold Nl.sx at h
  cases e : x m with
  | ok p m1 =>
    rw [e] at h
    exact fun g1 H1 v k1 q r => k p m1 g1 H1 v k1 (eo.post q) (po.trans q) q r (SOut.ext q.ext h)
  | exc ex m1 =>
    rw [e] at h
    exact fun g1 H1 cls d k1 q r => h g1 H1 σ cls d k1 (eo.post q) (po.trans q) q.ext r
  | stuck =>
    rw [e] at h
    exact h.elim
theorem rs_expr (hn : notComp x = true) (ha : PE X x (tK C L W H0 0 a)) : PS X (.Expr x pos) (tSt C L W rk g0 H0 (.expr a)) :=
  psImp (ps_expr ha (noSwap hn)) fun D σ H ⟨g, env, m, ok, eo, po, o⟩ => ⟨g, env, m, ok, eo, o.sx eo po fun p m1 g1 H1 v k1 eo1 po1 q r o1 => o1 g1 H1 σ k1 eo1 po1 .rfl'⟩
theorem rs_set {i : Nat} {st : Stmt} (h : PS X st (tAsg (tK C L W H0 2 a) (gName i))) : PS X st (tSt C L W rk g0 H0 (.set i a)) :=
  psImp h fun D σ H ⟨g, env, m, ok, eo, po, o⟩ => ⟨g, env, m, ok, eo, o.sx eo po fun p m1 g1 H1 v k1 eo1 po1 q r o1 => by
    by_cases hi : i < env.length
    · have o2 : SOut L W rk g0 H0 g1 ((if i < env.length then pure (.next (env.set i (.pv p))) else stuck : Py Flow) m1) D := o1
      rw [if_pos hi] at o2
      exact o2 g1 H1 _ k1 (eo1.setPv r) po1 .rfl'
    · have o2 : SOut L W rk g0 H0 g1 ((if i < env.length then pure (.next (env.set i (.pv p))) else stuck : Py Flow) m1) D := o1
      rw [if_neg hi] at o2
      exact o2.elim⟩
theorem EnvOk.setOwn {g : G} {H Hs : Hp} {gs : G} {env : Env} {σ : L2.St} {ps : List PV} {d : Addr} {vs : List V} {i : Nat} (eo : EnvOk L g H H0 env σ) (e0 : EnvOk L gs Hs H0 env σ) (h1 : H d = some (.lst vs)) (h2 : RepL L g ps vs) (h3 : g.F d = none) (h4 : d ∉ g.al) (h5 : H0 d = none) (h6 : Hs d = none) :
    EnvOk L g H H0 (env.set i (.own ps)) (σ.set i (some (.ref d))) :=
  eo.set (fun _ => ⟨d, vs, rfl, h1, h2, h3, h4, h5⟩) fun j ps' qs b hij e1 e2 e3 e4 => by
    have z : d = b := by have := Option.some.inj e3; injection this
    subst z
    obtain ⟨b, ws, w1, w2, _⟩ := e0.at_ j _ e2
    rw [e4] at w1
    have z2 : d = b := by have := Option.some.inj (Option.some.inj w1); injection this
    subst z2
    rw [h6] at w2
    cases w2
theorem rs_setOwn {i : Nat} {st : Stmt} (h : PS X st (tAsg (tK C L W H0 3 a) (gName i))) : PS X st (tSt C L W rk g0 H0 (.setOwn i a)) :=
  psImp h fun D σ H ⟨g, env, m, ok, eo, po, o⟩ => ⟨g, env, m, ok, eo, o.sx eo po fun p m1 g1 H1 v k1 eo1 po1 q r o1 => by
    cases p with
    | lst xs =>
      have o2 : SOut L W rk g0 H0 g1 ((if i < env.length then pure (.next (env.set i (.own xs))) else stuck : Py Flow) m1) D := o1
      by_cases hi : i < env.length
      · rw [if_pos hi] at o2
        obtain ⟨d, vs, rfl, h1, h2, h3, h4, h5⟩ := r
        exact o2 g1 H1 _ k1 (eo1.setOwn eo h1 h2 h3 h4 (po.there _ h5) h5) po1 .rfl'
      · rw [if_neg hi] at o2
        exact o2.elim
    | _ => exact (o1 : False).elim⟩
theorem rs_aug {i : Nat} {o : Bop} {n : PySem.Str} {p : Pos} (hN : X.N.Nodup) (hi : X.N[i]? = some n) (hx : L2.Loc X.env.scope n) (hf : X.fn n = true ∨ X.env.scope.names.lookup n = some .local) (ho : o = .add ∨ o = .sub) (ha : PE X x (tK C L W H0 0 a)) :
    PS X (.AugAssign (.Name n p) (opOf o) x pos) (tSt C L W rk g0 H0 (.aug i o a)) := by
  have main : ∀ (f : Int → Int → Int), (∀ (env : Env) (m : Mem) (j : Int), env.at i = .pv (.int j) → exec C (.aug i o a) env m = Nl.sx (ev C a env) env (fun y => match y with | .int y => pure (.next (env.set i (.pv (.int (f j y))))) | _ => stuck) m) → PIp X (opOf o) (ipI f) → PS X (.AugAssign (.Name n p) (opOf o) x pos) (tSt C L W rk g0 H0 (.aug i o a)) := by
    intro f he hp
    refine psImp (ps_aug hN hi hx ha hp hf) fun D σ H ⟨g, env, m, ok, eo, po, out⟩ => ?_
    cases q : env.at i with
    | pv w =>
      cases w with
      | int j =>
        obtain ⟨u, e, r⟩ := at_pv eo q
        obtain rfl : u = V.int j := r
        rw [he env m j q] at out
        refine ⟨_, e, g, env, m, ok, eo, out.sx eo po fun p m1 g1 H1 v k1 eo1 po1 q r o1 => ?_⟩
        cases p with
        | int y =>
          obtain rfl : v = V.int y := r
          exact ⟨j, y, rfl, rfl, o1 g1 H1 _ k1 (eo1.setPv (p := .int (f j y)) rfl) po1 .rfl'⟩
        | _ => exact (o1 : False).elim
      | _ =>
        have e : exec C (.aug i o a) env m = .stuck := by unfold exec; rw [q]; rfl
        rw [e] at out; exact out.elim
    | _ =>
      have e : exec C (.aug i o a) env m = .stuck := by unfold exec; rw [q]; rfl
      rw [e] at out; exact out.elim
  rcases ho with rfl | rfl
  · refine main (fun i j => i + j) (fun env m j q => ?_) ip_add
    unfold exec
    rw [q]
    show Nl.sx _ _ _ m = Nl.sx _ _ _ m
    congr 1
    funext y
    cases y <;> rfl
  · refine main (fun i j => i - j) (fun env m j q => ?_) ip_sub
    unfold exec
    rw [q]
    show Nl.sx _ _ _ m = Nl.sx _ _ _ m
    congr 1
    funext y
    cases y <;> rfl
theorem rs_ret (ha : PE X x (tK C L W H0 rk a)) : PS X (.Return (some x) pos) (tSt C L W rk g0 H0 (.ret a)) :=
  psImp (ps_ret ha) fun D σ H ⟨g, env, m, ok, eo, po, o⟩ => ⟨g, env, m, ok, eo, o.sx eo po fun p m1 g1 H1 v k1 eo1 po1 q r o1 => o1 g1 H1 v k1 po1 (RK.to po.there r)⟩
theorem rs_retN : PS X (.Return none pos) (tSt C L W rk g0 H0 .retN) :=
  psImp ps_retN fun D σ H ⟨g, env, m, ok, eo, po, o⟩ => o g H .non ok po (by
    match rk with
    | 0 => exact rfl
    | 1 => exact ⟨rfl, fun _ e => nomatch e⟩
    | 2 => exact rfl
    | _ + 3 => exact rfl)
theorem rs_retOwn {i : Nat} {n : PySem.Str} {p : Pos} (h1 : X.N[i]? = some n) (h2 : Vis X.env.scope n) (h3 : nameOk n = true) (hr : rk = 3) : PS X (.Return (some (.Name n p)) pos) (tSt C L W rk g0 H0 (.retOwn i)) :=
  psImp (ps_ret (pe_var h1 h2 (nameOk_eq h3).1 (nameOk_eq h3).2.1)) fun D σ H ⟨g, env, m, ok, eo, po, o⟩ => by
    have o' : SOut L W rk g0 H0 g ((match env.at i with | .own xs => pure (.ret (.lst xs)) | _ => stuck : Py Flow) m) D := o
    cases q : env.at i with
    | own ps =>
      rw [q] at o'
      obtain ⟨d, vs, e, k1, k2, k3, k4, k5⟩ := at_own eo q
      subst hr
      exact ⟨_, e, o' g H _ ok po ⟨d, vs, rfl, k1, k2, k3, k4, k5⟩⟩
    | _ => rw [q] at o'; exact o'.elim
theorem rs_pass : PS X (.Pass pos) (tSt C L W rk g0 H0 .pass) := psImp ps_pass fun D σ H ⟨g, env, m, ok, eo, po, o⟩ => o g H σ ok eo po .rfl'
theorem rs_brk : PS X (.Break pos) (tSt C L W rk g0 H0 .brk) := psImp ps_break fun D σ H ⟨g, env, m, ok, eo, po, o⟩ => o g H σ ok eo po .rfl'
theorem rs_cont : PS X (.Continue pos) (tSt C L W rk g0 H0 .cont) := psImp ps_continue fun D σ H ⟨g, env, m, ok, eo, po, o⟩ => o g H σ ok eo po .rfl'
theorem rs_bad {st : Stmt} : PS X st (tSt C L W rk g0 H0 .bad) := psImp (t := tNever) ps_never fun D σ H ⟨g, env, m, ok, eo, po, o⟩ => (o : False).elim
theorem rss_bad {sts : List Stmt} {r : List Nl.St} : PSs X sts (tSs C L W rk g0 H0 (.bad :: r)) := pssImp (t := tNever) pss_never fun D σ H ⟨g, env, m, ok, eo, po, o⟩ => (o : False).elim
theorem rs_ite {p q : List Stmt} {s t : List Nl.St} (hc : PT X z (tT C L W H0 c)) (ha : PSs X p (tSs C L W rk g0 H0 s)) (hb : PSs X q (tSs C L W rk g0 H0 t)) : PS X (.If z p q pos) (tSt C L W rk g0 H0 (.ite c s t)) :=
  psImp (ps_if hc ha hb) fun D σ H ⟨g, env, m, ok, eo, po, o⟩ => ⟨g, env, m, ok, eo, SOut.sx eo po (show SOut L W rk g0 H0 g (Nl.sx (do let x ← ev C c env; truthP x) env (fun r => if r then execs C s env else execs C t env) m) D from o) fun p m1 g1 H1 v k1 eo1 po1 q r o1 => by
    subst r
    cases v with
    | true => rw [if_pos rfl]; exact ⟨g1, env, m1, k1, eo1, po1, o1⟩
    | false => rw [if_neg (by simp)]; exact ⟨g1, env, m1, k1, eo1, po1, o1⟩⟩
theorem rss_nil : PSs X [] (tSs C L W rk g0 H0 []) := pssImp pss_nil fun D σ H ⟨g, env, m, ok, eo, po, o⟩ => o g H σ ok eo po .rfl'
theorem sout_cons {s : Nl.St} {r : List Nl.St} {env : Env} {m : Mem} {D : Ends} {g : G} (o : SOut L W rk g0 H0 g (execs C (s :: r) env m) D) : SOut L W rk g0 H0 g (exec C s env m) { D with nx := tSs C L W rk g0 H0 r D } := by
  have o' : SOut L W rk g0 H0 g (Py.and (exec C s env) (fun f => match f with | .next e' => execs C r e' | f => Py.ret f) m) D := o
  unfold Py.and at o'
  cases e : exec C s env m with
  | ok f m1 =>
    rw [e] at o'
    cases f with
    | next e' => exact fun g' H' σ' k eo q x => ⟨g', e', m1, k, eo, q, SOut.ext x o'⟩
    | brk _ => exact o'
    | cont _ => exact o'
    | ret _ => exact o'
    | exc _ _ => exact o'
  | exc _ _ => rw [e] at o'; exact o'
  | stuck => rw [e] at o'; exact o'
theorem rss_cons {st : Stmt} {sts : List Stmt} {s : Nl.St} {r : List Nl.St} (h1 : PS X st (tSt C L W rk g0 H0 s)) (h2 : PSs X sts (tSs C L W rk g0 H0 r)) : PSs X (st :: sts) (tSs C L W rk g0 H0 (s :: r)) :=
  pssImp (pss_cons h1 h2) fun D σ H ⟨g, env, m, ok, eo, po, o⟩ => ⟨g, env, m, ok, eo, po, sout_cons o⟩
/-- a list of one's own stands for good from here -/
theorem rss_freeze {sts : List Stmt} {i : Nat} {r : List Nl.St} (h2 : PSs X sts (tSs C L W rk g0 H0 r)) : PSs X sts (tSs C L W rk g0 H0 (.freeze i :: r)) :=
  pssImp h2 fun D σ H ⟨g, env, m, ok, eo, po, o⟩ => by
    have o1 := sout_cons o
    have o2 : SOut L W rk g0 H0 g ((match env.at i with | .own xs => pure (.next (env.set i (.pv (.lst xs)))) | _ => pure (.next env) : Py Flow) m) { D with nx := tSs C L W rk g0 H0 r D } := o1
    cases q : env.at i with
    | own ps =>
      rw [q] at o2
      obtain ⟨d, vs, e, k1, k2, k3, k4, k5⟩ := at_own eo q
      have ex := ext_add (o := .lst vs) k3
      refine o2 (g.add d (.lst vs)) H σ (ok.add k3 k4 (.inl k1)) ?_ (post_add k3 po k5) ex
      have eo2 : EnvOk L (g.add d (.lst vs)) H H0 (env.set i .no) σ := by
        refine ⟨by rw [List.length_set, eo.len], fun j s hs => ?_, fun j k' ps' qs b hjk h1 h2 h3 h4 => ?_⟩
        · rcases set_at hs with ⟨rfl, rfl⟩ | ⟨hij, hs⟩
          · trivial
          · have z := eo.at_ j s hs
            cases s with
            | no => trivial
            | pv p =>
              obtain ⟨u, e1, r1⟩ := z
              exact ⟨u, e1, r1.mono ex⟩
            | own qs =>
              obtain ⟨b, ws, e1, w1, w2, w3, w4, w5⟩ := z
              refine ⟨b, ws, e1, w1, w2.mono ex, ?_, w4, w5⟩
              show (if b = d then some (HO.lst vs) else g.F b) = none
              have ne : b ≠ d := by
                rintro rfl
                have hi : env[i]? = some (.own ps) := by
                  have hl : i < env.length := by
                    rcases Nat.lt_or_ge i env.length with q' | q'
                    · exact q'
                    · have : env.at i = .no := by show env.getD i .no = .no; rw [List.getD_eq_getElem?_getD, List.getElem?_eq_none q']; rfl
                      rw [this] at q; cases q
                  have : env.at i = env[i] := by show env.getD i .no = _; rw [List.getD_eq_getElem?_getD, List.getElem?_eq_getElem hl]; rfl
                  rw [List.getElem?_eq_getElem hl, ← this, q]
                exact eo.apart i j ps qs b hij hi hs e e1
              rw [if_neg ne, w3]
            | ownD _ => exact z.elim
        · rcases set_at h1 with ⟨_, z⟩ | ⟨_, h1⟩
          · cases z
          · rcases set_at h2 with ⟨_, z⟩ | ⟨_, h2⟩
            · cases z
            · exact eo.apart j k' ps' qs b hjk h1 h2 h3 h4
      have rp : Rep L (g.add d (.lst vs)) (.lst ps) (.ref d) := by
        unfold Rep
        exact ⟨d, vs, rfl, if_pos rfl, k2.mono ex⟩
      have hl : i < σ.length := (List.getElem?_eq_some_iff.mp e).1
      have eo3 := eo2.setPv (i := i) rp
      rw [List.set_set] at eo3
      have es : σ.set i (some (.ref d)) = σ := by
        refine List.ext_getElem? fun j => ?_
        rw [List.getElem?_set]
        by_cases z : i = j
        · subst z; rw [if_pos rfl, if_pos hl, e]
        · rw [if_neg z]
      rw [es] at eo3
      exact eo3
    | no => rw [q] at o2; exact o2 g H σ ok eo po .rfl'
    | pv _ => rw [q] at o2; exact o2 g H σ ok eo po .rfl'
    | ownD _ => rw [q] at o2; exact o2 g H σ ok eo po .rfl'
end
end Nl
end
section
set_option Elab.async false
set_option linter.all false
set_option maxRecDepth 100000
set_option maxHeartbeats 2000000
/-! Nl, 16: loops, own lists, the memory's lists. -/
namespace Nl
open PySem PySem.Spec PyProof.Rows L2
section
variable {C : Calls} {L : Lk} {W : WX} {rk : Nat} {g0 : G} {H0 : Hp} {X : Cx} {ck : Ck} {x y z tg iter : Expr} {a b c : Ex} {pos : Pos} {es : List Expr} {as : List Ex}
theorem rs_for {t : Tg} {it : It} {body : List Stmt} {bs : List Nl.St} (hp : PassesOwn (model X.prog X.w) X.A X.env X.xe) (hc : X.calm = true) (hi : PI X tg iter (tIt C L W H0 true it)) (hg : PG X tg (gT L H0 t)) (hb : PSs X body (tSs C L W rk g0 H0 bs)) (hs : notSet iter = true) :
    PS X (.For tg iter body [] pos) (tSt C L W rk g0 H0 (.for_ t it bs)) :=
  psImp (ps_for hp hc hi hg hb (notSet_eq hs)) fun D σ H ⟨g, env, m, ok, eo, po, o⟩ => by
    generalize hF : (fun x e => match setTg t x e with
      | some e' => execs C bs e'
      | none => stuck : PV → Env → Py Flow) = F at *
    have o' : SOut L W rk g0 H0 g (sx (evIt C it env) env (fun xs => forL F xs env) m) D := by rw [← hF]; exact o
    have hF' : ∀ x e, F x e = (match setTg t x e with
      | some e' => execs C bs e'
      | none => stuck) := fun x e => by rw [← hF]
    refine ⟨g, env, m, ok, eo, o'.sx eo po fun xs m1 g1 H1 J k1 eo1 po1 q1 r1 o1 => ?_⟩
    let St : Nat → L2.St → Hp → Prop := fun i σ' H' => ∃ (g' : G) (env' : Env) (m' : Mem), Ok L g' H' m' ∧ EnvOk L g' H' H0 env' σ' ∧ Post g0 H0 g' H' ∧ Ext g1 g' ∧ SOut L W rk g0 H0 g' (forL F (xs.drop i) env' m') D
    refine ⟨fun i mm σ' H' => mm = xs.length - i ∧ i ≤ xs.length ∧ St i σ' H', ⟨xs.length, by simp, Nat.zero_le _, g1, env, m1, k1, eo1, po1, .rfl', o1⟩, ?_⟩
    rintro i mm σ' H' ⟨rfl, hi', g', env', m', k', eo', po', ex, o2⟩
    have pf : Pf true g1 H1 g' H' := by unfold Pf; rw [if_pos rfl]; exact ex
    rcases Nat.lt_or_ge i xs.length with hlt | hge
    · refine .inr ⟨r1.go i g' H' m' k' pf hlt, St (i + 1), fun σ2 H2 s2 => ⟨xs.length - (i + 1), by omega, rfl, hlt, s2⟩, fun x H2 hy => ?_⟩
      obtain ⟨g2, k2, q2, r2⟩ := r1.yld i g' H' m' x H2 k' pf hlt hy
      have e1 : xs.drop i = xs[i] :: xs.drop (i + 1) := List.drop_eq_getElem_cons hlt
      rw [e1] at o2
      have o3 : SOut L W rk g0 H0 g' (Py.and (F xs[i] env') (fun f => match f with
        | .next e' => forL F (xs.drop (i + 1)) e'
        | .cont e' => forL F (xs.drop (i + 1)) e'
        | .brk e' => Py.ret (.next e')
        | .ret p => Py.ret (.ret p)
        | .exc ex e' => Py.ret (.exc ex e')) m') D := o2
      rw [hF'] at o3
      cases est : setTg t xs[i] env' with
      | none => rw [est] at o3; exact o3.elim
      | some e2 =>
        rw [est] at o3
        refine ⟨g2, env', e2, xs[i], m', k2, eo'.post q2, r2, est, fun σ2 eo2 _ => ⟨g2, e2, m', k2, eo2, po'.trans q2, ?_⟩⟩
        unfold Py.and at o3
        dsimp only at o3
        have exx := ex.trans q2.ext
        cases eb : execs C bs e2 m' with
        | ok f m3 =>
          rw [eb] at o3
          cases f with
          | next e3 => exact fun g3 H3 σ3 k3 eo3 po3 x3 => ⟨g3, e3, m3, k3, eo3, po3, exx.trans x3, SOut.ext (q2.ext.trans x3) o3⟩
          | cont e3 => exact fun g3 H3 σ3 k3 eo3 po3 x3 => ⟨g3, e3, m3, k3, eo3, po3, exx.trans x3, SOut.ext (q2.ext.trans x3) o3⟩
          | brk e3 => exact fun g3 H3 σ3 k3 eo3 po3 x3 => o3 g3 H3 σ3 k3 eo3 po3 (q2.ext.trans x3)
          | ret p => exact o3
          | exc ee e3 => exact fun g3 H3 σ3 cls d k3 eo3 po3 x3 => o3 g3 H3 σ3 cls d k3 eo3 po3 (q2.ext.trans x3)
        | exc _ _ => rw [eb] at o3; exact o3
        | stuck => rw [eb] at o3; exact o3
    · obtain rfl : i = xs.length := Nat.le_antisymm hi' hge
      rw [List.drop_length] at o2
      exact .inl ⟨r1.stop g' H' m' k' pf, o2 g' H' σ' k' eo' po' .rfl'⟩
theorem rs_while {body : List Stmt} {bs : List Nl.St} (hp : PassesOwn (model X.prog X.w) X.A X.env X.xe) (hc : PT X z (tT C L W H0 c)) (hb : PSs X body (tSs C L W rk g0 H0 bs)) : PS X (.While z body [] pos) (tSt C L W rk g0 H0 (.while_ c bs)) :=
  psImp (ps_while hp hc hb) fun D σ H ⟨g, env, m, ok, eo, po, o⟩ => by
    refine ⟨fun n σ' H' => ∃ (g' : G) (env' : Env) (m' : Mem), Ok L g' H' m' ∧ EnvOk L g' H' H0 env' σ' ∧ Post g0 H0 g' H' ∧ SOut L W rk g0 H0 g' (whileL (fun e => do let x ← ev C c e; truthP x) (fun e => execs C bs e) n env' m') D, ⟨whileFuel, g, env, m, ok, eo, po, o⟩, ?_⟩
    rintro n σ' H' ⟨g', env', m', k', eo', po', o'⟩
    cases n with
    | zero => exact o'.elim
    | succ n =>
      refine ⟨g', env', m', k', eo', SOut.sx eo' po' (show SOut L W rk g0 H0 g' (sx (do let x ← ev C c env'; truthP x) env' (fun b => if b then (Py.and (execs C bs env') fun f => match f with
        | .next e' => whileL (fun e => do let x ← ev C c e; truthP x) (fun e => execs C bs e) n e'
        | .cont e' => whileL (fun e => do let x ← ev C c e; truthP x) (fun e => execs C bs e) n e'
        | .brk e' => Py.ret (.next e')
        | .ret p => Py.ret (.ret p)
        | .exc ex e' => Py.ret (.exc ex e')) else Py.ret (.next env')) m') D from o') fun p m1 g1 H1 v k1 eo1 po1 q r o1 => ?_⟩
      subst r
      cases v with
      | false =>
        rw [if_neg (by simp)] at o1 ⊢
        exact o1 g1 H1 σ' k1 eo1 po1 .rfl'
      | true =>
        rw [if_pos rfl] at o1 ⊢
        refine ⟨fun σ2 H2 => ∃ (g' : G) (env' : Env) (m' : Mem), Ok L g' H2 m' ∧ EnvOk L g' H2 H0 env' σ2 ∧ Post g0 H0 g' H2 ∧ SOut L W rk g0 H0 g' (whileL (fun e => do let x ← ev C c e; truthP x) (fun e => execs C bs e) n env' m') D, fun σ2 H2 s2 => ⟨n, Nat.lt_succ_self n, s2⟩, g1, env', m1, k1, eo1, po1, ?_⟩
        unfold Py.and at o1
        dsimp only at o1
        cases eb : execs C bs env' m1 with
        | ok f m3 =>
          rw [eb] at o1
          cases f with
          | next e3 => exact fun g3 H3 σ3 k3 eo3 po3 x3 => ⟨g3, e3, m3, k3, eo3, po3, SOut.ext x3 o1⟩
          | cont e3 => exact fun g3 H3 σ3 k3 eo3 po3 x3 => ⟨g3, e3, m3, k3, eo3, po3, SOut.ext x3 o1⟩
          | brk e3 => exact o1
          | ret p => exact o1
          | exc ee e3 => exact o1
        | exc _ _ => rw [eb] at o1; exact o1
        | stuck => rw [eb] at o1; exact o1

/-! ### own lists -/
theorem own_ix {g : G} {H : Hp} {env : Env} {σ : L2.St} (eo : EnvOk L g H H0 env σ) {i : Nat} {ps : List PV} (q : env.at i = .own ps) : env[i]? = some (.own ps) := by
  have hl : i < env.length := by
    rcases Nat.lt_or_ge i env.length with q' | q'
    · exact q'
    · have : env.at i = .no := by show env.getD i .no = .no; rw [List.getD_eq_getElem?_getD, List.getElem?_eq_none q']; rfl
      rw [this] at q; cases q
  have : env.at i = env[i] := by show env.getD i .no = _; rw [List.getD_eq_getElem?_getD, List.getElem?_eq_getElem hl]; rfl
  rw [List.getElem?_eq_getElem hl, ← this, q]
/-- the own list at slot i is written -/
theorem EnvOk.write {g : G} {H : Hp} {env : Env} {σ : L2.St} {i : Nat} {ps ps' : List PV} {d : Addr} {vs' : List V} (eo : EnvOk L g H H0 env σ) (q : env.at i = .own ps) (e : σ[i]? = some (some (.ref d))) (r : RepL L g ps' vs') : EnvOk L g (upd H d (.lst vs')) H0 (env.set i (.own ps')) σ := by
  have hi := own_ix eo q
  obtain ⟨d', vs, e', h1, h2, h3, h4, h5⟩ := eo.at_ i _ hi
  have z : d' = d := by rw [e] at e'; injection e' with e'; injection e' with e'; injection e' with e'; exact e'.symm
  subst z
  refine ⟨by rw [List.length_set, eo.len], fun j s hs => ?_, fun j k' qs1 qs2 b hjk w1 w2 w3 w4 => ?_⟩
  · rcases set_at hs with ⟨rfl, rfl⟩ | ⟨hij, hs⟩
    · exact ⟨d', vs', e, upd_same, r, h3, h4, h5⟩
    · have z := eo.at_ j s hs
      cases s with
      | no => trivial
      | pv p => exact z
      | own qs =>
        obtain ⟨b, ws, e1, w1, w2, w3, w4, w5⟩ := z
        have ne : b ≠ d' := fun hb => by subst hb; exact eo.apart i j ps qs b hij hi hs e e1
        exact ⟨b, ws, e1, by rw [upd_ne ne]; exact w1, w2, w3, w4, w5⟩
      | ownD _ => exact z.elim
  · rcases set_at w1 with ⟨rfl, _⟩ | ⟨hij, w1⟩
    · rcases set_at w2 with ⟨rfl, _⟩ | ⟨_, w2⟩
      · exact hjk rfl
      · exact eo.apart i k' ps qs2 b hjk hi w2 w3 w4
    · rcases set_at w2 with ⟨rfl, _⟩ | ⟨_, w2⟩
      · exact eo.apart j i qs1 ps b hjk w1 hi w3 w4
      · exact eo.apart j k' qs1 qs2 b hjk w1 w2 w3 w4
theorem bm_ok {cpos : Pos} {e : Expr} {es : List Expr} (hs : (e :: es).all notStar = true) (hl : (e :: es).length < 20) : ((backTo cpos (starEach (e :: es) X.env)).all (fun x => !x.1) && (backToKw cpos (keywordEach [] X.env)).all (fun x => x.1.isSome)
      && decide ((e :: es).length + ([] : List Keyword).length + (if ([] : List Keyword).isEmpty then 0 else 1) < 30)) = true := by
  have h1 : ∀ {es : List Expr}, es.all notStar = true → (backTo cpos (starEach es X.env)).all (fun x => !x.1) = true := by
    intro es
    induction es with
    | nil => intro _; rfl
    | cons e es ih =>
      intro h
      have z := b2 h
      rw [starEach_cons z.1]
      show (true && (backTo cpos (starEach es X.env)).all (fun x => !x.1)) = true
      rw [ih z.2]; rfl
  rw [h1 hs]
  have h2 : (e :: es).length + ([] : List Keyword).length + (if ([] : List Keyword).isEmpty then 0 else 1) < 30 := by
    show (e :: es).length + 0 + 0 < 30
    omega
  simp only [Bool.and_eq_true, decide_eq_true_eq]
  exact ⟨⟨trivial, rfl⟩, h2⟩
theorem own_no {α : Type} {g : G} {env : Env} {m : Mem} {i : Nat} {f : List PV → Py Flow} {D : Ends} (o : SOut L W rk g0 H0 g ((match env.at i with | .own xs => f xs | _ => stuck : Py Flow) m) D) : ∃ xs, env.at i = .own xs ∧ SOut L W rk g0 H0 g (f xs m) D := by
  cases q : env.at i with
  | own xs => rw [q] at o; exact ⟨xs, rfl, o⟩
  | _ => rw [q] at o; exact o.elim
/-- the own list of slot i where other things ran -/
theorem own_now {g g1 : G} {H H1 : Hp} {env : Env} {σ : L2.St} (eo : EnvOk L g H H0 env σ) (eo1 : EnvOk L g1 H1 H0 env σ) {i : Nat} {ps : List PV} (q : env.at i = .own ps) {d : Addr} (e : σ[i]? = some (some (.ref d))) :
    ∃ vs, H1 d = some (.lst vs) ∧ RepL L g1 ps vs ∧ g1.F d = none ∧ d ∉ g1.al ∧ H0 d = none := by
  obtain ⟨d', vs, e', h1, h2, h3, h4, h5⟩ := at_own eo1 q
  have z : d' = d := by rw [e] at e'; injection e' with e'; injection e' with e'; injection e' with e'; exact e'.symm
  subst z
  exact ⟨vs, h1, h2, h3, h4, h5⟩
theorem rs_append {i : Nat} {n : PySem.Str} {p apos cpos : Pos} (hi : X.N[i]? = some n) (hv : Vis X.env.scope n) (hn : nameOk n = true) (hl : (apos.endLine == cpos.line) = true) (hs : notStar x = true) (ha : PE X x (tK C L W H0 2 a)) :
    PS X (.Expr (.Call (.Attribute (.Name n p) "append" apos) [x] [] cpos) pos) (tSt C L W rk g0 H0 (.append i a)) :=
  psImp (ps_expr (pe_bm F.plainAttrs_list F.slot_list_append F.type_list_append mt_append (pe_var hi hv (nameOk_eq hn).1 (nameOk_eq hn).2.1) (pa_cons ha pa_nil (starEach_cons hs)) rfl (bm_ok (by simp [hs]) (by simp)) hl (starEach_cons hs) rfl) rfl) fun D σ H ⟨g, env, m, ok, eo, po, o⟩ => by
    obtain ⟨ps, q, o'⟩ := own_no (α := Unit) (f := fun xs => sx (ev C a env) env fun p => if fits xs.length then pure (.next (env.set i (.own (xs ++ [p])))) else stuck) o
    obtain ⟨d, vs, e, h1, h2, h3, h4, h5⟩ := at_own eo q
    refine ⟨_, e, .inl ⟨rfl, vs, SqL.of h1⟩, g, env, m, ok, eo, o'.sx eo po fun p m1 g1 H1 v k1 eo1 po1 q1 r o1 => ?_⟩
    obtain ⟨vs1, w1, w2, w3, w4, w5⟩ := own_now eo eo1 q e
    by_cases hz : fits ps.length = true
    · rw [if_pos hz] at o1
      refine ⟨d, vs1, v, rfl, rfl, w1, by rw [← w2.length]; exact Nat.lt_of_le_of_lt (fits_le hz) (by decide), ?_⟩
      exact o1 g1 _ σ (k1.own w3 w4) (eo1.write q e (w2.append (.cons r .nil))) (po1.own w5) .rfl'
    · rw [if_neg hz] at o1; exact o1.elim
theorem rs_insert {i : Nat} {n : PySem.Str} {p apos cpos : Pos} (hi : X.N[i]? = some n) (hv : Vis X.env.scope n) (hn : nameOk n = true) (hl : (apos.endLine == cpos.line) = true) (hs : notStar x = true) (hs2 : notStar y = true) (ha : PE X x (tK C L W H0 2 a)) (hb : PE X y (tK C L W H0 2 b)) :
    PS X (.Expr (.Call (.Attribute (.Name n p) "insert" apos) [x, y] [] cpos) pos) (tSt C L W rk g0 H0 (.insert i a b)) :=
  psImp (ps_expr (pe_bm F.plainAttrs_list F.slot_list_insert F.type_list_insert mt_insert (pe_var hi hv (nameOk_eq hn).1 (nameOk_eq hn).2.1) (ra_cons (.inr rfl) hs ha (ra_cons (.inr rfl) hs2 hb ra_nil)) rfl (bm_ok (by simp [hs, hs2]) (by simp)) hl (starEach_cons hs) (starEach_none (by simp [hs2]))) rfl) fun D σ H ⟨g, env, m, ok, eo, po, o⟩ => by
    obtain ⟨ps, q, o'⟩ := own_no (α := Unit) (f := fun xs => sx (evs C [a, b] env) env fun l => match l with
      | [.int j, p] => if fits xs.length && decide (0 ≤ j) && decide (j ≤ xs.length) then pure (.next (env.set i (.own (xs.take j.toNat ++ [p] ++ xs.drop j.toNat)))) else stuck
      | _ => stuck) o
    obtain ⟨d, vs, e, h1, h2, h3, h4, h5⟩ := at_own eo q
    refine ⟨_, e, .inl ⟨rfl, vs, SqL.of h1⟩, g, env, m, ok, eo, o'.sx eo po fun l m1 g1 H1 lv k1 eo1 po1 q1 r o1 => ?_⟩
    obtain ⟨vs1, w1, w2, w3, w4, w5⟩ := own_now eo eo1 q e
    obtain ⟨r, _⟩ := r
    split at o1
    · rename_i j p _
      obtain ⟨u1, l1, e1, r1, r2⟩ := r
      obtain ⟨u2, l2, e2, r2, e3⟩ := r2
      have e3 : l2 = [] := e3
      subst e3 e2 e1
      obtain rfl : u1 = V.int j := r1
      by_cases hz : (fits ps.length && decide (0 ≤ j) && decide (j ≤ ps.length)) = true
      · rw [if_pos hz] at o1
        obtain ⟨z1, z2⟩ := b2 hz
        obtain ⟨z1, z3⟩ := b2 z1
        have y1 := of_decide_eq_true z2
        have y2 := of_decide_eq_true z3
        have y3 := fits_le z1
        refine ⟨d, vs1, j, u2, rfl, rfl, w1, by rw [← w2.length]; exact Nat.lt_of_le_of_lt y3 (by decide), y2, by omega, ?_⟩
        exact o1 g1 _ σ (k1.own w3 w4) (eo1.write q e (((w2.take _).append (.cons r2 .nil)).append (w2.drop _))) (po1.own w5) .rfl'
      · rw [if_neg hz] at o1
        exact o1.elim
    · exact o1.elim
theorem assign_sub {o i : Expr} {pos : Pos} {env : PySem.Env} (h : notSlice i = true) (v : Value) : assign (.Subscript o i pos) env v = (do let ov ← holding [v] (eval o env); let iv ← holding [v, ov] (eval i env); standAt pos; holding [v, ov, iv] (setItem ov iv v); release [v, ov, iv] []) := by
  cases i <;> first | rfl | (cases h)
theorem sws_sub {o i e : Expr} {p : Pos} {l : Nat} {env : PySem.Env} : swapsWithSole [.Subscript o i p] e l env = pure false := by
  cases e <;> rfl
theorem rs_setIx {i : Nat} {n : PySem.Str} {p p2 : Pos} (hi : X.N[i]? = some n) (hv : Vis X.env.scope n) (hn : nameOk n = true) (hs : notSlice y = true) (ha : PE X x (tK C L W H0 2 a)) (hb : PE X y (tK C L W H0 0 b)) :
    PS X (.Assign [.Subscript (.Name n p) y p2] x pos) (tSt C L W rk g0 H0 (.setIx i b a)) :=
  psImp (ps_asg ha (pg_sub (pe_var hi hv (nameOk_eq hn).1 (nameOk_eq hn).2.1) hb set_list (assign_sub hs)) sws_sub rfl rfl) fun D σ H ⟨g, env, m, ok, eo, po, o⟩ => by
    obtain ⟨ps, q, o'⟩ := own_no (α := Unit) (f := fun xs => sx (ev C a env) env fun p => sx (ev C b env) env fun j => match j with
      | .int j => match L2.ixN xs.length j with
        | some n => pure (.next (env.set i (.own (xs.set n p))))
        | none => stuck
      | _ => stuck) o
    obtain ⟨d, vs, e, h1, h2, h3, h4, h5⟩ := at_own eo q
    refine ⟨g, env, m, ok, eo, o'.sx eo po fun p m1 g1 H1 v k1 eo1 po1 q1 r o1 => ⟨_, e, g1, env, m1, k1, eo1, o1.sx eo1 po1 fun j m2 g2 H2 u k2 eo2 po2 q2 r2 o2 => ?_⟩⟩
    obtain ⟨vs1, w1, w2, w3, w4, w5⟩ := own_now eo eo2 q e
    cases j with
    | int j =>
      obtain rfl : u = V.int j := r2
      have o3 : SOut L W rk g0 H0 g2 ((match L2.ixN ps.length j with | some n => pure (.next (env.set i (.own (ps.set n p)))) | none => stuck : Py Flow) m2) D := o2
      cases z : L2.ixN ps.length j with
      | none => rw [z] at o3; exact o3.elim
      | some k =>
        rw [z] at o3
        refine ⟨d, vs1, j, k, rfl, rfl, w1, by rw [← w2.length]; exact z, ?_⟩
        exact o3 g2 _ σ (k2.own w3 w4) (eo2.write q e (w2.set (Rep.mono q2.ext r) k)) (po2.own w5) .rfl'
    | _ => exact (o2 : False).elim

/-! ### the memory's lists -/
theorem Ok.put {g : G} {H : Hp} {m : Mem} {d : Addr} {n : Nat} {ps : List PV} {vs : List V} (k : Ok L g H m) (h : g.al[n]? = some d) (r : RepL L g ps vs) : Ok L g (upd H d (.lst vs)) (m.set n (.lst ps)) := by
  have mem : d ∈ g.al := List.mem_iff_getElem?.mpr ⟨n, h⟩
  refine ⟨fun b u e => (k.sub b u e).keep fun o z => ?_, by rw [List.length_set]; exact k.len, k.nd, fun j b u h1 h2 => ?_⟩
  · rw [upd_ne (fun w => k.FnotAl e (by rw [w]; exact mem))]; exact z
  · by_cases hj : n = j
    · subst hj
      rw [h] at h1; cases h1
      rw [List.getElem?_set_self (by rw [← k.len]; exact (List.getElem?_eq_some_iff.mp h).1)] at h2
      cases h2
      refine ⟨?_, vs, upd_same, r⟩
      cases z : g.F d with
      | none => rfl
      | some o => exact absurd mem (k.FnotAl z)
    · rw [List.getElem?_set_ne hj] at h2
      obtain ⟨z1, z2⟩ := k.obj j b u h1 h2
      have ne : b ≠ d := by
        rintro rfl
        have l1 := (List.getElem?_eq_some_iff.mp h).1
        have l2 := (List.getElem?_eq_some_iff.mp h1).1
        have e1 := (List.getElem?_eq_some_iff.mp h).2
        have e2 := (List.getElem?_eq_some_iff.mp h1).2
        have pw := List.pairwise_iff_getElem.mp k.nd
        rcases Nat.lt_or_gt_of_ne hj with q | q
        · exact pw n j l1 l2 q (e1.trans e2.symm)
        · exact pw j n l2 l1 q (e2.trans e1.symm)
      exact ⟨z1, z2.keep .rfl' fun o e => by rw [upd_ne ne]; exact e⟩
theorem Post.put {gb g : G} {Hb H : Hp} {d : Addr} {o : HO} (q : Post gb Hb g H) (h : d ∈ g.al) : Post gb Hb g (upd H d o) := by
  refine ⟨q.ext, fun b u e n => ?_, q.newF, q.newA, fun b e => ?_⟩
  · have ne : b ≠ d := by
      rintro rfl
      rcases q.newA b h with z | z
      · exact n z
      · rw [e] at z; cases z
    rw [upd_ne ne]
    exact q.keep b u e n
  · by_cases z : b = d
    · rw [z, upd_same] at e; cases e
    · rw [upd_ne z] at e; exact q.there b e
def WOut (L : Lk) (H0 : Hp) (gb : G) (Hb : Hp) (r : R Env) (Q : L2.St → Hp → Prop) : Prop := match r with
  | .ok e m => ∀ g' H' σ', Ok L g' H' m → EnvOk L g' H' H0 e σ' → Post gb Hb g' H' → Q σ' H'
  | _ => False
theorem WOut.bind {α β : Type} {gb g : G} {Hb H : Hp} {σ : L2.St} {m : Mem} {x : Py α} {f : α → Py Env} {Rl : G → Hp → α → β → Prop} {Q : L2.St → Hp → Prop} {Q1 : β → Hp → Prop} (h : WOut L H0 gb Hb ((x >>= f) m) Q) (q : Post gb Hb g H)
    (k : ∀ p m1 g1 H1 v, Ok L g1 H1 m1 → Post g H g1 H1 → Post gb Hb g1 H1 → Rl g1 H1 p v → WOut L H0 gb Hb (f p m1) Q → Q1 v H1) : Out L WF σ g H (x m) Rl Q1 := by
  have h' : WOut L H0 gb Hb (Py.and x f m) Q := h
  unfold Py.and at h'
  cases e : x m with
  | ok p m1 => rw [e] at h'; exact fun g1 H1 v k1 q1 r => k p m1 g1 H1 v k1 q1 (q.trans q1) r h'
  | exc _ _ => rw [e] at h'; exact h'.elim
  | stuck => rw [e] at h'; exact h'.elim
def gW (C : Calls) (L : Lk) (H0 : Hp) (w : Wg) : TG := fun v σ H Q => ∃ (gb g : G) (Hb : Hp) (env : Env) (p : PV) (m : Mem), Ok L g H m ∧ EnvOk L g H H0 env σ ∧ Post gb Hb g H ∧ Rep L g p v ∧ WOut L H0 gb Hb (setW C w p env m) Q
def gWs (C : Calls) (L : Lk) (H0 : Hp) (ws : List Wg) : TGs := fun vs σ H Q => ∃ (gb g : G) (Hb : Hp) (env : Env) (ps : List PV) (m : Mem), Ok L g H m ∧ EnvOk L g H H0 env σ ∧ Post gb Hb g H ∧ RepL L g ps vs ∧ WOut L H0 gb Hb (setWs C ws ps env m) Q
theorem rg_g {t : Tg} (h : PG X x (gT L H0 t)) : PG X x (gW C L H0 (.g t)) := pgImp h fun v σ H Q ⟨gb, g, Hb, env, p, m, ok, eo, po, r, o⟩ => by
  have o' : WOut L H0 gb Hb ((ofO (setTg t p env) : Py Env) m) Q := o
  cases e : setTg t p env with
  | none => rw [e] at o'; exact o'.elim
  | some env' => rw [e] at o'; exact ⟨g, env, env', p, m, ok, eo, r, e, fun σ' eo' _ => o' g H σ' ok eo' po⟩
theorem rg_ix {pos : Pos} (hs : notSlice y = true) (ha : PE X x (tK C L WF H0 2 a)) (hb : PE X y (tK C L WF H0 0 b)) : PG X (.Subscript x y pos) (gW C L H0 (.ix a b)) := pgImp (pg_sub ha hb set_list (assign_sub hs)) fun v σ H Q ⟨gb, g, Hb, env, p, m, ok, eo, po, r, o⟩ =>
  ⟨g, env, m, ok, eo, WOut.bind o po fun p1 m1 g1 H1 v1 k1 q1 po1 r1 o1 => ⟨g1, env, m1, k1, eo.post q1, WOut.bind o1 po1 fun p2 m2 g2 H2 v2 k2 q2 po2 r2 o2 => by
    cases p1 with
    | ref n =>
      cases p2 with
      | int j =>
        obtain rfl : v2 = V.int j := r2
        have r1' : Rep L g2 (.ref n) v1 := Rep.mono q2.ext r1
        unfold Rep at r1'
        obtain ⟨d, rfl, hd⟩ := r1'
        have o3 : WOut L H0 gb Hb (Py.and (mlst n) (fun xs => match L2.ixN xs.length j with | some k => Py.and (mput n (xs.set k p)) fun _ => Py.ret env | none => stuck) m2) Q := o2
        unfold Py.and mlst at o3
        cases e : m2[n]? with
        | none => rw [e] at o3; exact o3.elim
        | some ob =>
          cases ob with
          | ins _ _ => rw [e] at o3; exact o3.elim
          | lst ps =>
            rw [e] at o3
            dsimp only at o3
            obtain ⟨_, vs, h1, h2⟩ := k2.obj n d _ hd e
            cases z : L2.ixN ps.length j with
            | none => rw [z] at o3; exact o3.elim
            | some k =>
              rw [z] at o3
              refine ⟨d, vs, j, k, rfl, rfl, h1, by rw [← h2.length]; exact z, ?_⟩
              have o4 : WOut L H0 gb Hb (.ok env (m2.set n (.lst (ps.set k p))) : R Env) Q := o3
              have mem : d ∈ g2.al := List.mem_iff_getElem?.mpr ⟨n, hd⟩
              have eo2 := (eo.post q1).post q2
              exact o4 g2 _ σ (k2.put hd (h2.set (Rep.mono (q1.ext.trans q2.ext) r) k)) (eo2.post (Post.put .rfl' mem)) (po2.put mem)
      | _ => exact (o2 : False).elim
    | _ => exact (o2 : False).elim⟩⟩
theorem rgs_nil : PGs X [] (gWs C L H0 []) := pgsImp pgs_nil fun vs σ H Q ⟨gb, g, Hb, env, ps, m, ok, eo, po, r, o⟩ => by
  cases ps with
  | nil => exact ⟨r.nil_inv, o g H σ ok eo po⟩
  | cons _ _ => exact (o : False).elim
theorem rgs_cons {w : Wg} {ws : List Wg} (hn : notStar x = true) (h1 : PG X x (gW C L H0 w)) (h2 : PGs X es (gWs C L H0 ws)) : PGs X (x :: es) (gWs C L H0 (w :: ws)) := pgsImp (pgs_cons h1 h2 (by rw [assignEach_cons hn]; rfl)) fun vs σ H Q ⟨gb, g, Hb, env, ps, m, ok, eo, po, r, o⟩ => by
  cases ps with
  | nil => exact (o : False).elim
  | cons p ps =>
    obtain ⟨v, vs', rfl, r1, r2⟩ := r.cons_inv
    have o' : WOut L H0 gb Hb (Py.and (setW C w p env) (fun e' => setWs C ws ps e') m) Q := o
    unfold Py.and at o'
    refine ⟨v, vs', rfl, g, g, H, env, p, m, ok, eo, .rfl', r1, ?_⟩
    cases e : setW C w p env m with
    | ok e1 m1 =>
      rw [e] at o'
      exact fun g' H' σ' k' eo' po' => ⟨gb, g', Hb, e1, ps, m1, k', eo', po.trans po', r2.mono po'.ext, o'⟩
    | exc _ _ => rw [e] at o'; exact o'.elim
    | stuck => rw [e] at o'; exact o'.elim
theorem rg_tup {ws : List Wg} {k : Nat} (hc : X.calm = true) (hs : es.all notStar = true) (hl : ws.length = es.length) (h : PGs X es (gWs C L H0 ws)) : PG X (.Tuple es k pos) (gW C L H0 (.tup ws)) :=
  pgImp (pg_tup hc h rfl (assignEach_len hs).2) fun v σ H Q ⟨gb, g, Hb, env, p, m, ok, eo, po, r, o⟩ => by
    cases p with
    | tup ps =>
      have o' : WOut L H0 gb Hb (setWs C ws ps env m) Q := o
      have r' : Rep L g (.tup ps) v := r
      unfold Rep at r'
      obtain ⟨d, vs, rfl, h1, h2⟩ := r'
      have len : ∀ {ws : List Wg} {ps : List PV} {env : Env} {m : Mem} {gb : G} {Hb : Hp}, WOut L H0 gb Hb (setWs C ws ps env m) Q → ps.length = ws.length := by
        intro ws
        induction ws with
        | nil =>
          intro ps env m gb Hb w
          cases ps with
          | nil => rfl
          | cons _ _ => exact (w : False).elim
        | cons w1 ws ih =>
          intro ps env m gb Hb w
          cases ps with
          | nil => exact (w : False).elim
          | cons p ps =>
            have w' : WOut L H0 gb Hb (Py.and (setW C w1 p env) (fun e' => setWs C ws ps e') m) Q := w
            unfold Py.and at w'
            cases e : setW C w1 p env m with
            | ok e1 m1 => rw [e] at w'; rw [List.length_cons, List.length_cons, ih w']
            | exc _ _ => rw [e] at w'; exact w'.elim
            | stuck => rw [e] at w'; exact w'.elim
      refine ⟨d, vs, rfl, SqT.of (ok.sub _ _ h1), ?_, gb, g, Hb, env, ps, m, ok, eo, po, h2, o'⟩
      rw [(assignEach_len hs).1, ← h2.length, len o', hl]
    | _ => exact (o : False).elim
theorem rs_setT {w : Wg} (hg : PG X tg (gW C L H0 w)) (ha : PE X x (tK C L W H0 2 a)) (h1 : swapsWithSole [tg] x pos.line X.env = pure false) (h2 : swappedStores [tg] x X.env = pure none) (h3 : (assignEach [tg] X.env).map (·.2) = [assign tg X.env]) :
    PS X (.Assign [tg] x pos) (tSt C L W rk g0 H0 (.setT w a)) :=
  psImp (ps_asg ha hg h1 h2 h3) fun D σ H ⟨g, env, m, ok, eo, po, o⟩ => ⟨g, env, m, ok, eo, o.sx eo po fun p m1 g1 H1 v k1 eo1 po1 q1 r o1 => by
    refine ⟨g1, g1, H1, env, p, m1, k1, eo1, .rfl', r, ?_⟩
    have o2 : SOut L W rk g0 H0 g1 (sx (noexc (setW C w p env)) env (fun e' => pure (.next e')) m1) D := o1
    unfold sx noexc at o2
    cases e : setW C w p env m1 with
    | ok e1 m2 =>
      rw [e] at o2
      exact fun g' H' σ' k' eo' po' => o2 g' H' σ' k' eo' (po1.trans po') po'.ext
    | exc _ _ => rw [e] at o2; exact o2.elim
    | stuck => rw [e] at o2; exact o2.elim⟩
end
end Nl
end
section
set_option Elab.async false
set_option linter.all false
set_option maxRecDepth 100000
set_option maxHeartbeats 2000000
/-! Nl, 17: stores of tuples. -/
namespace Nl
open PySem PySem.Spec PyProof.Rows L2
def isStar : Expr → Bool
  | .Starred .. => true
  | _ => false
def namesAt (S : Scope) (line : Nat) (ts : List Expr) : List PySem.Str := ts.filterMap fun
  | .Name id pos => if S.names.lookup id == some .local && pos.line == line then some id else none
  | _ => none
def swapsR (S : Scope) (ts vs : List Expr) : Option (Option (List PySem.Str)) :=
  if (!(ts.length == 2 || ts.length == 3) || vs.length != ts.length) = true then some none
  else if (vs.any isStar) = true then some none
  else if ((namesAt S ((ts.head?.map (·.pos.line)).getD 0) ts).length != ts.length || (namesAt S ((ts.head?.map (·.pos.line)).getD 0) ts).eraseDups.length != (namesAt S ((ts.head?.map (·.pos.line)).getD 0) ts).length) = true then some none
  else if (vs.all (foldedForSure 8)) = true then some none
  else if (vs.all (constantsAlone 8)) = true then none
  else some (some (namesAt S ((ts.head?.map (·.pos.line)).getD 0) ts))
theorem swap_eq {S : Scope} {ts vs : List Expr} {r : Option (List PySem.Str)} {env : PySem.Env} {kt k2 : Nat} {pt p2 : Pos} (h : swapsR S ts vs = some r) (hk : env.blockKind = .function) (hs : env.scope = S) : swappedStores [.Tuple ts kt pt] (.Tuple vs k2 p2) env = pure r := by
  subst hs
  have e1 : (ts.filterMap fun | .Name id pos => if env.kindOf id == some .local && pos.line == (ts.head?.map (·.pos.line)).getD 0 then some id else none | _ => none) = namesAt env.scope ((ts.head?.map (·.pos.line)).getD 0) ts := rfl
  have e2 : (vs.any fun | .Starred .. => true | _ => false) = vs.any isStar := by
    congr 1
  unfold swapsR at h
  simp only [swappedStores]
  by_cases h1 : (!(ts.length == 2 || ts.length == 3) || vs.length != ts.length) = true
  · rw [if_pos h1] at h
    cases h
    have : (!(ts.length == 2 || ts.length == 3) || vs.length != ts.length || env.blockKind != .function) = true := by rw [h1]; rfl
    rw [if_pos this]
  · rw [if_neg h1] at h
    have h1' : ¬ (!(ts.length == 2 || ts.length == 3) || vs.length != ts.length || env.blockKind != .function) = true := by
      rw [hk]
      have : (NameKind.local != NameKind.local) = false := rfl
      simp at h1 ⊢
      exact h1
    rw [if_neg h1']
    by_cases h2 : (vs.any isStar) = true
    · rw [if_pos h2] at h
      cases h
      exact if_pos (e2.trans h2)
    · rw [if_neg h2] at h
      refine (if_neg fun z => h2 (e2.symm.trans z)).trans ?_
      by_cases h3 : ((namesAt env.scope ((ts.head?.map (·.pos.line)).getD 0) ts).length != ts.length || (namesAt env.scope ((ts.head?.map (·.pos.line)).getD 0) ts).eraseDups.length != (namesAt env.scope ((ts.head?.map (·.pos.line)).getD 0) ts).length) = true
      · rw [if_pos h3] at h
        cases h
        exact if_pos h3
      · rw [if_neg h3] at h
        refine (if_neg h3).trans ?_
        by_cases h4 : (vs.all (foldedForSure 8)) = true
        · rw [if_pos h4] at h
          cases h
          exact if_pos h4
        · rw [if_neg h4] at h
          refine (if_neg h4).trans ?_
          by_cases h5 : (vs.all (constantsAlone 8)) = true
          · rw [if_pos h5] at h; cases h
          · rw [if_neg h5] at h
            cases h
            exact if_neg h5
theorem swap_no {t e : Expr} {env : PySem.Env} (h : asTup e = none) : swappedStores [t] e env = pure none := by
  cases e <;> first | (cases t <;> rfl) | (cases h)
theorem sws_no {t e : Expr} {l : Nat} {env : PySem.Env} (h : notComp e = true) : swapsWithSole [t] e l env = pure false := by
  cases e <;> first | rfl | (cases h)
theorem sws_tup {ts : List Expr} {e : Expr} {k : Nat} {p : Pos} {l : Nat} {env : PySem.Env} : swapsWithSole [.Tuple ts k p] e l env = pure false := by
  cases e <;> rfl
section
variable {X : Cx} {pos : Pos}
def tPar3 (i j k : Nat) (ta : TA) : TS := fun D σ H => ta σ H fun vs H1 => ∃ v w u, vs = [v, w, u] ∧ D.nx (((σ.set i (some v)).set j (some w)).set k (some u)) H1
theorem ps_par3 {i j k : Nat} {x y z : PySem.Str} {a b c : Expr} {ta : TA} {px py pz pt : Pos} {kt k2 : Nat} {pt2 : Pos} (hc : X.calm = true) (hN : X.N.Nodup) (hi : X.N[i]? = some x) (hj : X.N[j]? = some y) (hk : X.N[k]? = some z) (hij : i ≠ j) (hik : i ≠ k) (hjk : j ≠ k)
    (hx : X.env.scope.names.lookup x = some .local) (hy : X.env.scope.names.lookup y = some .local) (hz : X.env.scope.names.lookup z = some .local) (ha : PA X [a, b, c] ta)
    (hw : swappedStores [.Tuple [.Name x px, .Name y py, .Name z pz] kt pt] (.Tuple [a, b, c] k2 pt2) X.env = pure (some [x, y, z])) :
    PS X (.Assign [.Tuple [.Name x px, .Name y py, .Name z pz] kt pt] (.Tuple [a, b, c] k2 pt2) pos) (tPar3 i j k ta) := by
  refine ⟨fun pins s σ H D I h => ?_⟩
  rw [exec_Assign_arm, show swapsWithSole [.Tuple [.Name x px, .Name y py, .Name z pz] kt pt] (.Tuple [a, b, c] k2 pt2) pos.line X.env = pure false from rfl]
  refine wpAny_bind (wpAny_standAt (wpAny_bind (wpAny_pure ?_)))
  rw [if_neg (show ¬ false = true by decide)]
  refine wpAny_bind (Tuple_ (thn (ha.run _ pins s σ H _ I h) fun us s1 ⟨vs, H1, I1, r1, q1⟩ => ?_))
  obtain ⟨v, w, u, rfl, q1⟩ := q1
  obtain ⟨u1, u2, u3, rfl, r1, r2, r3⟩ : ∃ u1 u2 u3, us = [u1, u2, u3] ∧ RelV v u1 ∧ RelV w u2 ∧ RelV u u3 := by
    cases r1 with
    | cons p q =>
      cases q with
      | cons p' q' =>
        cases q' with
        | cons p'' q'' =>
          cases q''
          exact ⟨_, _, _, rfl, p, p', p''⟩
  refine wpAny_newObj_type ?_ (by show 3 ≤ sizeLine; decide)
  have I2 : Inv X pins σ H1 { s1 with heap := s1.heap.push { cls := .type "tuple", data := .seq [u1, u2, u3].toArray } } := I1.kept (t' := s1.toks) fun b o e => Heap.get?_push_of_some _ e
  rw [hw]
  refine wpAny_bind (wpAny_pure ?_)
  have e0 : ∀ (v : Value) l, assignStores X.env v (some [x, y, z]) l = (do PySem.rule "assign.swapped-stores"; let items ← unpackItems v 3 none; assignInOrder ([z, y, x].map fun n => bindName X.env n) items.reverse; pure PySem.Flow.next) := fun _ _ => rfl
  rw [e0]
  refine wpAny_bind (wpAny_rule (wpAny_bind (unpackItems_tuple (items := #[u1, u2, u3]) (I.ok.hd hc) (IsTup.new s1.heap _) fun h' hx' => ?_)))
  have I3 := I2.kept (h' := h') (t' := s1.toks) fun b o e => hx' b o (Nat.ne_of_lt (Heap.lt_size e)) e
  show wpAny _ _ (assignInOrder [fun v => bindName X.env z v, fun v => bindName X.env y v, fun v => bindName X.env x v] [u3, u2, u1] >>= fun _ => pure PySem.Flow.next) _ _ _
  refine wpAny_bind (assignInOrder_cons (wpAny_bindName (store_ok I3 hN hk (.inl hz) r3 (fun s2 I4 => ?_) (.inr hz))))
  refine assignInOrder_cons (wpAny_bindName (store_ok I4 hN hj (.inl hy) r2 (fun s3 I5 => ?_) (.inr hy)))
  refine assignInOrder_cons (wpAny_bindName (store_ok I5 hN hi (.inl hx) r1 (fun s4 I6 => assignInOrder_nil (wpAny_pure ?_)) (.inr hx)))
  rw [List.set_comm _ _ (Ne.symm hij), List.set_comm _ _ (Ne.symm hik), List.set_comm _ _ (Ne.symm hjk)] at I6
  exact ⟨_, H1, I6, q1⟩
end
end Nl
end
section
set_option Elab.async false
set_option linter.all false
set_option maxRecDepth 100000
set_option maxHeartbeats 2000000
/-! Nl, 18: the check of statements, its soundness. -/
namespace Nl
open PySem PySem.Spec PyProof.Rows L2
section
variable {C : Calls} {L : Lk} {W : WX} {rk : Nat} {g0 : G} {H0 : Hp} {X : Cx} {ck : Ck} {x y z tg : Expr} {a b c : Ex} {pos : Pos}
/-! ### many names at once -/
def Fresh (env : Env) (σ : L2.St) (v : V) : Prop := ∀ (j : Nat) (qs : List PV), env[j]? = some (.own qs) → σ[j]? ≠ some (some v)
theorem fresh_of {g : G} {H : Hp} {env : Env} {σ : L2.St} (eo : EnvOk L g H H0 env σ) {d : Addr} (h : H d = none) : Fresh env σ (.ref d) := fun j qs e1 e2 => by
  obtain ⟨b, ws, w1, w2, _⟩ := eo.at_ j _ e1
  rw [e2] at w1
  have z2 : d = b := by have := Option.some.inj (Option.some.inj w1); injection this
  subst z2
  rw [h] at w2
  cases w2
theorem par_one {g : G} {H Hs : Hp} {env e' : Env} {σ : L2.St} {i : Nat} {f : Bool} {r : List (Nat × Bool)} {p : PV} {ps : List PV} {v : V} (eo : EnvOk L g H H0 env σ) (h1 : f = false → Rep L g p v) (h2 : f = true → RF L Hs g H p v ∧ (∀ d, Hs d = none → H0 d = none) ∧ Fresh env σ v)
    (e : setPar ((i, f) :: r) (p :: ps) env = some e') : ∃ e1, setPar r ps e1 = some e' ∧ EnvOk L g H H0 e1 (σ.set i (some v)) ∧ ∀ v', (f = true → v' ≠ v) → Fresh env σ v' → Fresh e1 (σ.set i (some v)) v' := by
  cases f with
  | false =>
    have e2 : (if i < env.length then setPar r ps (env.set i (.pv p)) else none) = some e' := e
    by_cases hi : i < env.length
    · rw [if_pos hi] at e2
      refine ⟨_, e2, eo.setPv (h1 rfl), fun v' _ fr j qs w1 w2 => ?_⟩
      rcases set_at w1 with ⟨_, z⟩ | ⟨hij, w1⟩
      · cases z
      · rw [List.getElem?_set_ne hij] at w2
        exact fr j qs w1 w2
    · rw [if_neg hi] at e2; cases e2
  | true =>
    cases p with
    | lst xs =>
      have e2 : (if i < env.length then setPar r ps (env.set i (.own xs)) else none) = some e' := e
      by_cases hi : i < env.length
      · rw [if_pos hi] at e2
        obtain ⟨⟨d, vs, rfl, k1, k2, k3, k4, k5⟩, k6, k7⟩ := h2 rfl
        refine ⟨_, e2, eo.set (fun _ => ⟨d, vs, rfl, k1, k2, k3, k4, k6 d k5⟩) fun j ps' qs b hij w1 w2 w3 w4 => ?_, fun v' ne fr j qs w1 w2 => ?_⟩
        · have z : d = b := by have := Option.some.inj w3; injection this
          subst z
          exact k7 j qs w2 w4
        · rcases set_at w1 with ⟨hj, z⟩ | ⟨hij, w1⟩
          · subst hj
            rcases set_at w2 with ⟨_, z2⟩ | ⟨z2, _⟩
            · exact ne rfl (Option.some.inj z2).symm
            · exact absurd rfl z2
          · rw [List.getElem?_set_ne hij] at w2
            exact fr j qs w1 w2
      · rw [if_neg hi] at e2; cases e2
    | _ => cases e
theorem sx_bind {α β : Type} {x : Py α} {k : α → Py β} {env : Env} {f : β → Py Flow} {m : Mem} : sx (x >>= k) env f m = sx x env (fun a => sx (k a) env f) m := by
  show sx (Py.and x k) env f m = _
  unfold sx Py.and
  cases x m <;> rfl
theorem sx_pure {α : Type} {a : α} {env : Env} {f : α → Py Flow} {m : Mem} : sx (pure a : Py α) env f m = f a m := rfl
def kf (f : Bool) : Nat := if f = true then 3 else 2
theorem kf_rep {f : Bool} {g : G} {H H1 : Hp} {p : PV} {v : V} (r : RK L (kf f) H1 g H p v) : (f = false → Rep L g p v) ∧ (f = true → RF L H1 g H p v) := by
  cases f with
  | false => exact ⟨fun _ => r, fun z => by cases z⟩
  | true => exact ⟨fun z => (by cases z), fun _ => r⟩
theorem RF.post {g g' : G} {H H' Hs : Hp} {p : PV} {v : V} (r : RF L Hs g H p v) (q : Post g H g' H') : RF L Hs g' H' p v := by
  cases p with
  | lst ps =>
    obtain ⟨d, vs, e, k1, k2, k3, k4, k5⟩ := r
    refine ⟨d, vs, e, q.keep _ _ k1 k4, k2.mono q.ext, ?_, ?_, k5⟩
    · cases z : g'.F d with
      | none => rfl
      | some o =>
        rcases q.newF d o z with w | w
        · rw [k3] at w; cases w
        · rw [k1] at w; cases w
    · intro z
      rcases q.newA d z with w | w
      · exact k4 w
      · rw [k1] at w; cases w
  | _ => exact Rep.mono q.ext r
theorem RF.there {g : G} {H Hs : Hp} {xs : List PV} {v : V} (r : RF L Hs g H (.lst xs) v) : ∃ d, v = .ref d ∧ Hs d = none ∧ H d ≠ none := by
  obtain ⟨d, vs, e, k1, _, _, _, k5⟩ := r
  exact ⟨d, e, k5, by rw [k1]; simp⟩
theorem parT {f : Bool} {i : Nat} {r : List (Nat × Bool)} {p : PV} {ps : List PV} {env e' : Env} (h : setPar ((i, f) :: r) (p :: ps) env = some e') (hf : f = true) : ∃ xs, p = .lst xs := by
  subst hf
  cases p with
  | lst xs => exact ⟨xs, rfl⟩
  | _ => cases h
theorem rs_par2 {i j : Nat} {n n' : PySem.Str} {f f' : Bool} {px py pt : Pos} {kt k2 : Nat} {pt2 : Pos} (hc : X.calm = true) (hN : X.N.Nodup) (hi : X.N[i]? = some n) (hj : X.N[j]? = some n') (hij : i ≠ j) (hx : X.env.scope.names.lookup n = some .local) (hy : X.env.scope.names.lookup n' = some .local)
    (hs : notStar x = true) (hs2 : notStar y = true) (ha : PE X x (tK C L W H0 (kf f) a)) (hb : PE X y (tK C L W H0 (kf f') b)) (hw : swappedStores [.Tuple [.Name n px, .Name n' py] kt pt] (.Tuple [x, y] k2 pt2) X.env = pure (some [n, n'])) :
    PS X (.Assign [.Tuple [.Name n px, .Name n' py] kt pt] (.Tuple [x, y] k2 pt2) pos) (tSt C L W rk g0 H0 (.par [(i, f), (j, f')] [a, b])) :=
  psImp (ps_par hc hN hi hj hij hx hy (pa_cons ha (pa_cons hb pa_nil (starEach_cons hs2)) (starEach_cons hs)) hw sws_tup) fun D σ H ⟨g, env, m, ok, eo, po, o⟩ => by
    have o' : SOut L W rk g0 H0 g (sx (ev C a env) env (fun p => sx (ev C b env) env (fun q => match setPar [(i, f), (j, f')] [p, q] env with | some e' => pure (.next e') | none => stuck)) m) D := by
      have e : exec C (.par [(i, f), (j, f')] [a, b]) env m = sx (ev C a env) env (fun p => sx (ev C b env) env (fun q => match setPar [(i, f), (j, f')] [p, q] env with | some e' => pure (.next e') | none => stuck)) m := by
        show sx (ev C a env >>= fun v => (ev C b env >>= fun w => (pure [] >>= fun vs => (pure (w :: vs) : Py (List PV)))) >>= fun vs => (pure (v :: vs) : Py (List PV))) env _ m = _
        rw [sx_bind]
        congr 1
        funext p m'
        rw [sx_bind, sx_bind]
        rfl
      rw [e] at o
      exact o
    refine ⟨g, env, m, ok, eo, o'.sx eo po fun p m1 g1 H1 v k1 eo1 po1 q1 r1 o1 => ⟨g1, env, m1, k1, eo1, o1.sx eo1 po1 fun q m2 g2 H2 w k2 eo2 po2 q2 r2 o2 => ⟨v, w, rfl, ?_⟩⟩⟩
    have r1 := kf_rep r1
    have r2 := kf_rep r2
    cases es : setPar [(i, f), (j, f')] [p, q] env with
    | none => rw [es] at o2; exact o2.elim
    | some e' =>
      rw [es] at o2
      have thereH : ∀ d, H d = none → H0 d = none := po.there
      have fr1 : f = true → Fresh env σ v := fun hf => by
        obtain ⟨xs, rfl⟩ := parT es hf
        obtain ⟨d, rfl, z1, _⟩ := (r1.2 hf).there
        exact fresh_of eo z1
      obtain ⟨e1, es1, eo3, fr⟩ := par_one eo2 (fun hf => (r1.1 hf).mono q2.ext) (fun hf => ⟨(r1.2 hf).post q2, thereH, fr1 hf⟩) es
      have fr2 : f' = true → Fresh e1 (σ.set i (some v)) w := fun hf => by
        obtain ⟨xs, rfl⟩ := parT es1 hf
        obtain ⟨d, rfl, z1, _⟩ := (r2.2 hf).there
        refine fr _ (fun hf' z => ?_) (fresh_of eo (q1.there d z1))
        obtain ⟨ys, rfl⟩ := parT es hf'
        obtain ⟨d', e'', _, z3⟩ := (r1.2 hf').there
        rw [← z] at e''
        have : d = d' := by injection e''
        subst this
        exact z3 z1
      obtain ⟨e2, es2, eo4, _⟩ := par_one eo3 (fun hf => r2.1 hf) (fun hf => ⟨r2.2 hf, fun d h => thereH d (q1.there d h), fr2 hf⟩) es1
      have : e2 = e' := Option.some.inj es2
      subst this
      exact o2 g2 H2 _ k2 eo4 po2 .rfl'
theorem rs_par3 {i j k : Nat} {n n' n'' : PySem.Str} {f f' f'' : Bool} {px py pz pt : Pos} {kt k2 : Nat} {pt2 : Pos} (hc : X.calm = true) (hN : X.N.Nodup) (hi : X.N[i]? = some n) (hj : X.N[j]? = some n') (hk : X.N[k]? = some n'') (hij : i ≠ j) (hik : i ≠ k) (hjk : j ≠ k)
    (hx : X.env.scope.names.lookup n = some .local) (hy : X.env.scope.names.lookup n' = some .local) (hz : X.env.scope.names.lookup n'' = some .local)
    (hs : notStar x = true) (hs2 : notStar y = true) (hs3 : notStar z = true) (ha : PE X x (tK C L W H0 (kf f) a)) (hb : PE X y (tK C L W H0 (kf f') b)) (hcc : PE X z (tK C L W H0 (kf f'') c)) (hw : swappedStores [.Tuple [.Name n px, .Name n' py, .Name n'' pz] kt pt] (.Tuple [x, y, z] k2 pt2) X.env = pure (some [n, n', n''])) :
    PS X (.Assign [.Tuple [.Name n px, .Name n' py, .Name n'' pz] kt pt] (.Tuple [x, y, z] k2 pt2) pos) (tSt C L W rk g0 H0 (.par [(i, f), (j, f'), (k, f'')] [a, b, c])) :=
  psImp (ps_par3 hc hN hi hj hk hij hik hjk hx hy hz (pa_cons ha (pa_cons hb (pa_cons hcc pa_nil (starEach_cons hs3)) (starEach_cons hs2)) (starEach_cons hs)) hw) fun D σ H ⟨g, env, m, ok, eo, po, o⟩ => by
    have o' : SOut L W rk g0 H0 g (sx (ev C a env) env (fun p => sx (ev C b env) env (fun q => sx (ev C c env) env (fun r => match setPar [(i, f), (j, f'), (k, f'')] [p, q, r] env with | some e' => pure (.next e') | none => stuck))) m) D := by
      have e : exec C (.par [(i, f), (j, f'), (k, f'')] [a, b, c]) env m = sx (ev C a env) env (fun p => sx (ev C b env) env (fun q => sx (ev C c env) env (fun r => match setPar [(i, f), (j, f'), (k, f'')] [p, q, r] env with | some e' => pure (.next e') | none => stuck))) m := by
        show sx (ev C a env >>= fun v => (ev C b env >>= fun w => (ev C c env >>= fun u => (pure [] >>= fun vs => (pure (u :: vs) : Py (List PV)))) >>= fun vs => (pure (w :: vs) : Py (List PV))) >>= fun vs => (pure (v :: vs) : Py (List PV))) env _ m = _
        rw [sx_bind]
        congr 1
        funext p m'
        rw [sx_bind, sx_bind]
        congr 1
        funext q m''
        rw [sx_bind, sx_bind]
        rfl
      rw [e] at o
      exact o
    refine ⟨g, env, m, ok, eo, o'.sx eo po fun p m1 g1 H1 v k1 eo1 po1 q1 r1 o1 => ⟨g1, env, m1, k1, eo1, o1.sx eo1 po1 fun q m2 g2 H2 w k2 eo2 po2 q2 r2 o2 => ⟨g2, env, m2, k2, eo2, o2.sx eo2 po2 fun r m3 g3 H3 u k3 eo3 po3 q3 r3 o3 => ⟨v, w, u, rfl, ?_⟩⟩⟩⟩
    have r1 := kf_rep r1
    have r2 := kf_rep r2
    have r3 := kf_rep r3
    cases es : setPar [(i, f), (j, f'), (k, f'')] [p, q, r] env with
    | none => rw [es] at o3; exact o3.elim
    | some e' =>
      rw [es] at o3
      have thereH : ∀ d, H d = none → H0 d = none := po.there
      have fr1 : f = true → Fresh env σ v := fun hf => by
        obtain ⟨xs, rfl⟩ := parT es hf
        obtain ⟨d, rfl, z1, _⟩ := (r1.2 hf).there
        exact fresh_of eo z1
      obtain ⟨e1, es1, eo4, fr⟩ := par_one eo3 (fun hf => (r1.1 hf).mono (q2.trans q3).ext) (fun hf => ⟨(r1.2 hf).post (q2.trans q3), thereH, fr1 hf⟩) es
      have ne12 : f = true → ∀ d, H1 d = none → V.ref d ≠ v := fun hf' d z1 z => by
        obtain ⟨ys, rfl⟩ := parT es hf'
        obtain ⟨d', e'', _, z3⟩ := (r1.2 hf').there
        rw [← z] at e''
        have : d = d' := by injection e''
        subst this
        exact z3 z1
      have fr2 : f' = true → Fresh e1 (σ.set i (some v)) w := fun hf => by
        obtain ⟨xs, rfl⟩ := parT es1 hf
        obtain ⟨d, rfl, z1, _⟩ := (r2.2 hf).there
        exact fr _ (fun hf' => ne12 hf' d z1) (fresh_of eo (q1.there d z1))
      obtain ⟨e2, es2, eo5, fr'⟩ := par_one eo4 (fun hf => (r2.1 hf).mono q3.ext) (fun hf => ⟨(r2.2 hf).post q3, fun d h => thereH d (q1.there d h), fr2 hf⟩) es1
      have fr3 : f'' = true → Fresh e2 ((σ.set i (some v)).set j (some w)) u := fun hf => by
        obtain ⟨xs, rfl⟩ := parT es2 hf
        obtain ⟨d, rfl, z1, _⟩ := (r3.2 hf).there
        have z2 := q2.there d z1
        refine fr' _ (fun hf' z => ?_) (fr _ (fun hf' => ne12 hf' d z2) (fresh_of eo (q1.there d z2)))
        obtain ⟨ys, rfl⟩ := parT es1 hf'
        obtain ⟨d', e'', _, z3⟩ := (r2.2 hf').there
        rw [← z] at e''
        have : d = d' := by injection e''
        subst this
        exact z3 z1
      obtain ⟨e3, es3, eo6, _⟩ := par_one eo5 (fun hf => r3.1 hf) (fun hf => ⟨r3.2 hf, fun d h => thereH d (q1.there d (q2.there d h)), fr3 hf⟩) es2
      have : e3 = e' := Option.some.inj es3
      subst this
      exact o3 g3 H3 _ k3 eo6 po3 .rfl'
end
end Nl
end
section
set_option Elab.async false
set_option linter.all false
set_option maxRecDepth 100000
set_option maxHeartbeats 2000000
/-! Nl, 19: the check of statements, its soundness. -/
namespace Nl
open PySem PySem.Spec PyProof.Rows L2

/-! ### statements, seen -/
def asExprS : Stmt → Option Expr
  | .Expr e _ => some e
  | _ => none
theorem asExprS_eq {s : Stmt} {e : Expr} (h : asExprS s = some e) : ∃ p, s = .Expr e p := by
  cases s with
  | Expr e p => cases h; exact ⟨_, rfl⟩
  | _ => cases h
def asAsg : Stmt → Option (Expr × Expr)
  | .Assign [t] e _ => some (t, e)
  | _ => none
theorem asAsg_eq {s : Stmt} {t e : Expr} (h : asAsg s = some (t, e)) : ∃ p, s = .Assign [t] e p := by
  cases s with
  | Assign ts e p =>
    match ts, h with
    | [t], h => cases h; exact ⟨_, rfl⟩
    | [], h => cases h
    | _ :: _ :: _, h => cases h
  | _ => cases h
def asAug : Stmt → Option (PySem.Str × Operator × Expr)
  | .AugAssign (.Name n _) o e _ => some (n, o, e)
  | _ => none
theorem asAug_eq {s : Stmt} {n : PySem.Str} {o : Operator} {e : Expr} (h : asAug s = some (n, o, e)) : ∃ p q, s = .AugAssign (.Name n p) o e q := by
  cases s with
  | AugAssign t o e q =>
    cases t with
    | Name n p => cases h; exact ⟨_, _, rfl⟩
    | _ => cases h
  | _ => cases h
def asRet : Stmt → Option (Option Expr)
  | .Return e _ => some e
  | _ => none
theorem asRet_eq {s : Stmt} {e : Option Expr} (h : asRet s = some e) : ∃ p, s = .Return e p := by
  cases s with
  | Return e p => cases h; exact ⟨_, rfl⟩
  | _ => cases h
def asIfS : Stmt → Option (Expr × List Stmt × List Stmt)
  | .If c a b _ => some (c, a, b)
  | _ => none
theorem asIfS_eq {s : Stmt} {c : Expr} {a b : List Stmt} (h : asIfS s = some (c, a, b)) : ∃ p, s = .If c a b p := by
  cases s with
  | If c a b p => cases h; exact ⟨_, rfl⟩
  | _ => cases h
def asForS : Stmt → Option (Expr × Expr × List Stmt)
  | .For t i b [] _ => some (t, i, b)
  | _ => none
theorem asForS_eq {s : Stmt} {t i : Expr} {b : List Stmt} (h : asForS s = some (t, i, b)) : ∃ p, s = .For t i b [] p := by
  cases s with
  | For t i b o p =>
    cases o with
    | nil => cases h; exact ⟨_, rfl⟩
    | cons _ _ => cases h
  | _ => cases h
def asWhileS : Stmt → Option (Expr × List Stmt)
  | .While c b [] _ => some (c, b)
  | _ => none
theorem asWhileS_eq {s : Stmt} {c : Expr} {b : List Stmt} (h : asWhileS s = some (c, b)) : ∃ p, s = .While c b [] p := by
  cases s with
  | While c b o p =>
    cases o with
    | nil => cases h; exact ⟨_, rfl⟩
    | cons _ _ => cases h
  | _ => cases h
def isPassS : Stmt → Bool
  | .Pass _ => true
  | _ => false
def isBrkS : Stmt → Bool
  | .Break _ => true
  | _ => false
def isContS : Stmt → Bool
  | .Continue _ => true
  | _ => false
theorem isPassS_eq {s : Stmt} (h : isPassS s = true) : ∃ p, s = .Pass p := by
  cases s with
  | Pass p => exact ⟨_, rfl⟩
  | _ => cases h
theorem isBrkS_eq {s : Stmt} (h : isBrkS s = true) : ∃ p, s = .Break p := by
  cases s with
  | Break p => exact ⟨_, rfl⟩
  | _ => cases h
theorem isContS_eq {s : Stmt} (h : isContS s = true) : ∃ p, s = .Continue p := by
  cases s with
  | Continue p => exact ⟨_, rfl⟩
  | _ => cases h
/-- n.m(es) with the two places on one line -/
def asOwnM : Expr → Option (PySem.Str × PySem.Str × List Expr)
  | .Call (.Attribute (.Name n _) m ap) es [] cp => if (ap.endLine == cp.line) = true then some (n, m, es) else none
  | _ => none
theorem asOwnM_eq {e : Expr} {n m : PySem.Str} {es : List Expr} (h : asOwnM e = some (n, m, es)) : ∃ p ap cp, e = .Call (.Attribute (.Name n p) m ap) es [] cp ∧ (ap.endLine == cp.line) = true := by
  unfold asOwnM at h
  split at h
  · split at h
    · rename_i q
      cases h
      exact ⟨_, _, _, rfl, q⟩
    · cases h
  · cases h
/-- a name's line -/
def lineOf : Expr → Nat
  | .Name _ p => p.line
  | _ => 0
def isComp : Ex → Bool
  | .comp .. => true
  | _ => false
def chkSet (ck : Ck) (S : Sc) (i : Nat) (a : Ex) (s : Stmt) : Bool := match asAsg s with
  | some (t, e) => match asName t with
    | some n => decide (ck.N[i]? = some n) && (locB S n && ((notComp e || isComp a) && chkE ck S false a e))
    | none => false
  | none => false
def isBadS : St → Bool
  | .bad => true
  | _ => false
def ghost : St → Bool
  | .freeze _ => true
  | _ => false
mutual
def chkW (ck : Ck) (S : Sc) : Wg → Expr → Bool
  | .g t, e => chkT ck.N S t e
  | .ix a b, e => match asSub e with
    | some (x, y) => notSlice y && (decide (2 ≤ ck.kd a) && (chkE ck S false a x && chkE ck S false b y))
    | none => false
  | .tup ws, e => match asTup e with
    | some es => es.all notStar && chkWs ck S ws es
    | none => false
def chkWs (ck : Ck) (S : Sc) : List Wg → List Expr → Bool
  | [], [] => true
  | w :: ws, e :: es => chkW ck S w e && chkWs ck S ws es
  | _, _ => false
end
/-- no stores in the other order -/
def plainAsg (S : Sc) (t e : Expr) : Bool := notComp e && (match asTup e with
  | none => true
  | some vs => match asTup t with
    | some ts => decide (swapsR S.sc ts vs = some none)
    | none => match t with
      | .Subscript .. => true
      | _ => false)
def locN (S : Sc) (x : PySem.Str) : Bool := match S.sc.names.lookup x with
  | some .local => true
  | _ => false
def chkPar (ck : Ck) (S : Sc) (ws : List (Nat × Bool)) (as : List Ex) (s : Stmt) : Bool := match asAsg s with
  | some (t, e) => match asTup t, asTup e with
    | some [t1, t2], some [x, y] => match asName t1, asName t2, ws, as with
      | some n, some n', [(i, f), (j, f')], [a, b] => decide (ck.N[i]? = some n) && (decide (ck.N[j]? = some n') && (decide (i ≠ j) && (locN S n && (locN S n' && (notStar x && (notStar y && (decide (kf f ≤ ck.kd a) && (decide (kf f' ≤ ck.kd b) &&
        (decide (swapsR S.sc [t1, t2] [x, y] = some (some [n, n'])) && (chkE ck S false a x && chkE ck S false b y))))))))))
      | _, _, _, _ => false
    | some [t1, t2, t3], some [x, y, z] => match asName t1, asName t2, asName t3, ws, as with
      | some n, some n', some n'', [(i, f), (j, f'), (k, f'')], [a, b, c] => decide (ck.N[i]? = some n) && (decide (ck.N[j]? = some n') && (decide (ck.N[k]? = some n'') && (decide (i ≠ j) && (decide (i ≠ k) && (decide (j ≠ k) && (locN S n && (locN S n' && (locN S n'' &&
        (notStar x && (notStar y && (notStar z && (decide (kf f ≤ ck.kd a) && (decide (kf f' ≤ ck.kd b) && (decide (kf f'' ≤ ck.kd c) && (decide (swapsR S.sc [t1, t2, t3] [x, y, z] = some (some [n, n', n''])) && (chkE ck S false a x && (chkE ck S false b y && chkE ck S false c z)))))))))))))))))
      | _, _, _, _, _ => false
    | _, _ => false
  | none => false
mutual
def chkS (ck : Ck) (S : Sc) (rk : Nat) : St → Stmt → Bool
  | .bad, _ => true
  | .expr a, s => match asExprS s with
    | some e => notComp e && chkE ck S false a e
    | none => false
  | .set i a, s => decide (2 ≤ ck.kd a) && chkSet ck S i a s
  | .setOwn i a, s => decide (ck.kd a = 3) && chkSet ck S i a s
  | .setT w a, s => match asAsg s with
    | some (t, e) => notStar t && (plainAsg S t e && (chkW ck S w t && (decide (2 ≤ ck.kd a) && chkE ck S false a e)))
    | none => false
  | .par ws as, s => chkPar ck S ws as s
  | .aug i o a, s => match asAug s with
    | some (n, p, e) => isOp o p && (decide (o = .add ∨ o = .sub) && (decide (ck.N[i]? = some n) && (locB S n && chkE ck S false a e)))
    | none => false
  | .append i a, s => match asExprS s with
    | some e => match asOwnM e with
      | some (n, m, [x]) => decide (m = "append") && (decide (ck.N[i]? = some n) && (visB S.sc n && (nameOk n && (notStar x && (decide (2 ≤ ck.kd a) && chkE ck S false a x)))))
      | _ => false
    | none => false
  | .insert i a b, s => match asExprS s with
    | some e => match asOwnM e with
      | some (n, m, [x, y]) => decide (m = "insert") && (decide (ck.N[i]? = some n) && (visB S.sc n && (nameOk n && (notStar x && (notStar y && (decide (2 ≤ ck.kd a) && (decide (2 ≤ ck.kd b) && (chkE ck S false a x && chkE ck S false b y))))))))
      | _ => false
    | none => false
  | .setIx i b a, s => match asAsg s with
    | some (t, e) => match asSub t with
      | some (o, y) => match asName o with
        | some n => decide (ck.N[i]? = some n) && (visB S.sc n && (nameOk n && (notSlice y && (decide (2 ≤ ck.kd a) && (chkE ck S false a e && chkE ck S false b y)))))
        | none => false
      | none => false
    | none => false
  | .ret a, s => match asRet s with
    | some (some e) => decide (rk ≤ ck.kd a) && chkE ck S false a e
    | _ => false
  | .retN, s => match asRet s with
    | some none => true
    | _ => false
  | .retOwn i, s => match asRet s with
    | some (some e) => decide (rk = 3) && chkVar ck S i e
    | _ => false
  | .ite c a b, s => match asIfS s with
    | some (e, p, q) => chkE ck S true c e && (chkSs ck S rk a p && chkSs ck S rk b q)
    | none => false
  | .for_ t it b, s => match asForS s with
    | some (tg, e, p) => chkT ck.N S t tg && (chkIt ck S true tg it e && (notSet e && chkSs ck S rk b p))
    | none => false
  | .while_ c b, s => match asWhileS s with
    | some (e, p) => chkE ck S true c e && chkSs ck S rk b p
    | none => false
  | .freeze _, _ => false
  | .cont, s => isContS s
  | .brk, s => isBrkS s
  | .pass, s => isPassS s
def chkSs (ck : Ck) (S : Sc) (rk : Nat) : List St → List Stmt → Bool
  | [], [] => true
  | [], _ :: _ => false
  | s :: r, sts => if isBadS s = true then true else if ghost s = true then chkSs ck S rk r sts else match sts with
    | st :: sts => chkS ck S rk s st && chkSs ck S rk r sts
    | [] => false
end
section
variable {C : Calls} {L : Lk} {g0 : G} {H0 : Hp} {ck : Ck} {W : WX} {X : Cx} {S : Sc} {rk : Nat}
structure SOk (L : Lk) (C : Calls) (ck : Ck) (W : WX) (X : Cx) (S : Sc) : Prop where
  ok : XOk L C ck W X
  k : ScOk S X
  kind : X.env.scope.kind = .function
  own : PassesOwn (model X.prog X.w) X.A X.env X.xe
theorem SOk.nd (h : SOk L C ck W X S) : X.N.Nodup := by rw [h.ok.N]; exact h.ok.nd
theorem SOk.block (h : SOk L C ck W X S) : X.env.blockKind = .function := by unfold PySem.Env.blockKind; rw [h.kind]; rfl
theorem sComp (h : SOk L C ck W X S) {own : List Nat} {g : Tg} {it : It} {c : Option Ex} {el : Ex} {e : Expr} (hc : chkE ck S false (.comp own g it c el) e = true) {i : Nat} {n : PySem.Str} {p pos : Pos} (hi : ck.N[i]? = some n) (hl : locB S n = true) :
    PS X (.Assign [.Name n p] e pos) (tAsg (tK C L W H0 3 (.comp own g it c el)) (gName i)) := by
  obtain ⟨lx, lf⟩ := locB_eq hl h.k
  have snd := sE (C := C) (L := L) (H0 := H0) (.comp own g it c el) W X S false e h.ok h.k hc
  unfold chkE at hc
  split at hc
  · rename_i elt tg iter ifs scope q
    obtain ⟨p2, rfl⟩ := asComp_eq q
    have swe : swapsWith (.ListComp elt [⟨tg, iter, ifs, 0⟩] scope p2) (some (.Name n p)) pos.line X.env = pure (X.env.blockKind == .function && X.env.kindOf n == some .local && p.line == p2.line && !(scope.names.any fun (m, k) => m == n && (k == .local || k == .cell))) := rfl
    cases bq : (X.env.blockKind == .function && X.env.kindOf n == some .local && p.line == p2.line && !(scope.names.any fun (m, k) => m == n && (k == .local || k == .cell))) with
    | false =>
      rw [bq] at swe
      exact ps_set h.nd (by rw [h.ok.N]; exact hi) lx snd swe lf
    | true =>
      rw [bq] at swe
      obtain ⟨z, _⟩ := b2 bq
      obtain ⟨z, _⟩ := b2 z
      obtain ⟨_, z⟩ := b2 z
      have z : X.env.kindOf n = some .local := by simpa using z
      have z : X.env.scope.names.lookup n = some .local := z
      obtain ⟨h1, hc⟩ := b2 hc
      obtain ⟨h2, hc⟩ := b2 hc
      obtain ⟨h3, hc⟩ := b2 hc
      obtain ⟨h4, hc⟩ := b2 hc
      obtain ⟨h5, hc⟩ := b2 hc
      obtain ⟨h6, hc⟩ := b2 hc
      obtain ⟨h7, hc⟩ := b2 hc
      obtain ⟨h8, h9⟩ := b2 hc
      have hi' := sIt (C := C) (L := L) (H0 := H0) it W X S false tg iter h.ok h.k h7
      have blk : BlkOk X.N X.env.scope scope (ownP ck own) := blkOk_by (by rw [h.ok.N, h.k.sc]; exact h2)
      have hg : ∀ (s : Shared) (H : Hp) (C' : Addr) (cl : List (PySem.Str × Addr)) (fp : List Addr), PG (X.blk s H scope (compEnvC scope cl C' X.env) fp) tg (gT L H0 g) := fun s H C' cl fp => sT (X := X.blk s H scope (compEnvC scope cl C' X.env) fp) h.ok.N h.ok.nd h.ok.calm h.k.blk g tg h4
      have ht : ∀ (s : Shared) (H : Hp) (C' : Addr) (cl : List (PySem.Str × Addr)) (fp : List Addr), PTs (X.blk s H scope (compEnvC scope cl C' X.env) fp) ifs (tTc C L H0 c) := fun s H C' cl fp => sC c _ _ ifs h.ok.blk h.k.blk h8
      have he : ∀ (s : Shared) (H : Hp) (C' : Addr) (cl : List (PySem.Str × Addr)) (fp : List Addr), PE (X.blk s H scope (compEnvC scope cl C' X.env) fp) elt (tK C L WF H0 2 el) := fun s H C' cl fp => weak (sE el WF _ (blkS S scope) false elt h.ok.blk h.k.blk h9) (of_decide_eq_true h6)
      have r := (ru_comp (C := C) (L := L) (W := W) (H0 := H0) (X := X) (pos := p2) h.ok.calm h.nd hi' blk hg (fun i hi => by rw [own_map]; exact subL_eq h3 i hi) ht he h5).1
      rw [own_map] at r
      have ps := ps_setLc (spos := pos) h.ok.calm h.nd (i := i) (by rw [h.ok.N]; exact hi) z swe hi' blk hg ht he (notSet_eq h5)
      rw [own_map] at ps
      exact psImp ps fun D σ H q => r σ H _ q
  · cases hc
theorem sSet (h : SOk L C ck W X S) {i : Nat} {a : Ex} {s : Stmt} (hc : chkSet ck S i a s = true) : PS X s (tAsg (tK C L W H0 (ck.kd a) a) (gName i)) := by
  unfold chkSet at hc
  split at hc
  · rename_i t e q
    obtain ⟨pos, rfl⟩ := asAsg_eq q
    split at hc
    · rename_i n q2
      obtain ⟨p, rfl⟩ := asName_eq q2
      obtain ⟨h1, hc⟩ := b2 hc
      obtain ⟨h2, hc⟩ := b2 hc
      obtain ⟨h3, h4⟩ := b2 hc
      have hi := of_decide_eq_true h1
      rcases Bool.or_eq_true_iff.mp h3 with h3 | h3
      · obtain ⟨lx, lf⟩ := locB_eq h2 h.k
        exact ps_set h.nd (by rw [h.ok.N]; exact hi) lx (sE a W X S false e h.ok h.k h4) (noSwap h3) lf
      · cases a with
        | comp own g it c el => exact sComp h h4 hi h2
        | _ => cases h3
    · cases hc
  · cases hc
mutual
theorem sW (h : SOk L C ck W X S) : ∀ (w : Wg) (e : Expr), chkW ck S w e = true → PG X e (gW C L H0 w)
  | .g t, e, hc => by
    unfold chkW at hc
    exact rg_g (sT h.ok.N h.ok.nd h.ok.calm h.k t e hc)
  | .ix a b, e, hc => by
    have okF : XOk L C ck WF X := { h.ok with takes := fun u s' ⟨a, B, sI, pins, σ, H, cls, d, e, I, nb, up, sky, na, os, ag, w⟩ => w.elim }
    unfold chkW at hc
    split at hc
    · rename_i x y q
      obtain ⟨p, rfl⟩ := asSub_eq q
      obtain ⟨h1, hc⟩ := b2 hc
      obtain ⟨h2, hc⟩ := b2 hc
      obtain ⟨h3, h4⟩ := b2 hc
      exact rg_ix h1 (weak (sE a WF X S false _ okF h.k h3) (of_decide_eq_true h2)) (weak (sE b WF X S false _ okF h.k h4) (Nat.zero_le _))
    · cases hc
  | .tup ws, e, hc => by
    unfold chkW at hc
    split at hc
    · rename_i es q
      obtain ⟨k, p, rfl⟩ := asTup_eq q
      obtain ⟨h1, h2⟩ := b2 hc
      obtain ⟨w1, w2⟩ := sWs h ws es h1 h2
      exact rg_tup h.ok.calm h1 w2 w1
    · cases hc
theorem sWs (h : SOk L C ck W X S) : ∀ (ws : List Wg) (es : List Expr), es.all notStar = true → chkWs ck S ws es = true → PGs X es (gWs C L H0 ws) ∧ ws.length = es.length
  | [], [], _, _ => ⟨rgs_nil, rfl⟩
  | w :: ws, e :: es, hs, hc => by
    unfold chkWs at hc
    obtain ⟨h1, h2⟩ := b2 hc
    obtain ⟨w1, w2⟩ := sWs h ws es (b2 hs).2 h2
    exact ⟨rgs_cons (b2 hs).1 (sW h w e h1) w1, by rw [List.length_cons, List.length_cons, w2]⟩
  | [], _ :: _, _, hc => by unfold chkWs at hc; cases hc
  | _ :: _, [], _, hc => by unfold chkWs at hc; cases hc
end
theorem plain_ok (h : SOk L C ck W X S) {t e : Expr} {l : Nat} (hs : notStar t = true) (hc : plainAsg S t e = true) : swapsWithSole [t] e l X.env = pure false ∧ swappedStores [t] e X.env = pure none ∧ (assignEach [t] X.env).map (·.2) = [assign t X.env] := by
  unfold plainAsg at hc
  obtain ⟨h1, h2⟩ := b2 hc
  refine ⟨sws_no h1, ?_, by rw [assignEach_cons hs]; rfl⟩
  split at h2
  · rename_i q; exact swap_no q
  · rename_i vs q
    obtain ⟨k2, p2, rfl⟩ := asTup_eq q
    split at h2
    · rename_i ts q2
      obtain ⟨k, p, rfl⟩ := asTup_eq q2
      exact swap_eq (of_decide_eq_true h2) h.block h.k.sc
    · split at h2
      · rfl
      · cases h2
theorem locN_eq {x : PySem.Str} (k : ScOk S X) (h : locN S x = true) : X.env.scope.names.lookup x = some .local := by
  unfold locN at h
  rw [k.sc]
  split at h
  · rename_i q; exact q
  · cases h
theorem sPar (h : SOk L C ck W X S) {ws : List (Nat × Bool)} {as : List Ex} {s : Stmt} (hc : chkPar ck S ws as s = true) : PS X s (tSt C L W rk g0 H0 (.par ws as)) := by
  unfold chkPar at hc
  split at hc
  · rename_i t e q
    obtain ⟨pos, rfl⟩ := asAsg_eq q
    split at hc
    · rename_i t1 t2 x y q1 q2
      obtain ⟨k1, p1, rfl⟩ := asTup_eq q1
      obtain ⟨k2, p2, rfl⟩ := asTup_eq q2
      split at hc
      · rename_i n n' i f j f' a b q3 q4
        obtain ⟨p3, rfl⟩ := asName_eq q3
        obtain ⟨p4, rfl⟩ := asName_eq q4
        obtain ⟨h1, hc⟩ := b2 hc
        obtain ⟨h2, hc⟩ := b2 hc
        obtain ⟨h3, hc⟩ := b2 hc
        obtain ⟨h4, hc⟩ := b2 hc
        obtain ⟨h5, hc⟩ := b2 hc
        obtain ⟨h6, hc⟩ := b2 hc
        obtain ⟨h7, hc⟩ := b2 hc
        obtain ⟨h8, hc⟩ := b2 hc
        obtain ⟨h9, hc⟩ := b2 hc
        obtain ⟨h10, hc⟩ := b2 hc
        obtain ⟨h11, h12⟩ := b2 hc
        exact rs_par2 h.ok.calm h.nd (by rw [h.ok.N]; exact of_decide_eq_true h1) (by rw [h.ok.N]; exact of_decide_eq_true h2) (of_decide_eq_true h3) (locN_eq h.k h4) (locN_eq h.k h5) h6 h7
          (weak (sE a W X S false _ h.ok h.k h11) (of_decide_eq_true h8)) (weak (sE b W X S false _ h.ok h.k h12) (of_decide_eq_true h9)) (swap_eq (of_decide_eq_true h10) h.block h.k.sc)
      · cases hc
    · rename_i t1 t2 t3 x y z q1 q2
      obtain ⟨k1, p1, rfl⟩ := asTup_eq q1
      obtain ⟨k2, p2, rfl⟩ := asTup_eq q2
      split at hc
      · rename_i n n' n'' i f j f' k f'' a b c q3 q4 q5
        obtain ⟨p3, rfl⟩ := asName_eq q3
        obtain ⟨p4, rfl⟩ := asName_eq q4
        obtain ⟨p5, rfl⟩ := asName_eq q5
        obtain ⟨h1, hc⟩ := b2 hc
        obtain ⟨h2, hc⟩ := b2 hc
        obtain ⟨h3, hc⟩ := b2 hc
        obtain ⟨h4, hc⟩ := b2 hc
        obtain ⟨h5, hc⟩ := b2 hc
        obtain ⟨h6, hc⟩ := b2 hc
        obtain ⟨h7, hc⟩ := b2 hc
        obtain ⟨h8, hc⟩ := b2 hc
        obtain ⟨h9, hc⟩ := b2 hc
        obtain ⟨h10, hc⟩ := b2 hc
        obtain ⟨h11, hc⟩ := b2 hc
        obtain ⟨h12, hc⟩ := b2 hc
        obtain ⟨h13, hc⟩ := b2 hc
        obtain ⟨h14, hc⟩ := b2 hc
        obtain ⟨h15, hc⟩ := b2 hc
        obtain ⟨h16, hc⟩ := b2 hc
        obtain ⟨h17, hc⟩ := b2 hc
        obtain ⟨h18, h19⟩ := b2 hc
        exact rs_par3 h.ok.calm h.nd (by rw [h.ok.N]; exact of_decide_eq_true h1) (by rw [h.ok.N]; exact of_decide_eq_true h2) (by rw [h.ok.N]; exact of_decide_eq_true h3) (of_decide_eq_true h4) (of_decide_eq_true h5) (of_decide_eq_true h6) (locN_eq h.k h7) (locN_eq h.k h8) (locN_eq h.k h9) h10 h11 h12
          (weak (sE a W X S false _ h.ok h.k h17) (of_decide_eq_true h13)) (weak (sE b W X S false _ h.ok h.k h18) (of_decide_eq_true h14)) (weak (sE c W X S false _ h.ok h.k h19) (of_decide_eq_true h15)) (swap_eq (of_decide_eq_true h16) h.block h.k.sc)
      · cases hc
    · cases hc
  · cases hc
theorem weakQ {k j : Nat} (l : k ≤ j) {a : Ex} {σ : L2.St} {H : Hp} {Q : VK} (h : tK C L W H0 k a σ H Q) : tK C L W H0 j a σ H Q := by
  induction j with
  | zero => obtain rfl : k = 0 := Nat.le_zero.mp l; exact h
  | succ j ih =>
    rcases Nat.lt_or_ge k (j + 1) with q | q
    · obtain ⟨g, env, m, ok, eo, o⟩ := ih (Nat.le_of_lt_succ q)
      match j, o with
      | 0, o => exact ⟨g, env, m, ok, eo, o.weaken fun _ _ _ _ _ _ _ r => r.1⟩
      | 1, o => exact ⟨g, env, m, ok, eo, o.weaken fun _ _ _ _ _ k' _ r => Rep.vw k' r⟩
      | 2, o =>
        refine ⟨g, env, m, ok, eo, ?_⟩
        revert o
        cases ev C a env m with
        | ok p m' =>
          intro o g' H' v o' q r
          obtain ⟨g2, k2, q2, r2⟩ := RF.freeze o' q r
          exact o g2 H' v k2 q2 r2
        | exc x m' => exact fun o => o
        | stuck => exact fun o => o
      | j + 3, o => exact ⟨g, env, m, ok, eo, o⟩
    · obtain rfl : k = j + 1 := Nat.le_antisymm l q; exact h
mutual
theorem sS (h : SOk L C ck W X S) : ∀ (s : Nl.St) (st : Stmt), chkS ck S rk s st = true → PS X st (tSt C L W rk g0 H0 s)
  | .bad, st, hc => rs_bad
  | .expr a, st, hc => by
    unfold chkS at hc
    split at hc
    · rename_i e q
      obtain ⟨p, rfl⟩ := asExprS_eq q
      obtain ⟨h1, h2⟩ := b2 hc
      exact rs_expr h1 (weak (sE a W X S false e h.ok h.k h2) (Nat.zero_le _))
    · cases hc
  | .set i a, st, hc => by
    unfold chkS at hc
    obtain ⟨h1, h2⟩ := b2 hc
    exact rs_set (psImp (sSet h h2) fun D σ H q => weakQ (of_decide_eq_true h1) q)
  | .setOwn i a, st, hc => by
    unfold chkS at hc
    obtain ⟨h1, h2⟩ := b2 hc
    have q := sSet (H0 := H0) h h2
    rw [of_decide_eq_true h1] at q
    exact rs_setOwn q
  | .setT w a, st, hc => by
    unfold chkS at hc
    split at hc
    · rename_i t e q
      obtain ⟨p, rfl⟩ := asAsg_eq q
      obtain ⟨h1, hc⟩ := b2 hc
      obtain ⟨h2, hc⟩ := b2 hc
      obtain ⟨h3, hc⟩ := b2 hc
      obtain ⟨h4, h5⟩ := b2 hc
      obtain ⟨w1, w2, w3⟩ := plain_ok h (l := p.line) h1 h2
      exact rs_setT (sW h w t h3) (weak (sE a W X S false e h.ok h.k h5) (of_decide_eq_true h4)) w1 w2 w3
    · cases hc
  | .par ws as, st, hc => by
    unfold chkS at hc
    exact sPar h hc
  | .aug i o a, st, hc => by
    unfold chkS at hc
    split at hc
    · rename_i n p e q
      obtain ⟨p1, p2, rfl⟩ := asAug_eq q
      obtain ⟨h1, hc⟩ := b2 hc
      obtain ⟨h2, hc⟩ := b2 hc
      obtain ⟨h3, hc⟩ := b2 hc
      obtain ⟨h4, h5⟩ := b2 hc
      rw [isOp_eq h1]
      obtain ⟨lx, lf⟩ := locB_eq h4 h.k
      exact rs_aug h.nd (by rw [h.ok.N]; exact of_decide_eq_true h3) lx lf (of_decide_eq_true h2) (weak (sE a W X S false e h.ok h.k h5) (Nat.zero_le _))
    · cases hc
  | .append i a, st, hc => by
    unfold chkS at hc
    split at hc
    · rename_i e q
      obtain ⟨p, rfl⟩ := asExprS_eq q
      split at hc
      · rename_i n m x q2
        obtain ⟨p1, ap, cp, rfl, hl⟩ := asOwnM_eq q2
        obtain ⟨h1, hc⟩ := b2 hc
        obtain ⟨h2, hc⟩ := b2 hc
        obtain ⟨h3, hc⟩ := b2 hc
        obtain ⟨h4, hc⟩ := b2 hc
        obtain ⟨h5, hc⟩ := b2 hc
        obtain ⟨h6, h7⟩ := b2 hc
        obtain rfl : m = "append" := of_decide_eq_true h1
        exact rs_append (by rw [h.ok.N]; exact of_decide_eq_true h2) (visB_eq (by rw [h.k.sc]; exact h3)) h4 hl h5 (weak (sE a W X S false x h.ok h.k h7) (of_decide_eq_true h6))
      · cases hc
    · cases hc
  | .insert i a b, st, hc => by
    unfold chkS at hc
    split at hc
    · rename_i e q
      obtain ⟨p, rfl⟩ := asExprS_eq q
      split at hc
      · rename_i n m x y q2
        obtain ⟨p1, ap, cp, rfl, hl⟩ := asOwnM_eq q2
        obtain ⟨h1, hc⟩ := b2 hc
        obtain ⟨h2, hc⟩ := b2 hc
        obtain ⟨h3, hc⟩ := b2 hc
        obtain ⟨h4, hc⟩ := b2 hc
        obtain ⟨h5, hc⟩ := b2 hc
        obtain ⟨h6, hc⟩ := b2 hc
        obtain ⟨h7, hc⟩ := b2 hc
        obtain ⟨h8, hc⟩ := b2 hc
        obtain ⟨h9, h10⟩ := b2 hc
        obtain rfl : m = "insert" := of_decide_eq_true h1
        exact rs_insert (by rw [h.ok.N]; exact of_decide_eq_true h2) (visB_eq (by rw [h.k.sc]; exact h3)) h4 hl h5 h6 (weak (sE a W X S false x h.ok h.k h9) (of_decide_eq_true h7)) (weak (sE b W X S false y h.ok h.k h10) (of_decide_eq_true h8))
      · cases hc
    · cases hc
  | .setIx i b a, st, hc => by
    unfold chkS at hc
    split at hc
    · rename_i t e q
      obtain ⟨p, rfl⟩ := asAsg_eq q
      split at hc
      · rename_i o y q2
        obtain ⟨p2, rfl⟩ := asSub_eq q2
        split at hc
        · rename_i n q3
          obtain ⟨p3, rfl⟩ := asName_eq q3
          obtain ⟨h1, hc⟩ := b2 hc
          obtain ⟨h2, hc⟩ := b2 hc
          obtain ⟨h3, hc⟩ := b2 hc
          obtain ⟨h4, hc⟩ := b2 hc
          obtain ⟨h5, hc⟩ := b2 hc
          obtain ⟨h6, h7⟩ := b2 hc
          exact rs_setIx (by rw [h.ok.N]; exact of_decide_eq_true h1) (visB_eq (by rw [h.k.sc]; exact h2)) h3 h4 (weak (sE a W X S false e h.ok h.k h6) (of_decide_eq_true h5)) (weak (sE b W X S false y h.ok h.k h7) (Nat.zero_le _))
        · cases hc
      · cases hc
    · cases hc
  | .ret a, st, hc => by
    unfold chkS at hc
    split at hc
    · rename_i e q
      obtain ⟨p, rfl⟩ := asRet_eq q
      obtain ⟨h1, h2⟩ := b2 hc
      exact rs_ret (weak (sE a W X S false e h.ok h.k h2) (of_decide_eq_true h1))
    · cases hc
  | .retN, st, hc => by
    unfold chkS at hc
    split at hc
    · rename_i q
      obtain ⟨p, rfl⟩ := asRet_eq q
      exact rs_retN
    · cases hc
  | .retOwn i, st, hc => by
    unfold chkS at hc
    split at hc
    · rename_i e q
      obtain ⟨p, rfl⟩ := asRet_eq q
      obtain ⟨h1, h2⟩ := b2 hc
      obtain ⟨n, p1, rfl, w1, w2, w3⟩ := chkVar_eq h.ok h.k h2
      exact rs_retOwn w1 w2 w3 (of_decide_eq_true h1)
    · cases hc
  | .ite c a b, st, hc => by
    unfold chkS at hc
    split at hc
    · rename_i e p q w
      obtain ⟨pos, rfl⟩ := asIfS_eq w
      obtain ⟨h1, hc⟩ := b2 hc
      obtain ⟨h2, h3⟩ := b2 hc
      exact rs_ite (sE c W X S true e h.ok h.k h1).1 (sSs h a p h2) (sSs h b q h3)
    · cases hc
  | .for_ t it b, st, hc => by
    unfold chkS at hc
    split at hc
    · rename_i tg e p w
      obtain ⟨pos, rfl⟩ := asForS_eq w
      obtain ⟨h1, hc⟩ := b2 hc
      obtain ⟨h2, hc⟩ := b2 hc
      obtain ⟨h3, h4⟩ := b2 hc
      exact rs_for h.own h.ok.calm (sIt it W X S true tg e h.ok h.k h2) (sT h.ok.N h.ok.nd h.ok.calm h.k t tg h1) (sSs h b p h4) h3
    · cases hc
  | .while_ c b, st, hc => by
    unfold chkS at hc
    split at hc
    · rename_i e p w
      obtain ⟨pos, rfl⟩ := asWhileS_eq w
      obtain ⟨h1, h2⟩ := b2 hc
      exact rs_while h.own (sE c W X S true e h.ok h.k h1).1 (sSs h b p h2)
    · cases hc
  | .freeze _, st, hc => by unfold chkS at hc; cases hc
  | .cont, st, hc => by
    unfold chkS at hc
    obtain ⟨p, rfl⟩ := isContS_eq hc
    exact rs_cont
  | .brk, st, hc => by
    unfold chkS at hc
    obtain ⟨p, rfl⟩ := isBrkS_eq hc
    exact rs_brk
  | .pass, st, hc => by
    unfold chkS at hc
    obtain ⟨p, rfl⟩ := isPassS_eq hc
    exact rs_pass
theorem sSs (h : SOk L C ck W X S) : ∀ (l : List Nl.St) (sts : List Stmt), chkSs ck S rk l sts = true → PSs X sts (tSs C L W rk g0 H0 l)
  | [], [], hc => rss_nil
  | [], _ :: _, hc => by unfold chkSs at hc; cases hc
  | s :: r, sts, hc => by
    unfold chkSs at hc
    by_cases hb : isBadS s = true
    · cases s with
      | bad => exact rss_bad
      | _ => cases hb
    · rw [if_neg hb] at hc
      by_cases hg : ghost s = true
      · rw [if_pos hg] at hc
        cases s with
        | freeze i => exact rss_freeze (sSs h r sts hc)
        | _ => cases hg
      · rw [if_neg hg] at hc
        cases sts with
        | nil => cases hc
        | cons st sts =>
          obtain ⟨h1, h2⟩ := b2 hc
          exact rss_cons (sS h s st h1) (sSs h r sts h2)
end
end
end Nl
end
section
set_option Elab.async false
set_option linter.all false
set_option maxRecDepth 100000
set_option maxHeartbeats 2000000
/-! Nl, 20: arguments bound. -/
namespace Nl
open PySem PySem.Spec PyProof.Rows L2
theorem bind_loop {extra : List (PySem.Str × Value)} {f : PySem.Str × Value → List (PySem.Str × Value) × List (PySem.Str × Value) → Sem (ForInStep (List (PySem.Str × Value) × List (PySem.Str × Value)))} (good : PySem.Str → List (PySem.Str × Value) → Prop)
    (hf : ∀ k v s, good k s → f (k, v) (s, extra) = pure (.yield (s ++ [(k, v)], extra))) : ∀ (l : List (PySem.Str × Value)) (s : List (PySem.Str × Value)), (∀ i k v, l[i]? = some (k, v) → good k (s ++ l.take i)) → forIn l (s, extra) f = pure (s ++ l, extra)
  | [], s, _ => by rw [List.forIn_nil, List.append_nil]
  | (k, v) :: l, s, h => by
    rw [List.forIn_cons, hf k v s (by have := h 0 k v rfl; simpa using this)]
    show forIn l (s ++ [(k, v)], extra) f = _
    rw [bind_loop good hf l (s ++ [(k, v)]) (fun i k' v' e => by
      have := h (i + 1) k' v' (by simpa using e)
      simpa using this)]
    simp
theorem lookup_zip {ps : List PySem.Str} {us : List Value} {k : PySem.Str} (h : k ∉ ps.take us.length) : (ps.zip us).lookup k = none := by
  induction ps generalizing us with
  | nil => rfl
  | cons p ps ih =>
    cases us with
    | nil => rfl
    | cons u us =>
      rw [List.zip_cons_cons, List.lookup_cons]
      have z : (k == p) = false := by
        cases q : k == p with
        | false => rfl
        | true => exact absurd (by rw [beq_iff_eq.mp q]; exact List.mem_cons_self) h
      rw [z]
      exact ih fun q => h (List.mem_cons_of_mem _ q)
theorem lookup_no {kws : List (PySem.Str × Value)} {k : PySem.Str} (h : k ∉ kws.map (·.1)) : kws.lookup k = none := by
  induction kws with
  | nil => rfl
  | cons p kws ih =>
    obtain ⟨a, b⟩ := p
    rw [List.lookup_cons]
    have z : (k == a) = false := by
      cases q : k == a with
      | false => rfl
      | true => exact absurd (by rw [beq_iff_eq.mp q]; exact List.mem_cons_self) h
    rw [z]
    exact ih fun q => h (List.mem_cons_of_mem _ q)
theorem lookup_app {a b : List (PySem.Str × Value)} {k : PySem.Str} (h : a.lookup k = none) : (a ++ b).lookup k = b.lookup k := by
  induction a with
  | nil => rfl
  | cons p a ih =>
    obtain ⟨x, y⟩ := p
    rw [List.lookup_cons] at h
    rw [List.cons_append, List.lookup_cons]
    cases q : k == x with
    | true => rw [q] at h; cases h
    | false => rw [q] at h; exact ih h
theorem lookup_app1 {a b : List (PySem.Str × Value)} {k : PySem.Str} {v : Value} (h : a.lookup k = some v) : (a ++ b).lookup k = some v := by
  induction a with
  | nil => cases h
  | cons p a ih =>
    obtain ⟨x, y⟩ := p
    rw [List.lookup_cons] at h
    rw [List.cons_append, List.lookup_cons]
    cases q : k == x with
    | true => rw [q] at h; exact h
    | false => rw [q] at h; exact ih h
/-- the values at the names: the first by place, the rest by name -/
theorem binds_all {ps : List PySem.Str} (nd : ps.Nodup) : ∀ {us : List Value} {kws : List (PySem.Str × Value)} {l : List Value}, us.length ≤ ps.length → arrF kws (ps.drop us.length) = some l → (ps.filterMap fun n => ((ps.zip us ++ kws).lookup n).map (n, ·)) = ps.zip (us ++ l) ∧ ∀ n ∈ ps, ((ps.zip us ++ kws).lookup n).isNone = false := by
  have tail : ∀ (ps : List PySem.Str) {kws : List (PySem.Str × Value)} {l : List Value}, arrF kws ps = some l → (ps.filterMap fun n => (kws.lookup n).map (n, ·)) = ps.zip l ∧ ∀ n ∈ ps, (kws.lookup n).isNone = false := by
    intro ps
    induction ps with
    | nil => intro kws l e; cases e; exact ⟨rfl, fun _ h => nomatch h⟩
    | cons p ps ih =>
      intro kws l e
      unfold arrF at e
      cases q1 : kws.lookup p with
      | none => rw [q1] at e; cases e
      | some v =>
        cases q2 : arrF kws ps with
        | none => rw [q1, q2] at e; cases e
        | some l0 =>
          rw [q1, q2] at e
          cases e
          obtain ⟨w1, w2⟩ := ih q2
          refine ⟨by rw [List.filterMap_cons, q1]; simp only [Option.map_some]; rw [w1, List.zip_cons_cons], fun n hn => ?_⟩
          rcases List.mem_cons.mp hn with rfl | hn
          · rw [q1]; rfl
          · exact w2 n hn
  induction ps with
  | nil =>
    intro us kws l hu e
    cases us with
    | nil => cases e; exact ⟨rfl, fun _ h => nomatch h⟩
    | cons _ _ => simp at hu
  | cons p ps ih =>
    intro us kws l hu e
    cases us with
    | nil => exact tail _ e
    | cons u us =>
      obtain ⟨hp, nd'⟩ := List.nodup_cons.mp nd
      obtain ⟨w1, w2⟩ := ih nd' (us := us) (kws := kws) (l := l) (by simpa using hu) (by simpa using e)
      have hd : ((p :: ps).zip (u :: us) ++ kws).lookup p = some u := by
        rw [List.zip_cons_cons, List.cons_append, List.lookup_cons, beq_self_eq_true]
      have tl : ∀ n ∈ ps, ((p :: ps).zip (u :: us) ++ kws).lookup n = (ps.zip us ++ kws).lookup n := fun n hn => by
        rw [List.zip_cons_cons, List.cons_append, List.lookup_cons]
        cases q : n == p with
        | false => rfl
        | true => exact absurd (by rw [← beq_iff_eq.mp q]; exact hn) hp
      refine ⟨?_, fun n hn => ?_⟩
      · rw [List.filterMap_cons, hd]
        simp only [Option.map_some]
        rw [show (p :: ps).zip (u :: us ++ l) = (p, u) :: ps.zip (us ++ l) from rfl, ← w1]
        congr 1
        have go : ∀ qs : List PySem.Str, (∀ n ∈ qs, n ∈ ps) → (qs.filterMap fun n => (((p, u) :: ps.zip us ++ kws).lookup n).map (n, ·)) = qs.filterMap fun n => ((ps.zip us ++ kws).lookup n).map (n, ·) := by
          intro qs
          induction qs with
          | nil => intro _; rfl
          | cons q qs ihq =>
            intro hq
            rw [List.filterMap_cons, List.filterMap_cons, ihq fun n hn => hq n (List.mem_cons_of_mem _ hn)]
            have := tl q (hq q List.mem_cons_self)
            rw [show ((p, u) :: ps.zip us ++ kws).lookup q = (ps.zip us ++ kws).lookup q from this]
        exact go ps fun _ h => h
      · rcases List.mem_cons.mp hn with rfl | hn
        · rw [hd]; rfl
        · rw [tl n hn]; exact w2 n hn
theorem bind_plain {fd : FuncData} {ps : List PySem.Str} {us : List Value} {kws : List (PySem.Str × Value)} {l : List Value} (h1 : fd.params.posonlyargs = []) (h2 : fd.params.args.map (·.arg) = ps) (h3 : fd.params.kwonlyargs = []) (h4 : fd.params.vararg = none) (h5 : fd.params.kwarg = none) (h6 : fd.defaults = .none) (nd : ps.Nodup)
    (e : arrange ps us kws = some l) : bindArgs fd ⟨us, kws⟩ = pure (ps.zip l) := by
  unfold arrange at e
  by_cases c : ps.length = us.length + kws.length ∧ ((kws.map (·.1)).all (fun k => (ps.drop us.length).contains k) && nodupB (kws.map (·.1))) = true
  · rw [if_pos c] at e
    cases w : arrF kws (ps.drop us.length) with
    | none => rw [w] at e; cases e
    | some l0 =>
      rw [w] at e
      cases e
      obtain ⟨c1, c2⟩ := c
      obtain ⟨c2, c3⟩ := b2 c2
      obtain ⟨f1, f2⟩ := binds_all nd (us := us) (by omega) w
      unfold bindArgs
      simp only [h1, h2, h3, h4, h5, h6]
      have lp := fun f hf => bind_loop (extra := []) (f := f) (fun k s => ps.contains k = true ∧ (s.lookup k).isSome = false) hf kws (ps.zip us) (fun i k v hi => by
        have mem : (k, v) ∈ kws := List.mem_iff_getElem?.mpr ⟨i, hi⟩
        have m1 : k ∈ kws.map (·.1) := List.mem_map.mpr ⟨(k, v), mem, rfl⟩
        have m2 : k ∈ ps.drop us.length := by
          have := List.all_eq_true.mp c2 k m1
          simpa using this
        have m3 : k ∉ ps.take us.length := fun z => by
          have nd2 : (ps.take us.length ++ ps.drop us.length).Nodup := by rw [List.take_append_drop]; exact nd
          exact (List.nodup_append.mp nd2).2.2 k z k m2 rfl
        have ndk : ∀ (xs : List (PySem.Str × Value)) (i : Nat) (k : PySem.Str) (v : Value), nodupB (xs.map (·.1)) = true → xs[i]? = some (k, v) → k ∉ (xs.take i).map (·.1) := by
          intro xs
          induction xs with
          | nil => intro i k v _ h; simp at h
          | cons x xs ih =>
            intro i k v hn h
            obtain ⟨n1, n2⟩ := b2 (show (!(xs.map (·.1)).contains x.1 && nodupB (xs.map (·.1))) = true from hn)
            cases i with
            | zero => simp
            | succ i =>
              have h' : xs[i]? = some (k, v) := by simpa using h
              rw [List.take_succ_cons, List.map_cons]
              intro z
              rcases List.mem_cons.mp z with z | z
              · have : k ∈ xs.map (·.1) := List.mem_map.mpr ⟨(k, v), List.mem_iff_getElem?.mpr ⟨i, h'⟩, rfl⟩
                rw [z] at this
                simp at n1
                obtain ⟨y, hy⟩ := List.mem_map.mp this
                exact n1 y.2 (by have := hy.1; rw [← hy.2]; exact this)
              · exact ih i k v n2 h' z
        refine ⟨?_, ?_⟩
        · have := List.mem_of_mem_drop m2
          simpa using this
        · rw [lookup_app (lookup_zip m3), lookup_no (ndk kws i k v c3 hi)]; rfl)
      refine (congrArg (fun t => t >>= _) (lp _ ?_)).trans ?_
      · rintro k v s ⟨g1, g2⟩
        simp only [g1, g2]
        rfl
      have hno : decide (us.length > ps.length) = false := by simp; omega
      have hm : (List.filter (fun n => (List.lookup n (ps.zip us ++ kws)).isNone) ps) = [] := by
        rw [List.filter_eq_nil_iff]
        intro n hn
        rw [f2 n hn]
        simp
      show (if (decide (us.length > ps.length) && true) = true then _ else _) = _
      rw [hno, if_neg (by decide)]
      have e1 : List.take (ps.length - (List.drop (0 - ps.length) ([] : List Value)).length) ps = ps := by simp
      show (if (!(List.filter (fun n => (List.lookup n (ps.zip us ++ kws)).isNone) (List.take (ps.length - (List.drop (0 - ps.length) ([] : List Value)).length) ps)).isEmpty) = true then _ else _) = _
      rw [e1, hm, if_neg (by simp)]
      have e2 : ∀ n, (List.drop n ps).zip (List.drop (0 - ps.length) ([] : List Value)) = [] := by simp
      show ((forIn ((List.drop _ ps).zip (List.drop (0 - ps.length) ([] : List Value))) _ _) >>= _) = _
      rw [e2]
      show (pure (List.filterMap (fun n => Option.map (fun x => (n, x)) (List.lookup n (ps.zip us ++ kws))) (ps ++ [])) : Sem (List (PySem.Str × Value))) = _
      rw [List.append_nil, f1]
  · rw [if_neg c] at e; cases e
end Nl
end
section
set_option Elab.async false
set_option linter.all false
set_option maxRecDepth 100000
set_option maxHeartbeats 2000000
/-! Nl, 21: every def of a table keeps its promise. -/
namespace Nl
open PySem PySem.Spec PyProof.Rows L2
def ckT (fns : List PySem.Str) (T : List Fd) (gi : List (PySem.Str × Int)) (gs : List (PySem.Str × PySem.Str)) (F : Fd) : Ck := ⟨F.N, fns, T.map (·.fr), T.map (·.np), gi, gs⟩
def plainArgs (a : Arguments) (ps : List PySem.Str) : Bool := a.posonlyargs.isEmpty && (a.kwonlyargs.isEmpty && (a.vararg.isNone && (a.kwarg.isNone && decide (a.args.map (·.arg) = ps))))
def isFnKind : ScopeKind → Bool
  | .function => true
  | _ => false
def notFree : NameKind → Bool
  | .free => false
  | _ => true
def locOrCell (sc : Scope) (x : PySem.Str) : Bool := match sc.names.lookup x with
  | some .local => true
  | some .cell => true
  | _ => false
def scopeOk (N ps : List PySem.Str) (sc : Scope) : Bool := isFnKind sc.kind && (!sc.isCoroutine && (!sc.isGenerator && (nodupB N && (decide (N.take ps.length = ps) && (ps.all (locOrCell sc) && sc.names.all fun y => notFree y.2)))))
def chkFn (ck : Ck) (F : Fd) (a : Arguments) (body : List Stmt) (sc : Scope) : Bool := plainArgs a (F.N.take F.np) && (decide (F.np ≤ F.N.length) && (scopeOk F.N (F.N.take F.np) sc && chkSs ck ⟨sc, fun _ => true⟩ (if F.fr = true then 3 else 2) F.body body))
theorem nodupB_eq : ∀ {N : List PySem.Str}, nodupB N = true → N.Nodup
  | [], _ => List.nodup_nil
  | k :: r, h => by
    obtain ⟨h1, h2⟩ := b2 (show (!r.contains k && nodupB r) = true from h)
    exact List.nodup_cons.mpr ⟨by simpa using h1, nodupB_eq h2⟩
theorem scopeOk_eq {N ps : List PySem.Str} {sc : Scope} (h : scopeOk N ps sc = true) : FnScope N ps sc := by
  obtain ⟨h1, h⟩ := b2 h
  obtain ⟨h2, h⟩ := b2 h
  obtain ⟨h3, h⟩ := b2 h
  obtain ⟨h4, h⟩ := b2 h
  obtain ⟨h5, h⟩ := b2 h
  obtain ⟨h6, h7⟩ := b2 h
  refine ⟨?_, by simpa using h2, by simpa using h3, nodupB_eq h4, of_decide_eq_true h5, fun x hx => ?_, fun y hy e => ?_⟩
  · cases q : sc.kind with
    | function => rfl
    | _ => rw [q] at h1; cases h1
  · have z := List.all_eq_true.mp h6 x hx
    unfold locOrCell at z
    split at z
    · rename_i q; exact .inl q
    · rename_i q; exact .inr q
    · cases z
  · have z := List.all_eq_true.mp h7 y hy
    rw [e] at z
    cases z
section
variable {P : Program} {w : World} {K : PySem.W.Frag} {mg : PySem.Str → Option Value} {base : Heap} {L : Lk} {T : List Fd} {fns : List PySem.Str} {gi : List (PySem.Str × Int)} {gs : List (PySem.Str × PySem.Str)}
/-- a def of the table as it stands -/
structure FnAt (K : PySem.W.Frag) (mg : PySem.Str → Option Value) (L : Lk) (T : List Fd) (fns : List PySem.Str) (gi : List (PySem.Str × Int)) (gs : List (PySem.Str × PySem.Str)) (f : Nat) (x : PySem.Str) (a : Addr) (fd : FuncData) (F : Fd) : Prop where
  tab : T[f]? = some F
  mg : mg x = some (.ref a)
  at_ : L.fnA f = some a
  ex : ∃ (params : Arguments) (body : List Stmt) (scope : Scope), FunD K x x params body scope [] [] a fd ∧ chkFn (ckT fns T gi gs F) F params body scope = true
theorem binds_of {f : Nat} {x : PySem.Str} {a : Addr} {fd : FuncData} {F : Fd} (h : FnAt K mg L T fns gi gs f x a fd F) : BindsA fd (psT T f) := by
  obtain ⟨params, body, scope, D, c⟩ := h.ex
  obtain ⟨oc, od, dV, kV, doc, pm, an, cdv, ct, osl, rfl, lk, hcd, hD, _⟩ := D.ex
  have e : psT T f = F.N.take F.np := by unfold psT; rw [h.tab]
  rw [e]
  obtain ⟨h1, c⟩ := b2 c
  obtain ⟨h2, c⟩ := b2 c
  obtain ⟨h3, h4⟩ := b2 c
  obtain ⟨p1, h1⟩ := b2 h1
  obtain ⟨p2, h1⟩ := b2 h1
  obtain ⟨p3, h1⟩ := b2 h1
  obtain ⟨p4, p5⟩ := b2 h1
  have S := scopeOk_eq h3
  intro s us kws l ha
  rcases hD with ⟨_, rfl⟩ | ⟨e, _⟩
  · refine .of_eq (bind_plain (List.isEmpty_iff.mp p1) (of_decide_eq_true p5) (List.isEmpty_iff.mp p2) (Option.isNone_iff_eq_none.mp p3) (Option.isNone_iff_eq_none.mp p4) rfl ?_ ha)
    rw [← S.pre]
    exact S.nd.sublist (List.take_sublist _ _)
  · exact absurd rfl e
theorem env_start {g : G} {H : Hp} {args : List PV} {vs : List V} {N : List PySem.Str} (r : RepL L g args vs) (hl : args.length ≤ N.length) : EnvOk L g H H (args.map Slot.pv ++ List.replicate (N.length - args.length) .no) (L2.start N vs) := by
  have lv := r.length
  unfold L2.start
  have own_no : ∀ {i : Nat} {ps : List PV}, (args.map Slot.pv ++ List.replicate (N.length - args.length) Slot.no)[i]? = some (.own ps) → False := by
    intro i ps h
    have := List.mem_iff_getElem?.mpr ⟨i, h⟩
    rcases List.mem_append.mp this with z | z
    · obtain ⟨p, _, e⟩ := List.mem_map.mp z; cases e
    · have := List.eq_of_mem_replicate z; cases this
  refine ⟨by simp [lv], fun i s h => ?_, fun i j ps qs a _ h => (own_no h).elim⟩
  rcases Nat.lt_or_ge i args.length with hi | hi
  · rw [List.getElem?_append_left (by simpa using hi)] at h
    rw [List.getElem?_append_left (by simp; omega)]
    rw [List.getElem?_map] at h ⊢
    cases q : args[i]? with
    | none => rw [q] at h; cases h
    | some p =>
      rw [q] at h
      cases h
      obtain ⟨v, e1, e2⟩ := r.at q
      rw [e1]
      exact ⟨v, rfl, e2⟩
  · rw [List.getElem?_append_right (by simpa using hi)] at h
    have z := List.mem_iff_getElem?.mpr ⟨_, h⟩
    have := List.eq_of_mem_replicate z
    subst this
    trivial
theorem fn_all (all : ∀ (f : Nat) (x : PySem.Str), fns[f]? = some x → ∃ a fd F, FnAt K mg L T fns gi gs f x a fd F) (blt : ∀ x, x ∈ bltNames → mg x = none) (hgi : ∀ p, p ∈ gi → ∃ t, mg p.1 = some (.int p.2 t)) (hgs : ∀ p, p ∈ gs → ∃ t, mg p.1 = some (.str p.2 t)) :
    ∀ (d f : Nat) (x : PySem.Str) (a : Addr) (fd : FuncData) (F : Fd), fns[f]? = some x → FnAt K mg L T fns gi gs f x a fd F → FnG P w K mg base d a fd (psT T f) (spC L (callsT T d) (if F.fr = true then 3 else 2) f) := by
  intro d
  induction d with
  | zero =>
    intro f x a fd F hf h
    exact ⟨fun vs H Q E z => z.1, fun A outer s H args us vs Q E hr hg e0 hb r z => by
      obtain ⟨_, g, m, ps, k, rp, o⟩ := z
      exact (o : False).elim⟩
  | succ d ih =>
    intro f x a fd F hf h
    obtain ⟨params, body, scope, D, c⟩ := h.ex
    obtain ⟨oc, od, dV, kV, doc, pm, an, cdv, ct, osl, rfl, lk, hcd, hD, _⟩ := D.ex
    have e : psT T f = F.N.take F.np := by unfold psT; rw [h.tab]
    obtain ⟨h1, c⟩ := b2 c
    obtain ⟨h2, c⟩ := b2 c
    obtain ⟨h3, h4⟩ := b2 c
    have S := scopeOk_eq h3
    have np : (F.N.take F.np).length = F.np := by rw [List.length_take]; exact Nat.min_eq_left (of_decide_eq_true h2)
    rw [e]
    refine fnG_of lk hcd S (fun vs H Q E z => by rw [← e]; exact z.1) fun A outer s H vs Q E hr hg z => ?_
    obtain ⟨zl, g, m, args, k, rp, o⟩ := z
    have al : args.length = F.np := by rw [rp.length, zl]; show (psT T f).length = _; rw [e, np]
    refine ⟨tSs (callsT T d) L (fun cls dd _ H' => E cls dd H') (if F.fr = true then 3 else 2) g H F.body, sSs (S := ⟨scope, fun _ => true⟩) ⟨?_, ⟨rfl, fun _ _ => rfl⟩, S.kind, passes_of rfl⟩ F.body body h4, g, _, m, k, env_start rp (by rw [al]; exact of_decide_eq_true h2), .rfl', ?_⟩
    · exact {
        N := rfl
        nd := S.nd
        calm := rfl
        gds := hg
        units := by have := hr.un; show (A.deeper (envOfC x scope s.heap.objs.size a cdv)).units + 200 < 9900; have e : cLine = 9900 := rfl; omega
        fn := fun f' x' hf' => by
          obtain ⟨a', fd', F', h'⟩ := all f' x' hf'
          have fk : (ckT fns T gi gs F).fk f' = if F'.fr = true then 3 else 2 := by
            show (if (T.map (·.fr)).getD f' false = true then 3 else 2) = _
            rw [List.getD_eq_getElem?_getD, List.getElem?_map, h'.tab]
            rfl
          rw [fk]
          obtain ⟨_, _, _, D', _⟩ := h'.ex
          exact ⟨d, a', fd', hr, h'.mg, h'.at_, D'.kp, ih f' x' a' fd' F' hf' h', binds_of h'⟩
        ar := fun f' x' hf' => by
          obtain ⟨a', fd', F', h'⟩ := all f' x' hf'
          obtain ⟨_, _, _, _, c'⟩ := h'.ex
          show (T.map (·.np)).getD f' 0 = (psT T f').length
          unfold psT
          rw [List.getD_eq_getElem?_getD, List.getElem?_map, h'.tab]
          have := of_decide_eq_true (b2 (b2 c').2).1
          show F'.np = (F'.N.take F'.np).length
          rw [List.length_take, Nat.min_eq_left this]
        takes := takes_of rfl rfl rfl rfl
        blt := blt
        gi := hgi
        gs := hgs }
    · have ce : callT T (d + 1) f args m = (match execs (callsT T d) F.body (args.map Slot.pv ++ List.replicate (F.N.length - F.np) .no) m with
        | .ok (.ret p) m' => .ok p m'
        | .ok (.next _) m' => .ok .non m'
        | .ok (.exc x _) m' => .exc x m'
        | _ => .stuck : R PV) := by
        show (match T[f]? with
          | some F => if args.length = F.np then fun m => (match execs ⟨callT T d, psT T⟩ F.body (args.map Slot.pv ++ List.replicate (F.N.length - F.np) .no) m with
            | .ok (.ret p) m' => .ok p m'
            | .ok (.next _) m' => .ok .non m'
            | .ok (.exc x _) m' => .exc x m'
            | _ => .stuck : R PV) else stuck
          | none => stuck : Py PV) m = _
        rw [h.tab]
        have key : ∀ (b : Py PV), (if args.length = F.np then b else stuck) = b := fun b => if_pos al
        exact congrFun (key _) m
      have o' : Out L (fun c d _ H => E c d H) [] g H (callT T (d + 1) f args m) (RK L (if F.fr = true then 3 else 2) H) Q := o
      rw [ce] at o'
      rw [al]
      cases q : execs (callsT T d) F.body (args.map Slot.pv ++ List.replicate (F.N.length - F.np) .no) m with
      | ok fl m1 =>
        rw [q] at o'
        cases fl with
        | next en => exact fun g' H' σ' k' eo' po' ex => o' g' H' .non k' po' (by
            cases F.fr with
            | true => exact rfl
            | false => exact rfl)
        | brk _ => exact o'.elim
        | cont _ => exact o'.elim
        | ret p => exact fun g' H' v k' po' r => o' g' H' v k' po' r
        | exc x en => exact fun g' H' σ' cls dd k' eo' po' ex xr => o' g' H' cls dd k' po' xr
      | exc _ _ => rw [q] at o'; exact o'.elim
      | stuck => rw [q] at o'; exact o'.elim
end
end Nl
end
section
set_option Elab.async false
set_option linter.all false
set_option maxRecDepth 100000
set_option maxHeartbeats 2000000
/-! Nl, 22: the head's facts, the law's end. -/
namespace Nl
open PySem PySem.Spec PyProof.Rows L2

/-! ### the written part without its lists -/
def isLst (o : Obj) : Bool := match o.cls with
  | .type c => decide (c = "list")
  | _ => false
def frL (g : Addr → Option Obj) (l : List Addr) : PySem.W.Frag := (He.frG g l).filter fun q => !isLst q.2
theorem lk_mem {a : Addr} {o : Obj} : ∀ {l : List (Addr × Obj)}, l.lookup a = some o → (a, o) ∈ l
  | [], h => by cases h
  | (b, u) :: r, h => by
    rw [List.lookup_cons] at h
    cases q : a == b with
    | true =>
      rw [q] at h
      cases h
      rw [beq_iff_eq.mp q]
      exact List.mem_cons_self
    | false =>
      rw [q] at h
      exact List.mem_cons_of_mem _ (lk_mem h)
theorem frL_ok {g : Addr → Option Obj} {l : List Addr} {a : Addr} {o : Obj} (h : (frL g l).lookup a = some o) : g a = some o ∧ isLst o = false := by
  have m := lk_mem h
  unfold frL at m
  obtain ⟨h1, h2⟩ := List.mem_filter.mp m
  refine ⟨?_, by simpa using h2⟩
  unfold He.frG at h1
  obtain ⟨b, _, e⟩ := List.mem_filterMap.mp h1
  cases hb : g b with
  | none => rw [hb] at e; cases e
  | some u =>
    rw [hb] at e
    have e2 : (b, u) = (a, o) := Option.some.inj e
    cases e2
    exact hb
def hkN (n : Nat) (fa : List He.Fa) (fn : List He.DefD) : PySem.W.Hook where
  α := He.AlD
  obs := fun s => He.obsD fa fn (frL s.heap.get? (He.asD s.heap.get? n))
  val := fun _ => He.valD fn
  says := fun _ h => ∃ K : PySem.W.Frag, K.In h ∧ He.SaysD fa fn K ∧ ∀ a o, K.lookup a = some o → isLst o = false
  of := fun _ _ e => ⟨_, fun _ _ z => (frL_ok z).1, e, fun _ _ z => (frL_ok z).2⟩
  keeps := fun _ _ _ ⟨K, hK, c⟩ k => ⟨K, PySem.W.Frag.In.keeps hK k, c⟩
def obN (n : Nat) (fa : List He.Fa) (fn : List He.DefD) (s : PySem.W.SharedT) : He.AlD := He.obsD fa fn (frL (HandSHeadRun.getT s) (He.asD (HandSHeadRun.getT s) n))
theorem obN_eq {n : Nat} {fa : List He.Fa} {fn : List He.DefD} (s : PySem.W.SharedT) : obN n fa fn s = (hkN n fa fn).obs s.abs := by
  have e : HandSHeadRun.getT s = s.abs.heap.get? := funext (HandSHeadRun.getT_eq s)
  unfold obN
  rw [e]
  rfl

/-! ### the law -/
def faN (fns : List PySem.Str) (gi : List (PySem.Str × Int)) (gs : List (PySem.Str × PySem.Str)) : List He.Fa := fns.map He.Fa.glo ++ (bltNames.map He.Fa.free ++ (gi.map (fun p => He.Fa.int p.1 p.2) ++ gs.map (fun p => He.Fa.str p.1 p.2)))
def ddN (top : Nat → Stmt) (x : PySem.Str) (i : Nat) : He.DefD := ⟨(x, none), x, x, defArgs (top i), defBody (top i), defScope (top i), [], []⟩
def fnN (top : Nat → Stmt) (fns : List PySem.Str) (ix : List Nat) : List He.DefD := List.zipWith (ddN top) fns ix
def chkAll (top : Nat → Stmt) (fns : List PySem.Str) (ix : List Nat) (T : List Fd) (gi : List (PySem.Str × Int)) (gs : List (PySem.Str × PySem.Str)) : Bool := decide (fns.length = T.length) && (decide (fns.length = ix.length) && (List.zipWith (fun F i => chkFn (ckT fns T gi gs F) F (defArgs (top i)) (defBody (top i)) (defScope (top i))) T ix).all id)
section
variable {top : Nat → Stmt} {fns : List PySem.Str} {ix : List Nat} {T : List Fd} {gi : List (PySem.Str × Int)} {gs : List (PySem.Str × PySem.Str)} {K : PySem.W.Frag} {mg : PySem.Str → Option Value} {h : Heap}
def lkN (K : PySem.W.Frag) (fns : List PySem.Str) : Lk := ⟨fun f => fns[f]?.map (He.ga K), fun _ => none⟩
theorem says_fact {fa : List He.Fa} {fn : List He.DefD} (c : He.SaysD fa fn K) {f : He.Fa} (h : f ∈ fa) : f.ok K = true := by
  obtain ⟨i, e⟩ := List.mem_iff_getElem?.mp h
  exact c.fact i e
theorem fnAt_of (c : chkAll top fns ix T gi gs = true) (X : K.In h) (G : h.Ns mainGlobals mg) (s : He.SaysD (faN fns gi gs) (fnN top fns ix) K) : ∀ (f : Nat) (x : PySem.Str), fns[f]? = some x → ∃ a fd F, FnAt K mg (lkN K fns) T fns gi gs f x a fd F := by
  intro f x hf
  obtain ⟨c1, c⟩ := b2 c
  obtain ⟨c2, c⟩ := b2 c
  have l1 := of_decide_eq_true c1
  have l2 := of_decide_eq_true c2
  have hl := (List.getElem?_eq_some_iff.mp hf).1
  have hT : T[f]? = some (T[f]'(by omega)) := List.getElem?_eq_getElem _
  have hi : ix[f]? = some (ix[f]'(by omega)) := List.getElem?_eq_getElem _
  have hd : (fnN top fns ix)[f]? = some (ddN top x (ix[f]'(by omega))) := by
    unfold fnN
    rw [List.getElem?_zipWith, hf, hi]
  obtain ⟨fd, D⟩ := s.def_ f hd
  have cf : chkFn (ckT fns T gi gs (T[f]'(by omega))) (T[f]'(by omega)) (defArgs (top (ix[f]'(by omega)))) (defBody (top (ix[f]'(by omega)))) (defScope (top (ix[f]'(by omega)))) = true := by
    have m : (List.zipWith (fun F i => chkFn (ckT fns T gi gs F) F (defArgs (top i)) (defBody (top i)) (defScope (top i))) T ix)[f]? = some (chkFn (ckT fns T gi gs (T[f]'(by omega))) (T[f]'(by omega)) (defArgs (top (ix[f]'(by omega)))) (defBody (top (ix[f]'(by omega)))) (defScope (top (ix[f]'(by omega))))) := by
      rw [List.getElem?_zipWith, hT, hi]
    exact List.all_eq_true.mp c _ (List.mem_iff_getElem?.mpr ⟨f, m⟩)
  refine ⟨He.ga K x, fd, T[f]'(by omega), hT, ?_, ?_, _, _, _, D, cf⟩
  · refine He.glo_ok X G (says_fact s ?_)
    unfold faN
    exact List.mem_append_left _ (List.mem_map.mpr ⟨x, List.mem_iff_getElem?.mpr ⟨f, hf⟩, rfl⟩)
  · show fns[f]?.map (He.ga K) = _
    rw [hf]; rfl
/-- THE END of a law of the table: fl is the law's place, D the calls that may stand above one another -/
theorem walk_nl {l : PySem.W.OpenLaw} {n m D fl : Nat} {q : Program} {loose : List PySem.Str} {XP : (PySem.Str → Option Value) → Heap → Prop} {d : DefRec} {x : PySem.Str} (hn : l.most = some n) (hn2 : n ≤ sizeLine) (hdf : d.params.defaults = []) (hr : Room D callerA) (hfl : fns[fl]? = some d.name) (hps : psT T fl = [x])
    (c : chkAll top fns ix T gi gs = true)
    (math : ∀ ns : List Int, ns.length ≤ n → (∀ z ∈ ns, Builtin.Int.intBits z ≤ 1048576) → ∃ m', callT T D fl [.lst (ns.map .int)] [] = .ok (.bl true) m') :
    PySem.W.WalkO q loose XP (hkN m (faN fns gi gs) (fnN top fns ix)).says l.row.toRowW d [] (fun f vs => PySem.call f vs) := by
  refine Att.attach_callB hn hdf fun w s₀ s₁ mg mb fa o pm cd doc a vs ns G Y ho hd hcd hmg hobj hints hlen hbits hg => ?_
  obtain ⟨K, KX, sd, nl⟩ := Y
  have at0 := fnAt_of c KX G.T.g sd
  obtain ⟨a0, fd, F0, A0⟩ := at0 fl d.name hfl
  have ea : a0 = fa := by have := A0.mg.symm.trans hmg; injection this with this; injection this
  subst ea
  have bnd : BindsA fd (psT T fl) := binds_of A0
  have notK : K.lookup a = none := by
    cases e : K.lookup a with
    | none => rfl
    | some ob =>
      have e1 := KX a ob e
      rw [hobj] at e1
      cases e1
      have z : decide (("list" : String) = "list") = false := nl a _ e
      exact absurd z (by decide)
  rw [hps] at bnd
  refine lawG (fd := fd) (x := x) (sp := spC (lkN K fns) (callsT T D) (if F0.fr = true then 3 else 2) fl) KX G.T.g G.T.b G.T.builtins G.T.nolimit hg hobj hints (Nat.le_trans hlen hn2) hr notK (fun base KB GB => ?_) (fun s u => ?_) fun H hO hR => ?_
  · have at1 := fnAt_of c KB GB sd
    have A1 : FnAt K mg (lkN K fns) T fns gi gs fl d.name a0 fd F0 := A0
    have r := fn_all (P := l.prog) (w := w) (base := base) at1 (fun y hy => He.free_ok KB GB (says_fact sd (List.mem_append_right _ (List.mem_append_left _ (List.mem_map.mpr ⟨y, hy, rfl⟩)))))
      (fun p hp => He.int_ok KB GB (says_fact sd (List.mem_append_right _ (List.mem_append_right _ (List.mem_append_left _ (List.mem_map.mpr ⟨p, hp, rfl⟩))))))
      (fun p hp => He.str_ok KB GB (says_fact sd (List.mem_append_right _ (List.mem_append_right _ (List.mem_append_right _ (List.mem_map.mpr ⟨p, hp, rfl⟩)))))) D fl d.name a0 fd F0 hfl A1
    rw [hps] at r
    exact r
  · exact bnd s [u] [] [u] (arrange_pos rfl)
  · refine ⟨by show 1 = (psT T fl).length; rw [hps]; rfl, ⟨fun b => if b = a then some (.lst (ns.map V.int)) else none, []⟩, [], [.lst (ns.map .int)], ⟨fun b o e => ?_, rfl, List.nodup_nil, fun n b o e => by cases e⟩, .cons ?_ .nil, ?_⟩
    · have e' : (if b = a then some (HO.lst (ns.map V.int)) else none) = some o := e
      by_cases z : b = a
      · rw [if_pos z] at e'; cases e'; rw [z]; exact hR
      · rw [if_neg z] at e'; cases e'
    · unfold Rep
      exact ⟨a, ns.map V.int, rfl, if_pos rfl, RepL.ints⟩
    · obtain ⟨m', e⟩ := math ns hlen hbits
      show Out _ _ _ _ _ (callT T D fl [.lst (ns.map .int)] []) _ _
      rw [e]
      intro g' H' v _ _ r
      revert r
      cases F0.fr with
      | true => exact fun r => r
      | false => exact fun r => r
end
end Nl
end
section
set_option Elab.async false
set_option linter.all false
set_option maxRecDepth 100000
namespace Nl.k15
open PySem (Str)
def ir_is_integer : List St := [.ret (.and (.isi (.var 0) ["int"]) (.not (.isi (.var 0) ["bool"])))]
def fd_is_integer : Fd := ⟨1, (["value"] : List Str), false, ir_is_integer⟩
def ir_check_row : List St := [.ite (.or (.not (.isi (.var 0) ["tuple"])) (.cmp .eq (.bi .len [.var 0]) (.int 0))) [.bad] [], .for_ (.tup [.var 1, .var 2]) (.enum (.var 0)) [.ite (.or (.not (.call 0 [.var 2])) (.or (.cmp .lt (.var 2) (.int 0)) (.cmp .ge (.var 1) (.gint "MOST_ENDS" 12)))) [.bad] []]]
def fd_check_row : Fd := ⟨1, (["value", "at", "number"] : List Str), false, ir_check_row⟩
def ir_tops_of : List St := [.par [(1, true), (2, false)] [.lst [], .int 0], .for_ (.var 3) (.seq (.sortedRev (.var 0))) [.aug 2 .add (.var 3), .append 1 (.var 2)], .ret (.bi .tuple [.peek 1])]
def fd_tops_of : Fd := ⟨1, (["row", "found", "total", "number"] : List Str), false, ir_tops_of⟩
def ir_top_sums : List St := [.expr (.call 1 [.var 0]), .ret (.call 2 [.var 0])]
def fd_top_sums : Fd := ⟨1, (["row"] : List Str), false, ir_top_sums⟩
def ir__law_keg : List St := [.set 2 (.ite (.cmp .lt (.var 1) (.bi .len [.var 0])) (.bi .int [.ix (.var 0) (.var 1)]) (.bin .add (.bin .mul (.int 4421) (.var 1)) (.int 19))), .set 3 (.bin .add (.int 60013) (.bin .mul (.int 911) (.var 1))), .for_ (.var 4) (.seq (.bin .add (.sl (.var 0) none (some (.int 5))) (.lst [.var 2]))) [.set 3 (.bin .mod (.bi .int [.bin .add (.bin .mul (.var 3) (.int 40009)) (.bi .int [.var 4])]) (.int 2147483171))], .ret (.malloc (.lst [.ite (.or (.cmp .lt (.var 2) (.int 0)) (.cmp .ge (.var 2) (.bin .pow (.int 10) (.int 18)))) (.bi .abs [.var 2]) (.int 0), .var 3, .int 0]))]
def fd__law_keg : Fd := ⟨2, (["_law_script", "_law_k", "_law_cell", "_law_mixed_here", "_law_each"] : List Str), false, ir__law_keg⟩
def ir__law_pour : List St := [.setT (.ix (.var 0) (.int 2)) (.bin .add (.mix (.var 0) (.int 2)) (.int 1)), .set 2 (.bi .int [.mix (.var 0) (.int 1)]), .setT (.ix (.var 0) (.int 1)) (.bin .mod (.bi .int [.bin .add (.bin .add (.bin .mul (.var 2) (.bin .add (.bin .mod (.bi .int [.var 2]) (.int 9001)) (.int 27011))) (.bin .mul (.int 50021) (.mix (.var 0) (.int 2)))) (.int 29)]) (.int 2147483171)), .ite (.cmp .gt (.mix (.var 0) (.int 0)) (.int 0)) [.setT (.tup [.ix (.var 0) (.int 0), .g (.var 3)]) (.bi .divmod [.mix (.var 0) (.int 0), .var 1]), .ret (.var 3)] [], .ret (.bin .mod (.bi .int [.bin .fdiv (.mix (.var 0) (.int 1)) (.int 88)]) (.var 1))]
def fd__law_pour : Fd := ⟨2, (["_law_keg_here", "_law_many", "_law_old", "_law_figure"] : List Str), false, ir__law_pour⟩
def ir__law_one : List St := [.ret (.ix (.var 1) (.call 5 [.var 0, .bi .len [.var 1]]))]
def fd__law_one : Fd := ⟨2, (["_law_keg_here", "_law_things"] : List Str), false, ir__law_one⟩
def ir__law_heights : List St := [.par [(1, false), (2, true), (3, false)] [.rev (.bi .sorted [.var 0]), .lst [], .int 0], .for_ (.var 4) (.seq (.var 1)) [.set 3 (.bin .add (.var 3) (.var 4)), .append 2 (.var 3)], .freeze 2, .ret (.var 2)]
def fd__law_heights : Fd := ⟨1, (["_law_parts_here", "_law_ordered", "_law_found", "_law_total", "_law_each"] : List Str), false, ir__law_heights⟩
def ir__law_mixed : List St := [.setOwn 2 (.lst []), .for_ (.var 3) (.seq (.var 1)) [.insert 2 (.call 5 [.var 0, .bin .add (.bi .len [.peek 2]) (.int 1)]) (.var 3)], .freeze 2, .ret (.var 2)]
def fd__law_mixed : Fd := ⟨2, (["_law_keg_here", "_law_things", "_law_found", "_law_each"] : List Str), false, ir__law_mixed⟩
def ir__law_parts : List St := [.set 3 (.call 5 [.var 0, .var 2]), .setOwn 4 (.lst []), .for_ (.var 5) (.rng1 (.var 1)) [.set 6 (.bi .max2 [.int 0, .bin .sub (.bin .add (.var 3) (.call 5 [.var 0, .int 5])) (.int 2)]), .append 4 (.call 6 [.var 0, .lst [.var 3, .var 6, .var 6, .call 5 [.var 0, .var 2]]])], .ret (.bi .tuple [.peek 4])]
def fd__law_parts : Fd := ⟨3, (["_law_keg_here", "_law_many", "_law_scale_here", "_law_base", "_law_found", "_law_turn", "_law_near"] : List Str), false, ir__law_parts⟩
def ir__law_scale : List St := [.ret (.call 6 [.var 0, .lst [.int 4, .int 9, .int 30, .int 1000, .bin .pow (.int 10) (.int 25)]])]
def fd__law_scale : Fd := ⟨1, (["_law_keg_here"] : List Str), false, ir__law_scale⟩
def ir__law_choices : List St := [.set 2 (.lst [.tup [.int 0, .int 0]]), .for_ (.var 3) (.seq (.var 0)) [.set 2 (.bin .add (.var 2) (.comp [4, 5] (.tup [.var 4, .var 5]) (.seq (.var 2)) (some (.cmp .lt (.var 4) (.var 1))) (.tup [.bin .add (.var 4) (.int 1), .bin .add (.var 5) (.var 3)])))], .ret (.comp [4, 5] (.tup [.var 4, .var 5]) (.seq (.var 2)) (some (.cmp .eq (.var 4) (.var 1))) (.var 5))]
def fd__law_choices : Fd := ⟨2, (["_law_parts_here", "_law_many", "_law_found", "_law_each", "_law_used", "_law_total"] : List Str), false, ir__law_choices⟩
def ir__law_right : List St := [.for_ (.var 1) (.rng1 (.int 5)) [.set 2 (.call 9 [.var 0, .bin .add (.int 1) (.call 5 [.var 0, .int 12]), .call 10 [.var 0]]), .set 3 (.bi .tuple [.call 7 [.var 2]]), .set 4 (.lst [.call 3 [.var 2], .callK 3 [] [("row", .var 2)], .call 3 [.bi .tuple [.call 8 [.var 0, .var 2]]]]), .ite (.cmp .ne (.bi .repr [.var 4]) (.bi .repr [.bin .mul (.lst [.var 3]) (.int 3)])) [.ret (.bl false)] [], .ite (.cmp .lt (.bi .len [.var 2]) (.int 8)) [.for_ (.var 6) (.rng2 (.int 1) (.bin .add (.bi .len [.var 2]) (.int 1))) [.ite (.cmp .ne (.ix (.var 3) (.bin .sub (.var 6) (.int 1))) (.bi .maxL [.call 11 [.var 2, .var 6]])) [.ret (.bl false)] []]] [], .set 5 (.bin .add (.lst [.ix (.var 3) (.int 0)]) (.comp [7] (.var 7) (.rng2 (.int 1) (.bi .len [.var 3])) none (.bin .sub (.ix (.var 3) (.var 7)) (.ix (.var 3) (.bin .sub (.var 7) (.int 1)))))), .ite (.or (.cmp .ne (.rev (.bi .sorted [.var 5])) (.var 5)) (.cmp .ne (.ix (.var 3) (.neg (.int 1))) (.bi .sum [.var 2]))) [.ret (.bl false)] []], .ret (.bl true)]
def fd__law_right : Fd := ⟨1, (["_law_keg_here", "_law_turn", "_law_parts_here", "_law_due", "_law_came", "_law_leaps", "_law_many", "_law_k"] : List Str), false, ir__law_right⟩
def ir_law : List St := [.set 1 (.comp [2] (.var 2) (.rng1 (.bi .max2 [.int 2, .bi .min2 [.bi .len [.var 0], .int 5]])) none (.call 4 [.var 0, .var 2])), .ret (.bi .all [.comp [3] (.var 3) (.seq (.var 1)) none (.call 12 [.var 3])])]
def fd_law : Fd := ⟨1, (["_law_script", "_law_kegs", "_law_k", "_law_keg_here"] : List Str), false, ir_law⟩
def T : List Fd := [fd_is_integer, fd_check_row, fd_tops_of, fd_top_sums, fd__law_keg, fd__law_pour, fd__law_one, fd__law_heights, fd__law_mixed, fd__law_parts, fd__law_scale, fd__law_choices, fd__law_right, fd_law]
def fns : List Str := (["is_integer", "check_row", "tops_of", "top_sums", "_law_keg", "_law_pour", "_law_one", "_law_heights", "_law_mixed", "_law_parts", "_law_scale", "_law_choices"] : List Str) ++ (["_law_right", "law"] : List Str)
def ix : List Nat := [5, 7, 8, 9, 11, 12, 13, 14, 15, 16, 17, 18, 19, 20]
def gi : List (Str × Int) := [("MOST_ENDS", 12)]
def gs : List (Str × Str) := []
end Nl.k15
end
section
set_option Elab.async false
set_option linter.all false
set_option maxRecDepth 100000
set_option maxHeartbeats 0
namespace Nl.k15
open PySem PySem.Spec PyProof.Rows L2
def top (i : Nat) : Stmt := PySem.Challenge.pw_nestlevels_k15_whole_sums_of_the_greates.main.body.getD i (.Pass ⟨0, 0, 0, 0⟩)
def loose : List Str := (["WrongValue", "InvalidRow", "MOST_ENDS", "is_integer", "check_row", "tops_of", "top_sums", "_law_keg", "_law_pour", "_law_one", "_law_heights", "_law_mixed"] : List Str) ++ (["_law_parts", "_law_scale", "_law_choices", "_law_right"] : List Str)
abbrev R : PySem.W.OpenRow := PySem.W.OpenLaw.row PySem.Challenge.rw_nestlevels_k15_whole_sums_of_the_greates
theorem chk : chkAll top fns ix T gi gs = true := by kernel_rfl
theorem run (w : World) : HandSHeadRun.RunEq R (PySem.W.view R.prog [20]) (hkN 4 (faN fns gi gs) (fnN top fns ix)) (obN 4 (faN fns gi gs) (fnN top fns ix)) 3000 loose w := by
  intro os
  kernel_rfl
end Nl.k15
end
section
set_option Elab.async false
set_option linter.all false
set_option maxRecDepth 100000
/-! Nl, M: runs of the IR, as equations; loops by invariants. -/
namespace Nl
open PySem (Str PyData)
section
variable {α β : Type}
@[simp] theorem bind_ap (x : Py α) (f : α → Py β) (m : Mem) : (x >>= f) m = (match x m with | .ok a m' => f a m' | .exc e m' => .exc e m' | .stuck => .stuck) := rfl
@[simp] theorem pure_ap (a : α) (m : Mem) : (pure a : Py α) m = .ok a m := rfl
@[simp] theorem need_ap (b : Bool) (m : Mem) : need b m = (if b = true then R.ok () m else R.stuck) := by cases b <;> rfl
@[simp] theorem stuck_ap (m : Mem) : (stuck : Py α) m = .stuck := rfl
@[simp] theorem ofO_some (a : α) (m : Mem) : (ofO (some a) : Py α) m = .ok a m := rfl
@[simp] theorem truthP_bl (b : Bool) (m : Mem) : truthP (.bl b) m = .ok b m := rfl
@[simp] theorem sx_ap (x : Py α) (e : Env) (k : α → Py Flow) (m : Mem) : sx x e k m = (match x m with | .ok a m' => k a m' | .exc ex m' => .ok (.exc ex e) m' | .stuck => .stuck) := rfl
@[simp] theorem noexc_ap (x : Py α) (m : Mem) : noexc x m = (match x m with | .ok a m' => .ok a m' | _ => .stuck) := rfl
end
section
variable (C : Calls) (e : Env) (m : Mem)
@[simp] theorem at_zero (s : Slot) (r : List Slot) : Env.at (s :: r) 0 = s := rfl
@[simp] theorem at_succ (s : Slot) (r : List Slot) (i : Nat) : Env.at (s :: r) (i + 1) = Env.at r i := rfl
@[simp] theorem ev_var (i : Nat) : ev C (.var i) e m = (match e.at i with | .pv p => R.ok p m | _ => .stuck) := by
  unfold ev
  cases e.at i <;> rfl
@[simp] theorem ev_peek (i : Nat) : ev C (.peek i) e m = (match e.at i with | .pv p => R.ok p m | .own xs => R.ok (.lst xs) m | _ => .stuck) := by
  unfold ev
  cases e.at i <;> rfl
@[simp] theorem ev_deref (a : Ex) : ev C (.deref a) e = (do match ← ev C a e with
    | .ref n => do let xs ← mlst n; pure (.lst xs)
    | _ => stuck) := rfl
@[simp] theorem ev_mix (a b : Ex) : ev C (.mix a b) e = (do
    let x ← ev C a e
    let y ← ev C b e
    match x with
    | .ref n => do let xs ← mlst n; ixP (.lst xs) y
    | _ => stuck) := rfl
@[simp] theorem ev_non : ev C .non e = pure .non := rfl
@[simp] theorem ev_bl (b : Bool) : ev C (.bl b) e = pure (.bl b) := rfl
@[simp] theorem ev_int (i : Int) : ev C (.int i) e = pure (.int i) := rfl
@[simp] theorem ev_str (x : Str) : ev C (.str x) e = pure (.str x) := rfl
@[simp] theorem ev_gint (x : Str) (i : Int) : ev C (.gint x i) e = pure (.int i) := rfl
@[simp] theorem ev_gstr (x s : Str) : ev C (.gstr x s) e = pure (.str s) := rfl
@[simp] theorem ev_call (f : Nat) (es : List Ex) : ev C (.call f es) e = (do let vs ← evs C es e; C.fn f vs) := rfl
@[simp] theorem ev_callK (f : Nat) (es : List Ex) (ks : List (Str × Ex)) : ev C (.callK f es ks) e = (do
    let vs ← evs C es e
    let zs ← evk C ks e
    match arrange (C.ps f) vs zs with
    | some l => C.fn f l
    | none => stuck) := rfl
@[simp] theorem ev_bi (b : Bi) (es : List Ex) : ev C (.bi b es) e = (do let vs ← evs C es e; biP b vs) := rfl
@[simp] theorem ev_sortedRev (a : Ex) : ev C (.sortedRev a) e = (do let v ← ev C a e; sortedRevP v) := rfl
@[simp] theorem ev_bin (o : Bop) (a b : Ex) : ev C (.bin o a b) e = (do let x ← ev C a e; let y ← ev C b e; binP o x y) := rfl
@[simp] theorem ev_neg (a : Ex) : ev C (.neg a) e = (do match ← ev C a e with
    | .int i => pure (.int (-i))
    | _ => stuck) := rfl
@[simp] theorem ev_cmp (o : Cop) (a b : Ex) : ev C (.cmp o a b) e = (do let x ← ev C a e; let y ← ev C b e; let r ← cmpP o x y; pure (.bl r)) := rfl
@[simp] theorem ev_chain (o p : Cop) (a b c : Ex) : ev C (.chain o p a b c) e = (do
    let x ← ev C a e
    let y ← ev C b e
    let r ← cmpP o x y
    if r then do let z ← ev C c e; let r ← cmpP p y z; pure (.bl r) else pure (.bl false)) := rfl
@[simp] theorem ev_and (a b : Ex) : ev C (.and a b) e = (do match ← ev C a e with
    | .bl true => ev C b e
    | .bl false => pure (.bl false)
    | _ => stuck) := rfl
@[simp] theorem ev_or (a b : Ex) : ev C (.or a b) e = (do match ← ev C a e with
    | .bl true => pure (.bl true)
    | .bl false => ev C b e
    | _ => stuck) := rfl
@[simp] theorem ev_not (a : Ex) : ev C (.not a) e = (do let x ← ev C a e; let r ← truthP x; pure (.bl (!r))) := rfl
@[simp] theorem ev_ite (c a b : Ex) : ev C (.ite c a b) e = (do let x ← ev C c e; let r ← truthP x; if r then ev C a e else ev C b e) := rfl
@[simp] theorem ev_tup (es : List Ex) : ev C (.tup es) e = (do let vs ← evs C es e; need (fits vs.length); pure (.tup vs)) := rfl
@[simp] theorem ev_lst (es : List Ex) : ev C (.lst es) e = (do let vs ← evs C es e; need (fits vs.length); pure (.lst vs)) := rfl
@[simp] theorem ev_ix (a b : Ex) : ev C (.ix a b) e = (do let x ← ev C a e; let y ← ev C b e; ixP x y) := rfl
@[simp] theorem ev_sl (a : Ex) (lo hi : Option Ex) : ev C (.sl a lo hi) e = (do let x ← ev C a e; let l ← evO C lo e; let h ← evO C hi e; slP x l h) := rfl
@[simp] theorem ev_rev (a : Ex) : ev C (.rev a) e = (do match ← ev C a e with
    | .lst xs => pure (.lst xs.reverse)
    | _ => stuck) := rfl
@[simp] theorem ev_isi (a : Ex) (tys : List String) : ev C (.isi a tys) e = (do let x ← ev C a e; need (tyOf x != "?"); pure (.bl (tys.any (isTy x)))) := rfl
@[simp] theorem ev_malloc (a : Ex) : ev C (.malloc a) e = (do match ← ev C a e with
    | .lst xs => mnew (.lst xs)
    | _ => stuck) := rfl
theorem ev_comp (own : List Nat) (g : Tg) (it : It) (c : Option Ex) (elt : Ex) : ev C (.comp own g it c elt) e = (do
    let xs ← evIt C it e
    need (fits xs.length)
    let l ← compLoop (fun x => match setTg g x (wipeE e own) with
      | some e' => noexc do
        let b ← evC C c e'
        if b then do let y ← ev C elt e'; pure (some y) else pure none
      | none => stuck) xs
    pure (.lst l)) := rfl
@[simp] theorem evs_nil : evs C [] e = pure [] := rfl
@[simp] theorem evs_cons (a : Ex) (r : List Ex) : evs C (a :: r) e = (do let v ← ev C a e; let vs ← evs C r e; pure (v :: vs)) := rfl
@[simp] theorem evk_nil : evk C [] e = pure [] := rfl
@[simp] theorem evk_cons (x : Str) (a : Ex) (r : List (Str × Ex)) : evk C ((x, a) :: r) e = (do let v ← ev C a e; let vs ← evk C r e; pure ((x, v) :: vs)) := rfl
@[simp] theorem evO_none : evO C none e = pure none := rfl
@[simp] theorem evO_some (a : Ex) : evO C (some a) e = (do match ← ev C a e with
    | .int i => pure (some i)
    | _ => stuck) := rfl
@[simp] theorem evC_none : evC C none e = pure true := rfl
@[simp] theorem evC_some (a : Ex) : evC C (some a) e = (do let x ← ev C a e; truthP x) := rfl
@[simp] theorem evIt_seq (a : Ex) : evIt C (.seq a) e = (do let x ← ev C a e; itItems x) := rfl
@[simp] theorem evIt_rng1 (a : Ex) : evIt C (.rng1 a) e = (do match ← ev C a e with
    | .int j => rngP 0 j
    | _ => stuck) := rfl
@[simp] theorem evIt_rng2 (a b : Ex) : evIt C (.rng2 a b) e = (do
    let x ← ev C a e
    let y ← ev C b e
    match x, y with
    | .int i, .int j => rngP i j
    | _, _ => stuck) := rfl
@[simp] theorem evIt_enum (a : Ex) : evIt C (.enum a) e = (do
    let x ← ev C a e
    let xs ← itItems x
    pure ((List.range xs.length).zipWith (fun i p => .tup [.int (i : Nat), p]) xs)) := rfl
@[simp] theorem exec_expr (a : Ex) : exec C (.expr a) e = sx (ev C a e) e fun _ => pure (.next e) := rfl
@[simp] theorem exec_set (i : Nat) (a : Ex) : exec C (.set i a) e = sx (ev C a e) e fun p => if i < e.length then pure (.next (e.set i (.pv p))) else stuck := rfl
@[simp] theorem exec_setOwn (i : Nat) (a : Ex) : exec C (.setOwn i a) e = sx (ev C a e) e fun p => match p with
    | .lst xs => if i < e.length then pure (.next (e.set i (.own xs))) else stuck
    | _ => stuck := rfl
@[simp] theorem exec_setT (w : Wg) (a : Ex) : exec C (.setT w a) e = sx (ev C a e) e fun p => sx (noexc (setW C w p e)) e fun e' => pure (.next e') := rfl
@[simp] theorem exec_par (ws : List (Nat × Bool)) (es : List Ex) : exec C (.par ws es) e = sx (evs C es e) e fun ps => match setPar ws ps e with
    | some e' => pure (.next e')
    | none => stuck := rfl
@[simp] theorem exec_aug (i : Nat) (o : Bop) (a : Ex) : exec C (.aug i o a) e = (match e.at i with
    | .pv (.int x) => sx (ev C a e) e fun y => match o, y with
      | .add, .int y => pure (.next (e.set i (.pv (.int (x + y)))))
      | .sub, .int y => pure (.next (e.set i (.pv (.int (x - y)))))
      | _, _ => stuck
    | _ => stuck) := rfl
@[simp] theorem exec_append (i : Nat) (a : Ex) : exec C (.append i a) e = (match e.at i with
    | .own xs => sx (ev C a e) e fun p => if fits xs.length then pure (.next (e.set i (.own (xs ++ [p])))) else stuck
    | _ => stuck) := rfl
@[simp] theorem exec_insert (i : Nat) (k a : Ex) : exec C (.insert i k a) e = (match e.at i with
    | .own xs => sx (evs C [k, a] e) e fun l => match l with
      | [.int j, p] => if fits xs.length && decide (0 ≤ j) && decide (j ≤ xs.length) then pure (.next (e.set i (.own (xs.take j.toNat ++ [p] ++ xs.drop j.toNat)))) else stuck
      | _ => stuck
    | _ => stuck) := rfl
@[simp] theorem exec_setIx (i : Nat) (k a : Ex) : exec C (.setIx i k a) e = (match e.at i with
    | .own xs => sx (ev C a e) e fun p => sx (ev C k e) e fun j => match j with
      | .int j => match L2.ixN xs.length j with
        | some n => pure (.next (e.set i (.own (xs.set n p))))
        | none => stuck
      | _ => stuck
    | _ => stuck) := rfl
@[simp] theorem exec_ret (a : Ex) : exec C (.ret a) e = sx (ev C a e) e fun p => pure (.ret p) := rfl
@[simp] theorem exec_retN : exec C .retN e = pure (.ret .non) := rfl
@[simp] theorem exec_ite (c : Ex) (a b : List St) : exec C (.ite c a b) e = sx (do let x ← ev C c e; truthP x) e fun r => if r then execs C a e else execs C b e := rfl
theorem exec_for (g : Tg) (it : It) (b : List St) : exec C (.for_ g it b) e = sx (evIt C it e) e fun xs => forL (fun x e => match setTg g x e with
    | some e' => execs C b e'
    | none => stuck) xs e := rfl
theorem exec_while (c : Ex) (b : List St) : exec C (.while_ c b) e = whileL (fun e => do let x ← ev C c e; truthP x) (fun e => execs C b e) whileFuel e := rfl
@[simp] theorem exec_freeze (i : Nat) : exec C (.freeze i) e = (match e.at i with
    | .own xs => pure (.next (e.set i (.pv (.lst xs))))
    | _ => pure (.next e)) := rfl
@[simp] theorem exec_cont : exec C .cont e = pure (.cont e) := rfl
@[simp] theorem exec_brk : exec C .brk e = pure (.brk e) := rfl
@[simp] theorem exec_pass : exec C .pass e = pure (.next e) := rfl
@[simp] theorem exec_retOwn (i : Nat) : exec C (.retOwn i) e = (match e.at i with
    | .own xs => pure (.ret (.lst xs))
    | _ => stuck) := rfl
@[simp] theorem execs_nil : execs C [] e = pure (.next e) := rfl
@[simp] theorem execs_cons (s : St) (r : List St) : execs C (s :: r) e = (do match ← exec C s e with
    | .next e' => execs C r e'
    | f => pure f) := rfl
@[simp] theorem setTg_var (i : Nat) (p : PV) : setTg (.var i) p e = (if i < e.length then some (e.set i (.pv p)) else none) := rfl
@[simp] theorem setTg_tup (gs : List Tg) (ps : List PV) : setTg (.tup gs) (.tup ps) e = setTg.setTgs gs ps e := rfl
@[simp] theorem setTgs_nil : setTg.setTgs [] [] e = some e := rfl
@[simp] theorem setTgs_cons (g : Tg) (gs : List Tg) (p : PV) (ps : List PV) : setTg.setTgs (g :: gs) (p :: ps) e = (match setTg g p e with
    | some e' => setTg.setTgs gs ps e'
    | none => none) := rfl
@[simp] theorem wipeE_nil : wipeE e [] = e := rfl
@[simp] theorem wipeE_cons (v : Nat) (vs : List Nat) : wipeE e (v :: vs) = (wipeE e vs).set v .no := rfl
@[simp] theorem setW_g (t : Tg) (p : PV) : setW C (.g t) p e = ofO (setTg t p e) := rfl
@[simp] theorem setW_ix (o i : Ex) (p : PV) : setW C (.ix o i) p e = (do
    let x ← ev C o e
    let k ← ev C i e
    match x, k with
    | .ref n, .int k => do
      let xs ← mlst n
      match L2.ixN xs.length k with
      | some j => do mput n (xs.set j p); pure e
      | none => stuck
    | _, _ => stuck) := rfl
@[simp] theorem setW_tup (ws : List Wg) (ps : List PV) : setW C (.tup ws) (.tup ps) e = setWs C ws ps e := rfl
@[simp] theorem setWs_nil : setWs C [] [] e = pure e := rfl
@[simp] theorem setWs_cons (w : Wg) (ws : List Wg) (p : PV) (ps : List PV) : setWs C (w :: ws) (p :: ps) e = (do let e' ← setW C w p e; setWs C ws ps e') := rfl
@[simp] theorem setPar_nil : setPar [] [] e = some e := rfl
@[simp] theorem setPar_f (i : Nat) (r : List (Nat × Bool)) (p : PV) (ps : List PV) : setPar ((i, false) :: r) (p :: ps) e = (if i < e.length then setPar r ps (e.set i (.pv p)) else none) := rfl
@[simp] theorem setPar_t (i : Nat) (r : List (Nat × Bool)) (xs : List PV) (ps : List PV) : setPar ((i, true) :: r) (.lst xs :: ps) e = (if i < e.length then setPar r ps (e.set i (.own xs)) else none) := rfl
@[simp] theorem mput_ap (n : Nat) (xs : List PV) : mput n xs m = .ok () (m.set n (.lst xs)) := rfl
@[simp] theorem mnew_ap (o : MO) : mnew o m = .ok (.ref m.length) (m ++ [o]) := rfl
theorem mlst_ok {n : Nat} {xs : List PV} (h : m[n]? = some (.lst xs)) : mlst n m = .ok xs m := by unfold mlst; rw [h]
@[simp] theorem itItems_lst (xs : List PV) : itItems (.lst xs) m = .ok xs m := rfl
@[simp] theorem itItems_tup (xs : List PV) : itItems (.tup xs) m = .ok xs m := rfl
end
/-! ### loops -/
theorem forL_ok {body : PV → Env → Py Flow} (I : Nat → Env → Mem → Prop) : ∀ (xs : List PV) (k : Nat) (e : Env) (m : Mem), I k e m →
    (∀ i (hi : i < xs.length) e m, I (k + i) e m → ∃ e' m', (body xs[i] e m = .ok (.next e') m' ∨ body xs[i] e m = .ok (.cont e') m') ∧ I (k + i + 1) e' m') →
    ∃ e' m', forL body xs e m = .ok (.next e') m' ∧ I (k + xs.length) e' m'
  | [], k, e, m, h0, _ => ⟨e, m, rfl, h0⟩
  | x :: r, k, e, m, h0, h => by
    obtain ⟨e1, m1, hb, h1⟩ := h 0 (by simp) e m (by simpa using h0)
    obtain ⟨e2, m2, h2, h3⟩ := forL_ok I r (k + 1) e1 m1 (by simpa using h1) fun i hi e m hI => by
      have := h (i + 1) (by simpa using hi) e m (by rw [Nat.add_assoc, Nat.add_comm 1 i] at hI; exact hI)
      simpa [Nat.add_assoc, Nat.add_comm, Nat.add_left_comm] using this
    refine ⟨e2, m2, ?_, by rw [List.length_cons, Nat.add_comm r.length 1, ← Nat.add_assoc]; exact h3⟩
    have hb' : body x e m = .ok (.next e1) m1 ∨ body x e m = .ok (.cont e1) m1 := by simpa using hb
    unfold forL
    rw [bind_ap]
    rcases hb' with q | q
    · rw [q]; exact h2
    · rw [q]; exact h2
/-- .. that may end by a return -/
theorem forL_ret {body : PV → Env → Py Flow} (I : Nat → Env → Mem → Prop) (Rt : PV → Mem → Prop) : ∀ (xs : List PV) (k : Nat) (e : Env) (m : Mem), I k e m →
    (∀ i (hi : i < xs.length) e m, I (k + i) e m → (∃ e' m', (body xs[i] e m = .ok (.next e') m' ∨ body xs[i] e m = .ok (.cont e') m') ∧ I (k + i + 1) e' m') ∨ ∃ p m', body xs[i] e m = .ok (.ret p) m' ∧ Rt p m') →
    (∃ e' m', forL body xs e m = .ok (.next e') m' ∧ I (k + xs.length) e' m') ∨ ∃ p m', forL body xs e m = .ok (.ret p) m' ∧ Rt p m'
  | [], k, e, m, h0, _ => .inl ⟨e, m, rfl, h0⟩
  | x :: r, k, e, m, h0, h => by
    rcases h 0 (by simp) e m (by simpa using h0) with ⟨e1, m1, hb, h1⟩ | ⟨p, m1, hb, hr⟩
    · have hb' : body x e m = .ok (.next e1) m1 ∨ body x e m = .ok (.cont e1) m1 := by simpa using hb
      have ih := forL_ret I Rt r (k + 1) e1 m1 (by simpa using h1) fun i hi e m hI => by
        have := h (i + 1) (by simpa using hi) e m (by rw [Nat.add_assoc, Nat.add_comm 1 i] at hI; exact hI)
        simpa [Nat.add_assoc, Nat.add_comm, Nat.add_left_comm] using this
      have eq : forL body (x :: r) e m = forL body r e1 m1 := by
        rw [forL, bind_ap]
        rcases hb' with q | q <;> rw [q]
      rw [eq]
      rcases ih with ⟨e2, m2, h2, h3⟩ | q
      · exact .inl ⟨e2, m2, h2, by rw [List.length_cons, Nat.add_comm r.length 1, ← Nat.add_assoc]; exact h3⟩
      · exact .inr q
    · refine .inr ⟨p, m1, ?_, hr⟩
      have hb' : body x e m = .ok (.ret p) m1 := by simpa using hb
      unfold forL
      rw [bind_ap, hb']
      rfl
/-- a comprehension whose turns write: each gives a value -/
theorem compLoop_all {f : PV → Py (Option PV)} (I : Mem → Prop) (P : PV → PV → Prop) : ∀ (xs : List PV) (m : Mem), I m → (∀ x ∈ xs, ∀ m, I m → ∃ y m', f x m = .ok (some y) m' ∧ P x y ∧ I m') →
    ∃ ys m', compLoop f xs m = .ok ys m' ∧ ys.length = xs.length ∧ (∀ y ∈ ys, ∃ x ∈ xs, P x y) ∧ I m'
  | [], m, h0, _ => ⟨[], m, rfl, rfl, fun _ h => (by cases h), h0⟩
  | x :: r, m, h0, h => by
    obtain ⟨y, m1, e1, p1, i1⟩ := h x List.mem_cons_self m h0
    obtain ⟨ys, m2, e2, l2, p2, i2⟩ := compLoop_all I P r m1 i1 fun z hz => h z (List.mem_cons_of_mem _ hz)
    refine ⟨y :: ys, m2, ?_, by rw [List.length_cons, List.length_cons, l2], fun z hz => ?_, i2⟩
    · unfold compLoop
      rw [bind_ap, e1]
      dsimp only
      rw [bind_ap, e2]
      rfl
    · rcases List.mem_cons.mp hz with rfl | hz
      · exact ⟨x, List.mem_cons_self, p1⟩
      · obtain ⟨w, hw, pw⟩ := p2 z hz
        exact ⟨w, List.mem_cons_of_mem _ hw, pw⟩
/-- a comprehension that writes nothing -/
theorem compLoop_pure {f : PV → Py (Option PV)} {g : PV → Option PV} {m : Mem} : ∀ (xs : List PV), (∀ x ∈ xs, f x m = .ok (g x) m) → compLoop f xs m = .ok (xs.filterMap g) m
  | [], _ => rfl
  | x :: r, h => by
    unfold compLoop
    rw [bind_ap, h x List.mem_cons_self]
    dsimp only
    rw [bind_ap, compLoop_pure r fun z hz => h z (List.mem_cons_of_mem _ hz)]
    cases e : g x with
    | none => rw [List.filterMap_cons_none e]; rfl
    | some y => rw [List.filterMap_cons_some e]; rfl
/-- a comprehension by places -/
theorem compLoop_ix {f : PV → Py (Option PV)} (I : Nat → Mem → Prop) (P : Nat → PV → Prop) : ∀ (xs : List PV) (k : Nat) (m : Mem), I k m →
    (∀ i (hi : i < xs.length) m, I (k + i) m → ∃ y m', f xs[i] m = .ok (some y) m' ∧ P (k + i) y ∧ I (k + i + 1) m') →
    ∃ ys m', compLoop f xs m = .ok ys m' ∧ ys.length = xs.length ∧ (∀ i (hi : i < ys.length), P (k + i) ys[i]) ∧ I (k + xs.length) m'
  | [], k, m, h0, _ => ⟨[], m, rfl, rfl, fun i hi => absurd hi (by simp), h0⟩
  | x :: r, k, m, h0, h => by
    obtain ⟨y, m1, e1, p1, i1⟩ := h 0 (by simp) m (by simpa using h0)
    obtain ⟨ys, m2, e2, l2, p2, i2⟩ := compLoop_ix I P r (k + 1) m1 (by simpa using i1) fun i hi m hI => by
      have := h (i + 1) (by simpa using hi) m (by rw [Nat.add_assoc, Nat.add_comm 1 i] at hI; exact hI)
      simpa [Nat.add_assoc, Nat.add_comm, Nat.add_left_comm] using this
    refine ⟨y :: ys, m2, ?_, by rw [List.length_cons, List.length_cons, l2], fun i hi => ?_, by rw [List.length_cons, Nat.add_comm r.length 1, ← Nat.add_assoc]; exact i2⟩
    · unfold compLoop
      rw [bind_ap, show f x m = .ok (some y) m1 from e1]
      dsimp only
      rw [bind_ap, e2]
      rfl
    · cases i with
      | zero => exact p1
      | succ i =>
        have := p2 i (by simpa using hi)
        rw [Nat.add_assoc, Nat.add_comm 1 i] at this
        exact this
/-! ### one statement after another -/
def compF (C : Calls) (own : List Nat) (g : Tg) (c : Option Ex) (elt : Ex) (e : Env) (x : PV) : Py (Option PV) := match setTg g x (wipeE e own) with
  | some e' => noexc do
    let b ← evC C c e'
    if b then do let y ← ev C elt e'; pure (some y) else pure none
  | none => stuck
def forF (C : Calls) (g : Tg) (b : List St) (x : PV) (e : Env) : Py Flow := match setTg g x e with
  | some e' => execs C b e'
  | none => stuck
section
variable {C : Calls} {e e' : Env} {m m' m2 : Mem} {s : St} {r : List St} {a : Ex} {p : PV} {i : Nat}
theorem run_next (h : exec C s e m = .ok (.next e') m') : execs C (s :: r) e m = execs C r e' m' := by rw [execs_cons, bind_ap, h]
theorem run_ret (h : exec C s e m = .ok (.ret p) m') : execs C (s :: r) e m = .ok (.ret p) m' := by rw [execs_cons, bind_ap, h]; rfl
theorem run_set (h : ev C a e m = .ok p m') (hi : i < e.length) : exec C (.set i a) e m = .ok (.next (e.set i (.pv p))) m' := by
  rw [exec_set, sx_ap, h]
  dsimp only
  rw [if_pos hi]
  rfl
theorem run_setOwn {xs : List PV} (h : ev C a e m = .ok (.lst xs) m') (hi : i < e.length) : exec C (.setOwn i a) e m = .ok (.next (e.set i (.own xs))) m' := by
  rw [exec_setOwn, sx_ap, h]
  dsimp only
  rw [if_pos hi]
  rfl
theorem run_retE (h : ev C a e m = .ok p m') : exec C (.ret a) e m = .ok (.ret p) m' := by rw [exec_ret, sx_ap, h]; rfl
theorem run_exprE (h : ev C a e m = .ok p m') : exec C (.expr a) e m = .ok (.next e) m' := by rw [exec_expr, sx_ap, h]; rfl
theorem run_for {g : Tg} {it : It} {b : List St} {xs : List PV} {fl : Flow} (h : evIt C it e m = .ok xs m') (h2 : forL (forF C g b) xs e m' = .ok fl m2) : exec C (.for_ g it b) e m = .ok fl m2 := by
  rw [exec_for, sx_ap, h]
  exact h2
theorem run_ite {c : Ex} {x y : List St} {b : Bool} (h : ev C c e m = .ok (.bl b) m') : exec C (.ite c x y) e m = (if b = true then execs C x e m' else execs C y e m') := by
  rw [exec_ite, sx_ap, bind_ap, h]
  cases b <;> rfl
theorem run_comp {own : List Nat} {g : Tg} {it : It} {c : Option Ex} {elt : Ex} {xs ys : List PV} (h : evIt C it e m = .ok xs m') (hf : fits xs.length = true) (h2 : compLoop (compF C own g c elt e) xs m' = .ok ys m2) : ev C (.comp own g it c elt) e m = .ok (.lst ys) m2 := by
  rw [ev_comp, bind_ap, h]
  dsimp only
  rw [bind_ap, need_ap, if_pos hf]
  show (compLoop (compF C own g c elt e) xs >>= fun l => (pure (.lst l) : Py PV)) m' = _
  rw [bind_ap, h2]
  rfl
end
end Nl
end
section
set_option Elab.async false
set_option linter.all false
set_option maxRecDepth 100000
/-! Nl, K: the kegs. -/
namespace Nl
open PySem (Str PyData)
theorem call_of {T : List Fd} {d f : Nat} {F : Fd} {args : List PV} {m : Mem} (hT : T[f]? = some F) (ha : args.length = F.np) :
    callT T (d + 1) f args m = (match execs (callsT T d) F.body (args.map Slot.pv ++ List.replicate (F.N.length - F.np) .no) m with
        | .ok (.ret p) m' => .ok p m'
        | .ok (.next _) m' => .ok .non m'
        | .ok (.exc x _) m' => .exc x m'
        | _ => .stuck) := by
  show (match T[f]? with
    | some F => if args.length = F.np then fun m => (match execs ⟨callT T d, psT T⟩ F.body (args.map Slot.pv ++ List.replicate (F.N.length - F.np) .no) m with
      | .ok (.ret p) m' => .ok p m'
      | .ok (.next _) m' => .ok .non m'
      | .ok (.exc x _) m' => .exc x m'
      | _ => .stuck : R PV) else stuck
    | none => stuck : Py PV) m = _
  rw [hT]
  have key : ∀ (b : Py PV), (if args.length = F.np then b else stuck) = b := fun b => if_pos ha
  exact congrFun (key _) m
/-- N kegs stand in the memory, nothing else -/
def Kegs (N : Nat) (m : Mem) : Prop := m.length = N ∧ ∀ n, n < N → ∃ a b c : Int, m[n]? = some (.lst [.int a, .int b, .int c])
theorem Kegs.set {N : Nat} {m : Mem} (k : Kegs N m) {n : Nat} {a b c : Int} : Kegs N (m.set n (.lst [.int a, .int b, .int c])) := by
  refine ⟨by rw [List.length_set]; exact k.1, fun j hj => ?_⟩
  by_cases h : n = j
  · subst h
    exact ⟨a, b, c, by rw [List.getElem?_set_self (by rw [k.1]; exact hj)]⟩
  · rw [List.getElem?_set_ne h]; exact k.2 j hj
def irPour : List St := [.setT (.ix (.var 0) (.int 2)) (.bin .add (.mix (.var 0) (.int 2)) (.int 1)), .set 2 (.bi .int [.mix (.var 0) (.int 1)]), .setT (.ix (.var 0) (.int 1)) (.bin .mod (.bi .int [.bin .add (.bin .add (.bin .mul (.var 2) (.bin .add (.bin .mod (.bi .int [.var 2]) (.int 9001)) (.int 27011))) (.bin .mul (.int 50021) (.mix (.var 0) (.int 2)))) (.int 29)]) (.int 2147483171)), .ite (.cmp .gt (.mix (.var 0) (.int 0)) (.int 0)) [.setT (.tup [.ix (.var 0) (.int 0), .g (.var 3)]) (.bi .divmod [.mix (.var 0) (.int 0), .var 1]), .ret (.var 3)] [], .ret (.bin .mod (.bi .int [.bin .fdiv (.mix (.var 0) (.int 1)) (.int 88)]) (.var 1))]
theorem ix3 {a b c : PV} : ixP (.lst [a, b, c]) (.int 0) = pure a ∧ ixP (.lst [a, b, c]) (.int 1) = pure b ∧ ixP (.lst [a, b, c]) (.int 2) = pure c := ⟨rfl, rfl, rfl⟩
theorem small_mod (i : Int) : small (i % 9001 + 27011) = true := by
  unfold small
  refine decide_eq_true ?_
  have h1 := Int.emod_nonneg i (show (9001 : Int) ≠ 0 by decide)
  have h2 := Int.emod_lt_of_pos i (show (0 : Int) < 9001 by decide)
  omega
def pourSeed (b c : Int) : Int := (b * (b % 9001 + 27011) + 50021 * (c + 1) + 29) % 2147483171
theorem pour_run {C : Calls} {n : Nat} {a b c k : Int} {m : Mem} (h : m[n]? = some (.lst [.int a, .int b, .int c])) (hk : 0 < k) (hm : mid k = true) :
    execs C irPour [.pv (.ref n), .pv (.int k), .no, .no] m = .ok (.ret (.int (if 0 < a then a % k else pourSeed b c / 88 % k))) (m.set n (.lst [.int (if 0 < a then a / k else a), .int (pourSeed b c), .int (c + 1)])) := by
  have hl : n < m.length := (List.getElem?_eq_some_iff.mp h).1
  have s1 : ∀ (x : MO), (m.set n x)[n]? = some x := fun x => List.getElem?_set_self hl
  have s2 : ∀ (x y : MO), (m.set n x).set n y = m.set n y := fun x y => List.set_set ..
  have m0 := mlst_ok m h
  have m1 : ∀ xs, mlst n (m.set n (.lst xs)) = .ok xs (m.set n (.lst xs)) := fun xs => mlst_ok _ (s1 _)
  have sm := small_mod b
  have mm : mid 88 = true := by decide
  have sa : small 50021 = true := by decide
  by_cases ha : 0 < a
  · unfold irPour
    simp [m0, m1, ix3, binP, biP, L2.ixN, cmpP, ha, hk, hm, s2, sm, sa, pourSeed]
  · unfold irPour
    simp [m0, m1, ix3, binP, biP, L2.ixN, cmpP, ha, hk, hm, s2, sm, sa, pourSeed, mm]
theorem pour_ok {T : List Fd} {d f N n : Nat} {k : Int} {m : Mem} {ns : List Str} (hT : T[f]? = some ⟨2, ns, false, irPour⟩) (hn : ns.length = 4) (K : Kegs N m) (h : n < N) (hk : 0 < k) (hm : mid k = true) :
    ∃ r m', callT T (d + 1) f [.ref n, .int k] m = .ok (.int r) m' ∧ Kegs N m' ∧ 0 ≤ r ∧ r < k := by
  obtain ⟨a, b, c, e⟩ := K.2 n h
  have run : callT T (d + 1) f [.ref n, .int k] m = .ok (.int (if 0 < a then a % k else pourSeed b c / 88 % k)) (m.set n (.lst [.int (if 0 < a then a / k else a), .int (pourSeed b c), .int (c + 1)])) := by
    rw [call_of hT rfl]
    show (match execs (callsT T d) irPour ([Slot.pv (.ref n), Slot.pv (.int k)] ++ List.replicate (ns.length - 2) .no) m with
        | .ok (.ret p) m' => .ok p m'
        | .ok (.next _) m' => .ok .non m'
        | .ok (.exc x _) m' => .exc x m'
        | _ => .stuck : R PV) = _
    rw [hn, show ([Slot.pv (.ref n), Slot.pv (.int k)] ++ List.replicate (4 - 2) Slot.no) = [.pv (.ref n), .pv (.int k), .no, .no] from rfl, pour_run e hk hm]
  refine ⟨_, _, run, K.set, ?_, ?_⟩
  · split
    · exact Int.emod_nonneg _ (by omega)
    · exact Int.emod_nonneg _ (by omega)
  · split
    · exact Int.emod_lt_of_pos _ hk
    · exact Int.emod_lt_of_pos _ hk
/-! ### a keg is made -/
def kegCell : Ex := .ite (.cmp .lt (.var 1) (.bi .len [.var 0])) (.bi .int [.ix (.var 0) (.var 1)]) (.bin .add (.bin .mul (.int 4421) (.var 1)) (.int 19))
def kegStep : List St := [.set 3 (.bin .mod (.bi .int [.bin .add (.bin .mul (.var 3) (.int 40009)) (.bi .int [.var 4])]) (.int 2147483171))]
def kegIt : Ex := .bin .add (.sl (.var 0) none (some (.int 5))) (.lst [.var 2])
def kegRet : Ex := .malloc (.lst [.ite (.or (.cmp .lt (.var 2) (.int 0)) (.cmp .ge (.var 2) (.bin .pow (.int 10) (.int 18)))) (.bi .abs [.var 2]) (.int 0), .var 3, .int 0])
def irKeg : List St := [.set 2 kegCell, .set 3 (.bin .add (.int 60013) (.bin .mul (.int 911) (.var 1))), .for_ (.var 4) (.seq kegIt) kegStep, .ret kegRet]
theorem ixN_nat {n j : Nat} (hj : j < n) : L2.ixN n (j : Int) = some j := by
  unfold L2.ixN
  simp [hj]
theorem cut5 (ns : List Int) : cutL (ns.map PV.int) none (some 5) = (ns.take 5).map PV.int := by
  unfold cutL HT.sIx
  simp
theorem keg_run {C : Calls} {ns : List Int} {k : Int} {m : Mem} (hk : 0 ≤ k) (hl : ns.length ≤ 63) :
    ∃ a b, execs C irKeg [.pv (.lst (ns.map .int)), .pv (.int k), .no, .no, .no] m = .ok (.ret (.ref m.length)) (m ++ [.lst [.int a, .int b, .int 0]]) := by
  have step1 : ∃ cell, ev C kegCell [.pv (.lst (ns.map .int)), .pv (.int k), .no, .no, .no] m = .ok (.int cell) m := by
    unfold kegCell
    by_cases h : k < ns.length
    · have hj : L2.atI (ns.map PV.int) k = some (.int (ns[k.toNat]'(by omega))) := by
        have e : L2.ixN (ns.map PV.int).length k = some k.toNat := by
          have := ixN_nat (n := (ns.map PV.int).length) (j := k.toNat) (by simp; omega)
          rwa [Int.toNat_of_nonneg hk] at this
        unfold L2.atI
        rw [e]
        show (ns.map PV.int)[k.toNat]? = _
        rw [List.getElem?_map, List.getElem?_eq_getElem (by omega)]
        rfl
      exact ⟨ns[k.toNat]'(by omega), by simp [cmpP, biP, ixP, hj, h]⟩
    · exact ⟨4421 * k + 19, by simp [cmpP, biP, binP, h, small]⟩
  obtain ⟨cell, hc⟩ := step1
  have ip : ∀ x ∈ (ns.take 5).map PV.int ++ [.int cell], ∃ z, x = .int z := fun x hx => by
    rcases List.mem_append.mp hx with q | q
    · obtain ⟨z, _, e⟩ := List.mem_map.mp q; exact ⟨z, e.symm⟩
    · exact ⟨cell, List.mem_singleton.mp q⟩
  have body : ∀ (z b : Int) (s : Slot) (m' : Mem), forF C (.var 4) kegStep (.int z) [.pv (.lst (ns.map .int)), .pv (.int k), .pv (.int cell), .pv (.int b), s] m' = .ok (.next [.pv (.lst (ns.map .int)), .pv (.int k), .pv (.int cell), .pv (.int ((b * 40009 + z) % 2147483171)), .pv (.int z)]) m' := fun z b s m' => by
    unfold forF kegStep
    simp [binP, biP, small]
  obtain ⟨e', m', h1, ⟨b, s, rfl⟩, rfl⟩ := forL_ok (body := forF C (.var 4) kegStep) (fun _ e m' => (∃ b s, e = [.pv (.lst (ns.map .int)), .pv (.int k), .pv (.int cell), .pv (.int b), s]) ∧ m' = m) ((ns.take 5).map PV.int ++ [.int cell]) 0 [.pv (.lst (ns.map .int)), .pv (.int k), .pv (.int cell), .pv (.int (60013 + 911 * k)), .no] m ⟨⟨_, _, rfl⟩, rfl⟩ (by
    rintro i hi e m' ⟨⟨b, s, rfl⟩, rfl⟩
    obtain ⟨z, hz⟩ := ip _ (List.getElem_mem hi)
    rw [hz]
    exact ⟨_, _, .inl (body z b s m'), ⟨_, _, rfl⟩, rfl⟩)
  have f5 : fits (min 5 ns.length) = true := by unfold fits; simp; omega
  have ft : fits 1 = true := by decide
  have f3 : fits 3 = true := by decide
  have it : evIt C (.seq kegIt) [.pv (.lst (ns.map .int)), .pv (.int k), .pv (.int cell), .pv (.int (60013 + 911 * k)), .no] m' = .ok ((ns.take 5).map PV.int ++ [.int cell]) m' := by
    unfold kegIt
    simp [slP, cut5, binP, f5, ft]
  have rt : ∃ a, ev C kegRet [.pv (.lst (ns.map .int)), .pv (.int k), .pv (.int cell), .pv (.int b), s] m' = .ok (.ref m'.length) (m' ++ [.lst [.int a, .int b, .int 0]]) := by
    unfold kegRet
    by_cases h : cell < 0
    · exact ⟨-cell, by simp [cmpP, biP, binP, h, f3]⟩
    · by_cases h2 : 1000000000000000000 ≤ cell
      · exact ⟨cell, by simp [cmpP, biP, binP, h, h2, f3, small]⟩
      · exact ⟨0, by simp [cmpP, biP, binP, h, h2, f3, small]⟩
  obtain ⟨a, rt⟩ := rt
  refine ⟨a, b, ?_⟩
  unfold irKeg
  have sm : small 911 = true := by decide
  have s1 : exec C (.set 2 kegCell) [.pv (.lst (ns.map .int)), .pv (.int k), .no, .no, .no] m' = .ok (.next [.pv (.lst (ns.map .int)), .pv (.int k), .pv (.int cell), .no, .no]) m' := run_set hc (by simp)
  have s2 : exec C (.set 3 (.bin .add (.int 60013) (.bin .mul (.int 911) (.var 1)))) [.pv (.lst (ns.map .int)), .pv (.int k), .pv (.int cell), .no, .no] m' = .ok (.next [.pv (.lst (ns.map .int)), .pv (.int k), .pv (.int cell), .pv (.int (60013 + 911 * k)), .no]) m' := run_set (by simp [binP, sm]) (by simp)
  rw [run_next s1, run_next s2, run_next (run_for it h1), run_ret (run_retE rt)]
theorem keg_ok {T : List Fd} {d f N : Nat} {k : Int} {m : Mem} {nm : List Str} {ns : List Int} (hT : T[f]? = some ⟨2, nm, false, irKeg⟩) (hn : nm.length = 5) (K : Kegs N m) (hk : 0 ≤ k) (hl : ns.length ≤ 63) :
    ∃ m', callT T (d + 1) f [.lst (ns.map .int), .int k] m = .ok (.ref N) m' ∧ Kegs (N + 1) m' := by
  obtain ⟨a, b, run⟩ := keg_run (C := callsT T d) (m := m) hk hl
  refine ⟨m ++ [.lst [.int a, .int b, .int 0]], ?_, by rw [List.length_append, K.1]; rfl, fun n hn => ?_⟩
  · rw [call_of hT rfl]
    show (match execs (callsT T d) irKeg ([Slot.pv (.lst (ns.map .int)), Slot.pv (.int k)] ++ List.replicate (nm.length - 2) .no) m with
        | .ok (.ret p) m' => .ok p m'
        | .ok (.next _) m' => .ok .non m'
        | .ok (.exc x _) m' => .exc x m'
        | _ => .stuck : R PV) = _
    rw [hn, show ([Slot.pv (.lst (ns.map .int)), Slot.pv (.int k)] ++ List.replicate (5 - 2) Slot.no) = [.pv (.lst (ns.map .int)), .pv (.int k), .no, .no, .no] from rfl, run, K.1]
  · by_cases h : n < N
    · rw [List.getElem?_append_left (by rw [K.1]; exact h)]; exact K.2 n h
    · obtain rfl : n = N := by omega
      rw [List.getElem?_append_right (by rw [K.1]; exact Nat.le_refl _), K.1, Nat.sub_self]
      exact ⟨a, b, 0, rfl⟩
/-! ### the law over its kegs -/
def irLaw (keg right : Nat) : List St := [.set 1 (.comp [2] (.var 2) (.rng1 (.bi .max2 [.int 2, .bi .min2 [.bi .len [.var 0], .int 5]])) none (.call keg [.var 0, .var 2])), .ret (.bi .all [.comp [3] (.var 3) (.seq (.var 1)) none (.call right [.var 3])])]
theorem law_kegs {T : List Fd} {d fk fr fl : Nat} {nk nl : List Str} {ns : List Int} (hk : T[fk]? = some ⟨2, nk, false, irKeg⟩) (lk : nk.length = 5) (hl : T[fl]? = some ⟨1, nl, false, irLaw fk fr⟩) (ll : nl.length = 4) (hs : ns.length ≤ 63)
    (right : ∀ N n m, Kegs N m → n < N → ∃ m', callT T (d + 1) fr [.ref n] m = .ok (.bl true) m' ∧ Kegs N m') : ∃ m', callT T (d + 2) fl [.lst (ns.map .int)] [] = .ok (.bl true) m' := by
  have fm : fits ns.length = true := by unfold fits; simp; omega
  obtain ⟨N, hN, rg⟩ : ∃ N : Nat, N ≤ 5 ∧ evIt (callsT T (d + 1)) (.rng1 (.bi .max2 [.int 2, .bi .min2 [.bi .len [.var 0], .int 5]])) [.pv (.lst (ns.map .int)), .no, .no, .no] [] = .ok ((List.range N).map fun i => .int (i : Nat)) [] := by
    refine ⟨max 2 (min ns.length 5), by omega, ?_⟩
    have e1 : (if (if (5 : Int) < ns.length then (5 : Int) else ns.length) > 2 then (if (5 : Int) < ns.length then (5 : Int) else ns.length) else 2) = ((max 2 (min ns.length 5) : Nat) : Int) := by
      split <;> split <;> omega
    have e2 : evIt (callsT T (d + 1)) (.rng1 (.bi .max2 [.int 2, .bi .min2 [.bi .len [.var 0], .int 5]])) [.pv (.lst (ns.map .int)), .no, .no, .no] [] = rngP 0 (if (if (5 : Int) < ns.length then (5 : Int) else ns.length) > 2 then (if (5 : Int) < ns.length then (5 : Int) else ns.length) else 2) [] := by
      simp [biP]
    rw [e2, e1]
    unfold rngP
    rw [bind_ap, need_ap, if_pos (by simp; omega)]
    simp
  obtain ⟨ys, m1, c1, l1, p1, K1⟩ := compLoop_ix (f := compF (callsT T (d + 1)) [2] (.var 2) none (.call fk [.var 0, .var 2]) [.pv (.lst (ns.map .int)), .no, .no, .no]) (fun i m => Kegs i m) (fun i y => y = .ref i) ((List.range N).map fun i => .int (i : Nat)) 0 [] ⟨rfl, fun n h => absurd h (Nat.not_lt_zero n)⟩ (by
    intro i hi m K
    rw [Nat.zero_add] at K
    obtain ⟨m', run, K'⟩ := keg_ok (d := d) (k := (i : Nat)) hk lk K (by omega) hs
    refine ⟨.ref i, m', ?_, by simp, by rw [Nat.zero_add]; exact K'⟩
    have run' : (callsT T (d + 1)).fn fk [.lst (ns.map .int), .int (i : Nat)] m = .ok (.ref i) m' := run
    unfold compF
    simp [run'])
  have c1' := run_comp rg (by unfold fits; simp; omega) c1
  have hN2 : ys.length = N := by rw [l1]; simp
  rw [List.length_map, List.length_range, Nat.zero_add] at K1
  have st1 : exec (callsT T (d + 1)) (.set 1 (.comp [2] (.var 2) (.rng1 (.bi .max2 [.int 2, .bi .min2 [.bi .len [.var 0], .int 5]])) none (.call fk [.var 0, .var 2]))) [.pv (.lst (ns.map .int)), .no, .no, .no] [] = .ok (.next [.pv (.lst (ns.map .int)), .pv (.lst ys), .no, .no]) m1 := run_set c1' (by simp)
  obtain ⟨zs, m2, c2, l2, p2, K2⟩ := compLoop_ix (f := compF (callsT T (d + 1)) [3] (.var 3) none (.call fr [.var 3]) [.pv (.lst (ns.map .int)), .pv (.lst ys), .no, .no]) (fun _ m => Kegs N m) (fun _ y => y = .bl true) ys 0 m1 K1 (by
    intro i hi m K
    obtain ⟨m', run, K'⟩ := right N i m K (by omega)
    refine ⟨.bl true, m', ?_, rfl, K'⟩
    have e : ys[i] = .ref i := by have := p1 i hi; simpa using this
    have run' : (callsT T (d + 1)).fn fr [.ref i] m = .ok (.bl true) m' := run
    rw [e]
    unfold compF
    simp [run'])
  have all : allBl zs = some (List.replicate zs.length true) := by
    have : ∀ (zs : List PV), (∀ i (hi : i < zs.length), zs[i] = .bl true) → allBl zs = some (List.replicate zs.length true) := by
      intro zs
      induction zs with
      | nil => intro _; rfl
      | cons z zs ih =>
        intro h
        have h0 := h 0 (by simp)
        have h1 := ih fun i hi => by have := h (i + 1) (by simpa using hi); simpa using this
        have e : z = .bl true := by simpa using h0
        subst e
        unfold allBl
        rw [h1]
        rfl
    exact this zs fun i hi => by have := p2 i hi; exact this
  have st2 : ev (callsT T (d + 1)) (.bi .all [.comp [3] (.var 3) (.seq (.var 1)) none (.call fr [.var 3])]) [.pv (.lst (ns.map .int)), .pv (.lst ys), .no, .no] m1 = .ok (.bl true) m2 := by
    have q := run_comp (C := callsT T (d + 1)) (it := .seq (.var 1)) (c := none) (elt := .call fr [.var 3]) (g := .var 3) (own := [3]) (e := [.pv (.lst (ns.map .int)), .pv (.lst ys), .no, .no]) (m := m1) (m' := m1) (xs := ys) (by simp) (by unfold fits; simp; omega) c2
    rw [ev_bi, bind_ap, evs_cons, bind_ap, q]
    simp [biP, all]
  refine ⟨m2, ?_⟩
  rw [call_of hl rfl]
  show (match execs (callsT T (d + 1)) (irLaw fk fr) ([Slot.pv (.lst (ns.map .int))] ++ List.replicate (nl.length - 1) .no) [] with
        | .ok (.ret p) m' => .ok p m'
        | .ok (.next _) m' => .ok .non m'
        | .ok (.exc x _) m' => .exc x m'
        | _ => .stuck : R PV) = _
  rw [ll, show ([Slot.pv (.lst (ns.map .int))] ++ List.replicate (4 - 1) Slot.no) = [.pv (.lst (ns.map .int)), .no, .no, .no] from rfl]
  unfold irLaw
  rw [run_next st1, run_ret (run_retE st2)]
end Nl
end
section
set_option Elab.async false
set_option linter.all false
set_option maxRecDepth 100000
/-! Nl, R: rows of ints. -/
namespace Nl
open PySem (Str PyData)
abbrev nts (l : List Int) : List PV := l.map PV.int
@[simp] theorem allInt_ints : ∀ l : List Int, allInt (l.map PV.int) = some l
  | [] => rfl
  | x :: l => by
    show (allInt (l.map PV.int)).map (x :: ·) = _
    rw [allInt_ints l]
    rfl
/-- the sums of the first 1, 2, .. k -/
def ps (l : List Int) (k : Nat) : List Int := (List.range k).map fun j => (l.take (j + 1)).sum
theorem ps_succ (l : List Int) (k : Nat) : ps l (k + 1) = ps l k ++ [(l.take (k + 1)).sum] := by
  unfold ps
  rw [List.range_succ, List.map_append]
  rfl
theorem ps_len (l : List Int) (k : Nat) : (ps l k).length = k := by unfold ps; simp
theorem take_sum (l : List Int) (k : Nat) (h : k < l.length) : (l.take (k + 1)).sum = (l.take k).sum + l[k] := by
  rw [List.take_succ_eq_append_getElem h, List.sum_append]
  simp
theorem sortR_len (l : List Int) : (sortR l).length = l.length := by unfold sortR; exact List.length_mergeSort l
theorem sortI_len (l : List Int) : (sortI l).length = l.length := by unfold sortI; exact List.length_mergeSort l
theorem sortR_perm (l : List Int) : (sortR l).Perm l := List.mergeSort_perm l _
theorem sortI_perm (l : List Int) : (sortI l).Perm l := List.mergeSort_perm l _
theorem sortR_ge (l : List Int) : (sortR l).Pairwise (· ≥ ·) := by
  have z := List.pairwise_mergeSort (le := fun a b : Int => decide (b ≤ a)) (fun a b c h1 h2 => by simp only [decide_eq_true_eq] at *; omega) (fun a b => by simp only [Bool.or_eq_true, decide_eq_true_eq]; omega) l
  exact z.imp fun h => by simpa using h
theorem sortI_le (l : List Int) : (sortI l).Pairwise (· ≤ ·) := by
  have z := List.pairwise_mergeSort (le := fun a b : Int => decide (a ≤ b)) (fun a b c h1 h2 => by simp only [decide_eq_true_eq] at *; omega) (fun a b => by simp only [Bool.or_eq_true, decide_eq_true_eq]; omega) l
  exact z.imp fun h => by simpa using h
theorem sortR_perm_eq {a b : List Int} (h : a.Perm b) : sortR a = sortR b := sortR_eq ((sortR_perm a).trans h) (sortR_ge a)
theorem sortI_rev (l : List Int) : (sortI l).reverse = sortR l := sortR_eq ((List.reverse_perm _).trans (sortI_perm l)) (by
  rw [List.pairwise_reverse]
  exact (sortI_le l).imp fun h => h)
theorem fits_of {n : Nat} (h : n ≤ 1000000) : fits n = true := decide_eq_true h

/-! ### tops_of, _law_heights -/
def irTops : List St := [.par [(1, true), (2, false)] [.lst [], .int 0], .for_ (.var 3) (.seq (.sortedRev (.var 0))) [.aug 2 .add (.var 3), .append 1 (.var 2)], .ret (.bi .tuple [.peek 1])]
theorem tops_ok {T : List Fd} {d f : Nat} {m : Mem} {nm : List Str} {ns : List Int} (hT : T[f]? = some ⟨1, nm, false, irTops⟩) (hn : nm.length = 4) (hl : ns.length ≤ 1000) : callT T (d + 1) f [.tup (nts ns)] m = .ok (.tup (nts (ps (sortR ns) ns.length))) m := by
  have l2 := sortR_len ns
  obtain ⟨e', m', h1, ⟨s, rfl⟩, rfl⟩ := forL_ok (body := forF (callsT T d) (.var 3) [.aug 2 .add (.var 3), .append 1 (.var 2)]) (fun i e m' => (∃ s, e = [.pv (.tup (nts ns)), .own (nts (ps (sortR ns) i)), .pv (.int ((sortR ns).take i).sum), s]) ∧ m' = m) (nts (sortR ns)) 0 [.pv (.tup (nts ns)), .own [], .pv (.int 0), .no] m ⟨⟨.no, rfl⟩, rfl⟩ (by
    rintro i hi e m' ⟨⟨s, rfl⟩, rfl⟩
    rw [Nat.zero_add]
    have hi' : i < (sortR ns).length := by simpa using hi
    have fl : fits (ps (sortR ns) i).length = true := by rw [ps_len]; exact fits_of (by omega)
    refine ⟨[.pv (.tup (nts ns)), .own (nts (ps (sortR ns) (i + 1))), .pv (.int ((sortR ns).take (i + 1)).sum), .pv (.int (sortR ns)[i])], m', .inl ?_, ⟨_, rfl⟩, rfl⟩
    unfold forF
    rw [ps_succ, take_sum _ _ hi']
    simp [fl])
  have st1 : exec (callsT T d) (.par [(1, true), (2, false)] [.lst [], .int 0]) [.pv (.tup (nts ns)), .no, .no, .no] m' = .ok (.next [.pv (.tup (nts ns)), .own [], .pv (.int 0), .no]) m' := by
    have f0 : fits 0 = true := by decide
    simp [f0]
  have it : evIt (callsT T d) (.seq (.sortedRev (.var 0))) [.pv (.tup (nts ns)), .own [], .pv (.int 0), .no] m' = .ok (nts (sortR ns)) m' := by
    simp [sortedRevP, itemsP]
  rw [call_of hT rfl]
  show (match execs (callsT T d) irTops ([Slot.pv (.tup (nts ns))] ++ List.replicate (nm.length - 1) .no) m' with
        | .ok (.ret p) m' => .ok p m'
        | .ok (.next _) m' => .ok .non m'
        | .ok (.exc x _) m' => .exc x m'
        | _ => .stuck : R PV) = _
  rw [hn, show ([Slot.pv (.tup (nts ns))] ++ List.replicate (4 - 1) Slot.no) = [.pv (.tup (nts ns)), .no, .no, .no] from rfl]
  have st3 : ev (callsT T d) (.bi .tuple [.peek 1]) [.pv (.tup (nts ns)), .own (nts (ps (sortR ns) (0 + (nts (sortR ns)).length))), .pv (.int ((sortR ns).take (0 + (nts (sortR ns)).length)).sum), s] m' = .ok (.tup (nts (ps (sortR ns) ns.length))) m' := by
    simp [biP, itemsP, l2]
  unfold irTops
  rw [run_next st1, run_next (run_for it h1), run_ret (run_retE st3)]
def irHeights : List St := [.par [(1, false), (2, true), (3, false)] [.rev (.bi .sorted [.var 0]), .lst [], .int 0], .for_ (.var 4) (.seq (.var 1)) [.set 3 (.bin .add (.var 3) (.var 4)), .append 2 (.var 3)], .freeze 2, .ret (.var 2)]
theorem heights_ok {T : List Fd} {d f : Nat} {m : Mem} {nm : List Str} {ns : List Int} {p : PV} (hT : T[f]? = some ⟨1, nm, false, irHeights⟩) (hn : nm.length = 5) (hl : ns.length ≤ 1000) (hp : p = .tup (nts ns) ∨ p = .lst (nts ns)) : callT T (d + 1) f [p] m = .ok (.lst (nts (ps (sortR ns) ns.length))) m := by
  have l2 := sortR_len ns
  have ip : itemsP p = some (nts ns) := by rcases hp with rfl | rfl <;> rfl
  obtain ⟨e', m', h1, ⟨s, rfl⟩, rfl⟩ := forL_ok (body := forF (callsT T d) (.var 4) [.set 3 (.bin .add (.var 3) (.var 4)), .append 2 (.var 3)]) (fun i e m' => (∃ s, e = [.pv p, .pv (.lst (nts (sortR ns))), .own (nts (ps (sortR ns) i)), .pv (.int ((sortR ns).take i).sum), s]) ∧ m' = m) (nts (sortR ns)) 0 [.pv p, .pv (.lst (nts (sortR ns))), .own [], .pv (.int 0), .no] m ⟨⟨.no, rfl⟩, rfl⟩ (by
    rintro i hi e m' ⟨⟨s, rfl⟩, rfl⟩
    rw [Nat.zero_add]
    have hi' : i < (sortR ns).length := by simpa using hi
    have fl : fits (ps (sortR ns) i).length = true := by rw [ps_len]; exact fits_of (by omega)
    refine ⟨[.pv p, .pv (.lst (nts (sortR ns))), .own (nts (ps (sortR ns) (i + 1))), .pv (.int ((sortR ns).take (i + 1)).sum), .pv (.int (sortR ns)[i])], m', .inl ?_, ⟨_, rfl⟩, rfl⟩
    unfold forF
    rw [ps_succ, take_sum _ _ hi']
    simp [fl, binP])
  have st1 : exec (callsT T d) (.par [(1, false), (2, true), (3, false)] [.rev (.bi .sorted [.var 0]), .lst [], .int 0]) [.pv p, .no, .no, .no, .no] m' = .ok (.next [.pv p, .pv (.lst (nts (sortR ns))), .own [], .pv (.int 0), .no]) m' := by
    have f0 : fits 0 = true := by decide
    have e : (List.map PV.int (sortI ns)).reverse = List.map PV.int (sortR ns) := by rw [← sortI_rev, List.map_reverse]
    simp [f0, biP, ip, e]
  rw [call_of hT rfl]
  show (match execs (callsT T d) irHeights ([Slot.pv p] ++ List.replicate (nm.length - 1) .no) m' with
        | .ok (.ret p) m' => .ok p m'
        | .ok (.next _) m' => .ok .non m'
        | .ok (.exc x _) m' => .exc x m'
        | _ => .stuck : R PV) = _
  rw [hn, show ([Slot.pv p] ++ List.replicate (5 - 1) Slot.no) = [.pv p, .no, .no, .no, .no] from rfl]
  unfold irHeights
  have it : evIt (callsT T d) (.seq (.var 1)) [.pv p, .pv (.lst (nts (sortR ns))), .own [], .pv (.int 0), .no] m' = .ok (nts (sortR ns)) m' := by simp
  rw [run_next st1, run_next (run_for it h1)]
  simp [l2]
end Nl
end
section
set_option Elab.async false
set_option linter.all false
set_option maxRecDepth 100000
/-! Nl, R2: things taken from the kegs. -/
namespace Nl
open PySem (Str PyData)
theorem mid_of {k : Int} (h : 0 ≤ k) (h2 : k ≤ 100000000000000000000000000000000000) : mid k = true := by
  unfold mid
  refine decide_eq_true ?_
  have : k.natAbs ≤ 100000000000000000000000000000000000 := by omega
  exact Nat.lt_of_le_of_lt this (by decide)
theorem atI_nat {α : Type} {xs : List α} {j : Nat} (h : j < xs.length) : L2.atI xs (j : Int) = some xs[j] := by
  unfold L2.atI
  rw [ixN_nat h]
  exact List.getElem?_eq_getElem h
structure Pour (T : List Fd) (f : Nat) : Prop where
  ex : ∃ ns, T[f]? = some ⟨2, ns, false, irPour⟩ ∧ ns.length = 4
theorem Pour.ok {T : List Fd} {d f N n : Nat} {k : Int} {m : Mem} (P : Pour T f) (K : Kegs N m) (h : n < N) (hk : 0 < k) (h2 : k ≤ 100000000000000000000000000000000000) :
    ∃ r m', (callsT T (d + 1)).fn f [.ref n, .int k] m = .ok (.int r) m' ∧ Kegs N m' ∧ 0 ≤ r ∧ r < k := by
  obtain ⟨ns, e, l⟩ := P.ex
  exact pour_ok e l K h hk (mid_of (by omega) h2)
def irOne (pour : Nat) : List St := [.ret (.ix (.var 1) (.call pour [.var 0, .bi .len [.var 1]]))]
structure One (T : List Fd) (f : Nat) : Prop where
  ex : ∃ fp ns, Pour T fp ∧ T[f]? = some ⟨2, ns, false, irOne fp⟩ ∧ ns.length = 2
theorem One.ok {T : List Fd} {d f N n : Nat} {m : Mem} {xs : List PV} {p : PV} (P : One T f) (K : Kegs N m) (h : n < N) (hx : xs ≠ []) (hl : xs.length ≤ 1000000) (hp : p = .lst xs ∨ p = .tup xs) :
    ∃ x m', (callsT T (d + 2)).fn f [.ref n, p] m = .ok x m' ∧ Kegs N m' ∧ x ∈ xs := by
  obtain ⟨fp, ns, hq, e, l⟩ := P.ex
  have pos : 0 < xs.length := List.length_pos_iff.mpr hx
  obtain ⟨r, m', run, K', r0, r1⟩ := hq.ok (d := d) (k := (xs.length : Nat)) K h (by omega) (by omega)
  have hr : r.toNat < xs.length := by omega
  have at_ : L2.atI xs r = some xs[r.toNat] := by
    have := atI_nat hr
    rwa [Int.toNat_of_nonneg r0] at this
  refine ⟨xs[r.toNat], m', ?_, K', List.getElem_mem hr⟩
  show callT T (d + 1 + 1) f [.ref n, p] m = _
  rw [call_of e rfl]
  show (match execs (callsT T (d + 1)) (irOne fp) ([Slot.pv (.ref n), Slot.pv p] ++ List.replicate (ns.length - 2) .no) m with
        | .ok (.ret p) m' => .ok p m'
        | .ok (.next _) m' => .ok .non m'
        | .ok (.exc x _) m' => .exc x m'
        | _ => .stuck : R PV) = _
  rw [l, show ([Slot.pv (.ref n), Slot.pv p] ++ List.replicate (2 - 2) Slot.no) = [.pv (.ref n), .pv p] from rfl]
  unfold irOne
  have st : ev (callsT T (d + 1)) (.ix (.var 1) (.call fp [.var 0, .bi .len [.var 1]])) [.pv (.ref n), .pv p] m = .ok xs[r.toNat] m' := by
    rcases hp with rfl | rfl
    · simp [biP, run, ixP, at_]
    · simp [biP, run, ixP, at_]
  rw [run_ret (run_retE st)]
theorem ins_perm {α : Type} (ys : List α) (x : α) (j : Nat) : (ys.take j ++ [x] ++ ys.drop j).Perm (ys ++ [x]) := by
  have h : (ys.take j ++ [x] ++ ys.drop j).Perm (ys.take j ++ (ys.drop j ++ [x])) := by
    rw [List.append_assoc]
    exact List.Perm.append_left _ List.perm_append_comm
  rw [← List.append_assoc, List.take_append_drop] at h
  exact h
def irMixed (pour : Nat) : List St := [.setOwn 2 (.lst []), .for_ (.var 3) (.seq (.var 1)) [.insert 2 (.call pour [.var 0, .bin .add (.bi .len [.peek 2]) (.int 1)]) (.var 3)], .freeze 2, .ret (.var 2)]
structure Mixed (T : List Fd) (f : Nat) : Prop where
  ex : ∃ fp ns, Pour T fp ∧ T[f]? = some ⟨2, ns, false, irMixed fp⟩ ∧ ns.length = 4
theorem Mixed.ok {T : List Fd} {d f N n : Nat} {m : Mem} {xs : List PV} {p : PV} (P : Mixed T f) (K : Kegs N m) (h : n < N) (hl : xs.length ≤ 100000) (hp : p = .lst xs ∨ p = .tup xs) :
    ∃ ys m', (callsT T (d + 2)).fn f [.ref n, p] m = .ok (.lst ys) m' ∧ Kegs N m' ∧ ys.Perm xs := by
  obtain ⟨fp, ns, hq, e, l⟩ := P.ex
  have it : ∀ (a b : Slot) (m : Mem), evIt (callsT T (d + 1)) (.seq (.var 1)) [.pv (.ref n), .pv p, a, b] m = .ok xs m := fun a b m => by
    rcases hp with rfl | rfl <;> simp
  obtain ⟨e', m', h1, ⟨ys, s, rfl, pm⟩, K'⟩ := forL_ok (body := forF (callsT T (d + 1)) (.var 3) [.insert 2 (.call fp [.var 0, .bin .add (.bi .len [.peek 2]) (.int 1)]) (.var 3)]) (fun i e m' => (∃ ys s, e = [.pv (.ref n), .pv p, .own ys, s] ∧ ys.Perm (xs.take i)) ∧ Kegs N m') xs 0 [.pv (.ref n), .pv p, .own [], .no] m ⟨⟨[], .no, rfl, by simp⟩, K⟩ (by
    rintro i hi e m ⟨⟨ys, s, rfl, pm⟩, K⟩
    rw [Nat.zero_add] at pm
    have ly : ys.length ≤ 100000 := by rw [pm.length_eq, List.length_take]; omega
    obtain ⟨r, m', run, K', r0, r1⟩ := hq.ok (d := d) (k := (ys.length : Nat) + 1) K h (by omega) (by omega)
    have fl : fits ys.length = true := fits_of (by omega)
    have hr : r ≤ ys.length := by omega
    refine ⟨[.pv (.ref n), .pv p, .own (ys.take r.toNat ++ [xs[i]] ++ ys.drop r.toNat), .pv xs[i]], m', .inl ?_, ⟨_, _, rfl, ?_⟩, K'⟩
    · unfold forF
      simp [biP, binP, run, fl, r0, hr]
    · rw [Nat.zero_add, List.take_succ_eq_append_getElem hi]
      exact (ins_perm ys xs[i] r.toNat).trans (pm.append_right _))
  rw [Nat.zero_add, List.take_length] at pm
  refine ⟨ys, m', ?_, K', pm⟩
  show callT T (d + 1 + 1) f [.ref n, p] m = _
  rw [call_of e rfl]
  show (match execs (callsT T (d + 1)) (irMixed fp) ([Slot.pv (.ref n), Slot.pv p] ++ List.replicate (ns.length - 2) .no) m with
        | .ok (.ret p) m' => .ok p m'
        | .ok (.next _) m' => .ok .non m'
        | .ok (.exc x _) m' => .exc x m'
        | _ => .stuck : R PV) = _
  rw [l, show ([Slot.pv (.ref n), Slot.pv p] ++ List.replicate (4 - 2) Slot.no) = [.pv (.ref n), .pv p, .no, .no] from rfl]
  unfold irMixed
  have f0 : fits 0 = true := by decide
  have s1 : exec (callsT T (d + 1)) (.setOwn 2 (.lst [])) [.pv (.ref n), .pv p, .no, .no] m = .ok (.next [.pv (.ref n), .pv p, .own [], .no]) m := by simp [f0]
  rw [run_next s1, run_next (run_for (it _ _ m) h1)]
  simp
end Nl
end
section
set_option Elab.async false
set_option linter.all false
set_option maxRecDepth 100000
/-! Nl, R3: rows made of the kegs. -/
namespace Nl
open PySem (Str PyData)
def irScale (one : Nat) : List St := [.ret (.call one [.var 0, .lst [.int 4, .int 9, .int 30, .int 1000, .bin .pow (.int 10) (.int 25)]])]
structure Scale (T : List Fd) (f : Nat) : Prop where
  ex : ∃ fo ns, One T fo ∧ T[f]? = some ⟨1, ns, false, irScale fo⟩ ∧ ns.length = 1
theorem Scale.ok {T : List Fd} {d f N n : Nat} {m : Mem} (P : Scale T f) (K : Kegs N m) (h : n < N) :
    ∃ z m', (callsT T (d + 3)).fn f [.ref n] m = .ok (.int z) m' ∧ Kegs N m' ∧ 4 ≤ z ∧ z ≤ 10000000000000000000000000 := by
  obtain ⟨fo, ns, hq, e, l⟩ := P.ex
  obtain ⟨x, m', run, K', mem⟩ := hq.ok (d := d) (p := .lst [.int 4, .int 9, .int 30, .int 1000, .int 10000000000000000000000000]) K h (by simp) (by simp) (.inl rfl)
  obtain ⟨z, rfl, z1, z2⟩ : ∃ z, x = .int z ∧ 4 ≤ z ∧ z ≤ 10000000000000000000000000 := by
    simp only [List.mem_cons, List.not_mem_nil, or_false] at mem
    rcases mem with rfl | rfl | rfl | rfl | rfl <;> exact ⟨_, rfl, by omega, by omega⟩
  refine ⟨z, m', ?_, K', z1, z2⟩
  show callT T (d + 2 + 1) f [.ref n] m = _
  rw [call_of e rfl]
  show (match execs (callsT T (d + 2)) (irScale fo) ([Slot.pv (.ref n)] ++ List.replicate (ns.length - 1) .no) m with
        | .ok (.ret p) m' => .ok p m'
        | .ok (.next _) m' => .ok .non m'
        | .ok (.exc x _) m' => .exc x m'
        | _ => .stuck : R PV) = _
  rw [l, show ([Slot.pv (.ref n)] ++ List.replicate (1 - 1) Slot.no) = [.pv (.ref n)] from rfl]
  unfold irScale
  have f5 : fits 5 = true := by decide
  have sm : small 10 = true := by decide
  have st : ev (callsT T (d + 2)) (.call fo [.var 0, .lst [.int 4, .int 9, .int 30, .int 1000, .bin .pow (.int 10) (.int 25)]]) [.pv (.ref n)] m = .ok (.int z) m' := by
    simp [binP, f5, sm, run]
  rw [run_ret (run_retE st)]
def irParts (pour one : Nat) : List St := [.set 3 (.call pour [.var 0, .var 2]), .setOwn 4 (.lst []), .for_ (.var 5) (.rng1 (.var 1)) [.set 6 (.bi .max2 [.int 0, .bin .sub (.bin .add (.var 3) (.call pour [.var 0, .int 5])) (.int 2)]), .append 4 (.call one [.var 0, .lst [.var 3, .var 6, .var 6, .call pour [.var 0, .var 2]]])], .ret (.bi .tuple [.peek 4])]
structure Parts (T : List Fd) (f : Nat) : Prop where
  ex : ∃ fp fo ns, Pour T fp ∧ One T fo ∧ T[f]? = some ⟨3, ns, false, irParts fp fo⟩ ∧ ns.length = 7
theorem Parts.ok {T : List Fd} {d f N n k : Nat} {z : Int} {m : Mem} (P : Parts T f) (K : Kegs N m) (h : n < N) (hk : k ≤ 1000) (z1 : 0 < z) (z2 : z ≤ 10000000000000000000000000) :
    ∃ l m', (callsT T (d + 3)).fn f [.ref n, .int (k : Nat), .int z] m = .ok (.tup (nts l)) m' ∧ Kegs N m' ∧ l.length = k ∧ ∀ x ∈ l, 0 ≤ x ∧ x ≤ z + 5 := by
  obtain ⟨fp, fo, ns, hp, ho, e, l⟩ := P.ex
  obtain ⟨b, m1, runb, K1, b0, b1⟩ := hp.ok (d := d + 1) (k := z) K h z1 (by omega)
  obtain ⟨e', m', h1, ⟨ys, s5, s6, rfl, yl, yb⟩, K'⟩ := forL_ok (body := forF (callsT T (d + 2)) (.var 5) [.set 6 (.bi .max2 [.int 0, .bin .sub (.bin .add (.var 3) (.call fp [.var 0, .int 5])) (.int 2)]), .append 4 (.call fo [.var 0, .lst [.var 3, .var 6, .var 6, .call fp [.var 0, .var 2]]])])
    (fun i e m' => (∃ ys s5 s6, e = [.pv (.ref n), .pv (.int (k : Nat)), .pv (.int z), .pv (.int b), .own (nts ys), s5, s6] ∧ ys.length = i ∧ ∀ x ∈ ys, 0 ≤ x ∧ x ≤ z + 5) ∧ Kegs N m') ((List.range k).map fun i => .int (i : Nat)) 0 [.pv (.ref n), .pv (.int (k : Nat)), .pv (.int z), .pv (.int b), .own [], .no, .no] m1 ⟨⟨[], .no, .no, rfl, rfl, fun _ h => nomatch h⟩, K1⟩ (by
    rintro i hi e m ⟨⟨ys, s5, s6, rfl, yl, yb⟩, K⟩
    rw [Nat.zero_add] at yl
    obtain ⟨c, m1, run1, K1, c0, c1⟩ := hp.ok (d := d + 1) (k := 5) K h (by omega) (by omega)
    obtain ⟨w, m2, run2, K2, w0, w1⟩ := hp.ok (d := d + 1) (k := z) K1 h z1 (by omega)
    obtain ⟨near, hnear, n0, n1⟩ : ∃ near, near = (if b + c - 2 > 0 then b + c - 2 else 0) ∧ 0 ≤ near ∧ near ≤ z + 5 := by
      refine ⟨_, rfl, ?_, ?_⟩
      · split <;> omega
      · split <;> omega
    obtain ⟨x, m3, run3, K3, mem⟩ := ho.ok (d := d) (p := .lst [.int b, .int near, .int near, .int w]) K2 h (by simp) (by simp) (.inl rfl)
    obtain ⟨x, rfl, x0, x1⟩ : ∃ y, x = .int y ∧ 0 ≤ y ∧ y ≤ z + 5 := by
      simp only [List.mem_cons, List.not_mem_nil, or_false] at mem
      rcases mem with rfl | rfl | rfl | rfl <;> exact ⟨_, rfl, by omega, by omega⟩
    have hik : i < k := by simpa using hi
    have fl : fits ys.length = true := fits_of (by omega)
    have f4 : fits 4 = true := by decide
    refine ⟨[.pv (.ref n), .pv (.int (k : Nat)), .pv (.int z), .pv (.int b), .own (nts (ys ++ [x])), .pv (.int i), .pv (.int near)], m3, .inl ?_, ⟨_, _, _, rfl, by simp [yl], fun y hy => ?_⟩, K3⟩
    · have sA : exec (callsT T (d + 2)) (.set 6 (.bi .max2 [.int 0, .bin .sub (.bin .add (.var 3) (.call fp [.var 0, .int 5])) (.int 2)])) [.pv (.ref n), .pv (.int (k : Nat)), .pv (.int z), .pv (.int b), .own (nts ys), .pv (.int i), s6] m = .ok (.next [.pv (.ref n), .pv (.int (k : Nat)), .pv (.int z), .pv (.int b), .own (nts ys), .pv (.int i), .pv (.int near)]) m1 := by
        rw [hnear]
        exact run_set (p := .int (if b + c - 2 > 0 then b + c - 2 else 0)) (by simp [biP, binP, run1]) (by simp)
      have sB : exec (callsT T (d + 2)) (.append 4 (.call fo [.var 0, .lst [.var 3, .var 6, .var 6, .call fp [.var 0, .var 2]]])) [.pv (.ref n), .pv (.int (k : Nat)), .pv (.int z), .pv (.int b), .own (nts ys), .pv (.int i), .pv (.int near)] m1 = .ok (.next [.pv (.ref n), .pv (.int (k : Nat)), .pv (.int z), .pv (.int b), .own (nts (ys ++ [x])), .pv (.int i), .pv (.int near)]) m3 := by
        simp [run2, run3, fl, f4]
      have sT : forF (callsT T (d + 2)) (.var 5) [.set 6 (.bi .max2 [.int 0, .bin .sub (.bin .add (.var 3) (.call fp [.var 0, .int 5])) (.int 2)]), .append 4 (.call fo [.var 0, .lst [.var 3, .var 6, .var 6, .call fp [.var 0, .var 2]]])] (.int i) [.pv (.ref n), .pv (.int (k : Nat)), .pv (.int z), .pv (.int b), .own (nts ys), s5, s6] = execs (callsT T (d + 2)) [.set 6 (.bi .max2 [.int 0, .bin .sub (.bin .add (.var 3) (.call fp [.var 0, .int 5])) (.int 2)]), .append 4 (.call fo [.var 0, .lst [.var 3, .var 6, .var 6, .call fp [.var 0, .var 2]]])] [.pv (.ref n), .pv (.int (k : Nat)), .pv (.int z), .pv (.int b), .own (nts ys), .pv (.int i), s6] := by
        unfold forF
        rfl
      have ei : ((List.range k).map fun i => PV.int (i : Nat))[i] = .int i := by simp
      rw [ei, sT, run_next sA, run_next sB]
      rfl
    · rcases List.mem_append.mp hy with q | q
      · exact yb y q
      · rw [List.mem_singleton.mp q]; exact ⟨x0, x1⟩)
  refine ⟨ys, m', ?_, K', by simpa using yl, yb⟩
  show callT T (d + 2 + 1) f [.ref n, .int (k : Nat), .int z] m = _
  rw [call_of e rfl]
  show (match execs (callsT T (d + 2)) (irParts fp fo) ([Slot.pv (.ref n), Slot.pv (.int (k : Nat)), Slot.pv (.int z)] ++ List.replicate (ns.length - 3) .no) m with
        | .ok (.ret p) m' => .ok p m'
        | .ok (.next _) m' => .ok .non m'
        | .ok (.exc x _) m' => .exc x m'
        | _ => .stuck : R PV) = _
  rw [l, show ([Slot.pv (.ref n), Slot.pv (.int (k : Nat)), Slot.pv (.int z)] ++ List.replicate (7 - 3) Slot.no) = [.pv (.ref n), .pv (.int (k : Nat)), .pv (.int z), .no, .no, .no, .no] from rfl]
  unfold irParts
  have f0 : fits 0 = true := by decide
  have s1 : exec (callsT T (d + 2)) (.set 3 (.call fp [.var 0, .var 2])) [.pv (.ref n), .pv (.int (k : Nat)), .pv (.int z), .no, .no, .no, .no] m = .ok (.next [.pv (.ref n), .pv (.int (k : Nat)), .pv (.int z), .pv (.int b), .no, .no, .no]) m1 := run_set (by simp [runb]) (by simp)
  have s2 : exec (callsT T (d + 2)) (.setOwn 4 (.lst [])) [.pv (.ref n), .pv (.int (k : Nat)), .pv (.int z), .pv (.int b), .no, .no, .no] m1 = .ok (.next [.pv (.ref n), .pv (.int (k : Nat)), .pv (.int z), .pv (.int b), .own [], .no, .no]) m1 := by simp [f0]
  have it : evIt (callsT T (d + 2)) (.rng1 (.var 1)) [.pv (.ref n), .pv (.int (k : Nat)), .pv (.int z), .pv (.int b), .own [], .no, .no] m1 = .ok ((List.range k).map fun i => .int (i : Nat)) m1 := by
    have rk : (decide ((k : Int) ≤ 1000000)) = true := decide_eq_true (by omega)
    have rk2 : (decide (-1000000 ≤ (k : Int))) = true := decide_eq_true (by omega)
    simp [rngP, rk, rk2]
  rw [run_next s1, run_next s2, run_next (run_for it h1)]
  simp [biP, itemsP]
end Nl
end
section
set_option Elab.async false
set_option linter.all false
set_option maxRecDepth 100000
/-! Nl, R4: plain data: compared, shown. -/
namespace Nl
open PySem (Str PyData)
mutual
/-- nodes -/
def psize : PV → Nat
  | .tup xs => psizeL xs + 1
  | .lst xs => psizeL xs + 1
  | .str x => x.length + 1
  | _ => 1
def psizeL : List PV → Nat
  | [] => 0
  | x :: xs => psize x + psizeL xs
end
mutual
def pdepth : PV → Nat
  | .tup xs => pdepthL xs + 1
  | .lst xs => pdepthL xs + 1
  | _ => 0
def pdepthL : List PV → Nat
  | [] => 0
  | x :: xs => max (pdepth x) (pdepthL xs)
end
mutual
/-- no text but ASCII-like ones, ints below 10^40 -/
def pok : PV → Prop
  | .non => True
  | .bl _ => True
  | .int i => i.natAbs < 10 ^ 40
  | .str x => ∀ c ∈ x.cps.toList, c < 55296
  | .tup xs => pokL xs
  | .lst xs => pokL xs
  | _ => False
def pokL : List PV → Prop
  | [] => True
  | x :: xs => pok x ∧ pokL xs
end
structure Fine (d : PyData) (n k : Nat) : Prop where
  lay : d.canLay0 = true
  show_ : d.showable = true
  short : d.leavesShort 41 = true
  depth : d.depth ≤ k
  weight : d.weight + 1 ≤ 135 * n
structure FineL (ds : List PyData) (n k : Nat) : Prop where
  lay : PyData.canLayAll0 ds = true
  show_ : PyData.showableAll ds = true
  short : PyData.leavesShortAll 41 ds = true
  depth : PyData.depthAll ds ≤ k
  weight : PyData.weightAll ds ≤ 135 * n
mutual
theorem pok_dat : ∀ p : PV, pok p → ∃ d, p.dat = some d ∧ Fine d (psize p) (pdepth p)
  | .non, _ => ⟨_, rfl, rfl, rfl, rfl, by decide, by decide⟩
  | .bl b, _ => ⟨_, rfl, rfl, rfl, rfl, by cases b <;> decide, by cases b <;> decide⟩
  | .int i, h => by
    unfold pok at h
    have lg : i.natAbs.log2 < 133 := by
      by_cases h0 : i.natAbs = 0
      · rw [h0]; decide
      · exact (Nat.log2_lt h0).mpr (Nat.lt_trans h (by decide))
    refine ⟨_, rfl, rfl, ?_, ?_, Nat.le_refl _, ?_⟩
    · show decide (i.natAbs.log2 < 1920) = true
      exact decide_eq_true (by omega)
    · show decide ((PyData.shown (.int i)).length ≤ 41) = true
      refine decide_eq_true ?_
      show (Str.ofString (toString i)).length ≤ 41
      rw [PySem.ofString_length]
      exact PySem.int_text_length_le10 (k := 40) (by decide) h
    · show (if i == 0 then 0 else i.natAbs.log2 + 1) + 1 ≤ 135 * 1
      split <;> omega
  | .str x, h => by
    unfold pok at h
    refine ⟨_, rfl, ?_, rfl, ?_, Nat.le_refl _, ?_⟩
    · show (x.cps.all (· < 0x110000)) = true
      rw [Array.all_eq_true']
      intro c hc
      exact decide_eq_true (Nat.lt_trans (h c (by simpa using hc)) (by decide))
    · show (x.cps.toList.all fun c => decide (c < 16 ^ 8)) = true
      exact List.all_eq_true.mpr fun c hc => decide_eq_true (Nat.lt_trans (h c hc) (by decide))
    · show x.cps.size + 1 ≤ 135 * (x.length + 1)
      have e : x.length = x.cps.size := rfl
      omega
  | .tup xs, h => by
    unfold pok at h
    obtain ⟨ds, e, F⟩ := pokL_dat xs h
    refine ⟨.tuple ds, by unfold PV.dat; rw [e]; rfl, F.lay, F.show_, F.short, ?_, ?_⟩
    · exact Nat.succ_le_succ F.depth
    · have := F.weight
      show PyData.weightAll ds + 1 ≤ 135 * (psizeL xs + 1)
      omega
  | .lst xs, h => by
    unfold pok at h
    obtain ⟨ds, e, F⟩ := pokL_dat xs h
    refine ⟨.list ds, by unfold PV.dat; rw [e]; rfl, F.lay, F.show_, F.short, ?_, ?_⟩
    · exact Nat.succ_le_succ F.depth
    · have := F.weight
      show PyData.weightAll ds + 1 ≤ 135 * (psizeL xs + 1)
      omega
  | .dic _, h => by unfold pok at h; exact h.elim
  | .ref _, h => by unfold pok at h; exact h.elim
  | .fn _, h => by unfold pok at h; exact h.elim
  | .cls _, h => by unfold pok at h; exact h.elim
  | .ty _, h => by unfold pok at h; exact h.elim
  | .lam _ _, h => by unfold pok at h; exact h.elim
theorem pokL_dat : ∀ ps : List PV, pokL ps → ∃ ds, datL ps = some ds ∧ FineL ds (psizeL ps) (pdepthL ps)
  | [], _ => ⟨[], rfl, rfl, rfl, rfl, Nat.le_refl _, Nat.le_refl _⟩
  | p :: ps, h => by
    unfold pokL at h
    obtain ⟨d, e, F⟩ := pok_dat p h.1
    obtain ⟨ds, e2, F2⟩ := pokL_dat ps h.2
    refine ⟨d :: ds, by unfold datL; rw [e, e2], ?_, ?_, ?_, ?_, ?_⟩
    · unfold PyData.canLayAll0; rw [F.lay, F2.lay]; rfl
    · unfold PyData.showableAll; rw [F.show_, F2.show_]; rfl
    · unfold PyData.leavesShortAll; rw [F.short, F2.short]; rfl
    · unfold PyData.depthAll pdepthL
      exact Nat.max_le.mpr ⟨Nat.le_trans F.depth (Nat.le_max_left _ _), Nat.le_trans F2.depth (Nat.le_max_right _ _)⟩
    · have := F.weight
      have := F2.weight
      show d.weight + 1 + PyData.weightAll ds ≤ 135 * (psize p + psizeL ps)
      omega
end
theorem eq_self {p : PV} (h : pok p) (hd : pdepth p ≤ 64) (m : Mem) : eqP p p m = .ok true m := by
  unfold eqP
  cases es : strsP p p with
  | some xy =>
    cases p with
    | str x => cases es; simp
    | _ => cases es
  | none =>
    obtain ⟨d, e, F⟩ := pok_dat p h
    have sh : PySem.SeqAt.shaped d = true := by
      unfold PySem.SeqAt.shaped
      rw [F.lay]
      have := F.depth
      simp
      omega
    show eqD p p m = _
    unfold eqD
    rw [e]
    dsimp only
    rw [bind_ap, need_ap, sh]
    show R.ok (PyData.eqv d d) m = _
    rw [PySem.SeqAt.eqv_refl d F.lay]
theorem ne_self {p : PV} (h : pok p) (hd : pdepth p ≤ 64) (m : Mem) : cmpP .ne p p m = .ok false m := by
  show (eqP p p >>= fun r => (pure (!r) : Py Bool)) m = _
  rw [bind_ap, eq_self h hd]
  rfl
@[simp] theorem eqP_int (i j : Int) (m : Mem) : eqP (.int i) (.int j) m = .ok (decide (i = j)) m := by
  show eqD (.int i) (.int j) m = _
  unfold eqD
  show (need (PySem.SeqAt.shaped (.int i) && PySem.SeqAt.shaped (.int j)) >>= fun _ => (pure (PyData.eqv (.int i) (.int j)) : Py Bool)) m = _
  have sh : ∀ i : Int, PySem.SeqAt.shaped (.int i) = true := fun i => rfl
  rw [bind_ap, need_ap, sh, sh]
  show R.ok (i == j) m = _
  rw [show (i == j) = decide (i = j) from rfl]
@[simp] theorem eqP_str (x y : Str) (m : Mem) : eqP (.str x) (.str y) m = .ok (decide (x = y)) m := rfl
@[simp] theorem eqP_bl (x y : Bool) (m : Mem) : eqP (.bl x) (.bl y) m = .ok (decide (x = y)) m := by
  cases x <;> cases y <;> rfl
@[simp] theorem cmp_eq (a b : PV) : cmpP .eq a b = eqP a b := rfl
@[simp] theorem cmp_ne (a b : PV) : cmpP .ne a b = (eqP a b >>= fun r => (pure (!r) : Py Bool)) := rfl
theorem repr_ok {p : PV} (h : pok p) (hd : pdepth p ≤ 64) (hs : psize p ≤ 2000) : ∃ s, ∀ m, biP .repr [p] m = .ok (.str s) m := by
  obtain ⟨d, e, F⟩ := pok_dat p h
  refine ⟨d.shown, fun m => ?_⟩
  have le := PyData.shown_le 41 (by decide) d F.short
  have w := F.weight
  have dp := F.depth
  have sl : PySem.sizeLine = 16777216 := rfl
  have c : (d.showable && decide (d.depth ≤ 64) && decide (d.shown.length ≤ PySem.sizeLine)) = true := by
    rw [F.show_]
    have h1 : d.depth ≤ 64 := by omega
    have h2 : d.shown.length ≤ PySem.sizeLine := by
      have : (41 + 2) * d.weight ≤ 43 * (135 * 2000) := Nat.mul_le_mul_left 43 (by omega)
      omega
    rw [decide_eq_true h1, decide_eq_true h2]
    rfl
  show (match p.dat with
    | some d => (do need (d.showable && decide (d.depth ≤ 64) && decide (d.shown.length ≤ PySem.sizeLine)); pure (.str d.shown) : Py PV)
    | _ => stuck) m = _
  rw [e]
  dsimp only
  rw [bind_ap, need_ap, c, if_pos rfl]
  rfl
theorem pokL_nts : ∀ {l : List Int}, (∀ x ∈ l, x.natAbs < 10 ^ 40) → pokL (nts l)
  | [], _ => trivial
  | x :: l, h => ⟨h x List.mem_cons_self, pokL_nts fun y hy => h y (List.mem_cons_of_mem _ hy)⟩
theorem psizeL_nts : ∀ (l : List Int), psizeL (nts l) = l.length
  | [] => rfl
  | x :: l => by
    show 1 + psizeL (nts l) = _
    rw [psizeL_nts l, List.length_cons, Nat.add_comm]
theorem pdepthL_nts : ∀ (l : List Int), pdepthL (nts l) = 0
  | [] => rfl
  | x :: l => by
    show max 0 (pdepthL (nts l)) = 0
    rw [pdepthL_nts l]
    rfl
end Nl
end
section
set_option Elab.async false
set_option linter.all false
set_option maxRecDepth 100000
/-! Nl, R5: the sums of the greatest; every choice. -/
namespace Nl
open PySem (Str PyData)
theorem take_shift {a : Int} {r : List Int} (h : ∀ x ∈ r, x ≤ a) : ∀ k, k ≤ r.length → (r.take k).sum ≤ ((a :: r).take k).sum
  | 0, _ => by simp
  | k + 1, hk => by
    rw [List.take_succ_eq_append_getElem (by omega), List.take_succ_cons, List.sum_append, List.sum_cons]
    have := h _ (List.getElem_mem (l := r) (n := k) (by omega))
    simp only [List.sum_cons, List.sum_nil]
    omega
theorem sub_sum {r s : List Int} (hs : s.Sublist r) (h : r.Pairwise (· ≥ ·)) : s.sum ≤ (r.take s.length).sum := by
  induction hs with
  | slnil => simp
  | cons a hs ih =>
    obtain ⟨h1, h2⟩ := List.pairwise_cons.mp h
    exact Int.le_trans (ih h2) (take_shift h1 _ hs.length_le)
  | cons_cons a hs ih =>
    obtain ⟨h1, h2⟩ := List.pairwise_cons.mp h
    rw [List.length_cons, List.take_succ_cons, List.sum_cons, List.sum_cons]
    have := ih h2
    omega
theorem perm_sub {a b : List Int} (p : a.Perm b) : ∀ {s : List Int}, s.Sublist a → ∃ s' : List Int, s'.Sublist b ∧ s'.Perm s := by
  induction p with
  | nil => intro s hs; exact ⟨s, hs, .refl _⟩
  | cons x p ih =>
    intro s hs
    cases hs with
    | cons _ hs =>
      obtain ⟨s', h1, h2⟩ := ih hs
      exact ⟨s', h1.cons _, h2⟩
    | cons_cons _ hs =>
      obtain ⟨s', h1, h2⟩ := ih hs
      exact ⟨x :: s', h1.cons_cons _, h2.cons _⟩
  | swap x y l =>
    intro s hs
    cases hs with
    | cons _ hs =>
      cases hs with
      | cons _ hs => exact ⟨s, (hs.cons _).cons _, .refl _⟩
      | cons_cons _ hs => exact ⟨_, (hs.cons _).cons_cons _, .refl _⟩
    | cons_cons _ hs =>
      cases hs with
      | cons _ hs => exact ⟨_, (hs.cons_cons _).cons _, .refl _⟩
      | cons_cons _ hs => exact ⟨_, (hs.cons_cons _).cons_cons _, .swap _ _ _⟩
  | trans p q ih1 ih2 =>
    intro s hs
    obtain ⟨s1, h1, h2⟩ := ih1 hs
    obtain ⟨s2, h3, h4⟩ := ih2 h1
    exact ⟨s2, h3, h4.trans h2⟩
theorem sum_perm {a b : List Int} (p : a.Perm b) : a.sum = b.sum := by
  induction p with
  | nil => rfl
  | cons x p ih => rw [List.sum_cons, List.sum_cons, ih]
  | swap x y l => simp only [List.sum_cons]; omega
  | trans p q ih1 ih2 => exact ih1.trans ih2
/-- no choice of that many is greater than the greatest -/
theorem top_most {l s : List Int} (h : s.Sublist l) : s.sum ≤ ((sortR l).take s.length).sum := by
  obtain ⟨s', h1, h2⟩ := perm_sub (sortR_perm l).symm h
  rw [← sum_perm h2, ← h2.length_eq]
  exact sub_sum h1 (sortR_ge l)
theorem top_some {l : List Int} {k : Nat} (hk : k ≤ l.length) : ∃ s : List Int, s.Sublist l ∧ s.length = k ∧ s.sum = ((sortR l).take k).sum := by
  obtain ⟨s, h1, h2⟩ := perm_sub (sortR_perm l) (List.take_sublist k (sortR l))
  refine ⟨s, h1, ?_, sum_perm h2⟩
  rw [h2.length_eq, List.length_take, sortR_len]
  exact Nat.min_eq_left hk
/-- what _law_choices does at one of the parts -/
def chStep (k : Int) (F : List (Int × Int)) (x : Int) : List (Int × Int) := F ++ (F.filter fun p => decide (p.1 < k)).map fun p => (p.1 + 1, p.2 + x)
theorem ch_from {k : Int} : ∀ (l : List Int) (F : List (Int × Int)) (p : Int × Int), p ∈ l.foldl (chStep k) F → ∃ q ∈ F, ∃ s : List Int, s.Sublist l ∧ p.1 = q.1 + s.length ∧ p.2 = q.2 + s.sum
  | [], F, p, h => ⟨p, h, [], .slnil, by simp, by simp⟩
  | x :: l, F, p, h => by
    obtain ⟨q, hq, s, h1, h2, h3⟩ := ch_from l (chStep k F x) p h
    rcases List.mem_append.mp hq with z | z
    · exact ⟨q, z, s, h1.cons _, h2, h3⟩
    · obtain ⟨q0, hq0, e⟩ := List.mem_map.mp z
      subst e
      refine ⟨q0, (List.mem_filter.mp hq0).1, x :: s, h1.cons_cons _, ?_, ?_⟩
      · rw [h2, List.length_cons]; push_cast; omega
      · rw [h3, List.sum_cons]; simp only; omega
theorem ch_to {k : Int} : ∀ (l : List Int) (F : List (Int × Int)) (q : Int × Int), q ∈ F → ∀ s : List Int, s.Sublist l → q.1 + s.length ≤ k → (q.1 + s.length, q.2 + s.sum) ∈ l.foldl (chStep k) F
  | [], F, q, hq, s, hs, _ => by
    obtain rfl : s = [] := List.sublist_nil.mp hs
    simpa using hq
  | x :: l, F, q, hq, s, hs, hk => by
    cases hs with
    | cons _ hs => exact ch_to l (chStep k F x) q (List.mem_append_left _ hq) s hs hk
    | cons_cons _ hs =>
      rename_i s
      rw [List.length_cons] at hk ⊢
      push_cast at hk
      have m : (q.1 + 1, q.2 + x) ∈ chStep k F x := List.mem_append_right _ (List.mem_map.mpr ⟨q, List.mem_filter.mpr ⟨hq, decide_eq_true (by omega)⟩, rfl⟩)
      have := ch_to (k := k) l (chStep k F x) (q.1 + 1, q.2 + x) m s hs (by show q.1 + 1 + (s.length : Int) ≤ k; omega)
      simp only at this
      rw [List.sum_cons]
      have e1 : q.1 + ((s.length + 1 : Nat) : Int) = q.1 + 1 + s.length := by push_cast; omega
      have e2 : q.2 + (x + s.sum) = q.2 + x + s.sum := by omega
      rw [e1, e2]
      exact this
theorem ch_len {k : Int} : ∀ (l : List Int) (F : List (Int × Int)), (l.foldl (chStep k) F).length ≤ F.length * 2 ^ l.length
  | [], F => by simp
  | x :: l, F => by
    have h1 := ch_len (k := k) l (chStep k F x)
    have h2 : (chStep k F x).length ≤ F.length * 2 := by
      unfold chStep
      rw [List.length_append, List.length_map]
      have := List.length_filter_le (fun p : Int × Int => decide (p.1 < k)) F
      omega
    rw [List.length_cons, Nat.pow_succ, Nat.mul_comm (2 ^ l.length) 2, ← Nat.mul_assoc]
    exact Nat.le_trans h1 (Nat.mul_le_mul_right _ h2)
/-- the sums of all choices of k: their greatest -/
def chSums (k : Nat) (l : List Int) : List Int := ((l.foldl (chStep k) [(0, 0)]).filter fun p => decide (p.1 = (k : Int))).map (·.2)
theorem chSums_max {k : Nat} {l : List Int} (hk : k ≤ l.length) : chSums k l ≠ [] ∧ maxI (chSums k l) = ((sortR l).take k).sum := by
  have mem : ((sortR l).take k).sum ∈ chSums k l := by
    obtain ⟨s, h1, h2, h3⟩ := top_some hk
    have m := ch_to (k := (k : Int)) l [(0, 0)] (0, 0) (List.mem_singleton.mpr rfl) s h1 (by simp only; omega)
    refine List.mem_map.mpr ⟨_, List.mem_filter.mpr ⟨m, decide_eq_true (by simp only; omega)⟩, ?_⟩
    simp only
    omega
  have ne : chSums k l ≠ [] := fun h => by rw [h] at mem; cases mem
  refine ⟨ne, ?_⟩
  obtain ⟨q1, q2⟩ := maxI_mem (chSums k l) ne
  refine Int.le_antisymm ?_ (q2 _ mem)
  obtain ⟨p, hp, e⟩ := List.mem_map.mp q1
  obtain ⟨hp1, hp2⟩ := List.mem_filter.mp hp
  have hp2 := of_decide_eq_true hp2
  obtain ⟨q, hq, s, h1, h2, h3⟩ := ch_from l _ p hp1
  obtain rfl : q = (0, 0) := List.mem_singleton.mp hq
  rw [← e, h3]
  have ls : s.length = k := by rw [h2] at hp2; simp only at hp2; omega
  have := top_most h1
  rw [ls] at this
  simpa using this
end Nl
end
section
set_option Elab.async false
set_option linter.all false
set_option maxRecDepth 100000
/-! Nl, R6: rows checked, their sums, the choices: runs. -/
namespace Nl
open PySem (Str PyData)
def irIsInt : List St := [.ret (.and (.isi (.var 0) ["int"]) (.not (.isi (.var 0) ["bool"])))]
structure IsInt (T : List Fd) (f : Nat) : Prop where
  ex : ∃ ns, T[f]? = some ⟨1, ns, false, irIsInt⟩ ∧ ns.length = 1
theorem IsInt.ok {T : List Fd} {d f : Nat} {m : Mem} {i : Int} (P : IsInt T f) : (callsT T (d + 1)).fn f [.int i] m = .ok (.bl true) m := by
  obtain ⟨ns, e, l⟩ := P.ex
  show callT T (d + 1) f [.int i] m = _
  rw [call_of e rfl]
  show (match execs (callsT T d) irIsInt ([Slot.pv (.int i)] ++ List.replicate (ns.length - 1) .no) m with
        | .ok (.ret p) m' => .ok p m'
        | .ok (.next _) m' => .ok .non m'
        | .ok (.exc x _) m' => .exc x m'
        | _ => .stuck : R PV) = _
  rw [l]
  rfl
def irCheckRow (isi : Nat) : List St := [.ite (.or (.not (.isi (.var 0) ["tuple"])) (.cmp .eq (.bi .len [.var 0]) (.int 0))) [.bad] [], .for_ (.tup [.var 1, .var 2]) (.enum (.var 0)) [.ite (.or (.not (.call isi [.var 2])) (.or (.cmp .lt (.var 2) (.int 0)) (.cmp .ge (.var 1) (.gint "MOST_ENDS" 12)))) [.bad] []]]
structure CheckRow (T : List Fd) (f : Nat) : Prop where
  ex : ∃ fi ns, IsInt T fi ∧ T[f]? = some ⟨1, ns, false, irCheckRow fi⟩ ∧ ns.length = 3
theorem CheckRow.ok {T : List Fd} {d f : Nat} {m : Mem} {l : List Int} (P : CheckRow T f) (h0 : l ≠ []) (h1 : l.length ≤ 12) (h2 : ∀ x ∈ l, 0 ≤ x) : (callsT T (d + 2)).fn f [.tup (nts l)] m = .ok .non m := by
  obtain ⟨fi, ns, hi, e, ll⟩ := P.ex
  have len : ((List.range (nts l).length).zipWith (fun (i : Nat) p => PV.tup [.int (i : Nat), p]) (nts l)).length = l.length := by simp
  obtain ⟨e', m', r1, _, rfl⟩ := forL_ok (body := forF (callsT T (d + 1)) (.tup [.var 1, .var 2]) [.ite (.or (.not (.call fi [.var 2])) (.or (.cmp .lt (.var 2) (.int 0)) (.cmp .ge (.var 1) (.gint "MOST_ENDS" 12)))) [.bad] []]) (fun _ e m' => (∃ a b, e = [.pv (.tup (nts l)), a, b]) ∧ m' = m) ((List.range (nts l).length).zipWith (fun (i : Nat) p => PV.tup [.int (i : Nat), p]) (nts l)) 0 [.pv (.tup (nts l)), .no, .no] m ⟨⟨_, _, rfl⟩, rfl⟩ (by
    rintro i hi' e m' ⟨⟨a, b, rfl⟩, rfl⟩
    rw [len] at hi'
    have ex : ((List.range (nts l).length).zipWith (fun (i : Nat) p => PV.tup [.int (i : Nat), p]) (nts l))[i] = .tup [.int i, .int l[i]] := by simp
    have p1 : ¬ l[i] < 0 := by have := h2 _ (List.getElem_mem hi'); omega
    have p2 : ¬ (12 : Int) ≤ i := by omega
    refine ⟨[.pv (.tup (nts l)), .pv (.int i), .pv (.int l[i])], m', .inl ?_, ⟨_, _, rfl⟩, rfl⟩
    rw [ex]
    unfold forF
    simp [hi.ok, cmpP, p1, p2])
  show callT T (d + 1 + 1) f [.tup (nts l)] m' = _
  rw [call_of e rfl]
  show (match execs (callsT T (d + 1)) (irCheckRow fi) ([Slot.pv (.tup (nts l))] ++ List.replicate (ns.length - 1) .no) m' with
        | .ok (.ret p) m' => .ok p m'
        | .ok (.next _) m' => .ok .non m'
        | .ok (.exc x _) m' => .exc x m'
        | _ => .stuck : R PV) = _
  rw [ll, show ([Slot.pv (.tup (nts l))] ++ List.replicate (3 - 1) Slot.no) = [.pv (.tup (nts l)), .no, .no] from rfl]
  unfold irCheckRow
  have hl : ¬ l.length = 0 := by simpa using h0
  have s1 : exec (callsT T (d + 1)) (.ite (.or (.not (.isi (.var 0) ["tuple"])) (.cmp .eq (.bi .len [.var 0]) (.int 0))) [.bad] []) [.pv (.tup (nts l)), .no, .no] m' = .ok (.next [.pv (.tup (nts l)), .no, .no]) m' := by
    have c : ev (callsT T (d + 1)) (.or (.not (.isi (.var 0) ["tuple"])) (.cmp .eq (.bi .len [.var 0]) (.int 0))) [.pv (.tup (nts l)), .no, .no] m' = .ok (.bl false) m' := by
      simp [tyOf, isTy, biP, h0]
    rw [run_ite c]
    rfl
  have it : evIt (callsT T (d + 1)) (.enum (.var 0)) [.pv (.tup (nts l)), .no, .no] m' = .ok ((List.range (nts l).length).zipWith (fun (i : Nat) p => PV.tup [.int (i : Nat), p]) (nts l)) m' := by simp
  rw [run_next s1, run_next (run_for it r1)]
  rfl
def irTopSums (chk tops : Nat) : List St := [.expr (.call chk [.var 0]), .ret (.call tops [.var 0])]
structure TopSums (T : List Fd) (f : Nat) : Prop where
  ex : ∃ fc ft nt, CheckRow T fc ∧ T[ft]? = some ⟨1, nt, false, irTops⟩ ∧ nt.length = 4 ∧ T[f]? = some ⟨1, ["row"], false, irTopSums fc ft⟩
theorem TopSums.ok {T : List Fd} {d f : Nat} {m : Mem} {l : List Int} (P : TopSums T f) (h0 : l ≠ []) (h1 : l.length ≤ 12) (h2 : ∀ x ∈ l, 0 ≤ x) : (callsT T (d + 3)).fn f [.tup (nts l)] m = .ok (.tup (nts (ps (sortR l) l.length))) m := by
  obtain ⟨fc, ft, nt, hc, ht, hn, e⟩ := P.ex
  show callT T (d + 2 + 1) f [.tup (nts l)] m = _
  rw [call_of e rfl]
  show (match execs (callsT T (d + 2)) (irTopSums fc ft) [Slot.pv (.tup (nts l))] m with
        | .ok (.ret p) m' => .ok p m'
        | .ok (.next _) m' => .ok .non m'
        | .ok (.exc x _) m' => .exc x m'
        | _ => .stuck : R PV) = _
  unfold irTopSums
  have c1 := hc.ok (d := d) (m := m) h0 h1 h2
  have c2 : (callsT T (d + 2)).fn ft [.tup (nts l)] m = .ok (.tup (nts (ps (sortR l) l.length))) m := tops_ok ht hn (by omega)
  have s1 : exec (callsT T (d + 2)) (.expr (.call fc [.var 0])) [Slot.pv (.tup (nts l))] m = .ok (.next [Slot.pv (.tup (nts l))]) m := run_exprE (p := .non) (by simp [c1])
  have s2 : ev (callsT T (d + 2)) (.call ft [.var 0]) [Slot.pv (.tup (nts l))] m = .ok (.tup (nts (ps (sortR l) l.length))) m := by simp [c2]
  rw [run_next s1, run_ret (run_retE s2)]
/-! ### _law_choices -/
def enc2 (p : Int × Int) : PV := .tup [.int p.1, .int p.2]
theorem comp_enc {β : Type} {f : PV → Py (Option PV)} {m : Mem} (c : Int × Int → Bool) (h : Int × Int → β) (g : β → PV) : ∀ (F : List (Int × Int)), (∀ p ∈ F, f (enc2 p) m = .ok (if c p = true then some (g (h p)) else none) m) → compLoop f (F.map enc2) m = .ok (((F.filter c).map h).map g) m
  | [], _ => rfl
  | p :: F, hf => by
    have ih := comp_enc c h g F fun q hq => hf q (List.mem_cons_of_mem _ hq)
    rw [List.map_cons]
    unfold compLoop
    rw [bind_ap, hf p List.mem_cons_self]
    dsimp only
    rw [bind_ap, ih]
    cases e : c p with
    | true => rw [List.filter_cons_of_pos e]; rfl
    | false => rw [List.filter_cons_of_neg (by rw [e]; simp)]; rfl
def irChoices : List St := [.set 2 (.lst [.tup [.int 0, .int 0]]), .for_ (.var 3) (.seq (.var 0)) [.set 2 (.bin .add (.var 2) (.comp [4, 5] (.tup [.var 4, .var 5]) (.seq (.var 2)) (some (.cmp .lt (.var 4) (.var 1))) (.tup [.bin .add (.var 4) (.int 1), .bin .add (.var 5) (.var 3)])))], .ret (.comp [4, 5] (.tup [.var 4, .var 5]) (.seq (.var 2)) (some (.cmp .eq (.var 4) (.var 1))) (.var 5))]
structure Choices (T : List Fd) (f : Nat) : Prop where
  ex : ∃ ns, T[f]? = some ⟨2, ns, false, irChoices⟩ ∧ ns.length = 6
theorem Choices.ok {T : List Fd} {d f k : Nat} {m : Mem} {l : List Int} (P : Choices T f) (hl : l.length ≤ 12) : (callsT T (d + 1)).fn f [.tup (nts l), .int (k : Nat)] m = .ok (.lst (nts (chSums k l))) m := by
  obtain ⟨ns, e, ll⟩ := P.ex
  have f2 : fits 2 = true := by decide
  have f1 : fits 1 = true := by decide
  have bound : ∀ i, i ≤ l.length → ((l.take i).foldl (chStep k) [(0, 0)]).length ≤ 4096 := fun i hi => by
    refine Nat.le_trans (ch_len _ _) ?_
    rw [List.length_take, Nat.min_eq_left hi, List.length_singleton, Nat.one_mul]
    exact Nat.le_trans (Nat.pow_le_pow_right (by decide) (show i ≤ 12 by omega)) (by decide)
  obtain ⟨e', m', r1, ⟨s3, rfl⟩, rfl⟩ := forL_ok (body := forF (callsT T d) (.var 3) [.set 2 (.bin .add (.var 2) (.comp [4, 5] (.tup [.var 4, .var 5]) (.seq (.var 2)) (some (.cmp .lt (.var 4) (.var 1))) (.tup [.bin .add (.var 4) (.int 1), .bin .add (.var 5) (.var 3)])))])
    (fun i e m' => (∃ s3, e = [.pv (.tup (nts l)), .pv (.int (k : Nat)), .pv (.lst (((l.take i).foldl (chStep k) [(0, 0)]).map enc2)), s3, .no, .no]) ∧ m' = m) (nts l) 0 [.pv (.tup (nts l)), .pv (.int (k : Nat)), .pv (.lst [.tup [.int 0, .int 0]]), .no, .no, .no] m ⟨⟨.no, rfl⟩, rfl⟩ (by
    rintro i hi e m' ⟨⟨s3, rfl⟩, rfl⟩
    rw [Nat.zero_add]
    have hi' : i < l.length := by simpa using hi
    have ei : (nts l)[i] = .int l[i] := by simp
    rw [ei]
    generalize hF : (l.take i).foldl (chStep k) [(0, 0)] = F
    have eF : (l.take (i + 1)).foldl (chStep k) [(0, 0)] = chStep k F l[i] := by
      rw [List.take_succ_eq_append_getElem hi', List.foldl_append, hF]
      rfl
    have bF : F.length ≤ 4096 := by rw [← hF]; exact bound i (by omega)
    have fF : fits F.length = true := fits_of (by omega)
    have cmp := run_comp (C := callsT T d) (own := [4, 5]) (g := .tup [.var 4, .var 5]) (it := .seq (.var 2)) (c := some (.cmp .lt (.var 4) (.var 1))) (elt := .tup [.bin .add (.var 4) (.int 1), .bin .add (.var 5) (.var 3)]) (e := [.pv (.tup (nts l)), .pv (.int (k : Nat)), .pv (.lst (F.map enc2)), .pv (.int l[i]), .no, .no]) (m := m') (m' := m') (xs := F.map enc2) (by simp) (by simpa using fF)
      (comp_enc (fun p => decide (p.1 < (k : Int))) (fun p => (p.1 + 1, p.2 + l[i])) enc2 F (fun p hp => by
        unfold compF enc2
        by_cases hk : p.1 < (k : Int)
        · simp [cmpP, binP, hk, f2]
        · simp [cmpP, hk]))
    refine ⟨[.pv (.tup (nts l)), .pv (.int (k : Nat)), .pv (.lst (((l.take (i + 1)).foldl (chStep k) [(0, 0)]).map enc2)), .pv (.int l[i]), .no, .no], m', .inl ?_, ⟨_, rfl⟩, rfl⟩
    have sT : forF (callsT T d) (.var 3) [.set 2 (.bin .add (.var 2) (.comp [4, 5] (.tup [.var 4, .var 5]) (.seq (.var 2)) (some (.cmp .lt (.var 4) (.var 1))) (.tup [.bin .add (.var 4) (.int 1), .bin .add (.var 5) (.var 3)])))] (.int l[i]) [.pv (.tup (nts l)), .pv (.int (k : Nat)), .pv (.lst (F.map enc2)), s3, .no, .no] = execs (callsT T d) [.set 2 (.bin .add (.var 2) (.comp [4, 5] (.tup [.var 4, .var 5]) (.seq (.var 2)) (some (.cmp .lt (.var 4) (.var 1))) (.tup [.bin .add (.var 4) (.int 1), .bin .add (.var 5) (.var 3)])))] [.pv (.tup (nts l)), .pv (.int (k : Nat)), .pv (.lst (F.map enc2)), .pv (.int l[i]), .no, .no] := by
      unfold forF
      rfl
    rw [sT, eF]
    have flt : fits (List.length (((F.filter fun p => decide (p.1 < (k : Int))).map fun p => (p.1 + 1, p.2 + l[i])).map enc2)) = true := by
      rw [List.length_map, List.length_map]
      exact fits_of (Nat.le_trans (List.length_filter_le _ _) (by omega))
    have sv : ev (callsT T d) (.bin .add (.var 2) (.comp [4, 5] (.tup [.var 4, .var 5]) (.seq (.var 2)) (some (.cmp .lt (.var 4) (.var 1))) (.tup [.bin .add (.var 4) (.int 1), .bin .add (.var 5) (.var 3)]))) [.pv (.tup (nts l)), .pv (.int (k : Nat)), .pv (.lst (F.map enc2)), .pv (.int l[i]), .no, .no] m' = .ok (.lst ((chStep k F l[i]).map enc2)) m' := by
      rw [ev_bin, bind_ap, ev_var]
      dsimp only [at_succ, at_zero]
      rw [bind_ap, cmp]
      dsimp only
      unfold chStep
      rw [List.map_append]
      show (need (fits (F.map enc2).length && fits (List.length (((F.filter fun p => decide (p.1 < (k : Int))).map fun p => (p.1 + 1, p.2 + l[i])).map enc2))) >>= fun _ => (pure (.lst (F.map enc2 ++ ((F.filter fun p => decide (p.1 < (k : Int))).map fun p => (p.1 + 1, p.2 + l[i])).map enc2)) : Py PV)) m' = _
      rw [bind_ap, need_ap, flt, List.length_map, fF]
      rfl
    rw [run_next (run_set sv (by simp))]
    rfl)
  rw [show 0 + (nts l).length = l.length by simp, List.take_length] at r1
  have bF := bound l.length (Nat.le_refl _)
  rw [List.take_length] at bF
  generalize hF : l.foldl (chStep k) [(0, 0)] = F at r1 bF
  have fF : fits F.length = true := fits_of (by omega)
  have cmp := run_comp (C := callsT T d) (own := [4, 5]) (g := .tup [.var 4, .var 5]) (it := .seq (.var 2)) (c := some (.cmp .eq (.var 4) (.var 1))) (elt := .var 5) (e := [.pv (.tup (nts l)), .pv (.int (k : Nat)), .pv (.lst (F.map enc2)), s3, .no, .no]) (m := m') (m' := m') (xs := F.map enc2) (by simp) (by simpa using fF)
      (comp_enc (fun p => decide (p.1 = (k : Int))) (fun p => p.2) PV.int F (fun p hp => by
        unfold compF enc2
        by_cases hk : p.1 = (k : Int)
        · simp [hk]
        · simp [hk]))
  show callT T (d + 1) f [.tup (nts l), .int (k : Nat)] m' = _
  rw [call_of e rfl]
  show (match execs (callsT T d) irChoices ([Slot.pv (.tup (nts l)), Slot.pv (.int (k : Nat))] ++ List.replicate (ns.length - 2) .no) m' with
        | .ok (.ret p) m' => .ok p m'
        | .ok (.next _) m' => .ok .non m'
        | .ok (.exc x _) m' => .exc x m'
        | _ => .stuck : R PV) = _
  rw [ll, show ([Slot.pv (.tup (nts l)), Slot.pv (.int (k : Nat))] ++ List.replicate (6 - 2) Slot.no) = [.pv (.tup (nts l)), .pv (.int (k : Nat)), .no, .no, .no, .no] from rfl]
  unfold irChoices
  have s1 : exec (callsT T d) (.set 2 (.lst [.tup [.int 0, .int 0]])) [.pv (.tup (nts l)), .pv (.int (k : Nat)), .no, .no, .no, .no] m' = .ok (.next [.pv (.tup (nts l)), .pv (.int (k : Nat)), .pv (.lst [.tup [.int 0, .int 0]]), .no, .no, .no]) m' := by
    simp [f1, f2]
  have it : evIt (callsT T d) (.seq (.var 0)) [.pv (.tup (nts l)), .pv (.int (k : Nat)), .pv (.lst [.tup [.int 0, .int 0]]), .no, .no, .no] m' = .ok (nts l) m' := by simp
  rw [run_next s1, run_next (run_for it r1), run_ret (run_retE cmp)]
  show R.ok (PV.lst (((F.filter fun p => decide (p.1 = (k : Int))).map fun p => p.2).map PV.int)) m' = R.ok (PV.lst (nts (chSums k l))) m'
  unfold chSums
  rw [hF]
end Nl
end
section
set_option Elab.async false
set_option linter.all false
set_option maxRecDepth 100000
set_option maxHeartbeats 1000000
namespace Nl.k15
open PySem (Str PyData)
theorem pour : Pour T 5 := ⟨_, rfl, rfl⟩
theorem one : One T 6 := ⟨5, _, pour, rfl, rfl⟩
theorem mixed : Mixed T 8 := ⟨5, _, pour, rfl, rfl⟩
theorem scale : Scale T 10 := ⟨6, _, one, rfl, rfl⟩
theorem parts : Parts T 9 := ⟨5, 6, _, pour, one, rfl, rfl⟩
theorem isInt : IsInt T 0 := ⟨_, rfl, rfl⟩
theorem checkRow : CheckRow T 1 := ⟨0, _, isInt, rfl, rfl⟩
theorem topSums : TopSums T 3 := ⟨1, 2, _, checkRow, rfl, rfl, rfl⟩
theorem choices : Choices T 11 := ⟨_, rfl, rfl⟩
theorem ps_at (r : List Int) {n j : Nat} (h : j < n) : (ps r n)[j]? = some (r.take (j + 1)).sum := by
  unfold ps
  rw [List.getElem?_map, List.getElem?_range h]
  rfl
theorem at_ps (r : List Int) {n j : Nat} (h : j < n) : L2.atI (nts (ps r n)) (j : Int) = some (.int (r.take (j + 1)).sum) := by
  unfold L2.atI
  rw [ixN_nat (by rw [List.length_map, ps_len]; exact h)]
  show (nts (ps r n))[j]? = _
  rw [List.getElem?_map, ps_at r h]
  rfl
theorem sum_bd {B : Int} : ∀ (l : List Int), (∀ x ∈ l, 0 ≤ x ∧ x ≤ B) → 0 ≤ l.sum ∧ l.sum ≤ l.length * B
  | [], _ => by simp
  | x :: l, h => by
    obtain ⟨h1, h2⟩ := sum_bd l fun y hy => h y (List.mem_cons_of_mem _ hy)
    have := h x List.mem_cons_self
    rw [List.sum_cons, List.length_cons]
    push_cast
    rw [Int.add_mul, Int.one_mul]
    omega
theorem perm_nts {ys : List PV} {l : List Int} (h : ys.Perm (nts l)) : ∃ l' : List Int, ys = nts l' ∧ l'.Perm l := by
  have all : ∀ ys : List PV, (∀ y ∈ ys, ∃ z, y = .int z) → ∃ l', ys = nts l' := by
    intro ys
    induction ys with
    | nil => intro _; exact ⟨[], rfl⟩
    | cons y ys ih =>
      intro h
      obtain ⟨z, rfl⟩ := h y List.mem_cons_self
      obtain ⟨l', rfl⟩ := ih fun w hw => h w (List.mem_cons_of_mem _ hw)
      exact ⟨z :: l', rfl⟩
  obtain ⟨l', rfl⟩ := all ys fun y hy => by
    obtain ⟨z, _, e⟩ := List.mem_map.mp (h.mem_iff.mp hy)
    exact ⟨z, e.symm⟩
  refine ⟨l', rfl, ?_⟩
  have z := h.filterMap (fun | .int z => some z | _ => none)
  have e : ∀ l : List Int, (nts l).filterMap (fun | .int z => some z | _ => none) = l := by
    intro l
    induction l with
    | nil => rfl
    | cons x l ih =>
      show List.filterMap _ (PV.int x :: nts l) = _
      rw [List.filterMap_cons]
      simp only
      rw [ih]
  rwa [e, e] at z
theorem leaps_eq (r : List Int) (h : 0 < r.length) : (r.take 1).sum :: (List.range (r.length - 1)).map (fun i => (r.take (i + 2)).sum - (r.take (i + 1)).sum) = r := by
  cases r with
  | nil => simp at h
  | cons a r =>
    have e1 : ((a :: r).take 1).sum = a := by simp
    rw [e1]
    congr 1
    refine List.ext_getElem (by simp) fun i h1 h2 => ?_
    rw [List.getElem_map, List.getElem_range, take_sum (a :: r) (i + 1) (by simpa using h2)]
    simp only [List.getElem_cons_succ]
    omega
def sParts : St := .set 2 (.call 9 [.var 0, .bin .add (.int 1) (.call 5 [.var 0, .int 12]), .call 10 [.var 0]])
def sDue : St := .set 3 (.bi .tuple [.call 7 [.var 2]])
def sCame : St := .set 4 (.lst [.call 3 [.var 2], .callK 3 [] [("row", .var 2)], .call 3 [.bi .tuple [.call 8 [.var 0, .var 2]]]])
def sRepr : St := .ite (.cmp .ne (.bi .repr [.var 4]) (.bi .repr [.bin .mul (.lst [.var 3]) (.int 3)])) [.ret (.bl false)] []
def sMost : St := .for_ (.var 6) (.rng2 (.int 1) (.bin .add (.bi .len [.var 2]) (.int 1))) [.ite (.cmp .ne (.ix (.var 3) (.bin .sub (.var 6) (.int 1))) (.bi .maxL [.call 11 [.var 2, .var 6]])) [.ret (.bl false)] []]
def sFew : St := .ite (.cmp .lt (.bi .len [.var 2]) (.int 8)) [sMost] []
def xLeaps : Ex := .comp [7] (.var 7) (.rng2 (.int 1) (.bi .len [.var 3])) none (.bin .sub (.ix (.var 3) (.var 7)) (.ix (.var 3) (.bin .sub (.var 7) (.int 1))))
def sLeaps : St := .set 5 (.bin .add (.lst [.ix (.var 3) (.int 0)]) xLeaps)
def sLast : St := .ite (.or (.cmp .ne (.rev (.bi .sorted [.var 5])) (.var 5)) (.cmp .ne (.ix (.var 3) (.neg (.int 1))) (.bi .sum [.var 2]))) [.ret (.bl false)] []
theorem ir_right : ir__law_right = [.for_ (.var 1) (.rng1 (.int 5)) [sParts, sDue, sCame, sRepr, sFew, sLeaps, sLast], .ret (.bl true)] := rfl
section
variable {d N n : Nat} {m : Mem} {l : List Int} {s1 s2 s3 s4 s5 s6 s7 : Slot}
abbrev Due (l : List Int) : PV := .tup (nts (ps (sortR l) l.length))
theorem parts_run (K : Kegs N m) (h : n < N) : ∃ l m', exec (callsT T (d + 4)) sParts [.pv (.ref n), s1, s2, s3, s4, s5, s6, s7] m = .ok (.next [.pv (.ref n), s1, .pv (.tup (nts l)), s3, s4, s5, s6, s7]) m' ∧ Kegs N m' ∧ l ≠ [] ∧ l.length ≤ 12 ∧ ∀ x ∈ l, 0 ≤ x ∧ x ≤ 10000000000000000000000005 := by
  obtain ⟨r, m1, e1, K1, r0, r1⟩ := pour.ok (d := d + 3) (k := 12) K h (by omega) (by omega)
  obtain ⟨z, m2, e2, K2, z0, z1⟩ := scale.ok (d := d + 1) K1 h
  obtain ⟨l, m3, e3, K3, ll, lb⟩ := parts.ok (d := d + 1) (k := (1 + r).toNat) (z := z) K2 h (by omega) (by omega) z1
  rw [Int.toNat_of_nonneg (by omega)] at e3
  refine ⟨l, m3, run_set ?_ (by simp), K3, ?_, by omega, fun x hx => ?_⟩
  · simp [e1, e2, e3, binP]
  · intro z; rw [z] at ll; simp at ll; omega
  · have := lb x hx; omega
theorem due_run (hl : l.length ≤ 12) : exec (callsT T (d + 4)) sDue [.pv (.ref n), s1, .pv (.tup (nts l)), s3, s4, s5, s6, s7] m = .ok (.next [.pv (.ref n), s1, .pv (.tup (nts l)), .pv (Due l), s4, s5, s6, s7]) m := by
  have e : (callsT T (d + 4)).fn 7 [.tup (nts l)] m = .ok (.lst (nts (ps (sortR l) l.length))) m := heights_ok (T := T) (d := d + 3) (f := 7) (m := m) (ns := l) (p := .tup (nts l)) rfl rfl (by omega) (.inl rfl)
  exact run_set (by simp [e, biP, itemsP]) (by simp)
theorem came_run (K : Kegs N m) (h : n < N) (h0 : l ≠ []) (h1 : l.length ≤ 12) (h2 : ∀ x ∈ l, 0 ≤ x) : ∃ m', exec (callsT T (d + 4)) sCame [.pv (.ref n), s1, .pv (.tup (nts l)), .pv (Due l), s4, s5, s6, s7] m = .ok (.next [.pv (.ref n), s1, .pv (.tup (nts l)), .pv (Due l), .pv (.lst [Due l, Due l, Due l]), s5, s6, s7]) m' ∧ Kegs N m' := by
  have e1 : ∀ m, (callsT T (d + 4)).fn 3 [.tup (nts l)] m = .ok (Due l) m := fun m => topSums.ok (d := d + 1) h0 h1 h2
  obtain ⟨ys, m', e2, K', pm⟩ := mixed.ok (d := d + 2) (p := .tup (nts l)) K h (xs := nts l) (by simp; omega) (.inr rfl)
  obtain ⟨l', rfl, pq⟩ := perm_nts pm
  have e3 : ∀ m, (callsT T (d + 4)).fn 3 [.tup (nts l')] m = .ok (Due l) m := fun m => by
    have := topSums.ok (d := d + 1) (m := m) (l := l') (fun z => h0 (by rw [z] at pq; exact pq.nil_eq.symm)) (by rw [pq.length_eq]; exact h1) (fun x hx => h2 x (pq.mem_iff.mp hx))
    rw [sortR_perm_eq pq, pq.length_eq] at this
    exact this
  have ar : arrange ((callsT T (d + 4)).ps 3) [] [("row", PV.tup (nts l))] = some [.tup (nts l)] := rfl
  have f3 : fits 3 = true := by decide
  refine ⟨m', run_set ?_ (by simp), K'⟩
  simp [e1, e2, e3, ar, biP, itemsP, f3]
theorem due_ok (h1 : l.length ≤ 12) (h2 : ∀ x ∈ l, 0 ≤ x ∧ x ≤ 10000000000000000000000005) : ∀ x ∈ ps (sortR l) l.length, x.natAbs < 10 ^ 40 := fun x hx => by
  unfold ps at hx
  obtain ⟨j, hj, rfl⟩ := List.mem_map.mp hx
  have b := sum_bd (B := 10000000000000000000000005) ((sortR l).take (j + 1)) fun y hy => h2 y ((sortR_perm l).mem_iff.mp (List.mem_of_mem_take hy))
  have ln : ((sortR l).take (j + 1)).length ≤ 12 := by rw [List.length_take, sortR_len]; omega
  have e : ((sortR l).take (j + 1)).sum ≤ 12 * 10000000000000000000000005 := Int.le_trans b.2 (Int.mul_le_mul_of_nonneg_right (by omega) (by decide))
  have e2 : ((sortR l).take (j + 1)).sum.natAbs ≤ 120000000000000000000000060 := by omega
  exact Nat.lt_of_le_of_lt e2 (by decide)
theorem repr_run (h1 : l.length ≤ 12) (h2 : ∀ x ∈ l, 0 ≤ x ∧ x ≤ 10000000000000000000000005) : exec (callsT T (d + 4)) sRepr [.pv (.ref n), s1, .pv (.tup (nts l)), .pv (Due l), .pv (.lst [Due l, Due l, Due l]), s5, s6, s7] m = .ok (.next [.pv (.ref n), s1, .pv (.tup (nts l)), .pv (Due l), .pv (.lst [Due l, Due l, Due l]), s5, s6, s7]) m := by
  have ok1 : pok (Due l) := pokL_nts (due_ok h1 h2)
  have sz : psize (Due l) = l.length + 1 := by
    show psizeL (nts _) + 1 = _
    rw [psizeL_nts, ps_len]
  have dp : pdepth (Due l) = 1 := by
    show pdepthL (nts _) + 1 = _
    rw [pdepthL_nts]
  obtain ⟨s, hs⟩ := repr_ok (p := .lst [Due l, Due l, Due l]) ⟨ok1, ok1, ok1, trivial⟩ (by
    show max (pdepth (Due l)) (max (pdepth (Due l)) (max (pdepth (Due l)) 0)) + 1 ≤ 64
    rw [dp]; decide) (by
    show psize (Due l) + (psize (Due l) + (psize (Due l) + 0)) + 1 ≤ 2000
    rw [sz]; omega)
  have f1 : fits 1 = true := by decide
  have f3 : fits 3 = true := by decide
  have c : ev (callsT T (d + 4)) (.cmp .ne (.bi .repr [.var 4]) (.bi .repr [.bin .mul (.lst [.var 3]) (.int 3)])) [.pv (.ref n), s1, .pv (.tup (nts l)), .pv (Due l), .pv (.lst [Due l, Due l, Due l]), s5, s6, s7] m = .ok (.bl false) m := by
    simp [hs, binP, f1, f3, repL]
  unfold sRepr
  rw [run_ite c]
  rfl
theorem rng_from1 {C : Calls} {e : Env} {m : Mem} {a : Ex} {k : Nat} (h : ev C a e m = .ok (.int (1 + (k : Nat))) m) (hk : k ≤ 1000) : evIt C (.rng2 (.int 1) a) e m = .ok ((List.range k).map fun i => .int (1 + (i : Nat))) m := by
  rw [evIt_rng2, bind_ap, ev_int, pure_ap]
  dsimp only
  rw [bind_ap, h]
  show rngP 1 (1 + (k : Nat)) m = _
  unfold rngP
  have c : (decide ((-1000000 : Int) ≤ 1) && decide ((1 : Int) ≤ 1000000) && decide (-1000000 ≤ 1 + (k : Int)) && decide (1 + (k : Int) ≤ 1000000)) = true := by
    rw [decide_eq_true (show (-1000000 : Int) ≤ 1 by decide), decide_eq_true (show (1 : Int) ≤ 1000000 by decide), decide_eq_true (show -1000000 ≤ 1 + (k : Int) by omega), decide_eq_true (show 1 + (k : Int) ≤ 1000000 by omega)]
    rfl
  rw [bind_ap, need_ap, c, if_pos rfl]
  show R.ok _ m = _
  have e : (1 + (k : Int) - 1).toNat = k := by omega
  rw [e]
theorem few_run (h1 : l.length ≤ 12) : ∃ s6', exec (callsT T (d + 4)) sFew [.pv (.ref n), s1, .pv (.tup (nts l)), .pv (Due l), s4, s5, s6, s7] m = .ok (.next [.pv (.ref n), s1, .pv (.tup (nts l)), .pv (Due l), s4, s5, s6', s7]) m := by
  by_cases h8 : l.length < 8
  · obtain ⟨e', m', r1, ⟨s6', rfl⟩, rfl⟩ := forL_ok (body := forF (callsT T (d + 4)) (.var 6) [.ite (.cmp .ne (.ix (.var 3) (.bin .sub (.var 6) (.int 1))) (.bi .maxL [.call 11 [.var 2, .var 6]])) [.ret (.bl false)] []]) (fun _ e m' => (∃ s6, e = [.pv (.ref n), s1, .pv (.tup (nts l)), .pv (Due l), s4, s5, s6, s7]) ∧ m' = m) ((List.range l.length).map fun i => .int (1 + (i : Nat))) 0 [.pv (.ref n), s1, .pv (.tup (nts l)), .pv (Due l), s4, s5, s6, s7] m ⟨⟨_, rfl⟩, rfl⟩ (by
      rintro i hi e m' ⟨⟨s6, rfl⟩, rfl⟩
      have hi' : i < l.length := by simpa using hi
      have ei : ((List.range l.length).map fun i => PV.int (1 + (i : Nat)))[i] = .int (1 + (i : Nat)) := by simp
      rw [ei]
      obtain ⟨ne, mx⟩ := chSums_max (k := i + 1) (l := l) (by omega)
      have ch : (callsT T (d + 4)).fn 11 [.tup (nts l), .int (1 + (i : Nat))] m' = .ok (.lst (nts (chSums (i + 1) l))) m' := by
        have z := choices.ok (d := d + 3) (k := i + 1) (m := m') (l := l) h1
        have e : ((i + 1 : Nat) : Int) = 1 + (i : Nat) := by push_cast; omega
        rw [e] at z
        exact z
      have mv : ∀ c : List Int, c ≠ [] → biP .maxL [.lst (nts c)] m' = .ok (.int (maxI c)) m' := fun c hc => by
        cases c with
        | nil => exact absurd rfl hc
        | cons a r =>
          show (match allInt (nts (a :: r)) with | some (a :: r) => (pure (.int (maxI (a :: r))) : Py PV) | _ => stuck) m' = _
          rw [allInt_ints]
          rfl
      have ix : L2.atI (nts (ps (sortR l) l.length)) (1 + (i : Nat) - 1 : Int) = some (.int ((sortR l).take (i + 1)).sum) := by
        have e : (1 + (i : Nat) - 1 : Int) = (i : Nat) := by omega
        rw [e]
        exact at_ps _ hi'
      have c : ev (callsT T (d + 4)) (.cmp .ne (.ix (.var 3) (.bin .sub (.var 6) (.int 1))) (.bi .maxL [.call 11 [.var 2, .var 6]])) [.pv (.ref n), s1, .pv (.tup (nts l)), .pv (Due l), s4, s5, .pv (.int (1 + (i : Nat))), s7] m' = .ok (.bl false) m' := by
        have a1 : ev (callsT T (d + 4)) (.ix (.var 3) (.bin .sub (.var 6) (.int 1))) [.pv (.ref n), s1, .pv (.tup (nts l)), .pv (Due l), s4, s5, .pv (.int (1 + (i : Nat))), s7] m' = .ok (.int ((sortR l).take (i + 1)).sum) m' := by
          show (ofO (L2.atI (nts (ps (sortR l) l.length)) (1 + (i : Nat) - 1 : Int)) : Py PV) m' = _
          rw [ix]
          rfl
        have a2 : ev (callsT T (d + 4)) (.bi .maxL [.call 11 [.var 2, .var 6]]) [.pv (.ref n), s1, .pv (.tup (nts l)), .pv (Due l), s4, s5, .pv (.int (1 + (i : Nat))), s7] m' = .ok (.int ((sortR l).take (i + 1)).sum) m' := by
          rw [← mx, ← mv _ ne]
          simp [ch]
        rw [ev_cmp, bind_ap, a1]
        dsimp only
        rw [bind_ap, a2]
        simp
      refine ⟨[.pv (.ref n), s1, .pv (.tup (nts l)), .pv (Due l), s4, s5, .pv (.int (1 + (i : Nat))), s7], m', .inl ?_, ⟨_, rfl⟩, rfl⟩
      have sT : forF (callsT T (d + 4)) (.var 6) [.ite (.cmp .ne (.ix (.var 3) (.bin .sub (.var 6) (.int 1))) (.bi .maxL [.call 11 [.var 2, .var 6]])) [.ret (.bl false)] []] (.int (1 + (i : Nat))) [.pv (.ref n), s1, .pv (.tup (nts l)), .pv (Due l), s4, s5, s6, s7] = execs (callsT T (d + 4)) [.ite (.cmp .ne (.ix (.var 3) (.bin .sub (.var 6) (.int 1))) (.bi .maxL [.call 11 [.var 2, .var 6]])) [.ret (.bl false)] []] [.pv (.ref n), s1, .pv (.tup (nts l)), .pv (Due l), s4, s5, .pv (.int (1 + (i : Nat))), s7] := by
        unfold forF
        rfl
      rw [sT, run_next (by rw [run_ite c]; rfl)]
      rfl)
    have it : evIt (callsT T (d + 4)) (.rng2 (.int 1) (.bin .add (.bi .len [.var 2]) (.int 1))) [.pv (.ref n), s1, .pv (.tup (nts l)), .pv (Due l), s4, s5, s6, s7] m' = .ok ((List.range l.length).map fun i => .int (1 + (i : Nat))) m' := rng_from1 (by
      have e : ((l.length : Int) + 1) = 1 + (l.length : Nat) := by omega
      rw [← e]
      simp [biP, binP]) (by omega)
    have c : ev (callsT T (d + 4)) (.cmp .lt (.bi .len [.var 2]) (.int 8)) [.pv (.ref n), s1, .pv (.tup (nts l)), .pv (Due l), s4, s5, s6, s7] m' = .ok (.bl true) m' := by
      simp [biP, cmpP]
      omega
    refine ⟨s6', ?_⟩
    unfold sFew
    rw [run_ite c, if_pos rfl]
    unfold sMost
    rw [run_next (run_for it r1)]
    rfl
  · have c : ev (callsT T (d + 4)) (.cmp .lt (.bi .len [.var 2]) (.int 8)) [.pv (.ref n), s1, .pv (.tup (nts l)), .pv (Due l), s4, s5, s6, s7] m = .ok (.bl false) m := by
      simp [biP, cmpP]
      omega
    refine ⟨s6, ?_⟩
    unfold sFew
    rw [run_ite c]
    rfl
theorem leaps_run (h0 : l ≠ []) (h1 : l.length ≤ 12) : exec (callsT T (d + 4)) sLeaps [.pv (.ref n), s1, .pv (.tup (nts l)), .pv (Due l), s4, s5, s6, s7] m = .ok (.next [.pv (.ref n), s1, .pv (.tup (nts l)), .pv (Due l), s4, .pv (.lst (nts (sortR l))), s6, s7]) m := by
  have pos : 0 < l.length := List.length_pos_iff.mpr h0
  have ls := sortR_len l
  have c1 := compLoop_pure (f := compF (callsT T (d + 4)) [7] (.var 7) none (.bin .sub (.ix (.var 3) (.var 7)) (.ix (.var 3) (.bin .sub (.var 7) (.int 1)))) [.pv (.ref n), s1, .pv (.tup (nts l)), .pv (Due l), s4, s5, s6, s7]) (g := fun x => match x with | .int k => some (.int (((sortR l).take (k.toNat + 1)).sum - ((sortR l).take k.toNat).sum)) | _ => none) (m := m) ((List.range (l.length - 1)).map fun i => .int (1 + (i : Nat))) (fun x hx => by
    obtain ⟨i, hi, rfl⟩ := List.mem_map.mp hx
    have hi' : i < l.length - 1 := List.mem_range.mp hi
    have i1 : L2.atI (nts (ps (sortR l) l.length)) (1 + (i : Nat) : Int) = some (.int ((sortR l).take (i + 1 + 1)).sum) := by
      have e : (1 + (i : Nat) : Int) = ((i + 1 : Nat) : Int) := by push_cast; omega
      rw [e]
      exact at_ps _ (by omega)
    have i2 : L2.atI (nts (ps (sortR l) l.length)) (1 + (i : Nat) - 1 : Int) = some (.int ((sortR l).take (i + 1)).sum) := by
      have e : (1 + (i : Nat) - 1 : Int) = (i : Nat) := by omega
      rw [e]
      exact at_ps _ (by omega)
    have tn : (1 + (i : Nat) : Int).toNat = i + 1 := by omega
    have b : ev (callsT T (d + 4)) (.bin .sub (.ix (.var 3) (.var 7)) (.ix (.var 3) (.bin .sub (.var 7) (.int 1)))) [.pv (.ref n), s1, .pv (.tup (nts l)), .pv (Due l), s4, s5, s6, .pv (.int (1 + (i : Nat)))] m = .ok (.int (((sortR l).take (i + 1 + 1)).sum - ((sortR l).take (i + 1)).sum)) m := by
      have a1 : ev (callsT T (d + 4)) (.ix (.var 3) (.var 7)) [.pv (.ref n), s1, .pv (.tup (nts l)), .pv (Due l), s4, s5, s6, .pv (.int (1 + (i : Nat)))] m = .ok (.int ((sortR l).take (i + 1 + 1)).sum) m := by
        show (ofO (L2.atI (nts (ps (sortR l) l.length)) (1 + (i : Nat) : Int)) : Py PV) m = _
        rw [i1]; rfl
      have a2 : ev (callsT T (d + 4)) (.ix (.var 3) (.bin .sub (.var 7) (.int 1))) [.pv (.ref n), s1, .pv (.tup (nts l)), .pv (Due l), s4, s5, s6, .pv (.int (1 + (i : Nat)))] m = .ok (.int ((sortR l).take (i + 1)).sum) m := by
        show (ofO (L2.atI (nts (ps (sortR l) l.length)) (1 + (i : Nat) - 1 : Int)) : Py PV) m = _
        rw [i2]; rfl
      rw [ev_bin, bind_ap, a1]
      dsimp only
      rw [bind_ap, a2]
      rfl
    show (noexc (do
      let b ← (pure true : Py Bool)
      if b then do let y ← ev (callsT T (d + 4)) (.bin .sub (.ix (.var 3) (.var 7)) (.ix (.var 3) (.bin .sub (.var 7) (.int 1)))) [.pv (.ref n), s1, .pv (.tup (nts l)), .pv (Due l), s4, s5, s6, .pv (.int (1 + (i : Nat)))]; pure (some y) else pure none) : Py (Option PV)) m = _
    rw [noexc_ap, bind_ap, pure_ap]
    dsimp only
    rw [if_pos rfl, bind_ap, b]
    simp [tn])
  have it : evIt (callsT T (d + 4)) (.rng2 (.int 1) (.bi .len [.var 3])) [.pv (.ref n), s1, .pv (.tup (nts l)), .pv (Due l), s4, s5, s6, s7] m = .ok ((List.range (l.length - 1)).map fun i => .int (1 + (i : Nat))) m := rng_from1 (by
    have e : (l.length : Int) = 1 + ((l.length - 1 : Nat) : Int) := by omega
    rw [← e]
    simp [biP, ps_len]) (by omega)
  have c2 := run_comp (own := [7]) (g := .var 7) (c := none) it (by rw [List.length_map, List.length_range]; exact fits_of (by omega)) c1
  have i0 : L2.atI (nts (ps (sortR l) l.length)) (0 : Int) = some (.int ((sortR l).take 1).sum) := at_ps (sortR l) (j := 0) pos
  have e0 : ev (callsT T (d + 4)) (.lst [.ix (.var 3) (.int 0)]) [.pv (.ref n), s1, .pv (.tup (nts l)), .pv (Due l), s4, s5, s6, s7] m = .ok (.lst [.int ((sortR l).take 1).sum]) m := by
    have f1 : fits 1 = true := by decide
    simp [ixP, i0, f1]
  have eq : [PV.int ((sortR l).take 1).sum] ++ ((List.range (l.length - 1)).map fun i => PV.int (1 + (i : Nat))).filterMap (fun x => match x with | .int k => some (.int (((sortR l).take (k.toNat + 1)).sum - ((sortR l).take k.toNat).sum)) | _ => none) = nts (sortR l) := by
    have z := leaps_eq (sortR l) (by omega)
    rw [ls] at z
    conv => rhs; rw [← z]
    show _ = PV.int _ :: (List.map _ _).map PV.int
    rw [List.map_map, List.filterMap_map]
    show PV.int _ :: List.filterMap _ _ = _
    congr 1
    have go : ∀ xs : List Nat, xs.filterMap ((fun x => match x with | PV.int k => some (PV.int (((sortR l).take (k.toNat + 1)).sum - ((sortR l).take k.toNat).sum)) | _ => none) ∘ fun i => PV.int (1 + (i : Nat))) = xs.map (PV.int ∘ fun i => ((sortR l).take (i + 2)).sum - ((sortR l).take (i + 1)).sum) := by
      intro xs
      induction xs with
      | nil => rfl
      | cons x xs ih =>
        have tn : (1 + (x : Nat) : Int).toNat = x + 1 := by omega
        rw [List.filterMap_cons]
        simp only [Function.comp, tn]
        rw [List.map_cons]
        congr 1
    exact go _
  refine run_set ?_ (by simp)
  rw [ev_bin, bind_ap, e0]
  dsimp only
  unfold xLeaps
  rw [bind_ap, c2]
  rw [← eq]
  show (need (fits 1 && fits (List.length _)) >>= fun _ => (pure (.lst _) : Py PV)) m = _
  rw [bind_ap, need_ap, if_pos]
  · rfl
  · have := congrArg List.length eq
    rw [List.length_append, List.length_map, ls] at this
    have f1 : fits 1 = true := by decide
    rw [f1, fits_of (by simp only [List.length_cons, List.length_nil] at this; omega)]
    rfl
theorem last_run (h0 : l ≠ []) (h1 : l.length ≤ 12) (h2 : ∀ x ∈ l, 0 ≤ x ∧ x ≤ 10000000000000000000000005) : exec (callsT T (d + 4)) sLast [.pv (.ref n), s1, .pv (.tup (nts l)), .pv (Due l), s4, .pv (.lst (nts (sortR l))), s6, s7] m = .ok (.next [.pv (.ref n), s1, .pv (.tup (nts l)), .pv (Due l), s4, .pv (.lst (nts (sortR l))), s6, s7]) m := by
  have pos : 0 < l.length := List.length_pos_iff.mpr h0
  have ok1 : pok (.lst (nts (sortR l))) := pokL_nts fun x hx => by
    have := h2 x ((sortR_perm l).mem_iff.mp hx)
    have e : x.natAbs ≤ 10000000000000000000000005 := by omega
    exact Nat.lt_of_le_of_lt e (by decide)
  have dp : pdepth (.lst (nts (sortR l))) ≤ 64 := by
    show pdepthL (nts _) + 1 ≤ 64
    rw [pdepthL_nts]; decide
  have ss : (List.map PV.int (sortI (sortR l))).reverse = nts (sortR l) := by
    rw [← List.map_reverse, sortI_rev, sortR_perm_eq (sortR_perm l)]
  have es : ∀ m, eqP (.lst (nts (sortR l))) (.lst (nts (sortR l))) m = .ok true m := fun m => eq_self ok1 dp m
  have il : L2.atI (nts (ps (sortR l) l.length)) (-1 : Int) = some (.int l.sum) := by
    have e : L2.ixN (nts (ps (sortR l) l.length)).length (-1 : Int) = some (l.length - 1) := by
      unfold L2.ixN
      rw [List.length_map, ps_len, if_neg (by decide), if_pos (by omega)]
      congr 1
      omega
    unfold L2.atI
    rw [e]
    show (nts (ps (sortR l) l.length))[l.length - 1]? = _
    rw [List.getElem?_map, ps_at _ (by omega), show l.length - 1 + 1 = (sortR l).length by rw [sortR_len]; omega, List.take_length, sum_perm (sortR_perm l)]
    rfl
  have c : ev (callsT T (d + 4)) (.or (.cmp .ne (.rev (.bi .sorted [.var 5])) (.var 5)) (.cmp .ne (.ix (.var 3) (.neg (.int 1))) (.bi .sum [.var 2]))) [.pv (.ref n), s1, .pv (.tup (nts l)), .pv (Due l), s4, .pv (.lst (nts (sortR l))), s6, s7] m = .ok (.bl false) m := by
    simp [biP, itemsP, ss, es, ixP, il]
  unfold sLast
  rw [run_ite c]
  rfl
theorem right_ok (N n : Nat) (m : Mem) (K : Kegs N m) (h : n < N) : ∃ m', callT T (d + 5) 12 [.ref n] m = .ok (.bl true) m' ∧ Kegs N m' := by
  obtain ⟨e', m', r1, ⟨s1, s2, s3, s4, s5, s6, s7, rfl⟩, K'⟩ := forL_ok (body := forF (callsT T (d + 4)) (.var 1) [sParts, sDue, sCame, sRepr, sFew, sLeaps, sLast]) (fun _ e m => (∃ s1 s2 s3 s4 s5 s6 s7, e = [.pv (.ref n), s1, s2, s3, s4, s5, s6, s7]) ∧ Kegs N m) ((List.range 5).map fun i => .int (i : Nat)) 0 [.pv (.ref n), .no, .no, .no, .no, .no, .no, .no] m ⟨⟨_, _, _, _, _, _, _, rfl⟩, K⟩ (by
    rintro i hi e m ⟨⟨s1, s2, s3, s4, s5, s6, s7, rfl⟩, K⟩
    have ei : ((List.range 5).map fun i => PV.int (i : Nat))[i] = .int i := by simp
    rw [ei]
    obtain ⟨l, m1, r1, K1, l0, l1, l2⟩ := parts_run (d := d) (s1 := .pv (.int i)) (s2 := s2) (s3 := s3) (s4 := s4) (s5 := s5) (s6 := s6) (s7 := s7) K h
    obtain ⟨m2, r2, K2⟩ := came_run (d := d) (s1 := .pv (.int i)) (s4 := s4) (s5 := s5) (s6 := s6) (s7 := s7) K1 h l0 l1 fun x hx => (l2 x hx).1
    obtain ⟨s6', r3⟩ := few_run (d := d) (n := n) (m := m2) (s1 := .pv (.int i)) (s4 := .pv (.lst [Due l, Due l, Due l])) (s5 := s5) (s6 := s6) (s7 := s7) l1
    refine ⟨[.pv (.ref n), .pv (.int i), .pv (.tup (nts l)), .pv (Due l), .pv (.lst [Due l, Due l, Due l]), .pv (.lst (nts (sortR l))), s6', s7], m2, .inl ?_, ⟨_, _, _, _, _, _, _, rfl⟩, K2⟩
    have sT : forF (callsT T (d + 4)) (.var 1) [sParts, sDue, sCame, sRepr, sFew, sLeaps, sLast] (.int i) [.pv (.ref n), s1, s2, s3, s4, s5, s6, s7] = execs (callsT T (d + 4)) [sParts, sDue, sCame, sRepr, sFew, sLeaps, sLast] [.pv (.ref n), .pv (.int i), s2, s3, s4, s5, s6, s7] := by
      unfold forF
      rfl
    rw [sT, run_next r1, run_next (due_run l1), run_next r2, run_next (repr_run l1 l2), run_next r3, run_next (leaps_run l0 l1), run_next (last_run l0 l1 l2)]
    rfl)
  refine ⟨m', ?_, K'⟩
  have hT : T[12]? = some ⟨1, fd__law_right.N, false, ir__law_right⟩ := rfl
  rw [call_of hT rfl]
  show (match execs (callsT T (d + 4)) ir__law_right [.pv (.ref n), .no, .no, .no, .no, .no, .no, .no] m with
        | .ok (.ret p) m' => .ok p m'
        | .ok (.next _) m' => .ok .non m'
        | .ok (.exc x _) m' => .exc x m'
        | _ => .stuck : Nl.R PV) = _
  rw [ir_right]
  have it : evIt (callsT T (d + 4)) (.rng1 (.int 5)) [.pv (.ref n), .no, .no, .no, .no, .no, .no, .no] m = .ok ((List.range 5).map fun i => .int (i : Nat)) m := by
    simp [rngP]
  rw [run_next (run_for it r1)]
  rfl
end
theorem math (ns : List Int) (h : ns.length ≤ 63) (_ : ∀ z ∈ ns, PySem.Builtin.Int.intBits z ≤ 1048576) : ∃ m', callT T 20 13 [.lst (ns.map .int)] [] = .ok (.bl true) m' :=
  law_kegs (T := T) (d := 18) (fk := 4) (fr := 12) (fl := 13) rfl rfl rfl rfl h fun N n m K hn => right_ok (d := 14) N n m K hn
end Nl.k15
end
set_option Elab.async false
set_option linter.all false
set_option maxRecDepth 100000
set_option maxHeartbeats 0
open PySem PySem.W PySem.Calls PyProof.Rows
theorem PySem.Challenge.cw_nestlevels_k15_whole_sums_of_the_greates_holds : PySem.Challenge.rw_nestlevels_k15_whole_sums_of_the_greates.Holds := by
  w_on; o_law
  refine HandSHeadRun.head_any (r := OpenLaw.row PySem.Challenge.rw_nestlevels_k15_whole_sums_of_the_greates) (q := view (OpenLaw.row PySem.Challenge.rw_nestlevels_k15_whole_sums_of_the_greates).prog [20]) (H := Nl.hkN 4 (Nl.faN Nl.k15.fns Nl.k15.gi Nl.k15.gs) (Nl.fnN Nl.k15.top Nl.k15.fns Nl.k15.ix))
    (ob := Nl.obN 4 (Nl.faN Nl.k15.fns Nl.k15.gi Nl.k15.gs) (Nl.fnN Nl.k15.top Nl.k15.fns Nl.k15.ix)) (M := 3000) (loose := Nl.k15.loose) (d := HandSHeadRun.topDef (OpenLaw.row PySem.Challenge.rw_nestlevels_k15_whole_sums_of_the_greates).prog 20) (kwd := []) Nl.obN_eq
    (by kernel_rfl) (fun s => by kernel_rfl) Nl.k15.run (by kernel_rfl) (by kernel_rfl) (by kernel_rfl) (by rfl) (by first | assumption | decide +kernel) (by decide +kernel) ⟨rfl, rfl, rfl, rfl, rfl, by decide +kernel⟩ ?hw ?hc
  case hw => w_witness2
  case hc => exact Nl.walk_nl (l := PySem.Challenge.rw_nestlevels_k15_whole_sums_of_the_greates) (n := 63) (D := 20) (fl := 13) (x := "_law_script") rfl (by decide) (by kernel_rfl) ⟨rfl, by decide, by decide⟩ (by kernel_rfl) (by kernel_rfl) Nl.k15.chk Nl.k15.math
