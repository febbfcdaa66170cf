import PyProof.Rows.All
import Wide.All
import OpenK.AllK
import Wide.FinOn
import PySem.PyData
import KE.SortKeyed
import HandS.ForMost
import HandS.Flow
import HandS.Wide
import HandS.TupAny
import HandS.Deep
import HandS.IsInst
import HandS.SortInts
import HandS.WordsDict
import KE.DataMinMax
import KE.SortData
import KE.DataFind
import KE.DataCmp
import HandS.Dict
import HandS.SetFor
import HandS.Sort
import HandS.Walk
import HandS.TryOnly
import HandS.Zip
import HandS.Defaults
import HandS.Codes
import HandS.HeadHook2
import HandS.Comp
import HandS.Style
import HandS.Words
import HandS.HeadEnd
import HandS.Head0
import HandS.Head1
import HandS.Head2
import HandS.Ends
import HandS.More
import KE.KStateDown
import HandS.DictComp
import PySem.Challenge.RW_everynth_k71_numbers_met_and_what_to_ask
set_option Elab.async false
set_option linter.all false
section
/-! EvSem: data, owned objects, slots; what expressions, statements, calls do (no heap in sight). -/
namespace Ev
open PySem
abbrev Key := Sum Int Str
/-- frozen data -/
inductive D where
  | non | bl (b : Bool) | int (i : Int) | str (s : Str)
  | tup (xs : List D) | lst (xs : List D) | dk (kvs : List (Key × D)) | dt (kvs : List (List Key × D))
/-- an object that one slot owns (a list, a dict by ints and texts, a dict by tuples of them), or frozen data -/
inductive O where
  | fr (d : D) | ol (xs : List O) | ok (kvs : List (Key × O)) | ot (kvs : List (List Key × O))
inductive Stp where
  | ix (n : Nat) | ky (k : Key) | kt (k : List Key)
abbrev Path := List Stp
/-- what an expression hands on: a value, or the owned object in a slot (along a path) -/
inductive OR where
  | v (o : O) | r (i : Nat) (p : Path)
structure Exn where
  cls : Str
  fs : List (Str × D)
abbrev Env := List (Option O)
inductive Rs (α : Type) where
  | ok (a : α) (e : Env) | exc (x : Exn) (e : Env) | fail
abbrev Ev (α : Type) := Env → Rs α
def Ev.ret {α : Type} (a : α) : Ev α := fun e => .ok a e
def Ev.fail {α : Type} : Ev α := fun _ => .fail
def Rs.bind {α β : Type} (x : Rs α) (f : α → Env → Rs β) : Rs β := match x with
  | .ok a e => f a e
  | .exc x e => .exc x e
  | .fail => .fail
def Ev.bind {α β : Type} (m : Ev α) (f : α → Ev β) : Ev β := fun e => (m e).bind f
/-- what holds behind it -/
def Rs.wp {α : Type} (x : Rs α) (P : α → Env → Prop) (W : Exn → Env → Prop) : Prop := match x with
  | .ok a e => P a e
  | .exc x e => W x e
  | .fail => False
inductive CR where
  | ok (r : O) (outs : List (Option O)) | exc (x : Exn) | fail
abbrev FT := Nat → List O → CR

/-! ### owned objects as data -/
mutual
def O.thaw : O → D
  | .fr d => d
  | .ol xs => .lst (O.thaws xs)
  | .ok kvs => .dk (O.thawk kvs)
  | .ot kvs => .dt (O.thawt kvs)
def O.thaws : List O → List D
  | [] => []
  | x :: xs => x.thaw :: O.thaws xs
def O.thawk : List (Key × O) → List (Key × D)
  | [] => []
  | (k, x) :: xs => (k, x.thaw) :: O.thawk xs
def O.thawt : List (List Key × O) → List (List Key × D)
  | [] => []
  | (k, x) :: xs => (k, x.thaw) :: O.thawt xs
end
/-- items that are frozen all -/
def frs : List O → Option (List D)
  | [] => some []
  | .fr d :: xs => (frs xs).map (d :: ·)
  | _ :: _ => none
def frk {κ : Type} : List (κ × O) → Option (List (κ × D))
  | [] => some []
  | (k, .fr d) :: xs => (frk xs).map ((k, d) :: ·)
  | _ :: _ => none
/-- as data where the object's items are frozen -/
def O.shal : O → Option D
  | .fr d => some d
  | .ol xs => (frs xs).map .lst
  | .ok kvs => (frk kvs).map .dk
  | .ot kvs => (frk kvs).map .dt
def kget {κ α : Type} [DecidableEq κ] : List (κ × α) → κ → Option α
  | [], _ => none
  | (k, x) :: r, j => if k = j then some x else kget r j
def kput {κ α : Type} [DecidableEq κ] (kvs : List (κ × α)) (k : κ) (y : α) : List (κ × α) :=
  if (kvs.any fun kv => decide (kv.1 = k)) = true then kvs.map (fun kv => if kv.1 = k then (kv.1, y) else kv) else kvs ++ [(k, y)]
/-- an owned thing goes to a new key alone -/
def kput? {κ : Type} [DecidableEq κ] (kvs : List (κ × O)) (k : κ) (y : O) : Option (List (κ × O)) := match y with
  | .fr d => some (kput kvs k (.fr d))
  | y => if (kvs.any fun kv => decide (kv.1 = k)) = true then none else some (kvs ++ [(k, y)])
/-- an item taken the place of by another one, the first of this key -/
def kset {κ α : Type} [DecidableEq κ] : List (κ × α) → κ → α → List (κ × α)
  | [], _, _ => []
  | (k, x) :: r, j, y => if k = j then (k, y) :: r else (k, x) :: kset r j y
def O.sub : O → Path → Option O
  | o, [] => some o
  | .ol xs, .ix n :: p => (xs[n]?).bind fun o => o.sub p
  | .ok kvs, .ky k :: p => (kget kvs k).bind fun o => o.sub p
  | .ot kvs, .kt k :: p => (kget kvs k).bind fun o => o.sub p
  | _, _ => none
def O.put : O → Path → O → O
  | _, [], y => y
  | .ol xs, .ix n :: p, y => match xs[n]? with
    | some o => .ol (xs.set n (o.put p y))
    | none => .ol xs
  | .ok kvs, .ky k :: p, y => match kget kvs k with
    | some o => .ok (kset kvs k (o.put p y))
    | none => .ok kvs
  | .ot kvs, .kt k :: p, y => match kget kvs k with
    | some o => .ot (kset kvs k (o.put p y))
    | none => .ot kvs
  | o, _, _ => o
def Env.at (e : Env) (i : Nat) : Option O := (e[i]?).join
/-- what it stands for now -/
def OR.obj (x : OR) (e : Env) : Option O := match x with
  | .v o => some o
  | .r i p => (e.at i).bind fun o => o.sub p
/-- as data for an operation that keeps items; for one that only reads -/
def OR.view (x : OR) (e : Env) : Option D := match x with
  | .v o => some o.thaw
  | .r i p => ((e.at i).bind fun o => o.sub p).bind O.shal
def OR.look (x : OR) (e : Env) : Option D := (x.obj e).map O.thaw
def OR.root : OR → Bool
  | .v _ => true
  | .r _ [] => true
  | .r _ _ => false

/-! ### names, constants -/
def mC (d : D) : Ev OR := .ret (.v (.fr d))
def mV (i : Nat) : Ev OR := fun e => match e.at i with
  | some (.fr d) => .ok (.v (.fr d)) e
  | some _ => .ok (.r i []) e
  | none => .fail
/-- the owned object leaves its slot -/
def mMv (i : Nat) : Ev OR := fun e => match e.at i with
  | some o => .ok (.v o) (e.set i none)
  | none => .fail
/-- the owned object is owned no longer -/
def mFz (i : Nat) : Ev OR := fun e => match e.at i with
  | some o => .ok (.v (.fr o.thaw)) (e.set i (some (.fr o.thaw)))
  | none => .fail
/-- .. of a value that has just come -/
def mZ (m : Ev OR) : Ev OR := m.bind fun x => match x with
  | .v o => .ret (.v (.fr o.thaw))
  | _ => .fail
/-- a whole number -/
def mInt (m : Ev OR) : Ev OR := m.bind fun x => match x with
  | .v (.fr (.int i)) => .ret (.v (.fr (.int i)))
  | _ => .fail
/-! ### rows of operands -/
def mArgs : List (Ev OR) → Ev (List OR)
  | [] => .ret []
  | [m] => m.bind fun x => .ret [x]
  | m :: ms => m.bind fun x => match x.root with
    | true => (mArgs ms).bind fun xs => .ret (x :: xs)
    | false => .fail
def views (e : Env) : List OR → Option (List D)
  | [] => some []
  | x :: xs => (x.view e).bind fun d => (views e xs).map (d :: ·)
def looks (e : Env) : List OR → Option (List D)
  | [] => some []
  | x :: xs => (x.look e).bind fun d => (looks e xs).map (d :: ·)
/-- an operation on data -/
def mOp (f : List D → Option O) (ms : List (Ev OR)) : Ev OR := (mArgs ms).bind fun xs e => match views e xs with
  | some ds => match f ds with
    | some o => .ok (.v o) e
    | none => .fail
  | none => .fail
/-- .. that hands back a number, a truth value, a text or None and only reads -/
def mRd (f : List D → Option D) (ms : List (Ev OR)) : Ev OR := (mArgs ms).bind fun xs e => match looks e xs with
  | some ds => match f ds with
    | some d => .ok (.v (.fr d)) e
    | none => .fail
  | none => .fail
/-- values that leave: no owned object of a slot among them -/
def vals : List OR → Option (List O)
  | [] => some []
  | .v o :: xs => (vals xs).map (o :: ·)
  | _ :: _ => none
def mTup (ms : List (Ev OR)) : Ev OR := (mArgs ms).bind fun xs e => match vals xs with
  | some os => if os.length ≤ 1000 then .ok (.v (.fr (.tup (O.thaws os)))) e else .fail
  | none => .fail
def mLst (ms : List (Ev OR)) : Ev OR := (mArgs ms).bind fun xs e => match vals xs with
  | some os => if os.length ≤ 1000 then .ok (.v (.ol os)) e else .fail
  | none => .fail
end Ev

namespace Ev
open PySem
def sizeMax : Nat := 16777216
/-! ### items -/
def ixN (n : Nat) (i : Int) : Option Nat := if 0 ≤ i then (if i < n then some i.toNat else none) else if -(n : Int) ≤ i then some (i + n).toNat else none
def atI {α : Type} (xs : List α) (i : Int) : Option α := (ixN xs.length i).bind fun j => xs[j]?
/-- a key of a dict -/
def D.key : D → Option Key
  | .int i => some (.inl i)
  | .str s => some (.inr s)
  | _ => none
def D.keys : List D → Option (List Key)
  | [] => some []
  | d :: ds => d.key.bind fun k => (D.keys ds).map (k :: ·)
def D.tkey : D → Option (List Key)
  | .tup ds => D.keys ds
  | _ => none
def O.frz? : O → Option D
  | .fr d => some d
  | _ => none
/-- o[k] of a list, a tuple, a text; of a dict: a frozen item -/
def O.item : O → D → Option D
  | .fr (.lst xs), .int i => atI xs i
  | .fr (.tup xs), .int i => atI xs i
  | .fr (.str s), .int i => if s.cps.size ≤ sizeMax then (atI s.cps.toList i).map fun c => .str ⟨#[c]⟩ else none
  | .ol xs, .int i => (atI xs i).bind O.frz?
  | _, _ => none
def O.itemD : O → D → Option D
  | .fr (.dk kvs), d => d.key.bind (kget kvs)
  | .fr (.dt kvs), d => d.tkey.bind (kget kvs)
  | .ok kvs, d => (d.key.bind (kget kvs)).bind O.frz?
  | .ot kvs, d => (d.tkey.bind (kget kvs)).bind O.frz?
  | _, _ => none
def OR.fz : OR → Option D
  | .v (.fr d) => some d
  | _ => none
def subFin (f : O → D → Option D) (x y : OR) (e : Env) : Rs OR := match x.obj e, y.fz with
  | some o, some d => match f o d with
    | some z => .ok (.v (.fr z)) e
    | none => .fail
  | _, _ => .fail
def mSubG (f : O → D → Option D) (a k : Ev OR) : Ev OR := a.bind fun x => k.bind fun y => subFin f x y
abbrev mSub : Ev OR → Ev OR → Ev OR := mSubG O.item
abbrev mSubD : Ev OR → Ev OR → Ev OR := mSubG O.itemD
/-- the step to an item -/
def O.step : O → D → Option Stp
  | .ol xs, .int i => (ixN xs.length i).map .ix
  | .ok _, d => d.key.map .ky
  | .ot _, d => d.tkey.map .kt
  | _, _ => none
/-- o[k], an item that is owned -/
def subRFin (x y : OR) (e : Env) : Rs OR := match x, x.obj e, y.fz with
  | .r i p, some o, some d => match o.step d with
    | some st => match o.sub [st] with
      | some (.fr z) => .ok (.v (.fr z)) e
      | some _ => .ok (.r i (p ++ [st])) e
      | none => .fail
    | none => .fail
  | _, _, _ => .fail
def mSubR (a k : Ev OR) : Ev OR := a.bind fun x => k.bind fun y => subRFin x y

/-! ### calls -/
def objs (e : Env) : List OR → Option (List O)
  | [] => some []
  | .v o :: xs => (objs e xs).map (o :: ·)
  | .r i [] :: xs => (e.at i).bind fun o => (objs e xs).map (o :: ·)
  | _ :: _ => none
def refsOf : List OR → List Nat
  | [] => []
  | .v _ :: xs => refsOf xs
  | .r i _ :: xs => i :: refsOf xs
def giveBack (e : Env) : List OR → List (Option O) → Env
  | .v _ :: xs, _ :: os => giveBack e xs os
  | .r i _ :: xs, o :: os => giveBack (e.set i o) xs os
  | _, _ => e
def lose (e : Env) : List Nat → Env
  | [] => e
  | i :: is => lose (e.set i none) is
def nodupB : List Nat → Bool
  | [] => true
  | i :: is => !is.contains i && nodupB is
def callOn (c : FT) (f : Nat) (xs : List OR) (e : Env) : Rs OR := match nodupB (refsOf xs), objs e xs with
  | true, some os => match c f os with
    | .ok r outs => .ok (.v r) (giveBack (lose e (refsOf xs)) xs outs)
    | .exc x => .exc x (lose e (refsOf xs))
    | .fail => .fail
  | _, _ => .fail
def mCall (c : FT) (f : Nat) (ms : List (Ev OR)) : Ev OR := (mArgs ms).bind fun xs e => callOn c f xs e
def permL {α : Type} (l : List α) (is : List Nat) : List α := is.filterMap fun i => l[i]?
/-- .. with keywords: is tells for each parameter which of what is written it takes -/
def mCallP (c : FT) (f : Nat) (is : List Nat) (ms : List (Ev OR)) : Ev OR := (mArgs ms).bind fun xs e => callOn c f (permL xs is) e
/-- .. with defaults behind what is written -/
def mCallD (c : FT) (f : Nat) (ds : List D) (ms : List (Ev OR)) : Ev OR := (mArgs ms).bind fun xs e => callOn c f (xs ++ ds.map fun d => .v (.fr d)) e

/-! ### tests -/
def D.truth : D → Option Bool
  | .non => some false
  | .bl b => some b
  | .int i => some (i != 0)
  | .str s => if s.cps.size ≤ sizeMax then some (s.cps.size != 0) else none
  | .tup xs => some (!xs.isEmpty)
  | .lst xs => some (!xs.isEmpty)
  | .dk _ => none
  | .dt _ => none
def tV (m : Ev OR) : Ev Bool := m.bind fun x e => match x with
  | .v (.fr (.bl b)) => .ok b e
  | _ => .fail
def tTru (m : Ev OR) : Ev Bool := m.bind fun x e => match (x.look e).bind D.truth with
  | some b => .ok b e
  | none => .fail
def tNot (t : Ev Bool) : Ev Bool := t.bind fun b => .ret !b
def tAnd (t u : Ev Bool) : Ev Bool := t.bind fun b => match b with
  | true => u
  | false => .ret false
def tOr (t u : Ev Bool) : Ev Bool := t.bind fun b => match b with
  | true => .ret true
  | false => u
def mB (t : Ev Bool) : Ev OR := t.bind fun b => .ret (.v (.fr (.bl b)))
/-- a or b, a and b, as values -/
def mOr (a b : Ev OR) : Ev OR := a.bind fun x e => match (x.look e).bind D.truth, x.root with
  | some true, true => .ok x e
  | some false, true => b e
  | _, _ => .fail
def mAnd (a b : Ev OR) : Ev OR := a.bind fun x e => match (x.look e).bind D.truth, x.root with
  | some true, true => b e
  | some false, true => .ok x e
  | _, _ => .fail
def mIf (t : Ev Bool) (a b : Ev OR) : Ev OR := t.bind fun c => match c with
  | true => a
  | false => b

/-! ### targets -/
inductive Tg where
  | nm (i : Nat) | tp (ts : List Tg)
def D.items : D → Option (List D)
  | .tup xs => some xs
  | .lst xs => some xs
  | _ => none
mutual
def Tg.bind (io : List Nat) : Tg → O → Env → Option Env
  | .nm i, o, e => if io.contains i then none else some (e.set i (some o))
  | .tp ts, .fr d, e => d.items.bind fun ds => Tg.binds io ts ds e
  | .tp _, _, _ => none
def Tg.binds (io : List Nat) : List Tg → List D → Env → Option Env
  | [], [], e => some e
  | t :: ts, d :: ds, e => (t.bind io (.fr d) e).bind fun e1 => Tg.binds io ts ds e1
  | _, _, _ => none
end

/-! ### what is walked -/
def itemsOf (x : OR) (e : Env) : Rs (List D) := match x with
  | .v o => match o.thaw.items with
    | some ds => .ok ds e
    | none => .fail
  | _ => .fail
def iSeq (m : Ev OR) : Ev (List D) := m.bind itemsOf
def smallI (i : Int) : Bool := decide (-(2 ^ 62) ≤ i) && decide (i < 2 ^ 62)
def rangeD (i j : Int) : List D := (List.range (j - i).toNat).map fun k : Nat => .int (i + (k : Int))
def rng1 (x : OR) (e : Env) : Rs (List D) := match x with
  | .v (.fr (.int j)) => if smallI j then .ok (rangeD 0 j) e else .fail
  | _ => .fail
def iRng1 (m : Ev OR) : Ev (List D) := m.bind rng1
def rng2 (xs : List OR) (e : Env) : Rs (List D) := match xs with
  | [.v (.fr (.int i)), .v (.fr (.int j))] => if smallI i && smallI j then .ok (rangeD i j) e else .fail
  | _ => .fail
def iRng2 (ms : List (Ev OR)) : Ev (List D) := (mArgs ms).bind rng2
def enumD : Nat → List D → List D
  | _, [] => []
  | n, d :: ds => .tup [.int (n : Int), d] :: enumD (n + 1) ds
def enum1 (x : OR) (e : Env) : Rs (List D) := match x with
  | .v o => match o.thaw with
    | .lst ds => .ok (enumD 0 ds) e
    | _ => .fail
  | _ => .fail
def iEnum (m : Ev OR) : Ev (List D) := m.bind enum1
def zipD : List D → List D → List D
  | a :: as, b :: bs => .tup [a, b] :: zipD as bs
  | _, _ => []
def zip2 (xs : List OR) (e : Env) : Rs (List D) := match xs with
  | [.v o, .v u] => match o.thaw, u.thaw with
    | .lst as, .lst bs => .ok (zipD as bs) e
    | .tup as, .tup bs => .ok (zipD as bs) e
    | _, _ => .fail
  | _ => .fail
def iZip (ms : List (Ev OR)) : Ev (List D) := (mArgs ms).bind zip2

/-! ### comprehensions -/
def wipeE (e : Env) : List Nat → Env
  | [] => e
  | v :: vs => (wipeE e vs).set v none
def backE (e0 e : Env) : List Nat → Env
  | [] => e
  | v :: vs => (backE e0 e vs).set v (e0.at v)
def frzAt (e : Env) (v : Nat) : Bool := match e.at v with
  | some (.fr _) => true
  | none => true
  | _ => false
def tAll : List (Ev Bool) → Ev Bool
  | [] => .ret true
  | t :: ts => t.bind fun b => match b with
    | true => tAll ts
    | false => .ret false
/-- nothing is raised -/
def Rs.calm {α : Type} : Rs α → Rs α
  | .exc _ _ => .fail
  | r => r
/-- the slots that are not these -/
def ioOf (n : Nat) (own : List Nat) : List Nat := (List.range n).filter fun i => !own.contains i
def compGo (n : Nat) (own : List Nat) (tg : Tg) (t : Ev Bool) (elt : Ev OR) : List D → List O → Ev (List O)
  | [], acc => .ret acc
  | d :: ds, acc => fun e => match tg.bind (ioOf n own) (.fr d) (wipeE e own) with
    | none => .fail
    | some e1 => (t e1).calm.bind fun b e2 => match b with
      | false => compGo n own tg t elt ds acc (wipeE e2 own)
      | true => (elt e2).calm.bind fun x e3 => match x with
        | .v y => if acc.length < sizeMax then compGo n own tg t elt ds (acc ++ [y]) (wipeE e3 own) else .fail
        | _ => .fail
/-- n: how many names; own: the block's own ones -/
def mComp (n : Nat) (own : List Nat) (tg : Tg) (src : Ev (List D)) (t : Ev Bool) (elt : Ev OR) : Ev OR := src.bind fun ds e => match own.all (frzAt e) && decide (e.length ≤ n) with
  | true => (compGo n own tg t elt ds [] (wipeE e own)).bind fun ys e1 => .ok (.v (.ol ys)) (backE e (wipeE e1 own) own)
  | false => .fail
/-- two clauses -/
def compIn (n : Nat) (own1 : List Nat) (tg : Tg) (t : Ev Bool) (elt : Ev OR) : List D → List O → Ev (List O)
  | [], acc => .ret acc
  | d :: ds, acc => fun e => match tg.bind (ioOf n own1) (.fr d) (wipeE e own1) with
    | none => .fail
    | some e1 => (t e1).calm.bind fun b e2 => match b with
      | false => compIn n own1 tg t elt ds acc (wipeE e2 own1)
      | true => (elt e2).calm.bind fun x e3 => match x with
        | .v y => if acc.length < sizeMax then compIn n own1 tg t elt ds (acc ++ [y]) (wipeE e3 own1) else .fail
        | _ => .fail
def compOut (n : Nat) (own own1 : List Nat) (tg : Tg) (t : Ev Bool) (tg1 : Tg) (src1 : Ev (List D)) (t1 : Ev Bool) (elt : Ev OR) : List D → List O → Ev (List O)
  | [], acc => .ret acc
  | d :: ds, acc => fun e => match tg.bind (ioOf n own) (.fr d) (wipeE e own) with
    | none => .fail
    | some e1 => (t e1).calm.bind fun b e2 => match b with
      | false => compOut n own own1 tg t tg1 src1 t1 elt ds acc (wipeE e2 own)
      | true => (src1 e2).calm.bind fun ds1 e3 => (compIn n own1 tg1 t1 elt ds1 acc (wipeE e3 own1)).bind fun acc1 e4 => compOut n own own1 tg t tg1 src1 t1 elt ds acc1 (wipeE e4 own)
def mComp2 (n : Nat) (own own1 : List Nat) (tg : Tg) (src : Ev (List D)) (t : Ev Bool) (tg1 : Tg) (src1 : Ev (List D)) (t1 : Ev Bool) (elt : Ev OR) : Ev OR := src.bind fun ds e => match own.all (frzAt e) && decide (e.length ≤ n) with
  | true => (compOut n own own1 tg t tg1 src1 t1 elt ds [] (wipeE e own)).bind fun ys e1 => .ok (.v (.ol ys)) (backE e (wipeE e1 own) own)
  | false => .fail

/-! dicts -/
def keyOf (x : OR) : Option Key := x.fz.bind D.key
def dcGo (n : Nat) (own : List Nat) (tg : Tg) (t : Ev Bool) (key elt : Ev OR) : List D → List (Key × O) → Ev (List (Key × O))
  | [], acc => .ret acc
  | d :: ds, acc => fun e => match tg.bind (ioOf n own) (.fr d) (wipeE e own) with
    | none => .fail
    | some e1 => (t e1).calm.bind fun b e2 => match b with
      | false => dcGo n own tg t key elt ds acc (wipeE e2 own)
      | true => (key e2).calm.bind fun x e3 => match keyOf x with
        | some k => (elt e3).calm.bind fun y e4 => match y with
          | .v o => match kput? acc k o with
            | some acc2 => if acc.length < sizeMax then dcGo n own tg t key elt ds acc2 (wipeE e4 own) else .fail
            | none => .fail
          | _ => .fail
        | none => .fail
def mDc (n : Nat) (own : List Nat) (tg : Tg) (src : Ev (List D)) (t : Ev Bool) (key elt : Ev OR) : Ev OR := src.bind fun ds e => match own.all (frzAt e) && decide (e.length ≤ n) with
  | true => (dcGo n own tg t key elt ds [] (wipeE e own)).bind fun ys e1 => .ok (.v (.ok ys)) (backE e (wipeE e1 own) own)
  | false => .fail
/-- a < b < c, of numbers -/
def chnB (g : List D → Option D) (j : Int) (z : OR) : Ev OR := match z with
  | .v (.fr (.int k)) => match g [.int j, .int k] with
    | some (.bl r) => .ret (.v (.fr (.bl r)))
    | _ => .fail
  | _ => .fail
def chnA (f g : List D → Option D) (c : Ev OR) (x y : OR) : Ev OR := match x, y with
  | .v (.fr (.int i)), .v (.fr (.int j)) => match f [.int i, .int j] with
    | some (.bl true) => c.bind (chnB g j)
    | some (.bl false) => .ret (.v (.fr (.bl false)))
    | _ => .fail
  | _, _ => .fail
def mChn (f g : List D → Option D) (a b c : Ev OR) : Ev OR := a.bind fun x => b.bind (chnA f g c x)
/-- {k: v, ..} with written keys -/
def mDsp (ks : List Key) (ms : List (Ev OR)) : Ev OR := (mArgs ms).bind fun xs e => match vals xs with
  | some os => .ok (.v (.ok (ks.zip os))) e
  | none => .fail

/-! ### statements -/
inductive Fl where
  | nx | rt (o : O) | bk | ct
abbrev Sv := Ev Fl
def sNil : Sv := .ret .nx
def sSeq (s u : Sv) : Sv := s.bind fun f => match f with
  | .nx => u
  | g => .ret g
def sBlk : List Sv → Sv
  | [] => sNil
  | [s] => s
  | s :: ss => sSeq s (sBlk ss)
def sNever : Sv := .fail
def sBrk : Sv := .ret .bk
def sCnt : Sv := .ret .ct
def sAsg (io : List Nat) (tg : Tg) (m : Ev OR) : Sv := m.bind fun x e => match x with
  | .v o => match tg.bind io o e with
    | some e1 => .ok .nx e1
    | none => .fail
  | _ => .fail
def setAll (io : List Nat) : List Nat → List O → Env → Option Env
  | [], [], e => some e
  | i :: is, o :: os, e => if io.contains i then none else setAll io is os (e.set i (some o))
  | _, _, _ => none
/-- a, b = x, y -/
def sPar (io is : List Nat) (ms : List (Ev OR)) : Sv := (mArgs ms).bind fun xs e => match vals xs with
  | some os => match setAll io is os e with
    | some e1 => .ok .nx e1
    | none => .fail
  | none => .fail
def sEx (m : Ev OR) : Sv := m.bind fun _ => .ret .nx
def sRet (m : Ev OR) : Sv := m.bind fun x => match x with
  | .v o => .ret (.rt o)
  | _ => .fail
def sRetN : Sv := .ret (.rt (.fr .non))
def sIf (t : Ev Bool) (a b : Sv) : Sv := t.bind fun c => match c with
  | true => a
  | false => b
def forGo (io : List Nat) (tg : Tg) (body : Sv) : List D → Sv
  | [] => .ret .nx
  | d :: ds => fun e => match tg.bind io (.fr d) e with
    | none => .fail
    | some e1 => (body e1).bind fun f e2 => match f with
      | .nx => forGo io tg body ds e2
      | .ct => forGo io tg body ds e2
      | .bk => .ok .nx e2
      | .rt o => .ok (.rt o) e2
def sFor (io : List Nat) (tg : Tg) (src : Ev (List D)) (body : Sv) : Sv := src.bind fun ds => forGo io tg body ds
def sWhile : Nat → Ev Bool → Sv → Sv
  | 0, _, _ => .fail
  | n + 1, t, body => t.bind fun c => match c with
    | false => .ret .nx
    | true => body.bind fun f => match f with
      | .nx => sWhile n t body
      | .ct => sWhile n t body
      | .bk => .ret .nx
      | .rt o => .ret (.rt o)
/-! ### stores into owned objects -/
def upAt (e : Env) (i : Nat) (p : Path) (f : O → Option (O × O)) : Rs O := match e.at i with
  | some o => match o.sub p with
    | some q => match f q with
      | some (q1, y) => .ok y (e.set i (some (o.put p q1)))
      | none => .fail
    | none => .fail
  | none => .fail
def OR.isOl (x : OR) (e : Env) : Bool := match x.obj e with
  | some (.ol _) => true
  | _ => false
/-- a method that changes its owned list, with values -/
def mtFin (f : O → List O → Option (O × O)) (x : OR) (xs : List OR) (e : Env) : Rs OR := match x, vals xs with
  | .r i p, some os => (upAt e i p fun q => f q os).bind fun y e1 => .ok (.v y) e1
  | _, _ => .fail
def mtAt (f : O → List O → Option (O × O)) (ms : List (Ev OR)) (x : OR) (e0 : Env) : Rs OR := match x.isOl e0 with
  | true => (mArgs ms).bind (mtFin f x) e0
  | false => .fail
def mMt (f : O → List O → Option (O × O)) (rc : Ev OR) (ms : List (Ev OR)) : Ev OR := rc.bind (mtAt f ms)
def fAppend : O → List O → Option (O × O)
  | .ol xs, [o] => if xs.length < sizeMax then some (.ol (xs ++ [o]), .fr .non) else none
  | _, _ => none
def fPop : O → List O → Option (O × O)
  | .ol xs, [] => (xs[xs.length - 1]?).map fun y => (.ol xs.dropLast, y)
  | _, _ => none
def fPopAt : O → List O → Option (O × O)
  | .ol xs, [.fr (.int i)] => (ixN xs.length i).bind fun k => (xs[k]?).map fun y => (.ol (xs.eraseIdx k), y)
  | _, _ => none
def O.itemsO : O → Option (List O)
  | .fr d => d.items.map (·.map .fr)
  | .ol os => some os
  | _ => none
def fExtend : O → List O → Option (O × O)
  | .ol xs, [o] => o.itemsO.bind fun ys => if xs.length + ys.length ≤ sizeMax then some (.ol (xs ++ ys), .fr .non) else none
  | _, _ => none
/-- o[k] = y -/
def O.setItem : O → D → O → Option O
  | .ol xs, .int i, y => (ixN xs.length i).map fun k => .ol (xs.set k y)
  | .ok kvs, d, y => d.key.bind fun k => if kvs.length < sizeMax then (kput? kvs k y).map .ok else none
  | .ot kvs, d, y => d.tkey.bind fun k => if kvs.length < sizeMax then (kput? kvs k y).map .ot else none
  | _, _, _ => none
def setFin (z x y : OR) (e : Env) : Rs Fl := match z, x, y.fz with
  | .v w, .r i p, some d => (upAt e i p fun q => (q.setItem d w).map fun q1 => (q1, .fr .non)).bind fun _ e1 => .ok .nx e1
  | _, _, _ => .fail
def isV : OR → Bool
  | .v _ => true
  | _ => false
def sSetI (rc k m : Ev OR) : Sv := m.bind fun z => match isV z with
  | true => rc.bind fun x => k.bind fun y => setFin z x y
  | false => .fail
/-- a new dict: by ints and texts; by tuples -/
def mDk : Ev OR := .ret (.v (.ok []))
def mDt : Ev OR := .ret (.v (.ot []))
/-- name op= e, of data -/
def sAug (io : List Nat) (i : Nat) (f : List D → Option O) (m : Ev OR) : Sv := (mOp f [mV i, m]).bind fun x e => match x, io.contains i with
  | .v o, false => .ok .nx (e.set i (some o))
  | _, _ => .fail

/-! ### defs -/
def outsOf (io : List Nat) : Nat → Nat → Env → List (Option O)
  | _, 0, _ => []
  | k, n + 1, [] => none :: outsOf io (k + 1) n []
  | k, n + 1, o :: e => (if io.contains k then o else none) :: outsOf io (k + 1) n e
/-- io: the parameters that are handed back; np: how many parameters; n: how many names -/
def runF (io : List Nat) (np n : Nat) (body : Sv) (os : List O) : CR := if os.length = np then (match body (os.map some ++ List.replicate (n - os.length) none) with
  | .ok (.rt o) e => .ok o (outsOf io 0 np e)
  | .ok .nx e => .ok (.fr .non) (outsOf io 0 np e)
  | .exc x _ => .exc x
  | _ => .fail) else .fail
/-- all defs of a text, so many calls deep -/
def callN (body : Nat → FT → List O → CR) : Nat → FT
  | 0 => fun _ _ => .fail
  | n + 1 => fun f os => body f (callN body n) os
end Ev

namespace Ev
open PySem
/-! ### equality -/
mutual
def D.eqv : D → D → Bool
  | .non, .non => true
  | .bl a, .bl b => a == b
  | .bl a, .int j => (if a then 1 else 0) == j
  | .int i, .bl b => i == (if b then 1 else 0)
  | .int i, .int j => i == j
  | .str x, .str y => x == y
  | .lst xs, .lst ys => D.eqvs xs ys
  | .tup xs, .tup ys => D.eqvs xs ys
  | _, _ => false
def D.eqvs : List D → List D → Bool
  | [], [] => true
  | x :: xs, y :: ys => D.eqv x y && D.eqvs xs ys
  | _, _ => false
end
def strOkB (s : Str) : Bool := s.cps.toList.all fun c => decide (c < 0x110000)
mutual
/-- neither dicts nor strange signs -/
def D.lay : D → Bool
  | .str s => strOkB s
  | .lst xs => D.lays xs
  | .tup xs => D.lays xs
  | .dk _ => false
  | .dt _ => false
  | _ => true
def D.lays : List D → Bool
  | [] => true
  | x :: xs => D.lay x && D.lays xs
end
mutual
def D.dep : D → Nat
  | .lst xs => D.deps xs + 1
  | .tup xs => D.deps xs + 1
  | _ => 0
def D.deps : List D → Nat
  | [] => 0
  | x :: xs => max (D.dep x) (D.deps xs)
end
/-- a == b -/
def eqO (a b : D) : Option Bool := match a, b with
  | .int i, .int j => some (i == j)
  | .str x, .str y => some (x == y)
  | a, b => if a.lay && b.lay && decide (min a.dep b.dep ≤ 64) then some (a.eqv b) else none
def fEq : List D → Option D
  | [a, b] => (eqO a b).map .bl
  | _ => none
def fNe : List D → Option D
  | [a, b] => (eqO a b).map fun c => .bl !c
  | _ => none
def fIsN : List D → Option D
  | [.non] => some (.bl true)
  | [_] => some (.bl false)
  | _ => none
def fNotN : List D → Option D
  | [.non] => some (.bl false)
  | [_] => some (.bl true)
  | _ => none
/-! ### numbers -/
def cmpI (p : Int → Int → Bool) : List D → Option D
  | [.int i, .int j] => some (.bl (p i j))
  | _ => none
def fLt : List D → Option D := cmpI fun i j => decide (i < j)
def fLe : List D → Option D := cmpI fun i j => decide (i ≤ j)
def fGt : List D → Option D := cmpI fun i j => decide (j < i)
def fGe : List D → Option D := cmpI fun i j => decide (j ≤ i)
def big1 (i : Int) : Bool := decide (-(2 ^ 64) < i) && decide (i < 2 ^ 64)
def big2 (i : Int) : Bool := decide (i.natAbs < 2 ^ 8000)
def mulOk (i j : Int) : Bool := big1 i || big1 j || (big2 i && big2 j)
def divOk (j : Int) : Bool := decide (0 < j) && big2 j
def powOk (i j : Int) : Bool := decide (0 ≤ j) && decide (j ≤ 1000000) && decide (i.natAbs < 2 ^ 64)
def oI (i : Int) : Option O := some (.fr (.int i))
def fAdd : List D → Option O
  | [.int i, .int j] => oI (i + j)
  | [.str x, .str y] => if x.cps.size + y.cps.size ≤ sizeMax then some (.fr (.str ⟨x.cps ++ y.cps⟩)) else none
  | [.tup x, .tup y] => if x.length + y.length ≤ sizeMax then some (.fr (.tup (x ++ y))) else none
  | [.lst x, .lst y] => if x.length + y.length ≤ sizeMax then some (.ol ((x ++ y).map .fr)) else none
  | _ => none
def fSub : List D → Option O
  | [.int i, .int j] => oI (i - j)
  | _ => none
def repD (xs : List D) (n : Nat) : List D := (List.replicate n xs).flatten
def fMul : List D → Option O
  | [.int i, .int j] => if mulOk i j then oI (i * j) else none
  | [.lst xs, .int k] => if smallI k && decide (xs.length * k.toNat ≤ sizeMax) then some (.ol ((repD xs k.toNat).map .fr)) else none
  | _ => none
def fDiv : List D → Option O
  | [.int i, .int j] => if divOk j then oI (i / j) else none
  | _ => none
def fMod : List D → Option O
  | [.int i, .int j] => if decide (0 < j) then oI (i % j) else none
  | _ => none
def fPow : List D → Option O
  | [.int i, .int j] => if powOk i j then oI (i ^ j.toNat) else none
  | _ => none
def fNeg : List D → Option O
  | [.int i] => oI (-i)
  | _ => none
def fAbs : List D → Option O
  | [.int i] => oI (if i < 0 then -i else i)
  | _ => none
def fInt : List D → Option O
  | [.int i] => oI i
  | [.bl b] => oI (if b then 1 else 0)
  | _ => none
def fMin2 : List D → Option O
  | [.int i, .int j] => oI (if j < i then j else i)
  | _ => none
def fMax2 : List D → Option O
  | [.int i, .int j] => oI (if j > i then j else i)
  | _ => none
/-! ### kinds -/
inductive Ty where
  | int | bool | str | list | tuple | dict
def D.isT : D → Ty → Bool
  | .int _, .int => true
  | .bl _, .int => true
  | .bl _, .bool => true
  | .str _, .str => true
  | .lst _, .list => true
  | .tup _, .tuple => true
  | .dk _, .dict => true
  | .dt _, .dict => true
  | _, _ => false
def fIsI (ts : List Ty) : List D → Option D
  | [d] => some (.bl (ts.any d.isT))
  | _ => none
/-! ### sizes, sums -/
def fLen : List D → Option D
  | [.str s] => if s.cps.size ≤ sizeMax then some (.int s.cps.size) else none
  | [.lst xs] => some (.int xs.length)
  | [.tup xs] => some (.int xs.length)
  | [.dk xs] => some (.int xs.length)
  | _ => none
def ints? : List D → Option (List Int)
  | [] => some []
  | .int i :: ds => (ints? ds).map (i :: ·)
  | _ :: _ => none
def bls? : List D → Option (List Bool)
  | [] => some []
  | .bl b :: ds => (bls? ds).map (b :: ·)
  | _ :: _ => none
def strs? : List D → Option (List Str)
  | [] => some []
  | .str b :: ds => (strs? ds).map (b :: ·)
  | _ :: _ => none
def fSum : List D → Option D
  | [.lst ds] => (ints? ds).map fun ns => .int ns.sum
  | _ => none
def fAll : List D → Option D
  | [.lst ds] => (bls? ds).map fun bs => .bl (bs.all id)
  | _ => none
def fAny : List D → Option D
  | [.lst ds] => (bls? ds).map fun bs => .bl (bs.any id)
  | _ => none
def maxI : List Int → Int → Int
  | [], m => m
  | i :: is, m => maxI is (if m < i then i else m)
def minI : List Int → Int → Int
  | [], m => m
  | i :: is, m => minI is (if i < m then i else m)
def fMax : List D → Option D
  | [.lst ds] => match ints? ds with
    | some (i :: is) => some (.int (maxI is i))
    | _ => none
  | _ => none
def fMin : List D → Option D
  | [.lst ds] => match ints? ds with
    | some (i :: is) => some (.int (minI is i))
    | _ => none
  | _ => none
/-! ### made new -/
def fList : List D → Option O
  | [.lst ds] => some (.ol (ds.map .fr))
  | [.tup ds] => some (.ol (ds.map .fr))
  | _ => none
def fTuple : List D → Option O
  | [.lst ds] => some (.fr (.tup ds))
  | [.tup ds] => some (.fr (.tup ds))
  | _ => none
/-- texts by their signs -/
def ltS (a b : Str) : Bool := decide (a.cps.toList < b.cps.toList)
def insS (x : Str) : List Str → List Str
  | [] => [x]
  | y :: ys => if ltS y x then y :: insS x ys else x :: y :: ys
def sortS : List Str → List Str
  | [] => []
  | x :: xs => insS x (sortS xs)
def fSortS : List D → Option O
  | [.lst ds] => (strs? ds).bind fun ss => if ss.length < 64 then some (.ol ((sortS ss).map fun s => .fr (.str s))) else none
  | _ => none
/-- slices -/
def sIx (n d : Nat) : Option Int → Nat
  | none => d
  | some v => if v < 0 then (v + (n : Int)).toNat else min v.toNat n
def cutL {α : Type} (xs : List α) (lo hi : Option Int) : List α := (xs.drop (sIx xs.length 0 lo)).take (sIx xs.length xs.length hi - sIx xs.length 0 lo)
def D.ix? : D → Option (Option Int)
  | .int i => some (some i)
  | .non => some none
  | _ => none
def fSlice : List D → Option O
  | [d, a, b] => a.ix?.bind fun lo => b.ix?.bind fun hi => match d with
    | .lst xs => some (.ol ((cutL xs lo hi).map .fr))
    | .tup xs => some (.fr (.tup (cutL xs lo hi)))
    | _ => none
  | _ => none
def fRev : List D → Option O
  | [.lst xs] => some (.ol (xs.reverse.map .fr))
  | [.tup xs] => some (.fr (.tup xs.reverse))
  | _ => none
/-- d.get(k), d.get(k, x) -/
def D.get : D → D → Option (Option D)
  | .dk kvs, k => k.key.map fun k => kget kvs k
  | .dt kvs, k => k.tkey.map fun k => kget kvs k
  | _, _ => none
def D.isDict : D → Bool
  | .dk _ => true
  | .dt _ => true
  | _ => false
def D.isLst : D → Bool
  | .lst _ => true
  | _ => false
/-- values that are frozen data -/
def frzs : List OR → Option (List D)
  | [] => some []
  | .v (.fr d) :: xs => (frzs xs).map (d :: ·)
  | _ :: _ => none
/-- a method that only reads its object (of the kind p) -/
def dmFin (f : D → List D → Option O) (x : OR) (xs : List OR) (e : Env) : Rs OR := match x.view e, frzs xs with
  | some d, some ds => match f d ds with
    | some o => .ok (.v o) e
    | none => .fail
  | _, _ => .fail
def dmAt (p : D → Bool) (f : D → List D → Option O) (ms : List (Ev OR)) (x : OR) (e0 : Env) : Rs OR := match (x.look e0).map p, x.root with
  | some true, true => (mArgs ms).bind (dmFin f x) e0
  | _, _ => .fail
def mDm (p : D → Bool) (f : D → List D → Option O) (rc : Ev OR) (ms : List (Ev OR)) : Ev OR := rc.bind (dmAt p f ms)
def fGet2 : D → List D → Option O
  | d, [k, x] => (d.get k).map fun r => .fr (r.getD x)
  | _, _ => none
def fGet1 : D → List D → Option O
  | d, [k] => (d.get k).map fun r => .fr (r.getD .non)
  | _, _ => none
/-- x in s -/
def occ (x : List Nat) : List Nat → Bool
  | [] => x.isEmpty
  | y :: ys => (x.isPrefixOf (y :: ys)) || occ x ys
def inO : D → D → Option Bool
  | x, .lst ys => if x.lay && D.lays ys && decide (D.deps ys ≤ 60) then some (ys.any fun y => y.eqv x) else none
  | x, .tup ys => if x.lay && D.lays ys && decide (D.deps ys ≤ 60) then some (ys.any fun y => y.eqv x) else none
  | x, .dk kvs => x.key.map fun k => (kget kvs k).isSome
  | x, .dt kvs => x.tkey.map fun k => (kget kvs k).isSome
  | .str x, .str y => if decide (x.cps.size = 1) then some (x.cps.toList.all fun c => y.cps.toList.contains c) else none
  | _, _ => none
def fIn : List D → Option D
  | [x, y] => (inO x y).map .bl
  | _ => none
def fNotIn : List D → Option D
  | [x, y] => (inO x y).map fun b => .bl !b
  | _ => none
end Ev
end
section
set_option Elab.async false
set_option linter.all false
set_option maxRecDepth 100000
namespace Ev
open PySem PySem.Spec PyProof.Rows
mutual
def D.py : D → PyData
  | .non => .none
  | .bl b => .bool b
  | .int i => .int i
  | .str s => .str s
  | .tup xs => .tuple (D.pys xs)
  | .lst xs => .list (D.pys xs)
  | .dk _ => .none
  | .dt _ => .none
def D.pys : List D → List PyData
  | [] => []
  | x :: xs => x.py :: D.pys xs
end
def D.isNon : D → Bool
  | .non => true
  | _ => false
mutual
/-- of one shape, at all depths -/
def D.shp : D → D → Bool
  | .non, .non => true
  | .bl _, .bl _ => true
  | .int _, .int _ => true
  | .str _, .str _ => true
  | .tup xs, .tup ys => D.shps xs ys
  | .lst xs, .lst ys => D.shps xs ys
  | _, _ => false
def D.shps : List D → List D → Bool
  | [], [] => true
  | x :: xs, y :: ys => D.shp x y && D.shps xs ys
  | _, _ => false
end
def alikeF : List D → Bool
  | [] => true
  | d :: ds => !d.isNon && ds.all (D.shp d)
/-- can be compared with one another, and is not None -/
def alikeB (ds : List D) : Bool := D.lays ds && decide (D.deps ds ≤ 60) && (alikeF ds || ds.all (fun x => !x.isNon && ds.all fun y => PySem.W.alike x.py y.py))
def ltD (a b : D) : Bool := PySem.W.dataLt a.py b.py
def minF (d : D) (ds : List D) : D := ds.foldl (fun a y => if ltD y a then y else a) d
def maxF (d : D) (ds : List D) : D := ds.foldl (fun a y => if ltD a y then y else a) d
def leD : D → D → Bool := PySem.W.dataLe false D.py
def D.seq : D → Option (List D)
  | .lst xs => some xs
  | .tup xs => some xs
  | _ => none
def fMinL : List D → Option O
  | [.lst (d :: ds)] => if alikeB (d :: ds) then some (.fr (minF d ds)) else none
  | [.tup (d :: ds)] => if alikeB (d :: ds) then some (.fr (minF d ds)) else none
  | _ => none
def fMaxL : List D → Option O
  | [.lst (d :: ds)] => if alikeB (d :: ds) then some (.fr (maxF d ds)) else none
  | [.tup (d :: ds)] => if alikeB (d :: ds) then some (.fr (maxF d ds)) else none
  | _ => none
def isTupC : D → Bool
  | .tup (_ :: _) => true
  | _ => false
def isTup : D → Bool
  | .tup _ => true
  | _ => false
/-- what sorted can order -/
def sortB (ds : List D) : Bool := alikeB ds && (ds.all isTupC || ds.all fun d => !isTup d)
def fSort : List D → Option O
  | [.lst ds] => if sortB ds then some (.ol ((ds.mergeSort leD).map .fr)) else none
  | _ => none
def fCount : D → List D → Option O
  | .lst ds, [k] => match ints? ds, k with
    | some ns, .int i => some (.fr (.int (ns.count i : Nat)))
    | _, _ => none
  | _, _ => none
/-- max(d.values()) -/
def vals? {κ : Type} : List (κ × D) → Option (List Int)
  | [] => some []
  | (_, .int i) :: r => (vals? r).map (i :: ·)
  | _ :: _ => none
def fMaxV : D → List D → Option O
  | .dk kvs, [] => match vals? kvs with
    | some (i :: is) => some (.fr (.int (maxI is i)))
    | _ => none
  | _, _ => none
def fNot : List D → Option D
  | [d] => d.truth.map fun b => .bl !b
  | _ => none
def fAddI : List D → Option O
  | [.int i, .int j] => oI (i + j)
  | _ => none
end Ev
end
section
set_option Elab.async false
set_option linter.all false
set_option maxRecDepth 100000
/-! EvRel: how data and owned objects lie in the abstract heap. -/
namespace Ev
open PySem PySem.Spec PyProof.Rows L2
abbrev St := L2.St
/-- a list, a tuple that nobody changes any more -/
def FzL (K : PySem.W.Frag) (H : Hp) (N : Addr → Prop) (a : Addr) (xs : List V) : Prop :=
  Rd H a (.lst xs) ∧ ¬ N a
def FzT (K : PySem.W.Frag) (H : Hp) (N : Addr → Prop) (a : Addr) (xs : List V) : Prop :=
  H a = some (.tup xs) ∧ ¬ N a
section
variable (K : PySem.W.Frag) (H : Hp) (N : Addr → Prop)
mutual
def Rep : V → D → Prop
  | v, .non => v = .non
  | v, .bl b => v = .bl b
  | v, .int i => v = .int i
  | v, .str s => v = .str s
  | v, .tup ds => ∃ a vs, v = .ref a ∧ FzT K H N a vs ∧ Reps vs ds
  | v, .lst ds => ∃ a vs, v = .ref a ∧ FzL K H N a vs ∧ Reps vs ds
  | v, .dk kvs => ∃ a ws, v = .ref a ∧ (Rd H a (.dK ws) ∧ ¬ N a) ∧ Repk ws kvs
  | v, .dt kvs => ∃ a ws, v = .ref a ∧ (H a = some (.dT ws) ∧ ¬ N a) ∧ Rept ws kvs
def Reps : List V → List D → Prop
  | vs, [] => vs = []
  | vs, d :: ds => ∃ v vr, vs = v :: vr ∧ Rep v d ∧ Reps vr ds
def Repk : List (Key × V) → List (Key × D) → Prop
  | ws, [] => ws = []
  | ws, (k, d) :: ds => ∃ v vr, ws = (k, v) :: vr ∧ Rep v d ∧ Repk vr ds
def Rept : List (List Key × V) → List (List Key × D) → Prop
  | ws, [] => ws = []
  | ws, (k, d) :: ds => ∃ v vr, ws = (k, v) :: vr ∧ Rep v d ∧ Rept vr ds
end
mutual
def RepO : V → O → List Addr → Prop
  | v, .fr d, fp => fp = [] ∧ Rep K H N v d
  | v, .ol os, fp => ∃ a vs fq, v = .ref a ∧ fp = a :: fq ∧ H a = some (.lst vs) ∧ RepOs vs os fq
  | v, .ok kvs, fp => ∃ a ws fq, v = .ref a ∧ fp = a :: fq ∧ H a = some (.dK ws) ∧ RepOk ws kvs fq
  | v, .ot kvs, fp => ∃ a ws fq, v = .ref a ∧ fp = a :: fq ∧ H a = some (.dT ws) ∧ RepOt ws kvs fq
def RepOs : List V → List O → List Addr → Prop
  | vs, [], fp => vs = [] ∧ fp = []
  | vs, o :: os, fp => ∃ v vr f1 f2, vs = v :: vr ∧ fp = f1 ++ f2 ∧ RepO v o f1 ∧ RepOs vr os f2
def RepOk : List (Key × V) → List (Key × O) → List Addr → Prop
  | vs, [], fp => vs = [] ∧ fp = []
  | vs, (k, o) :: os, fp => ∃ v vr f1 f2, vs = (k, v) :: vr ∧ fp = f1 ++ f2 ∧ RepO v o f1 ∧ RepOk vr os f2
def RepOt : List (List Key × V) → List (List Key × O) → List Addr → Prop
  | vs, [], fp => vs = [] ∧ fp = []
  | vs, (k, o) :: os, fp => ∃ v vr f1 f2, vs = (k, v) :: vr ∧ fp = f1 ++ f2 ∧ RepO v o f1 ∧ RepOt vr os f2
end
/-- the slots from k on -/
def RepE (σ : St) : Nat → Env → List Addr → Prop
  | _, [], fp => fp = []
  | k, none :: e, fp => RepE σ (k + 1) e fp
  | k, some o :: e, fp => ∃ v f1 f2, σ[k]? = some (some v) ∧ fp = f1 ++ f2 ∧ RepO K H N v o f1 ∧ RepE σ (k + 1) e f2
end
/-- what is tracked and not ours stands, and is not ours behind it -/
def Stb (H : Hp) (N : Addr → Prop) (H' : Hp) (N' : Addr → Prop) : Prop := ∀ a u, H a = some u → ¬ N a → H' a = some u ∧ ¬ N' a
theorem Stb.trans {H H1 H2 : Hp} {N N1 N2 : Addr → Prop} (x : Stb H N H1 N1) (y : Stb H1 N1 H2 N2) : Stb H N H2 N2 := fun a u h n => let ⟨h1, n1⟩ := x a u h n; y a u h1 n1
theorem Stb.refl {H : Hp} {N : Addr → Prop} : Stb H N H N := fun _ _ h n => ⟨h, n⟩
theorem Stb.weak {H H1 : Hp} {N N1 N2 : Addr → Prop} (x : Stb H N H1 N1) (h : ∀ a, N2 a → N1 a) : Stb H N H1 N2 := fun a u e n => let ⟨h1, n1⟩ := x a u e n; ⟨h1, fun z => n1 (h a z)⟩
theorem Stb.same {H : Hp} {N N2 : Addr → Prop} (h : ∀ a, N2 a → N a) : Stb H N H N2 := Stb.refl.weak h
section
variable {K : PySem.W.Frag} {H H' : Hp} {N N' : Addr → Prop}
theorem FzL.mono {a : Addr} {xs : List V} (s : Stb H N H' N') (h : FzL K H N a xs) : FzL K H' N' a xs := by
  obtain ⟨h | ⟨o, h⟩, n⟩ := h
  · obtain ⟨h1, n1⟩ := s _ _ h n
    exact ⟨.inl h1, n1⟩
  · obtain ⟨h1, n1⟩ := s _ _ h n
    exact ⟨.inr ⟨o, h1⟩, n1⟩
theorem FzT.mono {a : Addr} {xs : List V} (s : Stb H N H' N') (h : FzT K H N a xs) : FzT K H' N' a xs := s _ _ h.1 h.2
theorem FzL.rd {a : Addr} {xs : List V} (h : FzL K H N a xs) : Rd H a (.lst xs) := h.1
theorem FzL.sq {a : Addr} {xs : List V} (h : FzL K H N a xs) : SqL K H a xs := .inl h.1
theorem FzT.sq {a : Addr} {xs : List V} (h : FzT K H N a xs) : SqT K H a xs := SqT.of h.1
theorem rd_mono {a : Addr} {u : HO} (s : Stb H N H' N') (h : Rd H a u ∧ ¬ N a) : Rd H' a u ∧ ¬ N' a := by
  obtain ⟨h | ⟨o, h⟩, n⟩ := h
  · obtain ⟨h1, n1⟩ := s _ _ h n
    exact ⟨.inl h1, n1⟩
  · obtain ⟨h1, n1⟩ := s _ _ h n
    exact ⟨.inr ⟨o, h1⟩, n1⟩
mutual
theorem Rep.mono (s : Stb H N H' N') : ∀ (d : D) (v : V), Rep K H N v d → Rep K H' N' v d
  | .non, _, h => by unfold Rep at h ⊢; exact h
  | .bl _, _, h => by unfold Rep at h ⊢; exact h
  | .int _, _, h => by unfold Rep at h ⊢; exact h
  | .str _, _, h => by unfold Rep at h ⊢; exact h
  | .tup ds, _, h => by
    unfold Rep at h ⊢
    obtain ⟨a, vs, e, f, r⟩ := h
    exact ⟨a, vs, e, f.mono s, Reps.mono s ds vs r⟩
  | .lst ds, _, h => by
    unfold Rep at h ⊢
    obtain ⟨a, vs, e, f, r⟩ := h
    exact ⟨a, vs, e, f.mono s, Reps.mono s ds vs r⟩
  | .dk ds, _, h => by
    unfold Rep at h ⊢
    obtain ⟨a, vs, e, f, r⟩ := h
    exact ⟨a, vs, e, rd_mono s f, Repk.mono s ds vs r⟩
  | .dt ds, _, h => by
    unfold Rep at h ⊢
    obtain ⟨a, vs, e, f, r⟩ := h
    exact ⟨a, vs, e, s _ _ f.1 f.2, Rept.mono s ds vs r⟩
theorem Reps.mono (s : Stb H N H' N') : ∀ (ds : List D) (vs : List V), Reps K H N vs ds → Reps K H' N' vs ds
  | [], _, h => by unfold Reps at h ⊢; exact h
  | d :: ds, _, h => by
    unfold Reps at h ⊢
    obtain ⟨v, vr, e, a, b⟩ := h
    exact ⟨v, vr, e, Rep.mono s d v a, Reps.mono s ds vr b⟩
theorem Repk.mono (s : Stb H N H' N') : ∀ (ds : List (Key × D)) (vs : List (Key × V)), Repk K H N vs ds → Repk K H' N' vs ds
  | [], _, h => by unfold Repk at h ⊢; exact h
  | (k, d) :: ds, _, h => by
    unfold Repk at h ⊢
    obtain ⟨v, vr, e, a, b⟩ := h
    exact ⟨v, vr, e, Rep.mono s d v a, Repk.mono s ds vr b⟩
theorem Rept.mono (s : Stb H N H' N') : ∀ (ds : List (List Key × D)) (vs : List (List Key × V)), Rept K H N vs ds → Rept K H' N' vs ds
  | [], _, h => by unfold Rept at h ⊢; exact h
  | (k, d) :: ds, _, h => by
    unfold Rept at h ⊢
    obtain ⟨v, vr, e, a, b⟩ := h
    exact ⟨v, vr, e, Rep.mono s d v a, Rept.mono s ds vr b⟩
end
mutual
theorem RepO.mono (s : Stb H N H' N') : ∀ (o : O) (v : V) (f : List Addr), (∀ a ∈ f, H' a = H a) → RepO K H N v o f → RepO K H' N' v o f
  | .fr d, _, _, _, h => by
    unfold RepO at h ⊢
    exact ⟨h.1, Rep.mono s d _ h.2⟩
  | .ol os, _, _, hk, h => by
    unfold RepO at h ⊢
    obtain ⟨a, vs, fq, e1, e2, ha, r⟩ := h
    subst e2
    exact ⟨a, vs, fq, e1, rfl, by rw [hk a List.mem_cons_self]; exact ha, RepOs.mono s os vs fq (fun b hb => hk b (List.mem_cons_of_mem _ hb)) r⟩
  | .ok os, _, _, hk, h => by
    unfold RepO at h ⊢
    obtain ⟨a, vs, fq, e1, e2, ha, r⟩ := h
    subst e2
    exact ⟨a, vs, fq, e1, rfl, by rw [hk a List.mem_cons_self]; exact ha, RepOk.mono s os vs fq (fun b hb => hk b (List.mem_cons_of_mem _ hb)) r⟩
  | .ot os, _, _, hk, h => by
    unfold RepO at h ⊢
    obtain ⟨a, vs, fq, e1, e2, ha, r⟩ := h
    subst e2
    exact ⟨a, vs, fq, e1, rfl, by rw [hk a List.mem_cons_self]; exact ha, RepOt.mono s os vs fq (fun b hb => hk b (List.mem_cons_of_mem _ hb)) r⟩
theorem RepOs.mono (s : Stb H N H' N') : ∀ (os : List O) (vs : List V) (f : List Addr), (∀ a ∈ f, H' a = H a) → RepOs K H N vs os f → RepOs K H' N' vs os f
  | [], _, _, _, h => by unfold RepOs at h ⊢; exact h
  | o :: os, _, _, hk, h => by
    unfold RepOs at h ⊢
    obtain ⟨v, vr, f1, f2, e1, e2, a, b⟩ := h
    subst e2
    exact ⟨v, vr, f1, f2, e1, rfl, RepO.mono s o v f1 (fun c hc => hk c (List.mem_append_left _ hc)) a, RepOs.mono s os vr f2 (fun c hc => hk c (List.mem_append_right _ hc)) b⟩
theorem RepOk.mono (s : Stb H N H' N') : ∀ (os : List (Key × O)) (vs : List (Key × V)) (f : List Addr), (∀ a ∈ f, H' a = H a) → RepOk K H N vs os f → RepOk K H' N' vs os f
  | [], _, _, _, h => by unfold RepOk at h ⊢; exact h
  | (k, o) :: os, _, _, hk, h => by
    unfold RepOk at h ⊢
    obtain ⟨v, vr, f1, f2, e1, e2, a, b⟩ := h
    subst e2
    exact ⟨v, vr, f1, f2, e1, rfl, RepO.mono s o v f1 (fun c hc => hk c (List.mem_append_left _ hc)) a, RepOk.mono s os vr f2 (fun c hc => hk c (List.mem_append_right _ hc)) b⟩
theorem RepOt.mono (s : Stb H N H' N') : ∀ (os : List (List Key × O)) (vs : List (List Key × V)) (f : List Addr), (∀ a ∈ f, H' a = H a) → RepOt K H N vs os f → RepOt K H' N' vs os f
  | [], _, _, _, h => by unfold RepOt at h ⊢; exact h
  | (k, o) :: os, _, _, hk, h => by
    unfold RepOt at h ⊢
    obtain ⟨v, vr, f1, f2, e1, e2, a, b⟩ := h
    subst e2
    exact ⟨v, vr, f1, f2, e1, rfl, RepO.mono s o v f1 (fun c hc => hk c (List.mem_append_left _ hc)) a, RepOt.mono s os vr f2 (fun c hc => hk c (List.mem_append_right _ hc)) b⟩
end
theorem RepE.mono (s : Stb H N H' N') {σ : St} : ∀ (e : Env) (k : Nat) (f : List Addr), (∀ a ∈ f, H' a = H a) → RepE K H N σ k e f → RepE K H' N' σ k e f
  | [], _, _, _, h => by unfold RepE at h ⊢; exact h
  | none :: e, k, f, hk, h => by
    unfold RepE at h ⊢
    exact RepE.mono s e (k + 1) f hk h
  | some o :: e, k, f, hk, h => by
    unfold RepE at h ⊢
    obtain ⟨v, f1, f2, e1, e2, a, b⟩ := h
    subst e2
    exact ⟨v, f1, f2, e1, rfl, RepO.mono s o v f1 (fun c hc => hk c (List.mem_append_left _ hc)) a, RepE.mono s e (k + 1) f2 (fun c hc => hk c (List.mem_append_right _ hc)) b⟩
-- what is owned is tracked, and may be written
mutual
theorem RepO.own : ∀ (o : O) (v : V) (f : List Addr), RepO K H N v o f → ∀ a ∈ f, ∃ u, H a = some u ∧ Mut (some u)
  | .fr d, _, _, h, a, ha => by
    unfold RepO at h
    rw [h.1] at ha
    cases ha
  | .ol os, _, _, h, a, ha => by
    unfold RepO at h
    obtain ⟨b, vs, fq, e1, e2, hb, r⟩ := h
    subst e2
    rcases List.mem_cons.mp ha with e | ha
    · subst e
      exact ⟨_, hb, True.intro⟩
    · exact RepOs.own os vs fq r a ha
  | .ok os, _, _, h, a, ha => by
    unfold RepO at h
    obtain ⟨b, vs, fq, e1, e2, hb, r⟩ := h
    subst e2
    rcases List.mem_cons.mp ha with e | ha
    · subst e
      exact ⟨_, hb, True.intro⟩
    · exact RepOk.own os vs fq r a ha
  | .ot os, _, _, h, a, ha => by
    unfold RepO at h
    obtain ⟨b, vs, fq, e1, e2, hb, r⟩ := h
    subst e2
    rcases List.mem_cons.mp ha with e | ha
    · subst e
      exact ⟨_, hb, True.intro⟩
    · exact RepOt.own os vs fq r a ha
theorem RepOs.own : ∀ (os : List O) (vs : List V) (f : List Addr), RepOs K H N vs os f → ∀ a ∈ f, ∃ u, H a = some u ∧ Mut (some u)
  | [], _, _, h, a, ha => by
    unfold RepOs at h
    rw [h.2] at ha
    cases ha
  | o :: os, _, _, h, a, ha => by
    unfold RepOs at h
    obtain ⟨v, vr, f1, f2, e1, e2, r, q⟩ := h
    subst e2
    rcases List.mem_append.mp ha with ha | ha
    · exact RepO.own o v f1 r a ha
    · exact RepOs.own os vr f2 q a ha
theorem RepOk.own : ∀ (os : List (Key × O)) (vs : List (Key × V)) (f : List Addr), RepOk K H N vs os f → ∀ a ∈ f, ∃ u, H a = some u ∧ Mut (some u)
  | [], _, _, h, a, ha => by
    unfold RepOk at h
    rw [h.2] at ha
    cases ha
  | (k, o) :: os, _, _, h, a, ha => by
    unfold RepOk at h
    obtain ⟨v, vr, f1, f2, e1, e2, r, q⟩ := h
    subst e2
    rcases List.mem_append.mp ha with ha | ha
    · exact RepO.own o v f1 r a ha
    · exact RepOk.own os vr f2 q a ha
theorem RepOt.own : ∀ (os : List (List Key × O)) (vs : List (List Key × V)) (f : List Addr), RepOt K H N vs os f → ∀ a ∈ f, ∃ u, H a = some u ∧ Mut (some u)
  | [], _, _, h, a, ha => by
    unfold RepOt at h
    rw [h.2] at ha
    cases ha
  | (k, o) :: os, _, _, h, a, ha => by
    unfold RepOt at h
    obtain ⟨v, vr, f1, f2, e1, e2, r, q⟩ := h
    subst e2
    rcases List.mem_append.mp ha with ha | ha
    · exact RepO.own o v f1 r a ha
    · exact RepOt.own os vr f2 q a ha
end
theorem RepE.own {σ : St} : ∀ (e : Env) (k : Nat) (f : List Addr), RepE K H N σ k e f → ∀ a ∈ f, ∃ u, H a = some u ∧ Mut (some u)
  | [], _, _, h, a, ha => by
    unfold RepE at h
    rw [h] at ha
    cases ha
  | none :: e, k, f, h, a, ha => by
    unfold RepE at h
    exact RepE.own e (k + 1) f h a ha
  | some o :: e, k, f, h, a, ha => by
    unfold RepE at h
    obtain ⟨v, f1, f2, e1, e2, r, q⟩ := h
    subst e2
    rcases List.mem_append.mp ha with ha | ha
    · exact RepO.own o v f1 r a ha
    · exact RepE.own e (k + 1) f2 q a ha
-- owned no longer
mutual
theorem RepO.freeze (hn : ∀ a, N' a → N a) : ∀ (o : O) (v : V) (f : List Addr), (∀ a ∈ f, ¬ N' a) → RepO K H N v o f → Rep K H N' v o.thaw
  | .fr d, _, _, _, h => by
    unfold RepO at h
    rw [O.thaw]
    exact Rep.mono (Stb.same hn) d _ h.2
  | .ol os, _, _, hf, h => by
    unfold RepO at h
    obtain ⟨b, vs, fq, e1, e2, hb, r⟩ := h
    subst e2
    rw [O.thaw]
    unfold Rep
    exact ⟨b, vs, e1, ⟨.inl hb, hf b List.mem_cons_self⟩, RepOs.freeze hn os vs fq (fun c hc => hf c (List.mem_cons_of_mem _ hc)) r⟩
  | .ok os, _, _, hf, h => by
    unfold RepO at h
    obtain ⟨b, vs, fq, e1, e2, hb, r⟩ := h
    subst e2
    rw [O.thaw]
    unfold Rep
    exact ⟨b, vs, e1, ⟨.inl hb, hf b List.mem_cons_self⟩, RepOk.freeze hn os vs fq (fun c hc => hf c (List.mem_cons_of_mem _ hc)) r⟩
  | .ot os, _, _, hf, h => by
    unfold RepO at h
    obtain ⟨b, vs, fq, e1, e2, hb, r⟩ := h
    subst e2
    rw [O.thaw]
    unfold Rep
    exact ⟨b, vs, e1, ⟨hb, hf b List.mem_cons_self⟩, RepOt.freeze hn os vs fq (fun c hc => hf c (List.mem_cons_of_mem _ hc)) r⟩
theorem RepOs.freeze (hn : ∀ a, N' a → N a) : ∀ (os : List O) (vs : List V) (f : List Addr), (∀ a ∈ f, ¬ N' a) → RepOs K H N vs os f → Reps K H N' vs (O.thaws os)
  | [], _, _, _, h => by
    unfold RepOs at h
    rw [O.thaws]
    unfold Reps
    exact h.1
  | o :: os, _, _, hf, h => by
    unfold RepOs at h
    obtain ⟨v, vr, f1, f2, e1, e2, r, q⟩ := h
    subst e2
    rw [O.thaws]
    unfold Reps
    exact ⟨v, vr, e1, RepO.freeze hn o v f1 (fun c hc => hf c (List.mem_append_left _ hc)) r, RepOs.freeze hn os vr f2 (fun c hc => hf c (List.mem_append_right _ hc)) q⟩
theorem RepOk.freeze (hn : ∀ a, N' a → N a) : ∀ (os : List (Key × O)) (vs : List (Key × V)) (f : List Addr), (∀ a ∈ f, ¬ N' a) → RepOk K H N vs os f → Repk K H N' vs (O.thawk os)
  | [], _, _, _, h => by
    unfold RepOk at h
    rw [O.thawk]
    unfold Repk
    exact h.1
  | (k, o) :: os, _, _, hf, h => by
    unfold RepOk at h
    obtain ⟨v, vr, f1, f2, e1, e2, r, q⟩ := h
    subst e2
    rw [O.thawk]
    unfold Repk
    exact ⟨v, vr, e1, RepO.freeze hn o v f1 (fun c hc => hf c (List.mem_append_left _ hc)) r, RepOk.freeze hn os vr f2 (fun c hc => hf c (List.mem_append_right _ hc)) q⟩
theorem RepOt.freeze (hn : ∀ a, N' a → N a) : ∀ (os : List (List Key × O)) (vs : List (List Key × V)) (f : List Addr), (∀ a ∈ f, ¬ N' a) → RepOt K H N vs os f → Rept K H N' vs (O.thawt os)
  | [], _, _, _, h => by
    unfold RepOt at h
    rw [O.thawt]
    unfold Rept
    exact h.1
  | (k, o) :: os, _, _, hf, h => by
    unfold RepOt at h
    obtain ⟨v, vr, f1, f2, e1, e2, r, q⟩ := h
    subst e2
    rw [O.thawt]
    unfold Rept
    exact ⟨v, vr, e1, RepO.freeze hn o v f1 (fun c hc => hf c (List.mem_append_left _ hc)) r, RepOt.freeze hn os vr f2 (fun c hc => hf c (List.mem_append_right _ hc)) q⟩
end
end
end Ev
end
section
set_option Elab.async false
set_option linter.all false
set_option maxRecDepth 100000
namespace Ev
open PySem PySem.Spec PyProof.Rows L2
def Fp (F : Addr → Prop) (l : List Addr) : Addr → Prop := fun a => F a ∨ a ∈ l
def SlotOk (K : PySem.W.Frag) (H : Hp) (N : Addr → Prop) (σ : St) (j : Nat) : Option O → List Addr → Prop
  | none, f => f = []
  | some o, f => ∃ v, σ[j]? = some (some v) ∧ RepO K H N v o f
section
variable {K : PySem.W.Frag} {H : Hp} {N : Addr → Prop}
theorem RepE.split {σ : St} : ∀ (e : Env) (k i : Nat) (fp : List Addr), RepE K H N σ k e fp → i < e.length → ∃ A f B, fp = A ++ (f ++ B) ∧ SlotOk K H N σ (k + i) (e[i]?).join f ∧
    ∀ (H' : Hp) (N' : Addr → Prop) (σ' : St) (x : Option O) (f' : List Addr), Stb H N H' N' → (∀ a ∈ A ++ B, H' a = H a) → (∀ j, j ≠ k + i → σ'[j]? = σ[j]?) → SlotOk K H' N' σ' (k + i) x f' → RepE K H' N' σ' k (e.set i x) (A ++ (f' ++ B))
  | [], _, _, _, _, hi => absurd hi (Nat.not_lt_zero _)
  | none :: e, k, 0, fp, h, _ => by
    unfold RepE at h
    refine ⟨[], [], fp, rfl, rfl, fun H' N' σ' x f' s hk hσ hs => ?_⟩
    have ht : RepE K H' N' σ' (k + 1) e fp := by
      have h1 := RepE.mono s e (k + 1) fp hk h
      exact RepE.congr_slots h1 fun j hj => (hσ j (by omega)).symm
    cases x with
    | none =>
      have e1 : f' = [] := hs
      subst e1
      show RepE K H' N' σ' k (none :: e) _
      unfold RepE
      exact ht
    | some o =>
      obtain ⟨v, e1, r⟩ := hs
      show RepE K H' N' σ' k (some o :: e) _
      unfold RepE
      exact ⟨v, f', fp, e1, rfl, r, ht⟩
  | some o :: e, k, 0, fp, h, _ => by
    unfold RepE at h
    obtain ⟨v, f1, f2, e1, e2, r, q⟩ := h
    subst e2
    refine ⟨[], f1, f2, rfl, ⟨v, e1, r⟩, fun H' N' σ' x f' s hk hσ hs => ?_⟩
    have ht : RepE K H' N' σ' (k + 1) e f2 := by
      have h1 := RepE.mono s e (k + 1) f2 hk q
      exact RepE.congr_slots h1 fun j hj => (hσ j (by omega)).symm
    cases x with
    | none =>
      have e1 : f' = [] := hs
      subst e1
      show RepE K H' N' σ' k (none :: e) _
      unfold RepE
      exact ht
    | some o =>
      obtain ⟨v, e1, r⟩ := hs
      show RepE K H' N' σ' k (some o :: e) _
      unfold RepE
      exact ⟨v, f', f2, e1, rfl, r, ht⟩
  | none :: e, k, i + 1, fp, h, hi => by
    unfold RepE at h
    obtain ⟨A, f, B, e1, so, put⟩ := RepE.split e (k + 1) i fp h (Nat.lt_of_succ_lt_succ hi)
    have ek : k + 1 + i = k + (i + 1) := by omega
    rw [ek] at so put
    refine ⟨A, f, B, e1, so, fun H' N' σ' x f' s hk hσ hs => ?_⟩
    show RepE K H' N' σ' k (none :: e.set i x) _
    unfold RepE
    exact put H' N' σ' x f' s hk hσ hs
  | some o :: e, k, i + 1, fp, h, hi => by
    unfold RepE at h
    obtain ⟨v, f1, f2, e1, e2, r, q⟩ := h
    obtain ⟨A, f, B, e3, so, put⟩ := RepE.split e (k + 1) i f2 q (Nat.lt_of_succ_lt_succ hi)
    have ek : k + 1 + i = k + (i + 1) := by omega
    rw [ek] at so put
    subst e2 e3
    refine ⟨f1 ++ A, f, B, by simp [List.append_assoc], so, fun H' N' σ' x f' s hk hσ hs => ?_⟩
    show RepE K H' N' σ' k (some o :: e.set i x) _
    unfold RepE
    refine ⟨v, f1, A ++ (f' ++ B), by rw [hσ k (by omega)]; exact e1, by simp [List.append_assoc], RepO.mono s o v f1 (fun a ha => hk a (by simp [ha])) r, put H' N' σ' x f' s (fun a ha => hk a (by simp at ha ⊢; rcases ha with z | z <;> simp [z])) hσ hs⟩
where
  RepE.congr_slots {H' : Hp} {N' : Addr → Prop} {σ σ' : St} : ∀ {e : Env} {k : Nat} {f : List Addr}, RepE K H' N' σ k e f → (∀ j, k ≤ j → σ[j]? = σ'[j]?) → RepE K H' N' σ' k e f
    | [], _, _, h, _ => by unfold RepE at h ⊢; exact h
    | none :: e, k, f, h, hj => by
      unfold RepE at h ⊢
      exact RepE.congr_slots h fun j q => hj j (by omega)
    | some o :: e, k, f, h, hj => by
      unfold RepE at h ⊢
      obtain ⟨v, f1, f2, e1, e2, r, q⟩ := h
      exact ⟨v, f1, f2, by rw [← hj k (Nat.le_refl _)]; exact e1, e2, r, RepE.congr_slots q fun j z => hj j (by omega)⟩
end
structure Rel (K : PySem.W.Frag) (F : Addr → Prop) (H : Hp) (σ : St) (e : Env) (fp : List Addr) : Prop where
  rep : RepE K H (Fp F fp) σ 0 e fp
  nod : fp.Nodup
  dis : ∀ a ∈ fp, ¬ F a
  dom : ∀ a, F a → H a ≠ none
  len : e.length = σ.length
/-- what an operand's result is -/
def AtP (H : Hp) : V → Path → V → Prop
  | v, [], x => v = x
  | v, .ix n :: p, x => ∃ a vs w, v = .ref a ∧ H a = some (.lst vs) ∧ vs[n]? = some w ∧ AtP H w p x
  | v, .ky k :: p, x => ∃ a vs w, v = .ref a ∧ H a = some (.dK vs) ∧ kget vs k = some w ∧ AtP H w p x
  | v, .kt k :: p, x => ∃ a vs w, v = .ref a ∧ H a = some (.dT vs) ∧ kget vs k = some w ∧ AtP H w p x
def RepR (K : PySem.W.Frag) (H : Hp) (N : Addr → Prop) (σ : St) (e : Env) (v : V) : OR → List Addr → Prop
  | .v o, fv => RepO K H N v o fv
  | .r i p, fv => fv = [] ∧ ∃ w o q, σ[i]? = some (some w) ∧ e.at i = some o ∧ o.sub p = some q ∧ AtP H w p v
/-- behind an expression -/
structure Aft (K : PySem.W.Frag) (F : Addr → Prop) (H : Hp) (fp : List Addr) (σ : St) (H' : Hp) (e : Env) (fp' : List Addr) (v : V) (x : OR) (fv : List Addr) : Prop where
  rel : Rel K (Fp F fv) H' σ e fp'
  val : RepR K H' (Fp (Fp F fv) fp') σ e v x fv
  nod : fv.Nodup
  dis : ∀ a ∈ fv, ¬ F a
  stb : Stb H (Fp F fp) H' (Fp (Fp F fv) fp')
  kF : ∀ a, F a → H' a = H a
/-- .. several -/
def RepRs (K : PySem.W.Frag) (H : Hp) (N : Addr → Prop) (σ : St) (e : Env) : List V → List OR → List Addr → Prop
  | vs, [], f => vs = [] ∧ f = []
  | vs, x :: xs, f => ∃ v vr f1 f2, vs = v :: vr ∧ f = f1 ++ f2 ∧ RepR K H N σ e v x f1 ∧ RepRs K H N σ e vr xs f2
structure Afts (K : PySem.W.Frag) (F : Addr → Prop) (H : Hp) (fp : List Addr) (σ : St) (H' : Hp) (e : Env) (fp' : List Addr) (vs : List V) (xs : List OR) (fv : List Addr) : Prop where
  rel : Rel K (Fp F fv) H' σ e fp'
  val : RepRs K H' (Fp (Fp F fv) fp') σ e vs xs fv
  nod : fv.Nodup
  dis : ∀ a ∈ fv, ¬ F a
  stb : Stb H (Fp F fp) H' (Fp (Fp F fv) fp')
  kF : ∀ a, F a → H' a = H a
section
variable {K : PySem.W.Frag} {F : Addr → Prop} {H H' : Hp} {σ : St} {e : Env} {fp fv : List Addr}
theorem Fp.nil {a : Addr} : Fp F [] a ↔ F a := by simp [Fp]
theorem Fp.app {a : Addr} {l m : List Addr} : Fp (Fp F l) m a ↔ Fp F (l ++ m) a := by simp [Fp, or_assoc]
theorem Fp.left {a : Addr} {l : List Addr} (h : F a) : Fp F l a := .inl h
theorem Rel.own (R : Rel K F H σ e fp) : ∀ a ∈ fp, ∃ u, H a = some u ∧ Mut (some u) := RepE.own e 0 fp R.rep
theorem Rel.dom2 (R : Rel K F H σ e fp) : ∀ a, Fp F fp a → H a ≠ none := fun a h => by
  rcases h with h | h
  · exact R.dom a h
  · obtain ⟨u, e, _⟩ := R.own a h
    rw [e]
    exact fun z => nomatch z
/-- fewer foreign ones -/
theorem Rel.shrink {F' : Addr → Prop} (R : Rel K F' H σ e fp) (h : ∀ a, F a → F' a) : Rel K F H σ e fp :=
  ⟨RepE.mono (Stb.same fun a z => z.imp (h a) id) e 0 fp (fun _ _ => rfl) R.rep, R.nod, fun a ha z => R.dis a ha (h a z), fun a z => R.dom a (h a z), R.len⟩
/-- the heap has moved on, ours as it was -/
theorem Rel.move {F' : Addr → Prop} (R : Rel K F H σ e fp) (s : Stb H (Fp F fp) H' (Fp F' fp)) (hk : ∀ a ∈ fp, H' a = H a) (hd : ∀ a ∈ fp, ¬ F' a) (hF : ∀ a, F' a → H' a ≠ none) : Rel K F' H' σ e fp :=
  ⟨RepE.mono s e 0 fp hk R.rep, R.nod, hd, hF, R.len⟩
end
end Ev
end
section
set_option Elab.async false
set_option linter.all false
set_option maxRecDepth 100000
namespace Ev
open PySem PySem.Spec PyProof.Rows L2
abbrev XP := Exn → Env → St → Hp → Prop
theorem wp_bind {α β : Type} {m : Ev α} {f : α → Ev β} {e : Env} {P : β → Env → Prop} {W : Exn → Env → Prop} (h : (m.bind f e).wp P W) : (m e).wp (fun a e1 => (f a e1).wp P W) W := by
  unfold Ev.bind at h
  cases q : m e with
  | ok a e1 => rw [q] at h; exact h
  | exc x e1 => rw [q] at h; exact h
  | fail => rw [q] at h; exact h
theorem wp_mono {α : Type} {r : Rs α} {P P' : α → Env → Prop} {W W' : Exn → Env → Prop} (h : r.wp P W) (hp : ∀ a e, P a e → P' a e) (hw : ∀ x e, W x e → W' x e) : r.wp P' W' := by
  cases r with
  | ok a e => exact hp a e h
  | exc x e => exact hw x e h
  | fail => exact h
theorem Fp.nil_eq {F : Addr → Prop} : Fp F [] = F := funext fun a => propext Fp.nil
theorem Fp.app_eq {F : Addr → Prop} {l m : List Addr} : Fp (Fp F l) m = Fp F (l ++ m) := funext fun a => propext Fp.app
theorem Fp.comm_eq {F : Addr → Prop} {l m : List Addr} : Fp (Fp F l) m = Fp (Fp F m) l := funext fun a => propext (by simp [Fp, or_assoc, or_comm (a := a ∈ l)])
/-- conditional: what the reference leads to, as long as it leads anywhere -/
def RepR' (K : PySem.W.Frag) (H : Hp) (N : Addr → Prop) (σ : St) (e : Env) (v : V) : OR → List Addr → Prop
  | .v o, fv => RepO K H N v o fv
  | .r i p, fv => fv = [] ∧ ∃ w, σ[i]? = some (some w) ∧ (p = [] → w = v) ∧ ∀ o q, e.at i = some o → o.sub p = some q → AtP H w p v
structure Gone (K : PySem.W.Frag) (F : Addr → Prop) (H : Hp) (fp : List Addr) (σ : St) (H' : Hp) (e : Env) (fp' : List Addr) : Prop where
  rel : Rel K F H' σ e fp'
  stb : Stb H (Fp F fp) H' (Fp F fp')
  kF : ∀ a, F a → H' a = H a
structure Af (K : PySem.W.Frag) (F : Addr → Prop) (H : Hp) (fp : List Addr) (σ : St) (H' : Hp) (e : Env) (fp' : List Addr) (v : V) (x : OR) (fv : List Addr) : Prop where
  rel : Rel K (Fp F fv) H' σ e fp'
  val : RepR' K H' (Fp (Fp F fv) fp') σ e v x fv
  nod : fv.Nodup
  dis : ∀ a ∈ fv, ¬ F a
  stb : Stb H (Fp F fp) H' (Fp (Fp F fv) fp')
  kF : ∀ a, F a → H' a = H a
def RepRs' (K : PySem.W.Frag) (H : Hp) (N : Addr → Prop) (σ : St) (e : Env) : List V → List OR → List Addr → Prop
  | vs, [], f => vs = [] ∧ f = []
  | vs, x :: xs, f => ∃ v vr f1 f2, vs = v :: vr ∧ f = f1 ++ f2 ∧ RepR' K H N σ e v x f1 ∧ RepRs' K H N σ e vr xs f2
structure Afs (K : PySem.W.Frag) (F : Addr → Prop) (H : Hp) (fp : List Addr) (σ : St) (H' : Hp) (e : Env) (fp' : List Addr) (vs : List V) (xs : List OR) (fv : List Addr) : Prop where
  rel : Rel K (Fp F fv) H' σ e fp'
  val : RepRs' K H' (Fp (Fp F fv) fp') σ e vs xs fv
  nod : fv.Nodup
  dis : ∀ a ∈ fv, ¬ F a
  stb : Stb H (Fp F fp) H' (Fp (Fp F fv) fp')
  kF : ∀ a, F a → H' a = H a
section
variable {K : PySem.W.Frag} {F : Addr → Prop} {H H1 H2 : Hp} {σ : St} {e e1 e2 : Env} {fp fp1 fp2 fv fw : List Addr} {v : V} {vs : List V} {x : OR} {xs : List OR}
/-- nothing has happened -/
theorem Af.now (R : Rel K F H σ e fp) (h : RepR' K H (Fp F fp) σ e v x []) : Af K F H fp σ H e fp v x [] :=
  ⟨by rw [Fp.nil_eq]; exact R, by rw [Fp.nil_eq]; exact h, List.nodup_nil, (fun _ z => nomatch z), by rw [Fp.nil_eq]; exact Stb.refl, fun _ _ => rfl⟩
theorem Afs.now (R : Rel K F H σ e fp) : Afs K F H fp σ H e fp [] [] [] :=
  ⟨by rw [Fp.nil_eq]; exact R, ⟨rfl, rfl⟩, List.nodup_nil, (fun _ z => nomatch z), by rw [Fp.nil_eq]; exact Stb.refl, fun _ _ => rfl⟩
/-- of a path, as long as slots and heap stand -/
def Stays (H1 : Hp) (e1 : Env) (H2 : Hp) (e2 : Env) : Prop := e2 = e1 ∧ ∀ a u, H1 a = some u → H2 a = some u
theorem AtP.mono (h : ∀ a u, H1 a = some u → H2 a = some u) : ∀ (p : Path) (w v : V), AtP H1 w p v → AtP H2 w p v
  | [], _, _, q => q
  | .ix n :: p, w, v, ⟨a, vs, u, e, ea, eu, q⟩ => ⟨a, vs, u, e, h _ _ ea, eu, AtP.mono h p u v q⟩
  | .ky n :: p, w, v, ⟨a, vs, u, e, ea, eu, q⟩ => ⟨a, vs, u, e, h _ _ ea, eu, AtP.mono h p u v q⟩
  | .kt n :: p, w, v, ⟨a, vs, u, e, ea, eu, q⟩ => ⟨a, vs, u, e, h _ _ ea, eu, AtP.mono h p u v q⟩
/-- one operand's result, when the others have come too -/
theorem RepR'.later {N1 N2 : Addr → Prop} (h : RepR' K H1 N1 σ e1 v x fv) (s : Stb H1 N1 H2 N2) (k : ∀ a ∈ fv, H2 a = H1 a) (hx : x.root = true ∨ Stays H1 e1 H2 e2) : RepR' K H2 N2 σ e2 v x fv := by
  cases x with
  | v o => exact RepO.mono s o v fv k h
  | r i p =>
    obtain ⟨e0, w, hw, h0, hp⟩ := h
    refine ⟨e0, w, hw, h0, fun o q ho hq => ?_⟩
    cases p with
    | nil => exact h0 rfl
    | cons s p =>
      rcases hx with hx | ⟨ee, hh⟩
      · cases s <;> cases hx
      · subst ee
        exact AtP.mono hh _ _ _ (hp o q ho hq)
theorem RepRs'.later {N1 N2 : Addr → Prop} (s : Stb H1 N1 H2 N2) : ∀ (xs : List OR) (vs : List V) (fv : List Addr), (∀ a ∈ fv, H2 a = H1 a) → (∀ x ∈ xs, x.root = true) → RepRs' K H1 N1 σ e1 vs xs fv → RepRs' K H2 N2 σ e2 vs xs fv
  | [], _, _, _, _, h => h
  | x :: xs, _, _, k, hx, h => by
    obtain ⟨v, vr, f1, f2, a, b, c, d⟩ := h
    subst b
    exact ⟨v, vr, f1, f2, a, rfl, c.later s (fun a ha => k a (List.mem_append_left _ ha)) (.inl (hx x List.mem_cons_self)), RepRs'.later s xs vr f2 (fun a ha => k a (List.mem_append_right _ ha)) (fun y hy => hx y (List.mem_cons_of_mem _ hy)) d⟩
/-- one operand, then the others -/
theorem Af.cons (A : Af K F H fp σ H1 e1 fp1 v x fv) (B : Afs K (Fp F fv) H1 fp1 σ H2 e2 fp2 vs xs fw) (hx : x.root = true ∨ Stays H1 e1 H2 e2) : Afs K F H fp σ H2 e2 fp2 (v :: vs) (x :: xs) (fv ++ fw) := by
  have eN : Fp (Fp (Fp F fv) fw) fp2 = Fp (Fp F (fv ++ fw)) fp2 := by rw [Fp.app_eq (F := F)]
  refine ⟨by rw [← Fp.app_eq]; exact B.rel, ⟨v, vs, fv, fw, rfl, rfl, ?_, ?_⟩, ?_, ?_, ?_, ?_⟩
  · rw [← eN]
    exact A.val.later B.stb (fun a ha => B.kF a (.inr ha)) hx
  · rw [← eN]
    exact B.val
  · exact List.nodup_append.mpr ⟨A.nod, B.nod, fun a ha b hb e => B.dis b hb (.inr (e ▸ ha))⟩
  · intro a ha
    rcases List.mem_append.mp ha with h | h
    · exact A.dis a h
    · exact fun z => B.dis a h (.inl z)
  · rw [← eN]
    exact A.stb.trans B.stb
  · exact fun a h => (B.kF a (.inl h)).trans (A.kF a h)
theorem Gone.lift (A : Af K F H fp σ H1 e1 fp1 v x fv) (G : Gone K (Fp F fv) H1 fp1 σ H2 e2 fp2) : Gone K F H fp σ H2 e2 fp2 :=
  ⟨G.rel.shrink fun a z => .inl z, A.stb.trans (G.stb.weak fun a z => z.imp .inl id), fun a z => (G.kF a (.inl z)).trans (A.kF a z)⟩
end
/-! ### readings by what is computed -/
def tR (K : PySem.W.Frag) (W : XP) (m : Ev OR) : TE := fun σ H Q => ∃ F e fp, Rel K F H σ e fp ∧ (m e).wp (fun x e' => ∀ v H' fp' fv, Af K F H fp σ H' e' fp' v x fv → Q v H') (fun x e' => ∀ H' fp', Gone K F H fp σ H' e' fp' → W x e' σ H')
def tA (K : PySem.W.Frag) (W : XP) (m : Ev (List OR)) : TA := fun σ H Q => ∃ F e fp, Rel K F H σ e fp ∧ (m e).wp (fun xs e' => ∀ vs H' fp' fv, Afs K F H fp σ H' e' fp' vs xs fv → Q vs H') (fun x e' => ∀ H' fp', Gone K F H fp σ H' e' fp' → W x e' σ H')
theorem _root_.L2.PE.to {X : Cx} {e : Expr} {t t' : TE} (h : PE X e t) (q : ∀ σ H Q, t' σ H Q → t σ H Q) : PE X e t' := ⟨fun pins s σ H Q I z => h.run pins s σ H Q I (q σ H Q z)⟩
theorem _root_.L2.PA.to {X : Cx} {e : List Expr} {t t' : TA} (h : PA X e t) (q : ∀ σ H Q, t' σ H Q → t σ H Q) : PA X e t' := ⟨fun pos pins s σ H Q I z => h.run pos pins s σ H Q I (q σ H Q z)⟩
theorem _root_.L2.PT.to {X : Cx} {e : Expr} {t t' : TT} (h : PT X e t) (q : ∀ σ H Q, t' σ H Q → t σ H Q) : PT X e t' := ⟨fun pins s σ H Q I z => h.run pins s σ H Q I (q σ H Q z)⟩
theorem _root_.L2.PS.to {X : Cx} {e : Stmt} {t t' : TS} (h : PS X e t) (q : ∀ D σ H, t' D σ H → t D σ H) : PS X e t' := ⟨fun pins s σ H D I z => h.run pins s σ H D I (q D σ H z)⟩
theorem _root_.L2.PSs.to {X : Cx} {e : List Stmt} {t t' : TS} (h : PSs X e t) (q : ∀ D σ H, t' D σ H → t D σ H) : PSs X e t' := ⟨fun pins s σ H D I z => h.run pins s σ H D I (q D σ H z)⟩
/-- an operand whose result never is a path into an object -/
def Rooty (m : Ev OR) : Prop := ∀ e x e', m e = .ok x e' → x.root = true
/-- an operand that changes nothing -/
def Keeps (m : Ev OR) : Prop := ∀ e x e', m e = .ok x e' → e' = e
section
variable {K : PySem.W.Frag} {W : XP} {m : Ev OR} {ms : List (Ev OR)} {σ : St} {H : Hp}
theorem mArgs_cons (m : Ev OR) (m2 : Ev OR) (ms : List (Ev OR)) : mArgs (m :: m2 :: ms) = m.bind fun x => match x.root with
    | true => (mArgs (m2 :: ms)).bind fun xs => .ret (x :: xs)
    | false => .fail := rfl
theorem tA_nil {Q : List V → Hp → Prop} (h : tA K W (mArgs []) σ H Q) : Q [] H := by
  obtain ⟨F, e, fp, R, q⟩ := h
  exact q [] H fp [] (Afs.now R)
theorem tA_last {Q : List V → Hp → Prop} (h : tA K W (mArgs [m]) σ H Q) : tR K W m σ H fun v H1 => Q [v] H1 := by
  obtain ⟨F, e, fp, R, q⟩ := h
  refine ⟨F, e, fp, R, ?_⟩
  refine wp_mono (wp_bind q) (fun x e1 z v H1 fp1 fv A => ?_) fun _ _ z => z
  have B : Afs K F H fp σ H1 e1 fp1 [v] [x] fv := ⟨A.rel, ⟨v, [], fv, [], rfl, (List.append_nil _).symm, A.val, rfl, rfl⟩, A.nod, A.dis, A.stb, A.kF⟩
  exact z [v] H1 fp1 fv B
theorem tA_cons {m2 : Ev OR} {Q : List V → Hp → Prop} (h : tA K W (mArgs (m :: m2 :: ms)) σ H Q) : tR K W m σ H fun v H1 => tA K W (mArgs (m2 :: ms)) σ H1 fun vs H2 => Q (v :: vs) H2 := by
  obtain ⟨F, e, fp, R, q⟩ := h
  refine ⟨F, e, fp, R, ?_⟩
  rw [mArgs_cons] at q
  refine wp_mono (wp_bind q) (fun x e1 z v H1 fp1 fv A => ?_) fun _ _ z => z
  cases hx : x.root with
  | false => rw [hx] at z; exact z.elim
  | true =>
    rw [hx] at z
    refine ⟨Fp F fv, e1, fp1, A.rel, wp_mono (wp_bind z) (fun xs e2 z2 vs H2 fp2 fw B => ?_) fun y e2 z2 H2 fp2 G => z2 H2 fp2 (Gone.lift A G)⟩
    exact z2 (v :: vs) H2 fp2 (fv ++ fw) (A.cons B (.inl hx))
end
section
variable {X : Cx} {W : XP} {m m2 m3 : Ev OR} {ms : List (Ev OR)} {e e2 : Expr} {es : List Expr}
theorem a0 : PA X [] (tA X.K W (mArgs [])) := pa_nil.to fun _ _ _ h => tA_nil h
theorem a1 (h : PE X e (tR X.K W m)) (hs : starEach [e] X.env = (false, eval e X.env) :: starEach [] X.env := by rfl) : PA X [e] (tA X.K W (mArgs [m])) := (pa_cons h pa_nil hs).to fun _ _ _ q => tA_last q
theorem a2 (h : PE X e (tR X.K W m)) (hr : PA X (e2 :: es) (tA X.K W (mArgs (m2 :: ms)))) (hs : starEach (e :: e2 :: es) X.env = (false, eval e X.env) :: starEach (e2 :: es) X.env := by rfl) :
    PA X (e :: e2 :: es) (tA X.K W (mArgs (m :: m2 :: ms))) := (pa_cons h hr hs).to fun _ _ _ q => tA_cons q
end
end Ev
end
section
set_option Elab.async false
set_option linter.all false
set_option maxRecDepth 100000
namespace Ev
open PySem PySem.Spec PyProof.Rows L2
section
variable {K : PySem.W.Frag} {F : Addr → Prop} {H H1 H2 : Hp} {N N' : Addr → Prop} {σ : St} {e e1 e2 : Env} {fp fp1 fp2 fv fw : List Addr} {v w : V} {o q : O} {i : Nat}
theorem at_some (h : e.at i = some o) : i < e.length ∧ (e[i]?).join = some o := by
  unfold Env.at at h
  refine ⟨?_, h⟩
  by_cases z : i < e.length
  · exact z
  · rw [List.getElem?_eq_none (by omega)] at h
    cases h
/-- a slot's object, with its place among what is owned -/
theorem Rel.slot (R : Rel K F H σ e fp) (h : e.at i = some o) : ∃ A f B v, fp = A ++ (f ++ B) ∧ σ[i]? = some (some v) ∧ RepO K H (Fp F fp) v o f ∧
    ∀ (H' : Hp) (N' : Addr → Prop) (σ' : St) (x : Option O) (f' : List Addr), Stb H (Fp F fp) H' N' → (∀ a ∈ A ++ B, H' a = H a) → (∀ j, j ≠ i → σ'[j]? = σ[j]?) → SlotOk K H' N' σ' i x f' → RepE K H' N' σ' 0 (e.set i x) (A ++ (f' ++ B)) := by
  obtain ⟨hi, hj⟩ := at_some h
  obtain ⟨A, f, B, e1, so, put⟩ := RepE.split e 0 i fp R.rep hi
  rw [Nat.zero_add] at so put
  rw [hj] at so
  obtain ⟨v, e2, r⟩ := so
  exact ⟨A, f, B, v, e1, e2, r, put⟩
theorem kget_rep {κ α β : Type} [DecidableEq κ] {P : α → β → Prop} {k : κ} : ∀ {ws : List (κ × α)} {kvs : List (κ × β)} {b : β}, ws.map (·.1) = kvs.map (·.1) → (∀ (j : Nat) a b, ws[j]? = some a → kvs[j]? = some b → P a.2 b.2) → kget kvs k = some b → ∃ a, kget ws k = some a ∧ P a b
  | [], [], _, _, _, h => nomatch h
  | [], _ :: _, _, h, _, _ => nomatch h
  | _ :: _, [], _, h, _, _ => nomatch h
  | (k1, a) :: ws, (k2, b1) :: kvs, b, h, hp, hg => by
    simp only [List.map_cons, List.cons.injEq] at h
    obtain ⟨h1, h2⟩ := h
    subst h1
    unfold kget at hg ⊢
    by_cases z : k1 = k
    · rw [if_pos z] at hg ⊢
      cases hg
      exact ⟨a, rfl, hp 0 _ _ rfl rfl⟩
    · rw [if_neg z] at hg ⊢
      exact kget_rep h2 (fun j x y hx hy => hp (j + 1) x y hx hy) hg
theorem RepOs.at_ : ∀ (os : List O) (vs : List V) (f : List Addr) (n : Nat), RepOs K H N vs os f → ∀ o, os[n]? = some o → ∃ v g, vs[n]? = some v ∧ RepO K H N v o g ∧ (∀ a ∈ g, a ∈ f)
  | [], _, _, _, _, _, h => by simp at h
  | o :: os, _, _, 0, h, o1, e => by
    unfold RepOs at h
    obtain ⟨v, vr, f1, f2, e1, e2, r, q⟩ := h
    subst e1 e2
    simp at e
    subst e
    exact ⟨v, f1, rfl, r, fun a ha => List.mem_append_left _ ha⟩
  | o :: os, _, _, n + 1, h, o1, e => by
    unfold RepOs at h
    obtain ⟨v, vr, f1, f2, e1, e2, r, q⟩ := h
    subst e1 e2
    obtain ⟨v1, g, a, b, c⟩ := RepOs.at_ os vr f2 n q o1 (by simpa using e)
    exact ⟨v1, g, by simpa using a, b, fun a ha => List.mem_append_right _ (c a ha)⟩
theorem RepOk.at_ : ∀ (os : List (Key × O)) (vs : List (Key × V)) (f : List Addr) (k : Key), RepOk K H N vs os f → ∀ o, kget os k = some o → ∃ v g, kget vs k = some v ∧ RepO K H N v o g ∧ (∀ a ∈ g, a ∈ f)
  | [], _, _, _, _, _, h => by simp [kget] at h
  | (k1, o) :: os, _, _, k, h, o1, e => by
    unfold RepOk at h
    obtain ⟨v, vr, f1, f2, e1, e2, r, q⟩ := h
    subst e1 e2
    unfold kget at e ⊢
    by_cases z : k1 = k
    · rw [if_pos z] at e ⊢
      cases e
      exact ⟨v, f1, rfl, r, fun a ha => List.mem_append_left _ ha⟩
    · rw [if_neg z] at e ⊢
      obtain ⟨v1, g, a, b, c⟩ := RepOk.at_ os vr f2 k q o1 e
      exact ⟨v1, g, a, b, fun a ha => List.mem_append_right _ (c a ha)⟩
theorem RepOt.at_ : ∀ (os : List (List Key × O)) (vs : List (List Key × V)) (f : List Addr) (k : List Key), RepOt K H N vs os f → ∀ o, kget os k = some o → ∃ v g, kget vs k = some v ∧ RepO K H N v o g ∧ (∀ a ∈ g, a ∈ f)
  | [], _, _, _, _, _, h => by simp [kget] at h
  | (k1, o) :: os, _, _, k, h, o1, e => by
    unfold RepOt at h
    obtain ⟨v, vr, f1, f2, e1, e2, r, q⟩ := h
    subst e1 e2
    unfold kget at e ⊢
    by_cases z : k1 = k
    · rw [if_pos z] at e ⊢
      cases e
      exact ⟨v, f1, rfl, r, fun a ha => List.mem_append_left _ ha⟩
    · rw [if_neg z] at e ⊢
      obtain ⟨v1, g, a, b, c⟩ := RepOt.at_ os vr f2 k q o1 e
      exact ⟨v1, g, a, b, fun a ha => List.mem_append_right _ (c a ha)⟩
/-- along a path -/
theorem RepO.along : ∀ (p : Path) (o q : O) (w v : V) (f : List Addr), RepO K H N w o f → o.sub p = some q → AtP H w p v → ∃ g, RepO K H N v q g ∧ ∀ a ∈ g, a ∈ f
  | [], o, q, w, v, f, r, h, a => by
    unfold O.sub at h
    cases h
    have e : w = v := a
    subst e
    exact ⟨f, r, fun _ z => z⟩
  | .ix n :: p, o, q, w, v, f, r, h, a => by
    cases o with
    | ol xs =>
      unfold O.sub at h
      unfold RepO at r
      obtain ⟨b, vs, fq, e1, e2, hb, rs⟩ := r
      obtain ⟨b', vs', u, e3, hb', hu, ar⟩ := a
      rw [e1] at e3
      cases e3
      rw [hb] at hb'
      cases hb'
      cases hx : xs[n]? with
      | none => rw [hx] at h; cases h
      | some o1 =>
        rw [hx] at h
        obtain ⟨v1, g, g1, g2, g3⟩ := RepOs.at_ xs vs fq n rs o1 hx
        rw [hu] at g1
        cases g1
        obtain ⟨g', q1, q2⟩ := RepO.along p o1 q u v g g2 h ar
        exact ⟨g', q1, fun c hc => by rw [e2]; exact List.mem_cons_of_mem _ (g3 c (q2 c hc))⟩
    | fr d => unfold O.sub at h; cases h
    | ok d => unfold O.sub at h; cases h
    | ot d => unfold O.sub at h; cases h
  | .ky n :: p, o, q, w, v, f, r, h, a => by
    cases o with
    | ok xs =>
      unfold O.sub at h
      unfold RepO at r
      obtain ⟨b, vs, fq, e1, e2, hb, rs⟩ := r
      obtain ⟨b', vs', u, e3, hb', hu, ar⟩ := a
      rw [e1] at e3
      cases e3
      rw [hb] at hb'
      cases hb'
      cases hx : kget xs n with
      | none => rw [hx] at h; cases h
      | some o1 =>
        rw [hx] at h
        obtain ⟨v1, g, g1, g2, g3⟩ := RepOk.at_ xs vs fq n rs o1 hx
        rw [hu] at g1
        cases g1
        obtain ⟨g', q1, q2⟩ := RepO.along p o1 q u v g g2 h ar
        exact ⟨g', q1, fun c hc => by rw [e2]; exact List.mem_cons_of_mem _ (g3 c (q2 c hc))⟩
    | fr d => unfold O.sub at h; cases h
    | ol d => unfold O.sub at h; cases h
    | ot d => unfold O.sub at h; cases h
  | .kt n :: p, o, q, w, v, f, r, h, a => by
    cases o with
    | ot xs =>
      unfold O.sub at h
      unfold RepO at r
      obtain ⟨b, vs, fq, e1, e2, hb, rs⟩ := r
      obtain ⟨b', vs', u, e3, hb', hu, ar⟩ := a
      rw [e1] at e3
      cases e3
      rw [hb] at hb'
      cases hb'
      cases hx : kget xs n with
      | none => rw [hx] at h; cases h
      | some o1 =>
        rw [hx] at h
        obtain ⟨v1, g, g1, g2, g3⟩ := RepOt.at_ xs vs fq n rs o1 hx
        rw [hu] at g1
        cases g1
        obtain ⟨g', q1, q2⟩ := RepO.along p o1 q u v g g2 h ar
        exact ⟨g', q1, fun c hc => by rw [e2]; exact List.mem_cons_of_mem _ (g3 c (q2 c hc))⟩
    | fr d => unfold O.sub at h; cases h
    | ol d => unfold O.sub at h; cases h
    | ok d => unfold O.sub at h; cases h
/-! ### data at the top of which an owned object may stand -/
def Rep1 (K : PySem.W.Frag) (H : Hp) (N : Addr → Prop) : V → D → Prop
  | v, .lst ds => ∃ a vs, v = .ref a ∧ Rd H a (.lst vs) ∧ Reps K H N vs ds
  | v, .dk kvs => ∃ a ws, v = .ref a ∧ Rd H a (.dK ws) ∧ Repk K H N ws kvs
  | v, .dt kvs => ∃ a ws, v = .ref a ∧ H a = some (.dT ws) ∧ Rept K H N ws kvs
  | v, d => Rep K H N v d
def Rep1s (K : PySem.W.Frag) (H : Hp) (N : Addr → Prop) : List V → List D → Prop
  | vs, [] => vs = []
  | vs, d :: ds => ∃ v vr, vs = v :: vr ∧ Rep1 K H N v d ∧ Rep1s K H N vr ds
theorem Rep.one {d : D} (h : Rep K H N v d) : Rep1 K H N v d := by
  cases d with
  | lst ds =>
    unfold Rep at h
    obtain ⟨a, vs, e, f, r⟩ := h
    exact ⟨a, vs, e, f.rd, r⟩
  | dk ds =>
    unfold Rep at h
    obtain ⟨a, vs, e, f, r⟩ := h
    exact ⟨a, vs, e, f.1, r⟩
  | dt ds =>
    unfold Rep at h
    obtain ⟨a, vs, e, f, r⟩ := h
    exact ⟨a, vs, e, f.1, r⟩
  | _ => exact h
theorem frs_rep : ∀ (os : List O) (vs : List V) (f : List Addr) (ds : List D), RepOs K H N vs os f → frs os = some ds → Reps K H N vs ds
  | [], vs, f, ds, r, h => by
    unfold frs at h
    cases h
    unfold RepOs at r
    unfold Reps
    exact r.1
  | .fr d :: os, vs, f, ds, r, h => by
    unfold frs at h
    unfold RepOs at r
    obtain ⟨v, vr, f1, f2, e1, e2, a, b⟩ := r
    cases q : frs os with
    | none => rw [q] at h; cases h
    | some dr =>
      rw [q] at h
      cases h
      unfold RepO at a
      unfold Reps
      exact ⟨v, vr, e1, a.2, frs_rep os vr f2 dr b q⟩
  | .ol _ :: _, _, _, _, _, h => by unfold frs at h; cases h
  | .ok _ :: _, _, _, _, _, h => by unfold frs at h; cases h
  | .ot _ :: _, _, _, _, _, h => by unfold frs at h; cases h
theorem frk_rep : ∀ (os : List (Key × O)) (vs : List (Key × V)) (f : List Addr) (ds : List (Key × D)), RepOk K H N vs os f → frk os = some ds → Repk K H N vs ds
  | [], vs, f, ds, r, h => by
    unfold frk at h
    cases h
    unfold RepOk at r
    unfold Repk
    exact r.1
  | (k, .fr d) :: os, vs, f, ds, r, h => by
    unfold frk at h
    unfold RepOk at r
    obtain ⟨v, vr, f1, f2, e1, e2, a, b⟩ := r
    cases q : frk os with
    | none => rw [q] at h; cases h
    | some dr =>
      rw [q] at h
      cases h
      unfold RepO at a
      unfold Repk
      exact ⟨v, vr, e1, a.2, frk_rep os vr f2 dr b q⟩
  | (_, .ol _) :: _, _, _, _, _, h => by unfold frk at h; cases h
  | (_, .ok _) :: _, _, _, _, _, h => by unfold frk at h; cases h
  | (_, .ot _) :: _, _, _, _, _, h => by unfold frk at h; cases h
theorem frt_rep : ∀ (os : List (List Key × O)) (vs : List (List Key × V)) (f : List Addr) (ds : List (List Key × D)), RepOt K H N vs os f → frk os = some ds → Rept K H N vs ds
  | [], vs, f, ds, r, h => by
    unfold frk at h
    cases h
    unfold RepOt at r
    unfold Rept
    exact r.1
  | (k, .fr d) :: os, vs, f, ds, r, h => by
    unfold frk at h
    unfold RepOt at r
    obtain ⟨v, vr, f1, f2, e1, e2, a, b⟩ := r
    cases q : frk os with
    | none => rw [q] at h; cases h
    | some dr =>
      rw [q] at h
      cases h
      unfold RepO at a
      unfold Rept
      exact ⟨v, vr, e1, a.2, frt_rep os vr f2 dr b q⟩
  | (_, .ol _) :: _, _, _, _, _, h => by unfold frk at h; cases h
  | (_, .ok _) :: _, _, _, _, _, h => by unfold frk at h; cases h
  | (_, .ot _) :: _, _, _, _, _, h => by unfold frk at h; cases h
theorem shal_rep {d : D} {f : List Addr} (hn : ∀ a, N' a → N a) (r : RepO K H N v o f) (h : o.shal = some d) : Rep1 K H N' v d := by
  cases o with
  | fr d' =>
    cases h
    unfold RepO at r
    exact (Rep.mono (Stb.same hn) _ _ r.2).one
  | ol os =>
    unfold RepO at r
    obtain ⟨a, vs, fq, e1, e2, hb, rs⟩ := r
    cases q : frs os with
    | none => unfold O.shal at h; dsimp only at h; rw [q] at h; cases h
    | some dr =>
      unfold O.shal at h
      dsimp only at h
      rw [q] at h
      cases h
      exact ⟨a, vs, e1, Rd.of hb, Reps.mono (Stb.same hn) _ _ (frs_rep os vs fq dr rs q)⟩
  | ok os =>
    unfold RepO at r
    obtain ⟨a, vs, fq, e1, e2, hb, rs⟩ := r
    cases q : frk os with
    | none => unfold O.shal at h; dsimp only at h; rw [q] at h; cases h
    | some dr =>
      unfold O.shal at h
      dsimp only at h
      rw [q] at h
      cases h
      exact ⟨a, vs, e1, Rd.of hb, Repk.mono (Stb.same hn) _ _ (frk_rep os vs fq dr rs q)⟩
  | ot os =>
    unfold RepO at r
    obtain ⟨a, vs, fq, e1, e2, hb, rs⟩ := r
    cases q : frk os with
    | none => unfold O.shal at h; dsimp only at h; rw [q] at h; cases h
    | some dr =>
      unfold O.shal at h
      dsimp only at h
      rw [q] at h
      cases h
      exact ⟨a, vs, e1, hb, Rept.mono (Stb.same hn) _ _ (frt_rep os vs fq dr rs q)⟩
/-- an operand's object -/
theorem RepR'.obj {x : OR} (h : RepR' K H (Fp (Fp F fw) fp) σ e v x fv) (R : Rel K (Fp F fw) H σ e fp) (ho : x.obj e = some o) : ∃ g, RepO K H (Fp (Fp F fw) fp) v o g ∧ ∀ a ∈ g, a ∈ fv ∨ a ∈ fp := by
  cases x with
  | v o' =>
    cases ho
    exact ⟨fv, h, fun _ z => .inl z⟩
  | r i p =>
    obtain ⟨e0, w, hw, h0, hp⟩ := h
    unfold OR.obj at ho
    dsimp only at ho
    cases hi : e.at i with
    | none => rw [hi] at ho; cases ho
    | some o1 =>
      rw [hi] at ho
      have ho' : o1.sub p = some o := ho
      obtain ⟨A, f, B, v1, e1, e2, r, _⟩ := R.slot hi
      rw [hw] at e2
      cases e2
      obtain ⟨g, g1, g2⟩ := RepO.along p o1 o w v f r ho' (hp o1 o hi ho')
      exact ⟨g, g1, fun a ha => .inr (by rw [e1]; simp [g2 a ha])⟩
theorem views_rep : ∀ (xs : List OR) (vs : List V) (fv' : List Addr) (ds : List D), (∀ a ∈ fv', a ∈ fv) → Rel K (Fp F fv) H σ e fp → (∀ a ∈ fv, ¬ F a) → RepRs' K H (Fp (Fp F fv) fp) σ e vs xs fv' → views e xs = some ds → Rep1s K H (Fp F fp) vs ds
  | [], _, _, ds, _, _, _, h, hv => by
    unfold views at hv
    cases hv
    exact h.1
  | x :: xs, _, _, ds, hsub, R, hd, h, hv => by
    obtain ⟨v, vr, f1, f2, e1, e2, a, b⟩ := h
    unfold views at hv
    cases q : x.view e with
    | none => rw [q] at hv; cases hv
    | some d =>
      rw [q] at hv
      cases q2 : views e xs with
      | none =>
        have hv' : (views e xs).map (d :: ·) = some ds := hv
        rw [q2] at hv'; cases hv'
      | some dr =>
        have hv' : (views e xs).map (d :: ·) = some ds := hv
        rw [q2] at hv'
        cases hv'
        refine ⟨v, vr, e1, ?_, views_rep xs vr f2 dr (fun c hc => hsub c (by rw [e2]; simp [hc])) R hd b q2⟩
        have hn : ∀ a, Fp F fp a → Fp (Fp F fv) fp a := fun a z => z.imp .inl id
        cases x with
        | v o =>
          cases q
          refine (RepO.freeze hn o v f1 (fun c hc z => ?_) a).one
          have hc' : c ∈ fv := hsub c (by rw [e2]; simp [hc])
          rcases z with z | z
          · exact hd c hc' z
          · exact R.dis c z (.inr hc')
        | r i p =>
          unfold OR.view at q
          dsimp only at q
          cases qq : (e.at i).bind fun o => o.sub p with
          | none => rw [qq] at q; cases q
          | some o1 =>
            rw [qq] at q
            obtain ⟨g, g1, _⟩ := RepR'.obj a R (o := o1) qq
            exact shal_rep hn g1 q
theorem looks_rep : ∀ (xs : List OR) (vs : List V) (fv' : List Addr) (ds : List D), Rel K (Fp F fv) H σ e fp → RepRs' K H (Fp (Fp F fv) fp) σ e vs xs fv' → looks e xs = some ds → Reps K H (fun _ => False) vs ds
  | [], _, _, ds, _, h, hv => by
    unfold looks at hv
    cases hv
    unfold Reps
    exact h.1
  | x :: xs, _, _, ds, R, h, hv => by
    obtain ⟨v, vr, f1, f2, e1, e2, a, b⟩ := h
    unfold looks at hv
    cases q : x.look e with
    | none => rw [q] at hv; cases hv
    | some d =>
      rw [q] at hv
      have hv' : (looks e xs).map (d :: ·) = some ds := hv
      cases q2 : looks e xs with
      | none => rw [q2] at hv'; cases hv'
      | some dr =>
        rw [q2] at hv'
        cases hv'
        unfold Reps
        refine ⟨v, vr, e1, ?_, looks_rep xs vr f2 dr R b q2⟩
        unfold OR.look at q
        cases qq : x.obj e with
        | none => rw [qq] at q; cases q
        | some o1 =>
          rw [qq] at q
          cases q
          obtain ⟨g, g1, _⟩ := RepR'.obj a R qq
          exact RepO.freeze (fun _ z => z.elim) o1 v g (fun _ _ z => z) g1
end
end Ev
end
section
set_option Elab.async false
set_option linter.all false
set_option maxRecDepth 100000
namespace Ev
open PySem PySem.Spec PyProof.Rows L2
/-- a new value: all that was tracked stands -/
structure New (K : PySem.W.Frag) (H : Hp) (N : Addr → Prop) (H' : Hp) (v : V) (o : O) (fv : List Addr) : Prop where
  same : ∀ a u, H a = some u → H' a = some u
  nod : fv.Nodup
  new : ∀ a ∈ fv, H a = none
  rep : RepO K H' (Fp N fv) v o fv
def rOp (K : PySem.W.Frag) (f : List D → Option O) : List V → Hp → VK → Prop := fun vs H Q =>
  ∃ (N : Addr → Prop) (ds : List D) (o : O), (∀ a, N a → H a ≠ none) ∧ Rep1s K H N vs ds ∧ f ds = some o ∧ ∀ v H' fv, New K H N H' v o fv → Q v H'
/-- numbers, truth values, texts, None -/
def scalV : D → Option V
  | .non => some .non
  | .bl b => some (.bl b)
  | .int i => some (.int i)
  | .str s => some (.str s)
  | _ => none
def rRd (K : PySem.W.Frag) (f : List D → Option D) : List V → Hp → VK → Prop := fun vs H Q =>
  ∃ (ds : List D) (d : D), Reps K H (fun _ => False) vs ds ∧ f ds = some d ∧ ∀ v H', scalV d = some v → (∀ a u, H a = some u → H' a = some u) → Q v H'
section
variable {K : PySem.W.Frag} {W : XP} {F : Addr → Prop} {H H1 H2 : Hp} {N N' : Addr → Prop} {σ : St} {e e1 e2 : Env} {fp fp1 fp2 fv fw : List Addr} {v w : V} {vs : List V} {o q : O} {i : Nat} {xs : List OR}
theorem scal_rep {d : D} (h : scalV d = some v) : Rep K H N v d := by
  cases d <;> first | (cases h; unfold Rep; rfl) | cases h
/-- the operands' temporaries dropped -/
theorem Afs.drop (A : Afs K F H fp σ H1 e1 fp1 vs xs fv) : Gone K F H fp σ H1 e1 fp1 :=
  ⟨A.rel.shrink fun a z => .inl z, A.stb.weak fun a z => z.imp .inl id, A.kF⟩
/-- a new value behind it -/
theorem Gone.new (G : Gone K F H fp σ H1 e1 fp1) (n : New K H1 (Fp F fp1) H2 v o fv) : Af K F H fp σ H2 e1 fp1 v (.v o) fv := by
  have nF : ∀ a ∈ fv, ¬ F a := fun a ha z => G.rel.dom a z (n.new a ha)
  have nP : ∀ a ∈ fv, a ∉ fp1 := fun a ha z => G.rel.dom2 a (.inr z) (n.new a ha)
  have keep : ∀ a, H1 a ≠ none → H2 a = H1 a := fun a z => by
    cases q : H1 a with
    | none => exact absurd q z
    | some u => exact n.same a u q
  have st : Stb H1 (Fp F fp1) H2 (Fp (Fp F fv) fp1) := fun a u ha hn => ⟨n.same a u ha, fun z => by
    rcases z with (z | z) | z
    · exact hn (.inl z)
    · rw [n.new a z] at ha; cases ha
    · exact hn (.inr z)⟩
  refine ⟨?_, ?_, n.nod, nF, G.stb.trans st, fun a z => ?_⟩
  · refine G.rel.move st (fun a ha => keep a (G.rel.dom2 a (.inr ha))) (fun a ha z => ?_) (fun a z => ?_)
    · rcases z with z | z
      · exact G.rel.dis a ha z
      · exact nP a z ha
    · rcases z with z | z
      · rw [keep a (G.rel.dom a z)]; exact G.rel.dom a z
      · obtain ⟨u, hu, _⟩ := RepO.own o v fv n.rep a z
        rw [hu]; exact fun y => nomatch y
  · show RepO K H2 _ v o fv
    rw [Fp.comm_eq]
    exact n.rep
  · rw [keep a (G.rel.dom a z)]
    exact G.kF a z
theorem Gone.val (G : Gone K F H fp σ H1 e1 fp1) {d : D} (h : Rep K H1 (Fp F fp1) v d) : Af K F H fp σ H1 e1 fp1 v (.v (.fr d)) [] :=
  ⟨by rw [Fp.nil_eq]; exact G.rel, by rw [Fp.nil_eq]; exact ⟨rfl, h⟩, List.nodup_nil, (fun _ z => nomatch z), by rw [Fp.nil_eq]; exact G.stb, G.kF⟩
theorem New.keep {d : D} (h : Rep K H N v d) : New K H N H v (.fr d) [] := ⟨fun _ _ z => z, List.nodup_nil, (fun _ z => nomatch z), ⟨rfl, by rw [Fp.nil_eq]; exact h⟩⟩
theorem tR_op {f : List D → Option O} {ms : List (Ev OR)} {Q : VK} (h : tR K W (mOp f ms) σ H Q) : tA K W (mArgs ms) σ H fun vs H1 => rOp K f vs H1 Q := by
  obtain ⟨F, e, fp, R, q⟩ := h
  refine ⟨F, e, fp, R, wp_mono (wp_bind q) (fun xs e1 z vs H1 fp1 fv A => ?_) fun _ _ z => z⟩
  cases q1 : views e1 xs with
  | none => rw [q1] at z; exact z.elim
  | some ds =>
    rw [q1] at z
    dsimp only at z
    cases q2 : f ds with
    | none => rw [q2] at z; exact z.elim
    | some o =>
      rw [q2] at z
      exact ⟨Fp F fp1, ds, o, A.drop.rel.dom2, views_rep xs vs fv ds (fun _ z => z) A.rel A.dis A.val q1, q2, fun v H' fw n => z v H' fp1 fw (A.drop.new n)⟩
theorem tR_rd {f : List D → Option D} {ms : List (Ev OR)} {Q : VK} (h : tR K W (mRd f ms) σ H Q) : tA K W (mArgs ms) σ H fun vs H1 => rRd K f vs H1 Q := by
  obtain ⟨F, e, fp, R, q⟩ := h
  refine ⟨F, e, fp, R, wp_mono (wp_bind q) (fun xs e1 z vs H1 fp1 fv A => ?_) fun _ _ z => z⟩
  cases q1 : looks e1 xs with
  | none => rw [q1] at z; exact z.elim
  | some ds =>
    rw [q1] at z
    dsimp only at z
    cases q2 : f ds with
    | none => rw [q2] at z; exact z.elim
    | some d =>
      rw [q2] at z
      exact ⟨ds, d, looks_rep xs vs fv ds A.rel A.val q1, q2, fun v H' hv hs => z v H' fp1 [] (A.drop.new ⟨hs, List.nodup_nil, (fun _ y => nomatch y), rfl, scal_rep hv⟩)⟩
theorem vals_rep : ∀ (xs : List OR) (vs : List V) (fv : List Addr) (os : List O), RepRs' K H N σ e vs xs fv → vals xs = some os → RepOs K H N vs os fv
  | [], _, _, os, h, hv => by
    unfold vals at hv
    cases hv
    unfold RepOs
    exact h
  | .v o :: xs, vs, fv, os, h, hv => by
    obtain ⟨v, vr, f1, f2, e1, e2, a, b⟩ := h
    unfold vals at hv
    cases q : vals xs with
    | none => rw [q] at hv; cases hv
    | some os' =>
      rw [q] at hv
      cases hv
      unfold RepOs
      exact ⟨v, vr, f1, f2, e1, e2, a, vals_rep xs vr f2 os' b q⟩
  | .r _ _ :: _, _, _, _, _, hv => by
    unfold vals at hv
    cases hv
theorem RepOs.length : ∀ (os : List O) (vs : List V) (f : List Addr), RepOs K H N vs os f → vs.length = os.length
  | [], _, _, h => by unfold RepOs at h; rw [h.1]; rfl
  | o :: os, _, _, h => by
    unfold RepOs at h
    obtain ⟨v, vr, f1, f2, e1, e2, a, b⟩ := h
    rw [e1, List.length_cons, List.length_cons, RepOs.length os vr f2 b]
end
/-! ### constants and names -/
section
variable {X : Cx} {W : XP} {pos : Pos} {j : Nat}
theorem e_int {i : Int} : PE X (.Constant (.int i) j pos) (tR X.K W (mC (.int i))) := pe_int.to fun σ H Q ⟨F, e, fp, R, q⟩ => q (.int i) H fp [] (Af.now R ⟨rfl, by unfold Rep; rfl⟩)
theorem e_str {i : Str} : PE X (.Constant (.str i) j pos) (tR X.K W (mC (.str i))) := pe_str.to fun σ H Q ⟨F, e, fp, R, q⟩ => q (.str i) H fp [] (Af.now R ⟨rfl, by unfold Rep; rfl⟩)
theorem e_bl {i : Bool} : PE X (.Constant (.bool i) j pos) (tR X.K W (mC (.bl i))) := pe_bl.to fun σ H Q ⟨F, e, fp, R, q⟩ => q (.bl i) H fp [] (Af.now R ⟨rfl, by unfold Rep; rfl⟩)
theorem e_non : PE X (.Constant .none j pos) (tR X.K W (mC .non)) := pe_non.to fun σ H Q ⟨F, e, fp, R, q⟩ => q .non H fp [] (Af.now R ⟨rfl, by unfold Rep; rfl⟩)
theorem e_var (i : Nat) {x : Str} (hN : X.N[i]? = some x := by rfl) (hv : Vis X.env.scope x := by first | exact Or.inl rfl | exact Or.inr (Or.inl rfl) | exact Or.inr (Or.inr rfl)) (hd : (x == ("__debug__" : Str)) = false := by decide)
    (hcd : (x == ("__classdict__" : Str)) = false := by decide) : PE X (.Name x pos) (tR X.K W (mV i)) := (pe_var hN hv hd hcd).to fun σ H Q ⟨F, e, fp, R, q⟩ => by
  unfold mV at q
  cases hi : e.at i with
  | none => rw [hi] at q; exact q.elim
  | some o =>
    obtain ⟨A, f, B, v, e1, e2, r, _⟩ := R.slot hi
    rw [hi] at q
    refine ⟨v, e2, ?_⟩
    have own : ∀ (x : OR), RepR' X.K H (Fp F fp) σ e v (.r i []) [] := fun _ => ⟨rfl, v, e2, fun _ => rfl, fun o1 q1 ho hq => rfl⟩
    cases o with
    | fr d =>
      unfold RepO at r
      exact q v H fp [] (Af.now R ⟨rfl, r.2⟩)
    | ol d => exact q v H fp [] (Af.now R (own (.r i [])))
    | ok d => exact q v H fp [] (Af.now R (own (.r i [])))
    | ot d => exact q v H fp [] (Af.now R (own (.r i [])))
theorem perm_mid {A f B : List Addr} {F : Addr → Prop} : Fp (Fp F f) (A ++ B) = Fp F (A ++ (f ++ B)) := funext fun a => propext (by
  simp only [Fp, List.mem_append]
  constructor
  · rintro ((h | h) | h | h) <;> simp [h]
  · rintro (h | h | h | h) <;> simp [h])
theorem nod_mid {A f B : List Addr} (h : (A ++ (f ++ B)).Nodup) : f.Nodup ∧ (A ++ B).Nodup ∧ ∀ a ∈ f, a ∉ A ++ B := by
  obtain ⟨h1, h2, h3⟩ := List.nodup_append.mp h
  obtain ⟨h4, h5, h6⟩ := List.nodup_append.mp h2
  refine ⟨h4, List.nodup_append.mpr ⟨h1, h5, fun a ha b hb => h3 a ha b (List.mem_append_right _ hb)⟩, fun a ha z => ?_⟩
  rcases List.mem_append.mp z with z | z
  · exact h3 a z a (List.mem_append_left _ ha) rfl
  · exact h6 a ha a z rfl
theorem e_mv (i : Nat) {x : Str} (hN : X.N[i]? = some x := by rfl) (hv : Vis X.env.scope x := by first | exact Or.inl rfl | exact Or.inr (Or.inl rfl) | exact Or.inr (Or.inr rfl)) (hd : (x == ("__debug__" : Str)) = false := by decide)
    (hcd : (x == ("__classdict__" : Str)) = false := by decide) : PE X (.Name x pos) (tR X.K W (mMv i)) := (pe_var hN hv hd hcd).to fun σ H Q ⟨F, e, fp, R, q⟩ => by
  unfold mMv at q
  cases hi : e.at i with
  | none => rw [hi] at q; exact q.elim
  | some o =>
    obtain ⟨A, f, B, v, e1, e2, r, put⟩ := R.slot hi
    rw [hi] at q
    refine ⟨v, e2, q v H (A ++ B) f ?_⟩
    have nd : (A ++ (f ++ B)).Nodup := by rw [← e1]; exact R.nod
    obtain ⟨n1, n2, n3⟩ := nod_mid nd
    have eq : Fp (Fp F f) (A ++ B) = Fp F fp := by rw [e1]; exact perm_mid
    have sub : ∀ a, a ∈ f → a ∈ fp := fun a h => by rw [e1]; simp [h]
    refine ⟨⟨?_, n2, fun a ha z => ?_, fun a z => ?_, by rw [List.length_set]; exact R.len⟩, ?_, n1, fun a ha => R.dis a (sub a ha), ?_, fun _ _ => rfl⟩
    · rw [eq]
      have := put H (Fp F fp) σ none [] Stb.refl (fun _ _ => rfl) (fun _ _ => rfl) rfl
      simpa using this
    · rcases z with z | z
      · exact R.dis a (by rw [e1]; rcases List.mem_append.mp ha with h | h <;> simp [h]) z
      · exact n3 a z ha
    · rcases z with z | z
      · exact R.dom a z
      · exact R.dom2 a (.inr (sub a z))
    · show RepO X.K H _ v o f
      rw [eq]
      exact r
    · rw [eq]
      exact Stb.refl
theorem e_fz (i : Nat) {x : Str} (hN : X.N[i]? = some x := by rfl) (hv : Vis X.env.scope x := by first | exact Or.inl rfl | exact Or.inr (Or.inl rfl) | exact Or.inr (Or.inr rfl)) (hd : (x == ("__debug__" : Str)) = false := by decide)
    (hcd : (x == ("__classdict__" : Str)) = false := by decide) : PE X (.Name x pos) (tR X.K W (mFz i)) := (pe_var hN hv hd hcd).to fun σ H Q ⟨F, e, fp, R, q⟩ => by
  unfold mFz at q
  cases hi : e.at i with
  | none => rw [hi] at q; exact q.elim
  | some o =>
    obtain ⟨A, f, B, v, e1, e2, r, put⟩ := R.slot hi
    rw [hi] at q
    refine ⟨v, e2, q v H (A ++ B) [] ?_⟩
    have nd : (A ++ (f ++ B)).Nodup := by rw [← e1]; exact R.nod
    obtain ⟨n1, n2, n3⟩ := nod_mid nd
    have sub : ∀ a, a ∈ A ++ B → a ∈ fp := fun a h => by rw [e1]; rcases List.mem_append.mp h with h | h <;> simp [h]
    have sub2 : ∀ a, Fp F (A ++ B) a → Fp F fp a := fun a h => h.imp id (sub a)
    have fr : Rep X.K H (Fp F (A ++ B)) v o.thaw := RepO.freeze sub2 o v f (fun a ha z => by
      rcases z with z | z
      · exact R.dis a (by rw [e1]; simp [ha]) z
      · exact n3 a ha z) r
    rw [← Fp.nil_eq (F := F)] at fr
    refine ⟨⟨?_, n2, fun a ha z => ?_, fun a z => R.dom a (Fp.nil.mp z), by rw [List.length_set]; exact R.len⟩, ⟨rfl, fr⟩, List.nodup_nil, (fun _ z => nomatch z), ?_, fun _ _ => rfl⟩
    · have := put H (Fp (Fp F []) (A ++ B)) σ (some (.fr o.thaw)) [] (Stb.same (by rw [Fp.nil_eq]; exact sub2)) (fun _ _ => rfl) (fun _ _ => rfl) ⟨v, e2, rfl, fr⟩
      simpa using this
    · exact R.dis a (sub a ha) (Fp.nil.mp z)
    · rw [Fp.nil_eq]
      exact Stb.same sub2
end
end Ev
end
section
set_option Elab.async false
set_option linter.all false
set_option maxRecDepth 100000
namespace Ev
open PySem PySem.Spec PyProof.Rows L2
def tT (K : PySem.W.Frag) (W : XP) (m : Ev Bool) : TT := fun σ H Q => ∃ F e fp, Rel K F H σ e fp ∧ (m e).wp (fun b e' => ∀ H' fp', Gone K F H fp σ H' e' fp' → Q b H') (fun x e' => ∀ H' fp', Gone K F H fp σ H' e' fp' → W x e' σ H')
theorem sizeMax_eq : sizeMax = sizeLine := sizeLine_eq.symm
section
variable {K : PySem.W.Frag} {W : XP} {F : Addr → Prop} {H H1 H2 : Hp} {N N' : Addr → Prop} {σ : St} {e e1 e2 : Env} {fp fp1 fp2 fv fw : List Addr} {v w : V} {vs : List V} {o q : O} {i : Nat} {x : OR} {xs : List OR}
theorem Gone.refl (R : Rel K F H σ e fp) : Gone K F H fp σ H e fp := ⟨R, Stb.refl, fun _ _ => rfl⟩
theorem Gone.trans (A : Gone K F H fp σ H1 e1 fp1) (B : Gone K F H1 fp1 σ H2 e2 fp2) : Gone K F H fp σ H2 e2 fp2 :=
  ⟨B.rel, A.stb.trans B.stb, fun a z => (B.kF a z).trans (A.kF a z)⟩
theorem Gone.af (A : Gone K F H fp σ H1 e1 fp1) (B : Af K F H1 fp1 σ H2 e2 fp2 v x fv) : Af K F H fp σ H2 e2 fp2 v x fv :=
  ⟨B.rel, B.val, B.nod, B.dis, A.stb.trans B.stb, fun a z => (B.kF a z).trans (A.kF a z)⟩
theorem Af.drop (A : Af K F H fp σ H1 e1 fp1 v x fv) : Gone K F H fp σ H1 e1 fp1 :=
  ⟨A.rel.shrink fun a z => .inl z, A.stb.weak fun a z => z.imp .inl id, A.kF⟩
/-- a temporary, owned no longer -/
theorem Af.frz (A : Af K F H fp σ H1 e1 fp1 v (.v o) fv) : Rep K H1 (Fp F fp1) v o.thaw :=
  RepO.freeze (fun a z => z.imp .inl id) o v fv (fun c hc z => by
    rcases z with z | z
    · exact A.dis c hc z
    · exact A.rel.dis c z (.inr hc)) A.val
theorem Af.look (A : Af K F H fp σ H1 e1 fp1 v x fv) {d : D} (h : x.look e1 = some d) : Rep K H1 (fun _ => False) v d := by
  unfold OR.look at h
  cases qq : x.obj e1 with
  | none => rw [qq] at h; cases h
  | some o1 =>
    rw [qq] at h
    cases h
    obtain ⟨g, g1, _⟩ := RepR'.obj A.val A.rel qq
    exact RepO.freeze (fun _ z => z.elim) o1 v g (fun _ _ z => z) g1
theorem Reps.length : ∀ {ds : List D} {vs : List V}, Reps K H N vs ds → vs.length = ds.length
  | [], _, h => by unfold Reps at h; rw [h]; rfl
  | d :: ds, _, h => by
    unfold Reps at h
    obtain ⟨v, vr, e1, a, b⟩ := h
    rw [e1, List.length_cons, List.length_cons, Reps.length b]
theorem Repk.length : ∀ {ds : List (Key × D)} {vs : List (Key × V)}, Repk K H N vs ds → vs.length = ds.length
  | [], _, h => by unfold Repk at h; rw [h]; rfl
  | (k, d) :: ds, _, h => by
    unfold Repk at h
    obtain ⟨v, vr, e1, a, b⟩ := h
    rw [e1, List.length_cons, List.length_cons, Repk.length b]
theorem empty_len {α β : Type} {xs : List α} {ys : List β} (h : xs.length = ys.length) : (!xs.isEmpty) = !ys.isEmpty := by
  cases xs <;> cases ys <;> first | rfl | cases h
/-- truth -/
theorem truth_rep {d : D} {k : Bool} (h : Rep1 K H N v d) (ht : d.truth = some k) : TruV K v H k := by
  cases d with
  | non =>
    have e : v = .non := by unfold Rep1 at h; dsimp only at h; unfold Rep at h; exact h
    subst e
    cases ht
    rfl
  | bl b =>
    have e : v = .bl b := by unfold Rep1 at h; dsimp only at h; unfold Rep at h; exact h
    subst e
    cases ht
    rfl
  | int i =>
    have e : v = .int i := by unfold Rep1 at h; dsimp only at h; unfold Rep at h; exact h
    subst e
    cases ht
    rfl
  | str s =>
    have e : v = .str s := by unfold Rep1 at h; dsimp only at h; unfold Rep at h; exact h
    subst e
    unfold D.truth at ht
    dsimp only at ht
    split at ht
    · rename_i hz
      cases ht
      refine ⟨by rw [← sizeMax_eq]; exact hz, ?_⟩
      show (s.cps.size != 0) = ((s.cps.size : Int) != 0)
      cases s.cps.size <;> rfl
    · cases ht
  | tup ds =>
    unfold Rep1 at h
    dsimp only at h
    unfold Rep at h
    obtain ⟨a, vs, e, f, r⟩ := h
    subst e
    cases ht
    exact .inr (.inl ⟨vs, f.sq, (empty_len (Reps.length r)).symm⟩)
  | lst ds =>
    obtain ⟨a, vs, e, f, r⟩ := h
    subst e
    cases ht
    exact .inl ⟨vs, .inl f, (empty_len (Reps.length r)).symm⟩
  | dk kvs => cases ht
  | dt kvs => cases ht
theorem tV_ (m : Ev OR) {Q : Bool → Hp → Prop} (h : tT K W (tV m) σ H Q) : tR K W m σ H fun x H1 => ∃ c, x = .bl c ∧ Q c H1 := by
  obtain ⟨F, e, fp, R, q⟩ := h
  refine ⟨F, e, fp, R, wp_mono (wp_bind q) (fun x e1 z v H1 fp1 fv A => ?_) fun _ _ z => z⟩
  cases x with
  | v o =>
    cases o with
    | fr d =>
      cases d with
      | bl b =>
        have r := A.val
        unfold RepR' RepO at r
        have e2 : v = .bl b := by have := r.2; unfold Rep at this; exact this
        exact ⟨b, e2, z H1 fp1 A.drop⟩
      | _ => exact z.elim
    | _ => exact z.elim
  | r i p => exact z.elim
end
/-! ### values that are owned no longer, displays, conditions -/
section
variable {X : Cx} {W : XP} {m ma mb mc : Ev OR} {t u : Ev Bool} {a b c : Expr} {es rest : List Expr} {pos : Pos} {ms : List (Ev OR)}
theorem e_z (h : PE X a (tR X.K W m)) : PE X a (tR X.K W (mZ m)) := h.to fun σ H Q ⟨F, e, fp, R, q⟩ => by
  refine ⟨F, e, fp, R, wp_mono (wp_bind q) (fun x e1 z v H1 fp1 fv A => ?_) fun _ _ z => z⟩
  cases x with
  | v o => exact z v H1 fp1 [] (A.drop.val A.frz)
  | r i p => exact z.elim
theorem upd_stb {H : Hp} {N : Addr → Prop} {p : Addr} {u : HO} (h : H p = none) : ∀ a w, H a = some w → upd H p u a = some w := fun a w e => by
  rw [upd_ne (fun z => by rw [z, h] at e; cases e)]
  exact e
/-- a new object around operands that leave -/
theorem _root_.Ev.Afs.box {K : PySem.W.Frag} {F : Addr → Prop} {H H1 : Hp} {fp fp1 fv : List Addr} {σ : St} {e1 : Env} {vs : List V} {xs : List OR} {os : List O} {p : Addr} {o : O} {u : HO} (A : Afs K F H fp σ H1 e1 fp1 vs xs fv)
    (hv : vals xs = some os) (hp : H1 p = none) (hr : ∀ N', RepOs K (upd H1 p u) N' vs os fv → RepO K (upd H1 p u) N' (.ref p) o (p :: fv)) (hu : Mut (some u)) : Af K F H fp σ (upd H1 p u) e1 fp1 (.ref p) (.v o) (p :: fv) := by
  have ro : RepOs K H1 (Fp (Fp F fv) fp1) vs os fv := vals_rep xs vs fv os A.val hv
  have nv : p ∉ fv := fun z => by
    obtain ⟨w, hw, _⟩ := RepOs.own os vs fv ro p z
    rw [hp] at hw; cases hw
  have nF : ¬ F p := fun z => A.rel.dom p (.inl z) hp
  have nP : p ∉ fp1 := fun z => A.rel.dom2 p (.inr z) hp
  have keep : ∀ a, H1 a ≠ none → upd H1 p u a = H1 a := fun a z => upd_ne fun y => z (y ▸ hp)
  have st : Stb H1 (Fp (Fp F fv) fp1) (upd H1 p u) (Fp (Fp F (p :: fv)) fp1) := fun a w e n => ⟨upd_stb (N := F) hp a w e, fun z => by
    rcases z with (z | z) | z
    · exact n (.inl (.inl z))
    · rcases List.mem_cons.mp z with y | y
      · rw [y, hp] at e; cases e
      · exact n (.inl (.inr y))
    · exact n (.inr z)⟩
  have dom : ∀ a, Fp F (p :: fv) a → upd H1 p u a ≠ none := fun a z => by
    by_cases y : a = p
    · rw [y, upd_same]; exact fun q => nomatch q
    · rw [upd_ne y]
      refine A.rel.dom a ?_
      rcases z with z | z
      · exact .inl z
      · exact .inr ((List.mem_cons.mp z).resolve_left y)
  refine ⟨A.rel.move st (fun a ha => keep a (A.rel.dom2 a (.inr ha))) (fun a ha z => ?_) dom, ?_, List.nodup_cons.mpr ⟨nv, A.nod⟩, fun a ha z => ?_, A.stb.trans st, fun a z => ?_⟩
  · rcases z with z | z
    · exact A.rel.dis a ha (.inl z)
    · rcases List.mem_cons.mp z with y | y
      · exact nP (y ▸ ha)
      · exact A.rel.dis a ha (.inr y)
  · show RepO K _ _ (.ref p) o (p :: fv)
    exact hr _ (RepOs.mono st os vs fv (fun a ha => keep a (by obtain ⟨w, hw, _⟩ := RepOs.own os vs fv ro a ha; rw [hw]; exact fun q => nomatch q)) ro)
  · rcases List.mem_cons.mp ha with y | y
    · exact nF (y ▸ z)
    · exact A.dis a y z
  · rw [keep a (A.rel.dom a (.inl z))]
    exact A.kF a z
theorem e_tup {x1} (h : PA X es (tA X.K W (mArgs ms))) : PE X (.Tuple es x1 pos) (tR X.K W (mTup ms)) := (pe_tup h).to fun σ H Q ⟨F, e, fp, R, q⟩ => by
  refine ⟨F, e, fp, R, wp_mono (wp_bind q) (fun xs e1 z vs H1 fp1 fv A => ?_) fun _ _ z => z⟩
  cases hv : vals xs with
  | none => rw [hv] at z; exact z.elim
  | some os =>
    rw [hv] at z
    dsimp only at z
    split at z
    · rename_i hl
      have ro : RepOs X.K H1 (Fp (Fp F fv) fp1) vs os fv := vals_rep xs vs fv os A.val hv
      refine ⟨by rw [RepOs.length os vs fv ro]; exact Nat.le_trans hl (by decide), fun p hp => ?_⟩
      have fr : Reps X.K H1 (Fp F fp1) vs (O.thaws os) := RepOs.freeze (fun a z => z.imp .inl id) os vs fv (fun c hc z => by
        rcases z with z | z
        · exact A.dis c hc z
        · exact A.rel.dis c z (.inr hc)) ro
      have np : ¬ Fp F fp1 p := fun z => A.drop.rel.dom2 p z hp
      refine z (.ref p) _ fp1 [] (A.drop.new ⟨upd_stb (N := F) hp, List.nodup_nil, (fun _ z => nomatch z), rfl, ?_⟩)
      rw [Fp.nil_eq]
      unfold Rep
      exact ⟨p, vs, rfl, ⟨upd_same, np⟩, Reps.mono (fun a u e n => ⟨upd_stb (N := F) hp a u e, n⟩) _ _ fr⟩
    · exact z.elim
theorem e_lst (h : PA X es (tA X.K W (mArgs ms))) : PE X (.List es pos) (tR X.K W (mLst ms)) := (pe_lst h).to fun σ H Q ⟨F, e, fp, R, q⟩ => by
  refine ⟨F, e, fp, R, wp_mono (wp_bind q) (fun xs e1 z vs H1 fp1 fv A => ?_) fun _ _ z => z⟩
  cases hv : vals xs with
  | none => rw [hv] at z; exact z.elim
  | some os =>
    rw [hv] at z
    dsimp only at z
    split at z
    · rename_i hl
      have ro : RepOs X.K H1 (Fp (Fp F fv) fp1) vs os fv := vals_rep xs vs fv os A.val hv
      refine ⟨by rw [RepOs.length os vs fv ro]; exact Nat.le_trans hl (by decide), fun p hp => ?_⟩
      exact z (.ref p) _ fp1 (p :: fv) (A.box (u := .lst vs) hv hp (fun N' r => by unfold RepO; exact ⟨p, vs, fv, rfl, rfl, upd_same, r⟩) True.intro)
    · exact z.elim
theorem e_if (hc : PT X c (tT X.K W t)) (ha : PE X a (tR X.K W ma)) (hb : PE X b (tR X.K W mb)) : PE X (.IfExp c a b pos) (tR X.K W (mIf t ma mb)) := (pe_ifExp hc ha hb).to fun σ H Q ⟨F, e, fp, R, q⟩ => by
  refine ⟨F, e, fp, R, wp_mono (wp_bind q) (fun k e1 z H1 fp1 G => ?_) fun _ _ z => z⟩
  cases k with
  | true => exact iteT ⟨F, e1, fp1, G.rel, wp_mono z (fun x e2 z v H2 fp2 fv A => z v H2 fp2 fv (G.af A)) fun x e2 z H2 fp2 B => z H2 fp2 (G.trans B)⟩
  | false => exact iteF ⟨F, e1, fp1, G.rel, wp_mono z (fun x e2 z v H2 fp2 fv A => z v H2 fp2 fv (G.af A)) fun x e2 z H2 fp2 B => z H2 fp2 (G.trans B)⟩
/-- x or y -/
theorem e_or (ha : PE X a (tR X.K W ma)) (hb : PE X (.BoolOp .Or (b :: rest) pos) (tR X.K W mb)) : PE X (.BoolOp .Or (a :: b :: rest) pos) (tR X.K W (mOr ma mb)) := (pe_orT ha hb).to fun σ H Q ⟨F, e, fp, R, q⟩ => by
  refine ⟨F, e, fp, R, wp_mono (wp_bind q) (fun x e1 z v H1 fp1 fv A => ?_) fun _ _ z => z⟩
  cases hd : (x.look e1).bind D.truth with
  | none => rw [hd] at z; exact z.elim
  | some k =>
    obtain ⟨d, hl, ht⟩ := Option.bind_eq_some_iff.mp hd
    refine ⟨k, truth_rep (A.look hl).one ht, ?_⟩
    rw [hd] at z
    cases hr : x.root with
    | false => rw [hr] at z; cases k <;> exact z.elim
    | true =>
      rw [hr] at z
      cases k with
      | true => exact iteT (z v H1 fp1 fv A)
      | false => exact iteF ⟨F, e1, fp1, A.drop.rel, wp_mono z (fun y e2 z w H2 fp2 fw B => z w H2 fp2 fw (A.drop.af B)) fun y e2 z H2 fp2 B => z H2 fp2 (A.drop.trans B)⟩
theorem e_and (ha : PE X a (tR X.K W ma)) (hb : PE X (.BoolOp .And (b :: rest) pos) (tR X.K W mb)) : PE X (.BoolOp .And (a :: b :: rest) pos) (tR X.K W (mAnd ma mb)) := (pe_andT ha hb).to fun σ H Q ⟨F, e, fp, R, q⟩ => by
  refine ⟨F, e, fp, R, wp_mono (wp_bind q) (fun x e1 z v H1 fp1 fv A => ?_) fun _ _ z => z⟩
  cases hd : (x.look e1).bind D.truth with
  | none => rw [hd] at z; exact z.elim
  | some k =>
    obtain ⟨d, hl, ht⟩ := Option.bind_eq_some_iff.mp hd
    refine ⟨k, truth_rep (A.look hl).one ht, ?_⟩
    rw [hd] at z
    cases hr : x.root with
    | false => rw [hr] at z; cases k <;> exact z.elim
    | true =>
      rw [hr] at z
      cases k with
      | false => exact iteF (z v H1 fp1 fv A)
      | true => exact iteT ⟨F, e1, fp1, A.drop.rel, wp_mono z (fun y e2 z w H2 fp2 fw B => z w H2 fp2 fw (A.drop.af B)) fun y e2 z H2 fp2 B => z H2 fp2 (A.drop.trans B)⟩
theorem e_one {op} (h : PE X a (tR X.K W m)) : PE X (.BoolOp op [a] pos) (tR X.K W m) := pe_one h
theorem e_not (ha : PE X a (tR X.K W m)) : PE X (.UnaryOp .Not a pos) (tR X.K W (mRd fNot [m])) := (pe_notT ha).to fun σ H Q h => by
  obtain ⟨F, e, fp, R, q⟩ := tA_last (tR_rd h)
  refine ⟨F, e, fp, R, wp_mono q (fun x e1 z v H1 fp1 fv A => ?_) fun _ _ z => z⟩
  obtain ⟨ds, d, r, hf, hq⟩ := z v H1 fp1 fv A
  cases ds with
  | nil => unfold Reps at r; cases r
  | cons d1 dr =>
    cases dr with
    | cons _ _ => cases hf
    | nil =>
      unfold Reps at r
      obtain ⟨v1, vr, e1, r1, _⟩ := r
      cases e1
      have hf : d1.truth.map (fun b => D.bl !b) = some d := hf
      cases ht : d1.truth with
      | none => rw [ht] at hf; cases hf
      | some k =>
        rw [ht] at hf
        cases hf
        exact ⟨k, truth_rep r1.one ht, hq _ _ rfl fun _ _ y => y⟩
/-! ### tests -/
theorem t_v (h : PE X a (tR X.K W m)) (he : ∀ whole, isTrue a X.env whole = (do let v ← whole; standAt a.pos; holding [v] (truthy v)) := by intro _; rfl) : PT X a (tT X.K W (tV m)) := (pt_val h he).to fun σ H Q q => tV_ m q
theorem t_tru (h : PE X a (tR X.K W m)) (he : ∀ whole, isTrue a X.env whole = (do let v ← whole; standAt a.pos; holding [v] (truthy v)) := by intro _; rfl) : PT X a (tT X.K W (tTru m)) := (pt_truth h he).to fun σ H Q ⟨F, e, fp, R, q⟩ => by
  refine ⟨F, e, fp, R, wp_mono (wp_bind q) (fun x e1 z v H1 fp1 fv A => ?_) fun _ _ z => z⟩
  cases hd : (x.look e1).bind D.truth with
  | none => rw [hd] at z; exact z.elim
  | some k =>
    obtain ⟨d, hl, ht⟩ := Option.bind_eq_some_iff.mp hd
    rw [hd] at z
    exact ⟨k, truth_rep (A.look hl).one ht, z H1 fp1 A.drop⟩
theorem t_not (h : PT X a (tT X.K W t)) : PT X (.UnaryOp .Not a pos) (tT X.K W (tNot t)) := (pt_not h).to fun σ H Q ⟨F, e, fp, R, q⟩ =>
  ⟨F, e, fp, R, wp_mono (wp_bind q) (fun k e1 z H1 fp1 G => z H1 fp1 G) fun _ _ z => z⟩
theorem t_and1 (h : PT X a (tT X.K W t)) : PW X (.BoolOp .And [a] pos) (tT X.K W t) := pw_and1 h
theorem t_or1 (h : PT X a (tT X.K W t)) : PW X (.BoolOp .Or [a] pos) (tT X.K W t) := pw_or1 h
theorem _root_.L2.PW.to {X : Cx} {e : Expr} {t t' : TT} (h : PW X e t) (q : ∀ σ H Q, t' σ H Q → t σ H Q) : PW X e t' := ⟨fun wh pins s σ H Q I z => h.run wh pins s σ H Q I (q σ H Q z)⟩
theorem t_and (ha : PT X a (tT X.K W t)) (hb : PW X (.BoolOp .And (b :: rest) pos) (tT X.K W u)) : PW X (.BoolOp .And (a :: b :: rest) pos) (tT X.K W (tAnd t u)) := (pw_and ha hb).to fun σ H Q ⟨F, e, fp, R, q⟩ => by
  refine ⟨F, e, fp, R, wp_mono (wp_bind q) (fun k e1 z H1 fp1 G => ?_) fun _ _ z => z⟩
  cases k with
  | true => exact iteT ⟨F, e1, fp1, G.rel, wp_mono z (fun x e2 z H2 fp2 A => z H2 fp2 (G.trans A)) fun x e2 z H2 fp2 B => z H2 fp2 (G.trans B)⟩
  | false => exact iteF (z H1 fp1 G)
theorem t_or (ha : PT X a (tT X.K W t)) (hb : PW X (.BoolOp .Or (b :: rest) pos) (tT X.K W u)) : PW X (.BoolOp .Or (a :: b :: rest) pos) (tT X.K W (tOr t u)) := (pw_or ha hb).to fun σ H Q ⟨F, e, fp, R, q⟩ => by
  refine ⟨F, e, fp, R, wp_mono (wp_bind q) (fun k e1 z H1 fp1 G => ?_) fun _ _ z => z⟩
  cases k with
  | false => exact iteF ⟨F, e1, fp1, G.rel, wp_mono z (fun x e2 z H2 fp2 A => z H2 fp2 (G.trans A)) fun x e2 z H2 fp2 B => z H2 fp2 (G.trans B)⟩
  | true => exact iteT (z H1 fp1 G)
/-! ### operations by their rules -/
theorem e_bin {op : Operator} {f : List D → Option O} (ho : OpR X (binaryOp op) (fun x y H Q => rOp X.K f [x, y] H Q)) (ha : PE X a (tR X.K W ma)) (hb : PE X b (tR X.K W mb)) : PE X (.BinOp a op b pos) (tR X.K W (mOp f [ma, mb])) :=
  (pe_op ho ha hb).to fun σ H Q h => by
    obtain ⟨F, e, fp, R, q⟩ := tA_cons (tR_op h)
    exact ⟨F, e, fp, R, wp_mono q (fun x e1 z v H1 fp1 fv A => tA_last (z v H1 fp1 fv A)) fun _ _ z => z⟩
theorem e_un {op : UnaryOp} {f : List D → Option O} (ho : UnR X (unaryOp op) (fun x H Q => rOp X.K f [x] H Q)) (ha : PE X a (tR X.K W ma)) : PE X (.UnaryOp op a pos) (tR X.K W (mOp f [ma])) :=
  (pe_un ho ha).to fun σ H Q h => tA_last (tR_op h)
theorem e_cmp {op : CmpOp} {f : List D → Option D} (ho : OpR X (compareOp op) (fun x y H Q => rRd X.K f [x, y] H Q)) (ha : PE X a (tR X.K W ma)) (hb : PE X b (tR X.K W mb)) (hm : behindInMarks op b = false := by first | exact nomark _ | rfl) :
    PE X (.Compare a [op] [b] pos) (tR X.K W (mRd f [ma, mb])) :=
  (pe_cmpR ho ha hb hm).to fun σ H Q h => by
    obtain ⟨F, e, fp, R, q⟩ := tA_cons (tR_rd h)
    exact ⟨F, e, fp, R, wp_mono q (fun x e1 z v H1 fp1 fv A => tA_last (z v H1 fp1 fv A)) fun _ _ z => z⟩
theorem t_cmp {op : CmpOp} {f : List D → Option D} (ho : OpR X (compareOp op) (fun x y H Q => rRd X.K f [x, y] H Q)) (ha : PE X a (tR X.K W ma)) (hb : PE X b (tR X.K W mb)) (hm : behindInMarks op b = false := by first | exact nomark _ | rfl) :
    PT X (.Compare a [op] [b] pos) (tT X.K W (tV (mRd f [ma, mb]))) :=
  (pt_cmpR ho ha hb hm).to fun σ H Q h => by
    obtain ⟨F, e, fp, R, q⟩ := tA_cons (tR_rd (tV_ _ h))
    exact ⟨F, e, fp, R, wp_mono q (fun x e1 z v H1 fp1 fv A => tA_last (z v H1 fp1 fv A)) fun _ _ z => z⟩
theorem e_callB {x : Str} {p : Pos} {id : String} {f : List D → Option O} (hc : CallR X (.builtin id) (rOp X.K f)) (hg : Gl X x) (hm : X.mg x = none) (hv : bootBuiltins x = some (.builtin id)) (ha : PA X (a :: es) (tA X.K W (mArgs ms))) (hn : x ≠ "__name__" := by decide) (hdb : (x == ("__debug__" : Str)) = false := by decide)
    (he : starEach (a :: es) X.env = (false, eval a X.env) :: starEach es X.env := by rfl) (hpl : (backTo pos (starEach es X.env)).any (·.1) = false := by rfl) : PE X (.Call (.Name x p) (a :: es) [] pos) (tR X.K W (mOp f ms)) :=
  (pe_callB hc hg hm hv ha hn hdb he hpl).to fun σ H Q h => tR_op h
theorem e_callBR {x : Str} {p : Pos} {id : String} {f : List D → Option D} (hc : CallR X (.builtin id) (rRd X.K f)) (hg : Gl X x) (hm : X.mg x = none) (hv : bootBuiltins x = some (.builtin id)) (ha : PA X (a :: es) (tA X.K W (mArgs ms))) (hn : x ≠ "__name__" := by decide) (hdb : (x == ("__debug__" : Str)) = false := by decide)
    (he : starEach (a :: es) X.env = (false, eval a X.env) :: starEach es X.env := by rfl) (hpl : (backTo pos (starEach es X.env)).any (·.1) = false := by rfl) : PE X (.Call (.Name x p) (a :: es) [] pos) (tR X.K W (mRd f ms)) :=
  (pe_callB hc hg hm hv ha hn hdb he hpl).to fun σ H Q h => tR_rd h
theorem e_callTy {x : Str} {p : Pos} {T : String} {f : List D → Option O} (hc : CallR X (.type T) (rOp X.K f)) (hg : Gl X x) (hm : X.mg x = none) (hv : bootBuiltins x = some (.type T)) (ha : PA X (a :: es) (tA X.K W (mArgs ms))) (hn : x ≠ "__name__" := by decide) (hdb : (x == ("__debug__" : Str)) = false := by decide)
    (he : starEach (a :: es) X.env = (false, eval a X.env) :: starEach es X.env := by rfl) (hpl : (backTo pos (starEach es X.env)).any (·.1) = false := by rfl) : PE X (.Call (.Name x p) (a :: es) [] pos) (tR X.K W (mOp f ms)) :=
  (pe_callTy hc hg hm hv ha hn hdb he hpl).to fun σ H Q h => tR_op h
end
end Ev
end
section
set_option Elab.async false
set_option linter.all false
set_option maxRecDepth 100000
namespace Ev
open PySem PySem.Spec PyProof.Rows L2
section
variable {K : PySem.W.Frag} {H : Hp} {N : Addr → Prop} {v : V} {vs : List V}
theorem rep1_int {i : Int} (h : Rep1 K H N v (.int i)) : v = .int i := by unfold Rep1 at h; dsimp only at h; unfold Rep at h; exact h
theorem rep1_str {i : Str} (h : Rep1 K H N v (.str i)) : v = .str i := by unfold Rep1 at h; dsimp only at h; unfold Rep at h; exact h
theorem rep1_bl {i : Bool} (h : Rep1 K H N v (.bl i)) : v = .bl i := by unfold Rep1 at h; dsimp only at h; unfold Rep at h; exact h
theorem rep1_non (h : Rep1 K H N v .non) : v = .non := by unfold Rep1 at h; dsimp only at h; unfold Rep at h; exact h
theorem rep1_tup {ds : List D} (h : Rep1 K H N v (.tup ds)) : ∃ a ws, v = .ref a ∧ FzT K H N a ws ∧ Reps K H N ws ds := by unfold Rep1 at h; dsimp only at h; unfold Rep at h; exact h
theorem rep_int {i : Int} (h : Rep K H N v (.int i)) : v = .int i := by unfold Rep at h; exact h
theorem rep_str {i : Str} (h : Rep K H N v (.str i)) : v = .str i := by unfold Rep at h; exact h
theorem rep_bl {i : Bool} (h : Rep K H N v (.bl i)) : v = .bl i := by unfold Rep at h; exact h
theorem rep_non (h : Rep K H N v .non) : v = .non := by unfold Rep at h; exact h
theorem Rep1s.two {d e : D} (h : Rep1s K H N vs [d, e]) : ∃ v w, vs = [v, w] ∧ Rep1 K H N v d ∧ Rep1 K H N w e := by
  obtain ⟨v, vr, e1, a, w, wr, e2, b, e3⟩ := h
  subst e2
  have e3' : wr = [] := e3
  subst e3'
  exact ⟨v, w, e1, a, b⟩
theorem Rep1s.one {d : D} (h : Rep1s K H N vs [d]) : ∃ v, vs = [v] ∧ Rep1 K H N v d := by
  obtain ⟨v, vr, e1, a, e3⟩ := h
  have e3' : vr = [] := e3
  subst e3'
  exact ⟨v, e1, a⟩
theorem Rep1s.three {d e f : D} (h : Rep1s K H N vs [d, e, f]) : ∃ v w x, vs = [v, w, x] ∧ Rep1 K H N v d ∧ Rep1 K H N w e ∧ Rep1 K H N x f := by
  obtain ⟨v, vr, e1, a, h⟩ := h
  obtain ⟨w, x, e2, b, c⟩ := Rep1s.two h
  subst e2
  exact ⟨v, w, x, e1, a, b, c⟩
theorem Reps.two {d e : D} (h : Reps K H N vs [d, e]) : ∃ v w, vs = [v, w] ∧ Rep K H N v d ∧ Rep K H N w e := by
  unfold Reps at h
  obtain ⟨v, vr, e1, a, h⟩ := h
  unfold Reps at h
  obtain ⟨w, wr, e2, b, h⟩ := h
  unfold Reps at h
  subst h e2
  exact ⟨v, w, e1, a, b⟩
theorem Reps.one {d : D} (h : Reps K H N vs [d]) : ∃ v, vs = [v] ∧ Rep K H N v d := by
  unfold Reps at h
  obtain ⟨v, vr, e1, a, h⟩ := h
  unfold Reps at h
  subst h
  exact ⟨v, e1, a⟩
theorem New.scal {d : D} {v : V} (h : scalV d = some v) : New K H N H v (.fr d) [] := New.keep (scal_rep h)
/-- a new tuple, a new list of frozen items -/
theorem New.tup {p : Addr} {ws : List V} {ds : List D} (hn : ∀ a, N a → H a ≠ none) (hp : H p = none) (r : Reps K H N ws ds) : New K H N (upd H p (.tup ws)) (.ref p) (.fr (.tup ds)) [] := by
  refine ⟨upd_stb (N := N) hp, List.nodup_nil, (fun _ z => nomatch z), rfl, ?_⟩
  rw [Fp.nil_eq]
  unfold Rep
  exact ⟨p, ws, rfl, ⟨upd_same, fun z => hn p z hp⟩, Reps.mono (fun a u e n => ⟨upd_stb (N := N) hp a u e, n⟩) _ _ r⟩
theorem RepOs.ofD : ∀ (ds : List D) (ws : List V), Reps K H N ws ds → RepOs K H N ws (ds.map .fr) []
  | [], ws, r => by
    unfold Reps at r
    unfold List.map RepOs
    exact ⟨r, rfl⟩
  | d :: ds, ws, r => by
    unfold Reps at r
    obtain ⟨v, vr, e1, a, b⟩ := r
    show RepOs K H N ws (.fr d :: ds.map .fr) []
    unfold RepOs
    exact ⟨v, vr, [], [], e1, rfl, ⟨rfl, a⟩, RepOs.ofD ds vr b⟩
theorem New.lst {p : Addr} {ws : List V} {ds : List D} (hn : ∀ a, N a → H a ≠ none) (hp : H p = none) (r : Reps K H N ws ds) : New K H N (upd H p (.lst ws)) (.ref p) (.ol (ds.map .fr)) [p] := by
  refine ⟨upd_stb (N := N) hp, (by simp), fun a ha => by rw [List.mem_singleton.mp ha]; exact hp, ?_⟩
  unfold RepO
  refine ⟨p, ws, [], rfl, rfl, upd_same, RepOs.ofD ds ws (Reps.mono (fun a u e n => ⟨upd_stb (N := N) hp a u e, fun z => ?_⟩) _ _ r)⟩
  rcases z with z | z
  · exact n z
  · rw [List.mem_singleton.mp z, hp] at e
    cases e
theorem Reps.app : ∀ {ds es : List D} {ws us : List V}, Reps K H N ws ds → Reps K H N us es → Reps K H N (ws ++ us) (ds ++ es)
  | [], es, ws, us, a, b => by
    unfold Reps at a
    subst a
    exact b
  | d :: ds, es, ws, us, a, b => by
    unfold Reps at a
    obtain ⟨v, vr, e1, c, f⟩ := a
    subst e1
    show Reps K H N (v :: (vr ++ us)) (d :: (ds ++ es))
    unfold Reps
    exact ⟨v, vr ++ us, rfl, c, Reps.app f b⟩
theorem Reps.take : ∀ {ds : List D} {ws : List V} (n : Nat), Reps K H N ws ds → Reps K H N (ws.take n) (ds.take n)
  | ds, ws, 0, a => by rw [List.take_zero, List.take_zero]; unfold Reps; rfl
  | [], ws, n + 1, a => by
    unfold Reps at a
    subst a
    rw [List.take_nil, List.take_nil]; unfold Reps; rfl
  | d :: ds, ws, n + 1, a => by
    unfold Reps at a
    obtain ⟨v, vr, e1, c, f⟩ := a
    subst e1
    rw [List.take_succ_cons, List.take_succ_cons]
    unfold Reps
    exact ⟨v, _, rfl, c, Reps.take n f⟩
theorem Reps.drop : ∀ {ds : List D} {ws : List V} (n : Nat), Reps K H N ws ds → Reps K H N (ws.drop n) (ds.drop n)
  | ds, ws, 0, a => a
  | [], ws, n + 1, a => by
    unfold Reps at a
    subst a
    rw [List.drop_nil, List.drop_nil]; unfold Reps; rfl
  | d :: ds, ws, n + 1, a => by
    unfold Reps at a
    obtain ⟨v, vr, e1, c, f⟩ := a
    subst e1
    rw [List.drop_succ_cons, List.drop_succ_cons]
    exact Reps.drop n f
theorem Reps.get : ∀ {ds : List D} {ws : List V} {n : Nat} {d : D}, Reps K H N ws ds → ds[n]? = some d → ∃ w, ws[n]? = some w ∧ Rep K H N w d
  | [], _, _, _, _, h => by simp at h
  | d :: ds, ws, 0, d', a, h => by
    unfold Reps at a
    obtain ⟨v, vr, e1, c, f⟩ := a
    subst e1
    simp at h
    subst h
    exact ⟨v, rfl, c⟩
  | d :: ds, ws, n + 1, d', a, h => by
    unfold Reps at a
    obtain ⟨v, vr, e1, c, f⟩ := a
    subst e1
    obtain ⟨w, h1, h2⟩ := Reps.get f (by simpa using h)
    exact ⟨w, by simpa using h1, h2⟩
end
section
variable {X : Cx}
theorem Inv.lstR {pins : List (Addr × Obj)} {σ : L2.St} {H : Hp} {s : Shared} {l : Addr} {xs : List V} (I : Inv X pins σ H s) (hH : Rd H l (.lst xs)) : xs.length ≤ sizeLine ∧ ∃ (its : List Value) (n : Nat), Vals xs its ∧ xs.length = its.length ∧ s.heap.get? l = some { cls := .type "list", data := .seq its.toArray n } := by
  obtain ⟨z, its, n, r, e⟩ := hH.ok I.hok
  exact ⟨z, its, n, r, r.length, e⟩
theorem o_catR : OpR X (binaryOp .Add) (fun x y H Q => ∃ l b xs zs, x = .ref l ∧ y = .ref b ∧ Rd H l (.lst xs) ∧ Rd H b (.lst zs) ∧ xs.length + zs.length ≤ sizeLine ∧ ∀ p, H p = none → Q (.ref p) (upd H p (.lst (xs ++ zs)))) := by
  intro pins s σ H x y v u Q I rx ry h
  obtain ⟨l, b, xs, zs, rfl, rfl, hH, hB, hz, q⟩ := h
  cases rx
  cases ry
  obtain ⟨z, its, n, r, hl, e⟩ := Inv.lstR I hH
  obtain ⟨z2, its2, n2, r2, hl2, e2⟩ := Inv.lstR I hB
  refine PySem.P.add_list e e2 ?_ (by rw [List.size_toArray, List.size_toArray]; omega)
  have ea : its.toArray ++ its2.toArray = (its ++ its2).toArray := by simp
  rw [ea]
  exact ⟨.ref _, _, I.lnew (t' := s.toks) (r.append r2) (by rw [List.length_append]; omega), rfl, q _ I.fresh⟩
theorem o_add : OpR X (binaryOp .Add) (fun x y H Q => rOp X.K fAdd [x, y] H Q) := by
  intro pins s σ H x y v u Q I rx ry ⟨N, ds, o, hn, r, hf, q⟩
  unfold fAdd at hf
  split at hf
  · obtain ⟨a, b, e, r1, r2⟩ := r.two
    cases e
    cases hf
    exact op_add pins s σ H x y v u Q I rx ry ⟨_, _, rep1_int r1, rep1_int r2, q _ _ _ (New.scal rfl)⟩
  · obtain ⟨a, b, e, r1, r2⟩ := r.two
    cases e
    split at hf
    · rename_i hz
      cases hf
      exact op_add_str pins s σ H x y v u Q I rx ry ⟨_, _, rep1_str r1, rep1_str r2, by rw [← sizeMax_eq]; exact hz, q _ _ _ (New.scal rfl)⟩
    · cases hf
  · obtain ⟨a, b, e, r1, r2⟩ := r.two
    cases e
    split at hf
    · rename_i hz
      cases hf
      obtain ⟨a1, w1, e1, f1, g1⟩ := rep1_tup r1
      obtain ⟨a2, w2, e2, f2, g2⟩ := rep1_tup r2
      have l1 := Reps.length g1
      have l2 := Reps.length g2
      refine op_catA pins s σ H x y v u Q I rx ry ⟨a1, a2, w1, w2, e1, e2, f1.sq, f2.sq, by rw [l1, l2, ← sizeMax_eq]; exact hz, fun h => ?_, fun _ h => ?_, fun _ _ p hp => q _ _ _ (New.tup hn hp (g1.app g2))⟩
      · subst h
        have e3 := List.eq_nil_of_length_eq_zero l1.symm
        subst e3
        exact q _ _ _ (New.keep (by unfold Rep; exact ⟨a2, w2, rfl, f2, g2⟩))
      · subst h
        have e3 := List.eq_nil_of_length_eq_zero l2.symm
        subst e3
        rw [List.append_nil] at q
        exact q _ _ _ (New.keep (by unfold Rep; exact ⟨a1, w1, rfl, f1, g1⟩))
    · cases hf
  · obtain ⟨a, b, e, r1, r2⟩ := r.two
    cases e
    split at hf
    · rename_i hz
      cases hf
      obtain ⟨a1, w1, e1, f1, g1⟩ := r1
      obtain ⟨a2, w2, e2, f2, g2⟩ := r2
      exact o_catR pins s σ H x y v u Q I rx ry ⟨a1, a2, w1, w2, e1, e2, f1, f2, by rw [Reps.length g1, Reps.length g2, ← sizeMax_eq]; exact hz, fun p hp => q _ _ _ (New.lst hn hp (g1.app g2))⟩
    · cases hf
  · cases hf
end
end Ev
end
section
set_option Elab.async false
set_option linter.all false
set_option maxRecDepth 100000
namespace Ev
open PySem PySem.Spec PyProof.Rows L2
/-! ### data as the library has it -/
mutual
theorem D.py_lay : ∀ d : D, d.lay = true → d.py.canLay0 = true
  | .non, _ => rfl
  | .bl _, _ => rfl
  | .int _, _ => rfl
  | .str s, h => by
    rw [D.py]
    show s.cps.all (· < 0x110000) = true
    rw [← Array.all_toList]
    exact h
  | .tup xs, h => by rw [D.py]; exact D.pys_lay xs (by rw [D.lay] at h; exact h)
  | .lst xs, h => by rw [D.py]; exact D.pys_lay xs (by rw [D.lay] at h; exact h)
  | .dk _, h => by rw [D.lay] at h; cases h
  | .dt _, h => by rw [D.lay] at h; cases h
theorem D.pys_lay : ∀ ds : List D, D.lays ds = true → PyData.canLayAll0 (D.pys ds) = true
  | [], _ => rfl
  | d :: ds, h => by
    rw [D.lays, Bool.and_eq_true] at h
    rw [D.pys, PyData.canLayAll0, D.py_lay d h.1, D.pys_lay ds h.2]
    rfl
end
mutual
theorem D.py_depth : ∀ d : D, d.py.depth = d.dep
  | .non => rfl
  | .bl _ => rfl
  | .int _ => rfl
  | .str s => rfl
  | .tup xs => by rw [D.py, D.dep, PyData.depth, D.pys_depth xs]
  | .lst xs => by rw [D.py, D.dep, PyData.depth, D.pys_depth xs]
  | .dk _ => rfl
  | .dt _ => rfl
theorem D.pys_depth : ∀ ds : List D, PyData.depthAll (D.pys ds) = D.deps ds
  | [] => rfl
  | d :: ds => by rw [D.pys, D.deps, PyData.depthAll, D.py_depth d, D.pys_depth ds]
end
mutual
theorem D.py_eqv : ∀ d e : D, d.lay = true → e.lay = true → PyData.eqv d.py e.py = d.eqv e
  | .tup xs, e, h, k => by
    cases e <;> first | (exfalso; simp [D.lay] at k; done) | (simp only [D.py, D.eqv, PyData.eqv] <;> first | rfl | exact D.pys_eqv xs _ (by simpa only [D.lay] using h) (by simpa only [D.lay] using k))
  | .lst xs, e, h, k => by
    cases e <;> first | (exfalso; simp [D.lay] at k; done) | (simp only [D.py, D.eqv, PyData.eqv] <;> first | rfl | exact D.pys_eqv xs _ (by simpa only [D.lay] using h) (by simpa only [D.lay] using k))
  | .non, e, h, k => by cases e <;> first | (exfalso; simp [D.lay] at k; done) | (simp only [D.py, D.eqv, PyData.eqv] <;> rfl) | rfl
  | .bl _, e, h, k => by cases e <;> first | (exfalso; simp [D.lay] at k; done) | (simp only [D.py, D.eqv, PyData.eqv] <;> rfl) | rfl
  | .int _, e, h, k => by cases e <;> first | (exfalso; simp [D.lay] at k; done) | (simp only [D.py, D.eqv, PyData.eqv] <;> rfl) | rfl
  | .str _, e, h, k => by cases e <;> first | (exfalso; simp [D.lay] at k; done) | (simp only [D.py, D.eqv, PyData.eqv] <;> rfl) | rfl
  | .dk _, _, h, _ => by simp only [D.lay] at h; cases h
  | .dt _, _, h, _ => by simp only [D.lay] at h; cases h
theorem D.pys_eqv : ∀ ds es : List D, D.lays ds = true → D.lays es = true → PyData.eqvAll (D.pys ds) (D.pys es) = D.eqvs ds es
  | [], [], _, _ => rfl
  | [], _ :: _, _, _ => rfl
  | _ :: _, [], _, _ => rfl
  | d :: ds, e :: es, h, k => by
    rw [D.lays, Bool.and_eq_true] at h k
    rw [D.pys, D.pys, D.eqvs, PyData.eqvAll, D.py_eqv d e h.1 k.1, D.pys_eqv ds es h.2 k.2]
end
section
variable {K : PySem.W.Frag} {H : Hp} {N : Addr → Prop} {v : V} {vs : List V}
mutual
theorem Rep.dp : ∀ (d : D) (v : V), d.lay = true → Rep K H N v d → Dp K H v d.py
  | .non, _, _, h => by rw [rep_non h]; exact .non
  | .bl _, _, _, h => by rw [rep_bl h]; exact .bl _
  | .int _, _, _, h => by rw [rep_int h]; exact .int _
  | .str _, _, _, h => by rw [rep_str h]; exact .str _
  | .tup xs, v, l, h => by
    unfold Rep at h
    obtain ⟨a, ws, e, f, r⟩ := h
    subst e
    rw [D.py]
    exact .tup f.sq (Reps.dp xs ws (by rw [D.lay] at l; exact l) r)
  | .lst xs, v, l, h => by
    unfold Rep at h
    obtain ⟨a, ws, e, f, r⟩ := h
    subst e
    rw [D.py]
    exact .lst f.sq (Reps.dp xs ws (by rw [D.lay] at l; exact l) r)
  | .dk _, _, l, _ => by rw [D.lay] at l; cases l
  | .dt _, _, l, _ => by rw [D.lay] at l; cases l
theorem Reps.dp : ∀ (ds : List D) (vs : List V), D.lays ds = true → Reps K H N vs ds → DpAll K H vs (D.pys ds)
  | [], _, _, h => by unfold Reps at h; subst h; exact .nil
  | d :: ds, _, l, h => by
    unfold Reps at h
    obtain ⟨v, vr, e, a, b⟩ := h
    subst e
    rw [D.lays, Bool.and_eq_true] at l
    exact .cons (Rep.dp d v l.1 a) (Reps.dp ds vr l.2 b)
end
end
section
variable {X : Cx}
theorem eqO_cases {a b : D} {c : Bool} (h : eqO a b = some c) : (∃ i j, a = .int i ∧ b = .int j ∧ c = (i == j)) ∨ (∃ i j, a = .str i ∧ b = .str j ∧ c = (i == j)) ∨ (a.lay = true ∧ b.lay = true ∧ min a.dep b.dep ≤ 64 ∧ c = a.eqv b) := by
  unfold eqO at h
  split at h
  · cases h; exact .inl ⟨_, _, rfl, rfl, rfl⟩
  · cases h; exact .inr (.inl ⟨_, _, rfl, rfl, rfl⟩)
  · split at h
    · rename_i z
      cases h
      simp only [Bool.and_eq_true, decide_eq_true_eq] at z
      exact .inr (.inr ⟨z.1.1, z.1.2, z.2, rfl⟩)
    · cases h
theorem c_eq (hu : X.A.units + 64 < cLine) : OpR X (compareOp .Eq) (fun x y H Q => rRd X.K fEq [x, y] H Q) := by
  intro pins s σ H x y v u Q I rx ry ⟨ds, d, r, hf, q⟩
  unfold fEq at hf
  split at hf
  · rename_i a b
    obtain ⟨x1, y1, e, r1, r2⟩ := r.two
    cases e
    obtain ⟨c, hc, e2⟩ := Option.map_eq_some_iff.mp hf
    subst e2
    rcases eqO_cases hc with ⟨i, j, rfl, rfl, rfl⟩ | ⟨i, j, rfl, rfl, rfl⟩ | ⟨l1, l2, hd, rfl⟩
    · have ex := rep_int r1
      have ey := rep_int r2
      subst ex ey
      exact op_eq pins s σ H _ _ v u Q I rx ry ⟨rfl, by rw [dec_int]; exact q _ _ rfl fun _ _ y => y⟩
    · have ex := rep_str r1
      have ey := rep_str r2
      subst ex ey
      exact op_eq pins s σ H _ _ v u Q I rx ry ⟨rfl, by rw [dec_str]; exact q _ _ rfl fun _ _ y => y⟩
    · obtain ⟨as, p1⟩ := Dp.reads I _ _ v (Rep.dp a _ l1 r1) rx
      obtain ⟨bs, p2⟩ := Dp.reads I _ _ u (Rep.dp b _ l2 r2) ry
      refine SeqAt.compareEq_reads p1 p2 (D.py_lay a l1) (D.py_lay b l2) (by rw [D.py_depth, D.py_depth]; omega) ⟨.bl _, H, I, rfl, ?_⟩
      rw [D.py_eqv a b l1 l2]
      exact q _ _ rfl fun _ _ y => y
  · cases hf
theorem c_ne (hu : X.A.units + 64 < cLine) : OpR X (compareOp .NotEq) (fun x y H Q => rRd X.K fNe [x, y] H Q) := by
  intro pins s σ H x y v u Q I rx ry ⟨ds, d, r, hf, q⟩
  unfold fNe at hf
  split at hf
  · rename_i a b
    obtain ⟨x1, y1, e, r1, r2⟩ := r.two
    cases e
    obtain ⟨c, hc, e2⟩ := Option.map_eq_some_iff.mp hf
    subst e2
    rcases eqO_cases hc with ⟨i, j, rfl, rfl, rfl⟩ | ⟨i, j, rfl, rfl, rfl⟩ | ⟨l1, l2, hd, rfl⟩
    · have ex := rep_int r1
      have ey := rep_int r2
      subst ex ey
      exact op_ne pins s σ H _ _ v u Q I rx ry ⟨rfl, by rw [dec_int]; exact q _ _ rfl fun _ _ y => y⟩
    · have ex := rep_str r1
      have ey := rep_str r2
      subst ex ey
      exact op_ne pins s σ H _ _ v u Q I rx ry ⟨rfl, by rw [dec_str]; exact q _ _ rfl fun _ _ y => y⟩
    · obtain ⟨as, p1⟩ := Dp.reads I _ _ v (Rep.dp a _ l1 r1) rx
      obtain ⟨bs, p2⟩ := Dp.reads I _ _ u (Rep.dp b _ l2 r2) ry
      refine SeqAt.compareNe_reads p1 p2 (D.py_lay a l1) (D.py_lay b l2) (by rw [D.py_depth, D.py_depth]; omega) ⟨.bl _, H, I, rfl, ?_⟩
      rw [D.py_eqv a b l1 l2]
      exact q _ _ rfl fun _ _ y => y
  · cases hf
/-- is None: the right side is None itself -/
theorem rep_isnon {K : PySem.W.Frag} {H : Hp} {N : Addr → Prop} {v : V} {d : D} (h : Rep K H N v d) : decide (v = .non) = d.isNon := by
  cases d with
  | non => have e := rep_non h; subst e; rfl
  | bl _ => have e := rep_bl h; subst e; rfl
  | int _ => have e := rep_int h; subst e; simp [D.isNon]
  | str _ => have e := rep_str h; subst e; simp [D.isNon]
  | tup _ => unfold Rep at h; obtain ⟨a, vs, e, _⟩ := h; subst e; simp [D.isNon]
  | lst _ => unfold Rep at h; obtain ⟨a, vs, e, _⟩ := h; subst e; simp [D.isNon]
  | dk _ => unfold Rep at h; obtain ⟨a, vs, e, _⟩ := h; subst e; simp [D.isNon]
  | dt _ => unfold Rep at h; obtain ⟨a, vs, e, _⟩ := h; subst e; simp [D.isNon]
section
variable {W : XP} {m : Ev OR} {a : Expr} {pos pos2 : Pos} {j : Nat}
theorem isn_go {K : PySem.W.Frag} {v : V} {H : Hp} {Q : VK} (h : rRd K fIsN [v] H Q) : Q (.bl (decide (v = .non))) H := by
  obtain ⟨ds, d, r, hf, q⟩ := h
  cases ds with
  | nil => cases hf
  | cons d1 dr =>
    cases dr with
    | cons _ _ => cases d1 <;> cases hf
    | nil =>
      obtain ⟨x1, e, r1⟩ := r.one
      cases e
      rw [rep_isnon r1]
      cases d1 <;> (cases hf; exact q _ _ rfl fun _ _ y => y)
theorem notn_go {K : PySem.W.Frag} {v : V} {H : Hp} {Q : VK} (h : rRd K fNotN [v] H Q) : Q (.bl (!decide (v = .non))) H := by
  obtain ⟨ds, d, r, hf, q⟩ := h
  cases ds with
  | nil => cases hf
  | cons d1 dr =>
    cases dr with
    | cons _ _ => cases d1 <;> cases hf
    | nil =>
      obtain ⟨x1, e, r1⟩ := r.one
      cases e
      rw [rep_isnon r1]
      cases d1 <;> (cases hf; exact q _ _ rfl fun _ _ y => y)
theorem e_isN (ha : PE X a (tR X.K W m)) : PE X (.Compare a [.Is] [.Constant .none j pos2] pos) (tR X.K W (mRd fIsN [m])) :=
  (pe_cmp (pc_isN ha)).to fun σ H Q h => by
    obtain ⟨F, e, fp, R, q⟩ := tA_last (tR_rd h)
    exact ⟨F, e, fp, R, wp_mono q (fun x e1 z v H1 fp1 fv A => isn_go (z v H1 fp1 fv A)) fun _ _ z => z⟩
theorem e_notN (ha : PE X a (tR X.K W m)) : PE X (.Compare a [.IsNot] [.Constant .none j pos2] pos) (tR X.K W (mRd fNotN [m])) :=
  (pe_cmp (pc_notN ha)).to fun σ H Q h => by
    obtain ⟨F, e, fp, R, q⟩ := tA_last (tR_rd h)
    exact ⟨F, e, fp, R, wp_mono q (fun x e1 z v H1 fp1 fv A => notn_go (z v H1 fp1 fv A)) fun _ _ z => z⟩
theorem t_isN (ha : PE X a (tR X.K W m)) : PT X (.Compare a [.Is] [.Constant .none j pos2] pos) (tT X.K W (tV (mRd fIsN [m]))) :=
  (pt_cmp (pc_isN ha)).to fun σ H Q h => by
    obtain ⟨F, e, fp, R, q⟩ := tA_last (tR_rd (tV_ _ h))
    exact ⟨F, e, fp, R, wp_mono q (fun x e1 z v H1 fp1 fv A => isn_go (z v H1 fp1 fv A)) fun _ _ z => z⟩
theorem t_notN (ha : PE X a (tR X.K W m)) : PT X (.Compare a [.IsNot] [.Constant .none j pos2] pos) (tT X.K W (tV (mRd fNotN [m]))) :=
  (pt_cmp (pc_notN ha)).to fun σ H Q h => by
    obtain ⟨F, e, fp, R, q⟩ := tA_last (tR_rd (tV_ _ h))
    exact ⟨F, e, fp, R, wp_mono q (fun x e1 z v H1 fp1 fv A => notn_go (z v H1 fp1 fv A)) fun _ _ z => z⟩
end
/-! ### numbers -/
theorem int2 {K : PySem.W.Frag} {H : Hp} {N : Addr → Prop} {x y : V} {i j : Int} (r : Rep1s K H N [x, y] [.int i, .int j]) : x = .int i ∧ y = .int j := by
  obtain ⟨a, b, e, r1, r2⟩ := r.two
  cases e
  exact ⟨rep1_int r1, rep1_int r2⟩
theorem int2' {K : PySem.W.Frag} {H : Hp} {N : Addr → Prop} {x y : V} {i j : Int} (r : Reps K H N [x, y] [.int i, .int j]) : x = .int i ∧ y = .int j := by
  obtain ⟨a, b, e, r1, r2⟩ := r.two
  cases e
  exact ⟨rep_int r1, rep_int r2⟩
theorem c_int {op : CmpOp} {p : Int → Int → Bool} (ho : OpR X (compareOp op) (rI0 fun i j => .bl (p i j))) : OpR X (compareOp op) (fun x y H Q => rRd X.K (cmpI p) [x, y] H Q) := by
  intro pins s σ H x y v u Q I rx ry ⟨ds, d, r, hf, q⟩
  unfold cmpI at hf
  split at hf
  · cases hf
    obtain ⟨e1, e2⟩ := int2' r
    exact ho pins s σ H x y v u Q I rx ry ⟨_, _, e1, e2, q _ _ rfl fun _ _ y => y⟩
  · cases hf
theorem c_lt : OpR X (compareOp .Lt) (fun x y H Q => rRd X.K fLt [x, y] H Q) := c_int op_lt
theorem c_le : OpR X (compareOp .LtE) (fun x y H Q => rRd X.K fLe [x, y] H Q) := c_int op_le
theorem c_gt : OpR X (compareOp .Gt) (fun x y H Q => rRd X.K fGt [x, y] H Q) := c_int op_gt
theorem c_ge : OpR X (compareOp .GtE) (fun x y H Q => rRd X.K fGe [x, y] H Q) := c_int op_ge
theorem o_sub : OpR X (binaryOp .Sub) (fun x y H Q => rOp X.K fSub [x, y] H Q) := by
  intro pins s σ H x y v u Q I rx ry ⟨N, ds, o, hn, r, hf, q⟩
  unfold fSub at hf
  split at hf
  · cases hf
    obtain ⟨e1, e2⟩ := int2 r
    exact op_sub pins s σ H x y v u Q I rx ry ⟨_, _, e1, e2, q _ _ _ (New.scal rfl)⟩
  · cases hf
theorem log2_8000 {i : Int} (h : big2 i = true) : i.natAbs.log2 < 8000 := by
  have h' : i.natAbs < 2 ^ 8000 := of_decide_eq_true h
  exact PySem.Flt.log2_lt_of (by decide) h'
theorem o_repR : OpR X (binaryOp .Mult) (fun x y H Q => ∃ l k xs, x = .ref l ∧ y = .int k ∧ Rd H l (.lst xs) ∧ -(2 ^ 63) ≤ k ∧ k < 2 ^ 63 ∧ xs.length * k.toNat ≤ sizeLine ∧
  ∀ p, H p = none → Q (.ref p) (upd H p (.lst (List.replicate k.toNat xs).flatten))) := by
  intro pins s σ H x y v u Q I rx ry h
  obtain ⟨l, k, xs, rfl, rfl, hH, h1, h2, hz, q⟩ := h
  cases rx
  obtain ⟨t, rfl⟩ := ry
  obtain ⟨z, its, n, r, hl, e⟩ := Inv.lstR I hH
  have hlen : its.toArray.size * k.toNat ≤ sizeLine := by rw [List.size_toArray, ← hl]; exact hz
  have hcap : ¬ its.toArray.size * k.toNat > (2 ^ 63 - 1) / 8 := by
    have : (sizeLine : Nat) ≤ (2 ^ 63 - 1) / 8 := by decide
    omega
  have hfit : ¬ (!Builtin.List.listFitsIndex k) = true := by
    rw [fitsIndex_both h1 h2]
    exact Bool.false_ne_true
  have hlong : ¬ Builtin.List.listTooLong (its.toArray.size * k.toNat) = true := by
    rw [notLongL hlen]
    exact Bool.false_ne_true
  have hnew : List.foldl (fun x1 x2 => x1 ++ x2) #[] (List.replicate (if its.toArray.isEmpty = true then 0 else k.toNat) its.toArray) = (List.replicate k.toNat its).flatten.toArray := by
    have f0 : ∀ m : Nat, List.foldl (fun x1 x2 => x1 ++ x2) #[] (List.replicate m its.toArray) = (List.replicate m its).flatten.toArray := fun m => by
      have := foldl_rep its m []
      rw [List.nil_append] at this
      exact this
    rw [f0]
    cases its with
    | nil => simp
    | cons a r' => rw [if_neg (by simp)]
  refine wpAny_binaryOp_repeat_ref (T := "list") (U := "int") (by decide) ⟨_, e, rfl⟩ (fun s' => typeIs_int s' k t) noFill_list_mul F.fills_int_mul F.slot_int_rmul repeat_list F.slot_int_index.lookup
    (call_meets F.slot_int_rmul (typeIs_int s k t) F.entry_int_rmul (F.args_int_rmul_2 _ _) (int___rmul___int_list k t l its.toArray n)
      ⟨e, rfl, ⟨_, e, rfl⟩, call_meets F.slot_list_mul ⟨_, e, rfl⟩ F.entry_list_mul (F.args_list_mul_2 _ _) (AutoListH.list___mul___list_int_3 l its.toArray n k t hfit hcap hlong) ⟨e, ?_⟩⟩)
  rw [hnew]
  exact ⟨.ref _, _, I.lnew (t' := s.toks) (r.rep k.toNat) (by rw [PyProof.Rows.lm_len_rep_flat, Nat.mul_comm]; exact hz), rfl, q _ I.fresh⟩
theorem Reps.rep {K : PySem.W.Frag} {H : Hp} {N : Addr → Prop} {ds : List D} {ws : List V} (r : Reps K H N ws ds) : ∀ n : Nat, Reps K H N (List.replicate n ws).flatten (List.replicate n ds).flatten
  | 0 => by unfold Reps; rfl
  | n + 1 => by
    rw [List.replicate_succ, List.replicate_succ, List.flatten_cons, List.flatten_cons]
    exact r.app (Reps.rep r n)
theorem o_mul : OpR X (binaryOp .Mult) (fun x y H Q => rOp X.K fMul [x, y] H Q) := by
  intro pins s σ H x y v u Q I rx ry ⟨N, ds, o, hn, r, hf, q⟩
  unfold fMul at hf
  split at hf
  · split at hf
    · rename_i i j hc
      cases hf
      obtain ⟨e1, e2⟩ := int2 r
      unfold mulOk at hc
      simp only [Bool.or_eq_true, Bool.and_eq_true] at hc
      rcases hc with (hc | hc) | ⟨h1, h2⟩
      · unfold big1 at hc
        simp only [Bool.and_eq_true, decide_eq_true_eq] at hc
        exact op_mul pins s σ H x y v u Q I rx ry ⟨_, _, e1, e2, .inl hc, q _ _ _ (New.scal rfl)⟩
      · unfold big1 at hc
        simp only [Bool.and_eq_true, decide_eq_true_eq] at hc
        exact op_mul pins s σ H x y v u Q I rx ry ⟨_, _, e1, e2, .inr hc, q _ _ _ (New.scal rfl)⟩
      · have l1 := log2_8000 h1
        have l2 := log2_8000 h2
        exact op_mulW pins s σ H x y v u Q I rx ry ⟨_, _, e1, e2, by unfold CMulW; omega, q _ _ _ (New.scal rfl)⟩
    · cases hf
  · split at hf
    · rename_i xs k hc
      cases hf
      obtain ⟨a, b, e, r1, r2⟩ := r.two
      cases e
      obtain ⟨l, ws, e1, f1, g1⟩ := r1
      unfold smallI at hc
      simp only [Bool.and_eq_true, decide_eq_true_eq] at hc
      exact o_repR pins s σ H x y v u Q I rx ry ⟨l, k, ws, e1, rep1_int r2, f1, by omega, by omega, by rw [Reps.length g1, ← sizeMax_eq]; exact hc.2, fun p hp => q _ _ _ (New.lst hn hp (g1.rep _))⟩
    · cases hf
  · cases hf
theorem o_div : OpR X (binaryOp .FloorDiv) (fun x y H Q => rOp X.K fDiv [x, y] H Q) := by
  intro pins s σ H x y v u Q I rx ry ⟨N, ds, o, hn, r, hf, q⟩
  unfold fDiv at hf
  split at hf
  · split at hf
    · rename_i i j hc
      cases hf
      obtain ⟨e1, e2⟩ := int2 r
      unfold divOk at hc
      simp only [Bool.and_eq_true, decide_eq_true_eq] at hc
      exact op_fdivW pins s σ H x y v u Q I rx ry ⟨_, _, e1, e2, ⟨hc.1, Nat.lt_trans (log2_8000 hc.2) (by decide)⟩, q _ _ _ (New.scal rfl)⟩
    · cases hf
  · cases hf
theorem o_mod : OpR X (binaryOp .Mod) (fun x y H Q => rOp X.K fMod [x, y] H Q) := by
  intro pins s σ H x y v u Q I rx ry ⟨N, ds, o, hn, r, hf, q⟩
  unfold fMod at hf
  split at hf
  · split at hf
    · rename_i i j hc
      cases hf
      obtain ⟨e1, e2⟩ := int2 r
      exact op_mod pins s σ H x y v u Q I rx ry ⟨_, _, e1, e2, of_decide_eq_true hc, q _ _ _ (New.scal rfl)⟩
    · cases hf
  · cases hf
theorem o_pow : OpR X (binaryOp .Pow) (fun x y H Q => rOp X.K fPow [x, y] H Q) := by
  intro pins s σ H x y v u Q I rx ry ⟨N, ds, o, hn, r, hf, q⟩
  unfold fPow at hf
  split at hf
  · split at hf
    · rename_i i j hc
      cases hf
      obtain ⟨e1, e2⟩ := int2 r
      unfold powOk at hc
      simp only [Bool.and_eq_true, decide_eq_true_eq] at hc
      exact op_pow pins s σ H x y v u Q I rx ry ⟨_, _, e1, e2, ⟨hc.1.1, hc.1.2, hc.2⟩, q _ _ _ (New.scal rfl)⟩
    · cases hf
  · cases hf
theorem u_neg : UnR X (unaryOp .USub) (fun x H Q => rOp X.K fNeg [x] H Q) := by
  intro pins s σ H x v Q I rx ⟨N, ds, o, hn, r, hf, q⟩
  unfold fNeg at hf
  split at hf
  · cases hf
    obtain ⟨a, e, r1⟩ := r.one
    cases e
    exact un_neg pins s σ H x v Q I rx ⟨_, rep1_int r1, q _ _ _ (New.scal rfl)⟩
  · cases hf
theorem b_abs : CallR X (.builtin "abs") (rOp X.K fAbs) := by
  intro pins s σ H xs us Q I rx ⟨N, ds, o, hn, r, hf, q⟩
  unfold fAbs at hf
  split at hf
  · cases hf
    obtain ⟨a, e, r1⟩ := r.one
    subst e
    exact call_abs pins s σ H _ us Q I rx ⟨_, by rw [rep1_int r1], q _ _ _ (New.scal rfl)⟩
  · cases hf
theorem b_int : CallR X (.type "int") (rOp X.K fInt) := by
  intro pins s σ H xs us Q I rx ⟨N, ds, o, hn, r, hf, q⟩
  unfold fInt at hf
  split at hf
  · cases hf
    obtain ⟨a, e, r1⟩ := r.one
    subst e
    exact call_int1 pins s σ H _ us Q I rx (.inl ⟨_, by rw [rep1_int r1], q _ _ _ (New.scal rfl)⟩)
  · cases hf
    obtain ⟨a, e, r1⟩ := r.one
    subst e
    exact call_int1 pins s σ H _ us Q I rx (.inr ⟨_, by rw [rep1_bl r1], q _ _ _ (New.scal rfl)⟩)
  · cases hf
theorem b_min2 (hc : X.calm = true) : CallR X (.builtin "min") (rOp X.K fMin2) := by
  intro pins s σ H xs us Q I rx ⟨N, ds, o, hn, r, hf, q⟩
  unfold fMin2 at hf
  split at hf
  · cases hf
    obtain ⟨a, b, e, r1, r2⟩ := r.two
    subst e
    exact call_min2 hc pins s σ H _ us Q I rx ⟨_, _, by rw [rep1_int r1, rep1_int r2], q _ _ _ (New.scal rfl)⟩
  · cases hf
theorem b_max2 (hc : X.calm = true) : CallR X (.builtin "max") (rOp X.K fMax2) := by
  intro pins s σ H xs us Q I rx ⟨N, ds, o, hn, r, hf, q⟩
  unfold fMax2 at hf
  split at hf
  · cases hf
    obtain ⟨a, b, e, r1, r2⟩ := r.two
    subst e
    exact call_max2 hc pins s σ H _ us Q I rx ⟨_, _, by rw [rep1_int r1, rep1_int r2], q _ _ _ (New.scal rfl)⟩
  · cases hf
end
end Ev
end
section
set_option Elab.async false
set_option linter.all false
set_option maxRecDepth 100000
namespace Ev
open PySem PySem.Spec PyProof.Rows L2
/-! ### isinstance -/
def Ty.nm : Ty → String
  | .int => "int" | .bool => "bool" | .str => "str" | .list => "list" | .tuple => "tuple" | .dict => "dict"
def D.tyNm : D → String
  | .non => "NoneType" | .bl _ => "bool" | .int _ => "int" | .str _ => "str" | .tup _ => "tuple" | .lst _ => "list" | .dk _ => "dict" | .dt _ => "dict"
theorem kit_none (t : Ty) : kitB "NoneType" t.nm = some false := by cases t <;> decide +kernel
theorem kit_bool (t : Ty) : kitB "bool" t.nm = some (D.isT (.bl true) t) := by cases t <;> decide +kernel
theorem kit_int (t : Ty) : kitB "int" t.nm = some (D.isT (.int 0) t) := by cases t <;> decide +kernel
theorem kit_str (t : Ty) : kitB "str" t.nm = some (D.isT (.str ⟨#[]⟩) t) := by cases t <;> decide +kernel
theorem kit_tup (t : Ty) : kitB "tuple" t.nm = some (D.isT (.tup []) t) := by cases t <;> decide +kernel
theorem kit_lst (t : Ty) : kitB "list" t.nm = some (D.isT (.lst []) t) := by cases t <;> decide +kernel
theorem kit_dct (t : Ty) : kitB "dict" t.nm = some (D.isT (.dk []) t) := by cases t <;> decide +kernel
theorem kit_d (d : D) (t : Ty) : kitB d.tyNm t.nm = some (d.isT t) := by
  cases d with
  | non => rw [show D.tyNm .non = "NoneType" from rfl, kit_none]; cases t <;> rfl
  | bl b => rw [show D.tyNm (.bl b) = "bool" from rfl, kit_bool]; cases t <;> rfl
  | int b => rw [show D.tyNm (.int b) = "int" from rfl, kit_int]; cases t <;> rfl
  | str b => rw [show D.tyNm (.str b) = "str" from rfl, kit_str]; cases t <;> rfl
  | tup b => rw [show D.tyNm (.tup b) = "tuple" from rfl, kit_tup]; cases t <;> rfl
  | lst b => rw [show D.tyNm (.lst b) = "list" from rfl, kit_lst]; cases t <;> rfl
  | dk b => rw [show D.tyNm (.dk b) = "dict" from rfl, kit_dct]; cases t <;> rfl
  | dt b => rw [show D.tyNm (.dt b) = "dict" from rfl, kit_dct]; cases t <;> rfl
section
variable {K : PySem.W.Frag} {H : Hp} {N : Addr → Prop} {v : V} {d : D}
theorem rep_ty (h : Rep K H N v d) : TyX K H v (.type d.tyNm) := by
  cases d with
  | non => rw [rep_non h]; exact .base .non
  | bl b => rw [rep_bl h]; exact .base (.bl b)
  | int b => rw [rep_int h]; exact .base (.int b)
  | str b => rw [rep_str h]; exact .base (.str b)
  | tup ds =>
    unfold Rep at h
    obtain ⟨a, ws, e, f, r⟩ := h
    subst e
    exact .base (.tup f.1)
  | lst ds =>
    unfold Rep at h
    obtain ⟨a, ws, e, f, r⟩ := h
    subst e
    rcases f with ⟨f | ⟨o, f⟩, _⟩
    · exact .base (.lst f)
    · exact .base (.frz f)
  | dk ds =>
    unfold Rep at h
    obtain ⟨a, ws, e, f, r⟩ := h
    subst e
    rcases f with ⟨f | ⟨o, f⟩, _⟩
    · exact .base (.dK f)
    · exact .fDict f
  | dt ds =>
    unfold Rep at h
    obtain ⟨a, ws, e, f, r⟩ := h
    subst e
    exact .base (.dT f.1)
end
theorem kitAny_d (K : PySem.W.Frag) (d : D) : ∀ ts : List Ty, PySem.W.kitAny K (.type d.tyNm) (ts.map fun t => .type t.nm) = some (ts.any d.isT)
  | [] => rfl
  | t :: ts => by
    rw [List.map_cons, List.any_cons]
    refine kitAny_cons (kit_ty (kit_d d t)) (fun e => ?_) (fun e => ?_)
    · rw [e, Bool.false_or]
      exact kitAny_d K d ts
    · rw [e, Bool.true_or]
theorem cls_ty : ∀ ts : List Ty, Paired ClsV (ts.map fun t => V.ty t.nm) (ts.map fun t => Value.type t.nm)
  | [] => .nil
  | t :: ts => .cons (.ty _) (cls_ty ts)
/-- the name of a built-in type -/
structure TyN (X : Cx) (e : Expr) (t : Ty) : Prop where
  pe : PE X e (tC (.ty t.nm))
section
variable {X : Cx} {W : XP} {m : Ev OR} {a b : Expr} {pos p p2 : Pos} {t : Ty}
theorem tyn {x : Str} (hg : Gl X x) (hm : X.mg x = none) (hv : bootBuiltins x = some (.type t.nm)) (hn : x ≠ "__name__" := by decide) (hd : (x == ("__debug__" : Str)) = false := by decide) : TyN X (.Name x pos) t := ⟨pe_bltn hg hm hv rfl hn hd⟩
theorem isi_go {K : PySem.W.Frag} {v : V} {H : Hp} {Q : VK} {ts : List Ty} (h : rRd K (fIsI ts) [v] H Q) : ∃ d, Rep K H (fun _ => False) v d ∧ ∀ H', (∀ a u, H a = some u → H' a = some u) → Q (.bl (ts.any d.isT)) H' := by
  obtain ⟨ds, d, r, hf, q⟩ := h
  cases ds with
  | nil => cases hf
  | cons d1 dr =>
    cases dr with
    | cons _ _ => cases hf
    | nil =>
      obtain ⟨x1, e, r1⟩ := r.one
      cases e
      cases hf
      exact ⟨d1, r1, fun H' hs => q _ _ rfl hs⟩
theorem e_isi {x : Str} (hg : Gl X x) (hm : X.mg x = none) (hv : bootBuiltins x = some (.builtin "isinstance")) (ha : PE X a (tR X.K W m)) (hb : TyN X b t) (hn : x ≠ "__name__" := by decide) (hdb : (x == ("__debug__" : Str)) = false := by decide)
    (he : starEach [a, b] X.env = (false, eval a X.env) :: starEach [b] X.env := by rfl) (he2 : starEach [b] X.env = (false, eval b X.env) :: starEach [] X.env := by rfl) (hpl : (backTo pos (starEach [b] X.env)).any (·.1) = false := by rfl) :
    PE X (.Call (.Name x p) [a, b] [] pos) (tR X.K W (mRd (fIsI [t]) [m])) :=
  (pe_callB call_isi hg hm hv (pa_cons ha (pa_cons hb.pe pa_nil he2) he) hn hdb he hpl).to fun σ H Q h => by
    obtain ⟨F, e, fp, R, q⟩ := tA_last (tR_rd h)
    refine ⟨F, e, fp, R, wp_mono q (fun x e1 z v H1 fp1 fv A => ?_) fun _ _ z => z⟩
    obtain ⟨d, r, hq⟩ := isi_go (z v H1 fp1 fv A)
    refine ⟨v, .ty t.nm, _, _, _, rfl, .ty _, rep_ty r, kit_ty (kit_d d t), ?_⟩
    have hq := hq H1 fun _ _ y => y
    rw [show [t].any d.isT = d.isT t from Bool.or_false _] at hq
    exact hq
/-- isinstance(x, (T, U, ..)): the tuple is laid and forgotten -/
theorem e_isiT {x : Str} {es : List Expr} {k : Nat} {ts : List Ty} (hg : Gl X x) (hm : X.mg x = none) (hv : bootBuiltins x = some (.builtin "isinstance")) (ha : PE X a (tR X.K W m)) (hb : PA X es (fun _ H Q => Q (ts.map fun t => V.ty t.nm) H)) (hl : ts.length ≤ 1000 := by decide) (hn : x ≠ "__name__" := by decide) (hdb : (x == ("__debug__" : Str)) = false := by decide)
    (he : starEach [a, .Tuple es k p2] X.env = (false, eval a X.env) :: starEach [.Tuple es k p2] X.env := by rfl) (he2 : starEach [.Tuple es k p2] X.env = (false, eval (.Tuple es k p2) X.env) :: starEach [] X.env := by rfl) (hpl : (backTo pos (starEach [.Tuple es k p2] X.env)).any (·.1) = false := by rfl) :
    PE X (.Call (.Name x p) [a, .Tuple es k p2] [] pos) (tR X.K W (mRd (fIsI ts) [m])) :=
  (pe_callB call_isiT hg hm hv (pa_cons ha (pa_cons (pe_tup hb) pa_nil he2) he) hn hdb he hpl).to fun σ H Q h => by
    obtain ⟨F, e, fp, R, q⟩ := tA_last (tR_rd h)
    refine ⟨F, e, fp, R, wp_mono q (fun x e1 z v H1 fp1 fv A => ?_) fun _ _ z => z⟩
    obtain ⟨d, r, hq⟩ := isi_go (z v H1 fp1 fv A)
    refine ⟨by rw [List.length_map]; exact Nat.le_trans hl (by decide), fun q hp => ?_⟩
    refine ⟨v, q, _, _, _, _, rfl, upd_same, cls_ty ts, rep_ty (Rep.mono (fun a u e n => ⟨upd_stb (N := fun _ => False) hp a u e, n⟩) _ _ r), kitAny_d _ d ts, hq _ (upd_stb (N := fun _ => False) hp)⟩
theorem a_ty1 (hb : TyN X b t) (he2 : starEach [b] X.env = (false, eval b X.env) :: starEach [] X.env := by rfl) : PA X [b] (fun _ H Q => Q ([t].map fun t => V.ty t.nm) H) := pa_cons hb.pe pa_nil he2
theorem a_ty2 {es : List Expr} {ts : List Ty} (hb : TyN X b t) (hr : PA X es (fun _ H Q => Q (ts.map fun t => V.ty t.nm) H)) (he : starEach (b :: es) X.env = (false, eval b X.env) :: starEach es X.env := by rfl) :
    PA X (b :: es) (fun _ H Q => Q ((t :: ts).map fun t => V.ty t.nm) H) := pa_cons hb.pe hr he
/-! ### sizes, sums -/
theorem Reps.ints {K : PySem.W.Frag} {H : Hp} {N : Addr → Prop} : ∀ {ds : List D} {ns : List Int} {ws : List V}, Reps K H N ws ds → ints? ds = some ns → ws = ns.map V.int
  | [], ns, ws, r, h => by unfold ints? at h; cases h; unfold Reps at r; exact r
  | d :: ds, ns, ws, r, h => by
    cases d with
    | int i =>
      unfold ints? at h
      obtain ⟨nr, h1, h2⟩ := Option.map_eq_some_iff.mp h
      subst h2
      unfold Reps at r
      obtain ⟨v, vr, e, r1, r2⟩ := r
      subst e
      rw [rep_int r1, Reps.ints r2 h1]
      rfl
    | _ => unfold ints? at h; cases h
theorem Reps.bls {K : PySem.W.Frag} {H : Hp} {N : Addr → Prop} : ∀ {ds : List D} {ns : List Bool} {ws : List V}, Reps K H N ws ds → bls? ds = some ns → ws = ns.map V.bl
  | [], ns, ws, r, h => by unfold bls? at h; cases h; unfold Reps at r; exact r
  | d :: ds, ns, ws, r, h => by
    cases d with
    | bl i =>
      unfold bls? at h
      obtain ⟨nr, h1, h2⟩ := Option.map_eq_some_iff.mp h
      subst h2
      unfold Reps at r
      obtain ⟨v, vr, e, r1, r2⟩ := r
      subst e
      rw [rep_bl r1, Reps.bls r2 h1]
      rfl
    | _ => unfold bls? at h; cases h
theorem Reps.strs {K : PySem.W.Frag} {H : Hp} {N : Addr → Prop} : ∀ {ds : List D} {ns : List Str} {ws : List V}, Reps K H N ws ds → strs? ds = some ns → ws = ns.map V.str
  | [], ns, ws, r, h => by unfold strs? at h; cases h; unfold Reps at r; exact r
  | d :: ds, ns, ws, r, h => by
    cases d with
    | str i =>
      unfold strs? at h
      obtain ⟨nr, h1, h2⟩ := Option.map_eq_some_iff.mp h
      subst h2
      unfold Reps at r
      obtain ⟨v, vr, e, r1, r2⟩ := r
      subst e
      rw [rep_str r1, Reps.strs r2 h1]
      rfl
    | _ => unfold strs? at h; cases h
theorem b_sum (hc : X.calm = true) : CallR X (.builtin "sum") (rRd X.K fSum) := by
  intro pins s σ H xs us Q I rx ⟨ds, d, r, hf, q⟩
  unfold fSum at hf
  split at hf
  · obtain ⟨x, e, r1⟩ := r.one
    subst e
    obtain ⟨ns, h1, h2⟩ := Option.map_eq_some_iff.mp hf
    subst h2
    unfold Rep at r1
    obtain ⟨a, ws, e, f, g⟩ := r1
    subst e
    have e2 := g.ints h1
    subst e2
    exact cr_sum hc pins s σ H _ us Q I rx ⟨a, ns, rfl, f.sq, q _ _ rfl fun _ _ y => y⟩
  · cases hf
theorem b_all (hc : X.calm = true) : CallR X (.builtin "all") (rRd X.K fAll) := by
  intro pins s σ H xs us Q I rx ⟨ds, d, r, hf, q⟩
  unfold fAll at hf
  split at hf
  · obtain ⟨x, e, r1⟩ := r.one
    subst e
    obtain ⟨ns, h1, h2⟩ := Option.map_eq_some_iff.mp hf
    subst h2
    unfold Rep at r1
    obtain ⟨a, ws, e, f, g⟩ := r1
    subst e
    have e2 := g.bls h1
    subst e2
    exact cr_all hc pins s σ H _ us Q I rx ⟨a, ns, rfl, f.sq, q _ _ rfl fun _ _ y => y⟩
  · cases hf
theorem b_any (hc : X.calm = true) : CallR X (.builtin "any") (rRd X.K fAny) := by
  intro pins s σ H xs us Q I rx ⟨ds, d, r, hf, q⟩
  unfold fAny at hf
  split at hf
  · obtain ⟨x, e, r1⟩ := r.one
    subst e
    obtain ⟨ns, h1, h2⟩ := Option.map_eq_some_iff.mp hf
    subst h2
    unfold Rep at r1
    obtain ⟨a, ws, e, f, g⟩ := r1
    subst e
    have e2 := g.bls h1
    subst e2
    exact cr_any hc pins s σ H _ us Q I rx ⟨a, ns, rfl, f.sq, q _ _ rfl fun _ _ y => y⟩
  · cases hf
theorem b_len : CallR X (.builtin "len") (rRd X.K fLen) := by
  intro pins s σ H xs us Q I rx ⟨ds, d, r, hf, q⟩
  unfold fLen at hf
  split at hf
  · split at hf
    · rename_i hz
      cases hf
      obtain ⟨x, e, r1⟩ := r.one
      subst e
      have e2 := rep_str r1
      subst e2
      exact call_len_str pins s σ H _ us Q I rx ⟨_, rfl, by rw [← sizeMax_eq]; exact hz, q _ _ rfl fun _ _ y => y⟩
    · cases hf
  · cases hf
    obtain ⟨x, e, r1⟩ := r.one
    subst e
    unfold Rep at r1
    obtain ⟨a, ws, e, f, g⟩ := r1
    subst e
    exact call_len_seq pins s σ H _ us Q I rx ⟨a, ws, rfl, .inl f.sq, by rw [Reps.length g]; exact q _ _ rfl fun _ _ y => y⟩
  · cases hf
    obtain ⟨x, e, r1⟩ := r.one
    subst e
    unfold Rep at r1
    obtain ⟨a, ws, e, f, g⟩ := r1
    subst e
    exact call_len_seq pins s σ H _ us Q I rx ⟨a, ws, rfl, .inr f.sq, by rw [Reps.length g]; exact q _ _ rfl fun _ _ y => y⟩
  · cases hf
    obtain ⟨x, e, r1⟩ := r.one
    subst e
    unfold Rep at r1
    obtain ⟨a, ws, e, f, g⟩ := r1
    subst e
    obtain ⟨u, hu, ru⟩ := vals1 rx
    subst hu
    cases ru
    exact d_len I f.1 fun t s' I' => ⟨.int ws.length, H, I', ⟨t, rfl⟩, by rw [Repk.length g]; exact q _ _ rfl fun _ _ y => y⟩
  · cases hf
/-! ### made new -/
theorem rep1_lst {K : PySem.W.Frag} {H : Hp} {N : Addr → Prop} {v : V} {ds : List D} (h : Rep1 K H N v (.lst ds)) : ∃ a ws, v = .ref a ∧ Rd H a (.lst ws) ∧ Reps K H N ws ds := h
theorem b_list : CallR X (.type "list") (rOp X.K fList) := by
  intro pins s σ H xs us Q I rx ⟨N, ds, o, hn, r, hf, q⟩
  unfold fList at hf
  split at hf
  · cases hf
    obtain ⟨x, e, r1⟩ := r.one
    subst e
    obtain ⟨a, ws, e, f, g⟩ := rep1_lst r1
    subst e
    exact call_list_of pins s σ H _ us Q I rx ⟨a, ws, rfl, .inl (.inl f), fun p hp => q _ _ _ (New.lst hn hp g)⟩
  · cases hf
    obtain ⟨x, e, r1⟩ := r.one
    subst e
    obtain ⟨a, ws, e, f, g⟩ := rep1_tup r1
    subst e
    exact call_list_of pins s σ H _ us Q I rx ⟨a, ws, rfl, .inr f.sq, fun p hp => q _ _ _ (New.lst hn hp g)⟩
  · cases hf
theorem b_tuple : CallR X (.type "tuple") (rOp X.K fTuple) := by
  intro pins s σ H xs us Q I rx ⟨N, ds, o, hn, r, hf, q⟩
  unfold fTuple at hf
  split at hf
  · cases hf
    obtain ⟨x, e, r1⟩ := r.one
    subst e
    obtain ⟨a, ws, e, f, g⟩ := rep1_lst r1
    subst e
    exact call_tuple_of pins s σ H _ us Q I rx ⟨a, ws, rfl, .inl ⟨.inl f, fun p hp => q _ _ _ (New.tup hn hp g)⟩⟩
  · cases hf
    obtain ⟨x, e, r1⟩ := r.one
    subst e
    obtain ⟨a, ws, e, f, g⟩ := rep1_tup r1
    subst e
    exact call_tuple_of pins s σ H _ us Q I rx ⟨a, ws, rfl, .inr ⟨f.sq, q _ _ _ (New.keep (by unfold Rep; exact ⟨a, ws, rfl, f, g⟩))⟩⟩
  · cases hf
end
end Ev
end
section
set_option Elab.async false
set_option linter.all false
set_option maxRecDepth 100000
namespace Ev
open PySem PySem.Spec PyProof.Rows L2
/-! ### simple operands: constants, names that hold frozen data -/
def tS (K : PySem.W.Frag) (m : Ev OR) : TE := fun σ H Q => ∃ F e fp, Rel K F H σ e fp ∧ ∃ d, m e = .ok (.v (.fr d)) e ∧ ∀ v, Rep K H (Fp F fp) v d → Q v H
structure Smp (X : Cx) (e : Expr) (m : Ev OR) : Prop where
  pe : PE X e (tS X.K m)
  only : ∀ e x e', m e = .ok x e' → e' = e
  calm : ∀ e x e', m e ≠ .exc x e'
  frz : ∀ e o e', m e = .ok (.v o) e' → ∃ d, o = .fr d
section
variable {X : Cx} {W : XP} {m ma mk : Ev OR} {a k : Expr} {pos : Pos} {j : Nat}
theorem s_int {i : Int} : Smp X (.Constant (.int i) j pos) (mC (.int i)) := ⟨pe_int.to fun σ H Q ⟨F, e, fp, R, d, h, q⟩ => q _ (by cases h; unfold Rep; rfl), (fun e x e' h => by cases h; rfl), (fun e x e' h => by cases h), (fun e x e' h => by cases h; exact ⟨_, rfl⟩)⟩
theorem s_str {i : Str} : Smp X (.Constant (.str i) j pos) (mC (.str i)) := ⟨pe_str.to fun σ H Q ⟨F, e, fp, R, d, h, q⟩ => q _ (by cases h; unfold Rep; rfl), (fun e x e' h => by cases h; rfl), (fun e x e' h => by cases h), (fun e x e' h => by cases h; exact ⟨_, rfl⟩)⟩
theorem mV_keeps {i : Nat} : ∀ e x e', mV i e = .ok x e' → e' = e := fun e x e' h => by
  unfold mV at h
  split at h <;> first | (cases h; rfl) | cases h
theorem mV_calm {i : Nat} : ∀ e x e', mV i e ≠ .exc x e' := fun e x e' h => by
  unfold mV at h
  split at h <;> cases h
theorem mV_frz {i : Nat} : ∀ e o e', mV i e = .ok (.v o) e' → ∃ d, o = .fr d := fun e x e' h => by
  unfold mV at h
  split at h <;> first | (cases h; exact ⟨_, rfl⟩) | cases h
theorem s_var (i : Nat) {x : Str} (hN : X.N[i]? = some x := by rfl) (hv : Vis X.env.scope x := by first | exact Or.inl rfl | exact Or.inr (Or.inl rfl) | exact Or.inr (Or.inr rfl)) (hd : (x == ("__debug__" : Str)) = false := by decide)
    (hcd : (x == ("__classdict__" : Str)) = false := by decide) : Smp X (.Name x pos) (mV i) := by
  refine ⟨(pe_var hN hv hd hcd).to fun σ H Q ⟨F, e, fp, R, d, h, q⟩ => ?_, mV_keeps, mV_calm, mV_frz⟩
  unfold mV at h
  cases hi : e.at i with
  | none => rw [hi] at h; cases h
  | some o =>
    obtain ⟨A, f, B, v, e1, e2, r, _⟩ := R.slot hi
    rw [hi] at h
    cases o with
    | fr d' =>
      cases h
      unfold RepO at r
      exact ⟨v, e2, q v r.2⟩
    | _ => cases h
/-- a simple operand as any other -/
theorem Smp.r (s : Smp X k mk) (h : ∀ e x e', mk e = .ok x e' → ∃ d, x = .v (.fr d)) (h2 : ∀ e, ∃ x, mk e = .ok x e ∨ mk e = .fail) : PE X k (tR X.K W mk) := s.pe.to fun σ H Q ⟨F, e, fp, R, q⟩ => by
  obtain ⟨x, hx | hx⟩ := h2 e
  · obtain ⟨d, e1⟩ := h e x e hx
    subst e1
    rw [hx] at q
    exact ⟨F, e, fp, R, d, hx, fun v r => q v H fp [] (Af.now R ⟨rfl, r⟩)⟩
  · rw [hx] at q
    exact q.elim
end
/-! ### items -/
theorem ixN_eq {n : Nat} {i : Int} : ixN n i = L2.ixN n i := rfl
theorem atI_eq {α : Type} {xs : List α} {i : Int} : atI xs i = L2.atI xs i := rfl
section
variable {K : PySem.W.Frag} {H : Hp} {N : Addr → Prop} {v : V}
theorem Reps.atI {ds : List D} {ws : List V} {i : Int} {z : D} (r : Reps K H N ws ds) (h : Ev.atI ds i = some z) : ∃ w, L2.atI ws i = some w ∧ Rep K H N w z := by
  unfold Ev.atI at h
  obtain ⟨n, h1, h2⟩ := Option.bind_eq_some_iff.mp h
  obtain ⟨w, h3, h4⟩ := r.get h2
  refine ⟨w, ?_, h4⟩
  unfold L2.atI
  rw [Reps.length r, ← ixN_eq, h1]
  exact h3
theorem RepOs.atI {os : List O} {ws : List V} {i : Int} {z : O} {f : List Addr} (r : RepOs K H N ws os f) (h : Ev.atI os i = some z) : ∃ w g, L2.atI ws i = some w ∧ RepO K H N w z g ∧ ∀ a ∈ g, a ∈ f := by
  unfold Ev.atI at h
  obtain ⟨n, h1, h2⟩ := Option.bind_eq_some_iff.mp h
  obtain ⟨w, g, h3, h4, h5⟩ := RepOs.at_ os ws f n r z h2
  refine ⟨w, g, ?_, h4, h5⟩
  unfold L2.atI
  rw [RepOs.length os ws f r, ← ixN_eq, h1]
  exact h3
/-- an item by the library's reading of subscripts -/
theorem item_rep {o : O} {g : List Addr} {d z : D} {y : V} (r : RepO K H N v o g) (ry : Rep K H N y d) (h : o.item d = some z) : ∃ w, Rep K H N w z ∧ ∀ Q : VK, Q w H → rIx K v y H Q := by
  unfold O.item at h
  split at h
  · unfold RepO Rep at r
    obtain ⟨_, a, ws, e, f, s⟩ := r
    obtain ⟨w, h1, h2⟩ := s.atI h
    exact ⟨w, h2, fun Q q => .inl ⟨a, ws, _, w, e, rep_int ry, f.sq, h1, q⟩⟩
  · unfold RepO Rep at r
    obtain ⟨_, a, ws, e, f, s⟩ := r
    obtain ⟨w, h1, h2⟩ := s.atI h
    exact ⟨w, h2, fun Q q => .inr (.inl ⟨a, ws, _, w, e, rep_int ry, f.sq, h1, q⟩)⟩
  · split at h
    · rename_i hz
      obtain ⟨c, h1, h2⟩ := Option.map_eq_some_iff.mp h
      subst h2
      unfold RepO at r
      exact ⟨_, scal_rep rfl, fun Q q => .inr (.inr ⟨_, _, c, rep_str r.2, rep_int ry, by rw [← sizeMax_eq]; exact hz, h1, q⟩)⟩
    · cases h
  · unfold RepO at r
    obtain ⟨a, ws, fq, e, e2, hb, s⟩ := r
    obtain ⟨o1, h1, h2⟩ := Option.bind_eq_some_iff.mp h
    obtain ⟨w, g1, h3, h4, h5⟩ := s.atI h1
    cases o1 with
    | fr d1 =>
      cases h2
      unfold RepO at h4
      exact ⟨w, h4.2, fun Q q => .inl ⟨a, ws, _, w, e, rep_int ry, SqL.of hb, h3, q⟩⟩
    | _ => cases h2
  · cases h
theorem key_rep {d : D} {k : Key} {y : V} (ry : Rep K H N y d) (h : d.key = some k) : y = kV k := by
  cases d with
  | int i => cases h; exact rep_int ry
  | str i => cases h; exact rep_str ry
  | _ => cases h
theorem keys_rep : ∀ {ds : List D} {ks : List Key} {ws : List V}, Reps K H N ws ds → D.keys ds = some ks → ws = ks.map kV
  | [], ks, ws, r, h => by unfold D.keys at h; cases h; unfold Reps at r; exact r
  | d :: ds, ks, ws, r, h => by
    unfold D.keys at h
    unfold Reps at r
    obtain ⟨v, vr, e, r1, r2⟩ := r
    obtain ⟨k, h1, h2⟩ := Option.bind_eq_some_iff.mp h
    obtain ⟨kr, h3, h4⟩ := Option.map_eq_some_iff.mp h2
    subst h4 e
    rw [key_rep r1 h1, keys_rep r2 h3]
    rfl
/-- a tuple as a key of a dict: it is tracked -/
theorem tkey_rep {d : D} {k : List Key} {y : V} (ry : Rep K H N y d) (h : d.tkey = some k) : ∃ b ws, y = .ref b ∧ FzT K H N b ws ∧ ws = k.map kV := by
  cases d with
  | tup ds =>
    unfold Rep at ry
    obtain ⟨b, ws, e, f, r⟩ := ry
    exact ⟨b, ws, e, f, keys_rep r h⟩
  | _ => cases h
theorem valV_kget {κ : Type} [DecidableEq κ] (k : κ) : ∀ kvs : List (κ × V), valV kvs k = kget kvs k
  | [] => rfl
  | (j, v) :: r => by
    unfold kget
    by_cases e : j = k
    · rw [if_pos e, valV_pos e]
    · rw [if_neg e, valV_neg (p := (j, v)) e, valV_kget k r]
theorem Repk.get {k : Key} : ∀ {kvs : List (Key × D)} {ws : List (Key × V)} {d : D}, Repk K H N ws kvs → kget kvs k = some d → ∃ w, kget ws k = some w ∧ Rep K H N w d
  | [], _, _, _, h => by cases h
  | (j, d0) :: kvs, ws, d, r, h => by
    unfold Repk at r
    obtain ⟨v, vr, e, r1, r2⟩ := r
    subst e
    unfold kget at h ⊢
    by_cases z : j = k
    · rw [if_pos z] at h ⊢
      cases h
      exact ⟨v, rfl, r1⟩
    · rw [if_neg z] at h ⊢
      exact Repk.get r2 h
theorem Rept.get {k : List Key} : ∀ {kvs : List (List Key × D)} {ws : List (List Key × V)} {d : D}, Rept K H N ws kvs → kget kvs k = some d → ∃ w, kget ws k = some w ∧ Rep K H N w d
  | [], _, _, _, h => by cases h
  | (j, d0) :: kvs, ws, d, r, h => by
    unfold Rept at r
    obtain ⟨v, vr, e, r1, r2⟩ := r
    subst e
    unfold kget at h ⊢
    by_cases z : j = k
    · rw [if_pos z] at h ⊢
      cases h
      exact ⟨v, rfl, r1⟩
    · rw [if_neg z] at h ⊢
      exact Rept.get r2 h
theorem Repk.none {k : Key} : ∀ {kvs : List (Key × D)} {ws : List (Key × V)}, Repk K H N ws kvs → kget kvs k = .none → kget ws k = .none
  | [], _, r, _ => by unfold Repk at r; subst r; rfl
  | (j, d0) :: kvs, ws, r, h => by
    unfold Repk at r
    obtain ⟨v, vr, e, r1, r2⟩ := r
    subst e
    unfold kget at h ⊢
    by_cases z : j = k
    · rw [if_pos z] at h
      cases h
    · rw [if_neg z] at h ⊢
      exact Repk.none r2 h
theorem Rept.none {k : List Key} : ∀ {kvs : List (List Key × D)} {ws : List (List Key × V)}, Rept K H N ws kvs → kget kvs k = .none → kget ws k = .none
  | [], _, r, _ => by unfold Rept at r; subst r; rfl
  | (j, d0) :: kvs, ws, r, h => by
    unfold Rept at r
    obtain ⟨v, vr, e, r1, r2⟩ := r
    subst e
    unfold kget at h ⊢
    by_cases z : j = k
    · rw [if_pos z] at h
      cases h
    · rw [if_neg z] at h ⊢
      exact Rept.none r2 h
theorem trk_rep {d : D} {k : List Key} {y : V} (ry : Rep K H N y d) (h : d.tkey = some k) : ∃ b, y = .ref b ∧ H b = some (.tup (k.map kV)) := by
  obtain ⟨b, ws, e, f, e2⟩ := tkey_rep ry h
  subst e2
  exact ⟨b, e, f.1⟩
theorem itemD_rep {o : O} {g : List Addr} {d z : D} {y : V} (r : RepO K H N v o g) (ry : Rep K H N y d) (h : o.itemD d = some z) : ∃ w, Rep K H N w z ∧ ∃ a, v = .ref a ∧ DGet H a y (some w) := by
  unfold O.itemD at h
  split at h
  · obtain ⟨k, h1, h2⟩ := Option.bind_eq_some_iff.mp h
    unfold RepO Rep at r
    obtain ⟨_, a, ws, e, f, s⟩ := r
    obtain ⟨w, h3, h4⟩ := s.get h2
    exact ⟨w, h4, a, e, .inl ⟨ws, k, f.1, key_rep ry h1, by rw [valV_kget, h3]⟩⟩
  · obtain ⟨k, h1, h2⟩ := Option.bind_eq_some_iff.mp h
    unfold RepO Rep at r
    obtain ⟨_, a, ws, e, f, s⟩ := r
    obtain ⟨w, h3, h4⟩ := s.get h2
    obtain ⟨b, e2, f2⟩ := trk_rep ry h1
    exact ⟨w, h4, a, e, .inr ⟨ws, k, b, .inl f.1, e2, f2, by rw [valV_kget, h3]⟩⟩
  · obtain ⟨o1, h1, h2⟩ := Option.bind_eq_some_iff.mp h
    obtain ⟨k, h3, h4⟩ := Option.bind_eq_some_iff.mp h1
    unfold RepO at r
    obtain ⟨a, ws, fq, e, e2, hb, s⟩ := r
    obtain ⟨w, g1, h5, h6, _⟩ := RepOk.at_ _ ws fq k s o1 h4
    cases o1 with
    | fr d1 =>
      cases h2
      unfold RepO at h6
      exact ⟨w, h6.2, a, e, .inl ⟨ws, k, .inl hb, key_rep ry h3, by rw [valV_kget, h5]⟩⟩
    | _ => cases h2
  · obtain ⟨o1, h1, h2⟩ := Option.bind_eq_some_iff.mp h
    obtain ⟨k, h3, h4⟩ := Option.bind_eq_some_iff.mp h1
    unfold RepO at r
    obtain ⟨a, ws, fq, e, e2, hb, s⟩ := r
    obtain ⟨w, g1, h5, h6, _⟩ := RepOt.at_ _ ws fq k s o1 h4
    cases o1 with
    | fr d1 =>
      cases h2
      unfold RepO at h6
      obtain ⟨b, e3, f3⟩ := trk_rep ry h3
      exact ⟨w, h6.2, a, e, .inr ⟨ws, k, b, .inl hb, e3, f3, by rw [valV_kget, h5]⟩⟩
    | _ => cases h2
  · cases h
end
section
variable {K : PySem.W.Frag} {W : XP} {F : Addr → Prop} {H H1 H2 : Hp} {σ : St} {e e1 e2 : Env} {fp fp1 fp2 fv fw : List Addr} {v w : V} {x y : OR}
theorem Af.one (A : Af K F H fp σ H1 e1 fp1 v x fv) : Afs K F H fp σ H1 e1 fp1 [v] [x] fv :=
  ⟨A.rel, ⟨v, [], fv, [], rfl, (List.append_nil _).symm, A.val, rfl, rfl⟩, A.nod, A.dis, A.stb, A.kF⟩
theorem Af.two (A : Af K F H fp σ H1 e1 fp1 v x fv) (B : Af K (Fp F fv) H1 fp1 σ H2 e2 fp2 w y fw) (hx : x.root = true ∨ Stays H1 e1 H2 e2) : Afs K F H fp σ H2 e2 fp2 [v, w] [x, y] (fv ++ fw) := A.cons B.one hx
theorem Afs.at0 {vs : List V} {xs : List OR} (A : Afs K F H fp σ H1 e1 fp1 (v :: vs) (x :: xs) fv) {o : O} (h : x.obj e1 = some o) : ∃ g, RepO K H1 (Fp (Fp F fv) fp1) v o g := by
  obtain ⟨v1, vr, f1, f2, a, b, c, d⟩ := A.val
  cases a
  obtain ⟨g, r, _⟩ := RepR'.obj c A.rel h
  exact ⟨g, r⟩
theorem Afs.fz1 (A : Afs K F H fp σ H1 e1 fp1 [v, w] [x, y] fv) {d : D} (h : y.fz = some d) : Rep K H1 (Fp (Fp F fv) fp1) w d := by
  obtain ⟨v1, vr, f1, f2, a, b, c, w1, wr, g1, g2, a2, b2, c2, d2⟩ := A.val
  cases a
  cases a2
  unfold OR.fz at h
  split at h
  · cases h
    have c3 : RepO K H1 _ w (.fr _) g1 := c2
    unfold RepO at c3
    exact c3.2
  · cases h
end
section
variable {X : Cx} {W : XP} {m ma mk : Ev OR} {a k : Expr} {pos : Pos} {j : Nat}
theorem subFin_go {K : PySem.W.Frag} {W : XP} {f : O → D → Option D} {x y : OR} {e : Env} {P : OR → Env → Prop} {WW : Exn → Env → Prop} (h : (subFin f x y e).wp P WW) : ∃ o d z, x.obj e = some o ∧ y = .v (.fr d) ∧ f o d = some z ∧ P (.v (.fr z)) e := by
  unfold subFin at h
  split at h
  · rename_i o d h1 h2
    split at h
    · rename_i z h3
      refine ⟨o, d, z, h1, ?_, h3, h⟩
      unfold OR.fz at h2
      split at h2 <;> first | (cases h2; rfl) | cases h2
    · exact h.elim
  · exact h.elim
theorem e_sub (hr : Rooty ma) (ha : PE X a (tR X.K W ma)) (hk : PE X k (tR X.K W mk)) (hs : PlainIx k := by intro _ _; rfl) : PE X (.Subscript a k pos) (tR X.K W (mSub ma mk)) :=
  (pe_ix ix_seq ha hk hs).to fun σ H Q ⟨F, e, fp, R, q⟩ => by
    refine ⟨F, e, fp, R, ?_⟩
    have q2 := wp_bind q
    cases hm : ma e with
    | fail => rw [hm] at q2; exact q2.elim
    | exc x e1 => rw [hm] at q2; exact q2
    | ok x e1 =>
      rw [hm] at q2
      intro v H1 fp1 fv A
      refine ⟨Fp F fv, e1, fp1, A.rel, wp_mono (wp_bind q2) (fun y e2 z w H2 fp2 fw B => ?_) fun y e2 z H2 fp2 G => z H2 fp2 (Gone.lift A G)⟩
      have C := A.two B (.inl (hr e x e1 hm))
      obtain ⟨o, d, u, h1, h2, h3, z'⟩ := subFin_go (K := X.K) (W := W) z
      subst h2
      obtain ⟨g, r⟩ := C.at0 h1
      obtain ⟨w1, rw1, hq⟩ := item_rep r (C.fz1 rfl) h3
      exact hq Q (z' w1 H2 fp2 [] (C.drop.val (Rep.mono (Stb.same fun a y => y.imp .inl id) _ _ rw1)))
/-- .. the index is simple -/
theorem Smp.go {F : Addr → Prop} {H H1 : Hp} {σ : L2.St} {e e1 : Env} {fp fp1 fv : List Addr} {v : V} {x : OR} {β : Type} {f : OR → Ev β} {P : β → Env → Prop} {WW : Exn → Env → Prop} (hk : Smp X k mk) (z : (mk.bind f e1).wp P WW) : ∃ y, mk e1 = .ok y e1 ∧ (f y e1).wp P WW := by
  unfold Ev.bind at z
  cases hm : mk e1 with
  | fail => rw [hm] at z; exact z.elim
  | exc y e2 => exact absurd hm (hk.calm _ _ _)
  | ok y e2 =>
    have e3 := hk.only _ _ _ hm
    subst e3
    rw [hm] at z
    exact ⟨y, rfl, z⟩
theorem e_subS (ha : PE X a (tR X.K W ma)) (hk : Smp X k mk) (hs : PlainIx k := by intro _ _; rfl) : PE X (.Subscript a k pos) (tR X.K W (mSub ma mk)) :=
  (pe_ix ix_seq ha hk.pe hs).to fun σ H Q ⟨F, e, fp, R, q⟩ => by
    refine ⟨F, e, fp, R, wp_mono (wp_bind q) (fun x e1 z v H1 fp1 fv A => ?_) fun _ _ z => z⟩
    refine ⟨Fp F fv, e1, fp1, A.rel, ?_⟩
    obtain ⟨y, hm, z⟩ := hk.go (F := F) (H := H) (H1 := H1) (σ := σ) (e := e1) (fp := fp) (fp1 := fp1) (fv := fv) (v := v) (x := x) z
    obtain ⟨o, d, u, h1, h2, h3, z'⟩ := subFin_go (K := X.K) (W := W) z
    subst h2
    refine ⟨d, hm, fun w rw0 => ?_⟩
    obtain ⟨g, r, _⟩ := RepR'.obj A.val A.rel h1
    obtain ⟨w1, rw1, hq⟩ := item_rep r rw0 h3
    exact hq Q (z' w1 H1 fp1 [] (A.drop.val (Rep.mono (Stb.same fun a y => y.imp .inl id) _ _ rw1)))
theorem e_subD (hu : X.A.units + 1 < cLine) (hr : Rooty ma) (ha : PE X a (tR X.K W ma)) (hk : PE X k (tR X.K W mk)) (hs : NoSl k := by intro _ _; rfl) : PE X (.Subscript a k pos) (tR X.K W (mSubD ma mk)) :=
  (pe_dget hu ha hk hs).to fun σ H Q ⟨F, e, fp, R, q⟩ => by
    refine ⟨F, e, fp, R, ?_⟩
    have q2 := wp_bind q
    cases hm : ma e with
    | fail => rw [hm] at q2; exact q2.elim
    | exc x e1 => rw [hm] at q2; exact q2
    | ok x e1 =>
      rw [hm] at q2
      intro v H1 fp1 fv A
      refine ⟨Fp F fv, e1, fp1, A.rel, wp_mono (wp_bind q2) (fun y e2 z w H2 fp2 fw B => ?_) fun y e2 z H2 fp2 G => z H2 fp2 (Gone.lift A G)⟩
      have C := A.two B (.inl (hr e x e1 hm))
      obtain ⟨o, d, u, h1, h2, h3, z'⟩ := subFin_go (K := X.K) (W := W) z
      subst h2
      obtain ⟨g, r⟩ := C.at0 h1
      obtain ⟨w1, rw1, a1, ea, hq⟩ := itemD_rep r (C.fz1 rfl) h3
      exact ⟨a1, w1, ea, hq, z' w1 H2 fp2 [] (C.drop.val (Rep.mono (Stb.same fun a y => y.imp .inl id) _ _ rw1))⟩
theorem e_subDS (hu : X.A.units + 1 < cLine) (ha : PE X a (tR X.K W ma)) (hk : Smp X k mk) (hs : NoSl k := by intro _ _; rfl) : PE X (.Subscript a k pos) (tR X.K W (mSubD ma mk)) :=
  (pe_dget hu ha hk.pe hs).to fun σ H Q ⟨F, e, fp, R, q⟩ => by
    refine ⟨F, e, fp, R, wp_mono (wp_bind q) (fun x e1 z v H1 fp1 fv A => ?_) fun _ _ z => z⟩
    refine ⟨Fp F fv, e1, fp1, A.rel, ?_⟩
    obtain ⟨y, hm, z⟩ := hk.go (F := F) (H := H) (H1 := H1) (σ := σ) (e := e1) (fp := fp) (fp1 := fp1) (fv := fv) (v := v) (x := x) z
    obtain ⟨o, d, u, h1, h2, h3, z'⟩ := subFin_go (K := X.K) (W := W) z
    subst h2
    refine ⟨d, hm, fun w rw0 => ?_⟩
    obtain ⟨g, r, _⟩ := RepR'.obj A.val A.rel h1
    obtain ⟨w1, rw1, a1, ea, hq⟩ := itemD_rep r rw0 h3
    exact ⟨a1, w1, ea, hq, z' w1 H1 fp1 [] (A.drop.val (Rep.mono (Stb.same fun a y => y.imp .inl id) _ _ rw1))⟩
end
end Ev
end
section
set_option Elab.async false
set_option linter.all false
set_option maxRecDepth 100000
namespace Ev
open PySem PySem.Spec PyProof.Rows L2
/-! ### data in order -/
theorem lays_mem : ∀ {ds : List D} {d : D}, D.lays ds = true → d ∈ ds → d.lay = true
  | [], _, _, h => nomatch h
  | x :: xs, d, l, h => by
    rw [D.lays, Bool.and_eq_true] at l
    rcases List.mem_cons.mp h with e | h
    · rw [e]; exact l.1
    · exact lays_mem l.2 h
mutual
theorem py_inj : ∀ a b : D, a.lay = true → b.lay = true → a.py = b.py → a = b
  | .non, b, _, h, e => by cases b <;> first | rfl | (exfalso; simp [D.lay] at h; done) | (simp only [D.py] at e; cases e)
  | .bl _, b, _, _, e => by cases b <;> simp only [D.py] at e <;> cases e <;> rfl
  | .int _, b, _, _, e => by cases b <;> simp only [D.py] at e <;> cases e <;> rfl
  | .str _, b, _, _, e => by cases b <;> simp only [D.py] at e <;> cases e <;> rfl
  | .tup xs, b, l, h, e => by
    cases b <;> simp only [D.py] at e <;> first | cases e; done | skip
    rename_i ys
    injection e with e
    rw [pys_inj xs ys (by rw [D.lay] at l; exact l) (by rw [D.lay] at h; exact h) e]
  | .lst xs, b, l, h, e => by
    cases b <;> simp only [D.py] at e <;> first | cases e; done | skip
    rename_i ys
    injection e with e
    rw [pys_inj xs ys (by rw [D.lay] at l; exact l) (by rw [D.lay] at h; exact h) e]
  | .dk _, _, l, _, _ => by rw [D.lay] at l; cases l
  | .dt _, _, l, _, _ => by rw [D.lay] at l; cases l
theorem pys_inj : ∀ as bs : List D, D.lays as = true → D.lays bs = true → D.pys as = D.pys bs → as = bs
  | [], [], _, _, _ => rfl
  | [], _ :: _, _, _, e => by rw [D.pys, D.pys] at e; cases e
  | _ :: _, [], _, _, e => by rw [D.pys, D.pys] at e; cases e
  | a :: as, b :: bs, l, h, e => by
    rw [D.lays, Bool.and_eq_true] at l h
    rw [D.pys, D.pys] at e
    injection e with e1 e2
    rw [py_inj a b l.1 h.1 e1, pys_inj as bs l.2 h.2 e2]
end
theorem pys_map : ∀ ds : List D, D.pys ds = ds.map D.py
  | [] => rfl
  | d :: ds => by rw [D.pys, List.map_cons, pys_map ds]
theorem py_non {d : D} (l : d.lay = true) (h : d.isNon = false) : d.py ≠ .none := by
  cases d with
  | non => cases h
  | dk _ => rw [D.lay] at l; cases l
  | dt _ => rw [D.lay] at l; cases l
  | _ => rw [D.py]; exact fun z => by cases z
mutual
theorem shp_alike : ∀ d x y : D, d.shp x = true → d.shp y = true → PySem.W.alike x.py y.py = true
  | .non, x, y, h1, h2 => by cases x <;> cases y <;> first | rfl | (simp [D.shp] at h1; done) | (simp [D.shp] at h2; done)
  | .bl _, x, y, h1, h2 => by cases x <;> cases y <;> first | rfl | (simp [D.shp] at h1; done) | (simp [D.shp] at h2; done)
  | .int _, x, y, h1, h2 => by cases x <;> cases y <;> first | rfl | (simp [D.shp] at h1; done) | (simp [D.shp] at h2; done)
  | .str _, x, y, h1, h2 => by cases x <;> cases y <;> first | rfl | (simp [D.shp] at h1; done) | (simp [D.shp] at h2; done)
  | .tup ds, x, y, h1, h2 => by
    cases x <;> first | (simp [D.shp] at h1; done) | skip
    cases y <;> first | (simp [D.shp] at h2; done) | skip
    rename_i xs ys
    rw [D.shp] at h1 h2
    rw [D.py, D.py]
    exact shps_alike ds xs ys h1 h2
  | .lst ds, x, y, h1, h2 => by
    cases x <;> first | (simp [D.shp] at h1; done) | skip
    cases y <;> first | (simp [D.shp] at h2; done) | skip
    rename_i xs ys
    rw [D.shp] at h1 h2
    rw [D.py, D.py]
    exact shps_alike ds xs ys h1 h2
  | .dk _, x, y, h1, _ => by cases x <;> simp [D.shp] at h1
  | .dt _, x, y, h1, _ => by cases x <;> simp [D.shp] at h1
theorem shps_alike : ∀ ds xs ys : List D, D.shps ds xs = true → D.shps ds ys = true → PySem.W.alikeAll (D.pys xs) (D.pys ys) = true
  | [], [], [], _, _ => rfl
  | [], _ :: _, _, h, _ => by simp [D.shps] at h
  | [], [], _ :: _, _, h => by simp [D.shps] at h
  | _ :: _, [], _, h, _ => by simp [D.shps] at h
  | _ :: _, _ :: _, [], _, h => by simp [D.shps] at h
  | d :: ds, x :: xs, y :: ys, h1, h2 => by
    rw [D.shps, Bool.and_eq_true] at h1 h2
    rw [D.pys, D.pys, PySem.W.alikeAll, shp_alike d x y h1.1 h2.1, shps_alike ds xs ys h1.2 h2.2]
    rfl
end
mutual
theorem shp_refl : ∀ d : D, d.lay = true → d.shp d = true
  | .non, _ => rfl
  | .bl _, _ => rfl
  | .int _, _ => rfl
  | .str _, _ => rfl
  | .tup xs, h => by rw [D.lay] at h; rw [D.shp]; exact shps_refl xs h
  | .lst xs, h => by rw [D.lay] at h; rw [D.shp]; exact shps_refl xs h
  | .dk _, h => by rw [D.lay] at h; cases h
  | .dt _, h => by rw [D.lay] at h; cases h
theorem shps_refl : ∀ ds : List D, D.lays ds = true → D.shps ds ds = true
  | [], _ => rfl
  | d :: ds, h => by
    rw [D.lays, Bool.and_eq_true] at h
    rw [D.shps, shp_refl d h.1, shps_refl ds h.2]; rfl
end
theorem alikeB_ok {ds : List D} (h : alikeB ds = true) : D.lays ds = true ∧ D.deps ds ≤ 60 ∧ PySem.W.AlikeAll (D.pys ds) := by
  unfold alikeB at h
  rw [Bool.and_eq_true, Bool.and_eq_true, decide_eq_true_eq, Bool.or_eq_true] at h
  obtain ⟨⟨h1, h2⟩, h3⟩ := h
  have h4 : ∀ x ∈ ds, x.isNon = false ∧ ∀ y ∈ ds, PySem.W.alike x.py y.py = true := by
    rcases h3 with h3 | h3
    · cases ds with
      | nil => intro x hx; cases hx
      | cons d ds =>
        rw [alikeF, Bool.and_eq_true, Bool.not_eq_true', List.all_eq_true] at h3
        have hs : ∀ x ∈ d :: ds, d.shp x = true := fun x hx => by
          rcases List.mem_cons.mp hx with e | e
          · rw [e]; exact shp_refl d (lays_mem h1 List.mem_cons_self)
          · exact h3.2 x e
        intro x hx
        refine ⟨?_, fun y hy => shp_alike d x y (hs x hx) (hs y hy)⟩
        have := hs x hx
        cases x with
        | non => cases d <;> first | (cases h3.1; done) | (simp [D.shp] at this; done)
        | _ => rfl
    · intro x hx
      have := List.all_eq_true.mp h3 x hx
      rw [Bool.and_eq_true, Bool.not_eq_true', List.all_eq_true] at this
      exact this
  refine ⟨h1, h2, fun x hx y hy => ?_, fun x hx => ?_⟩
  · rw [pys_map] at hx hy
    obtain ⟨a, ha, rfl⟩ := List.mem_map.mp hx
    obtain ⟨b, hb, rfl⟩ := List.mem_map.mp hy
    exact (h4 a ha).2 b hb
  · rw [pys_map] at hx
    obtain ⟨a, ha, rfl⟩ := List.mem_map.mp hx
    exact py_non (lays_mem h1 ha) (h4 a ha).1
theorem minF_mem (d : D) : ∀ ds : List D, minF d ds ∈ d :: ds := by
  intro ds
  unfold minF
  induction ds generalizing d with
  | nil => exact List.mem_cons_self
  | cons x xs ih =>
    rw [List.foldl_cons]
    split
    · exact List.mem_cons_of_mem _ (ih x)
    · rcases List.mem_cons.mp (ih d) with e | h
      · rw [e]; exact List.mem_cons_self
      · exact List.mem_cons_of_mem _ (List.mem_cons_of_mem _ h)
theorem maxF_mem (d : D) : ∀ ds : List D, maxF d ds ∈ d :: ds := by
  intro ds
  unfold maxF
  induction ds generalizing d with
  | nil => exact List.mem_cons_self
  | cons x xs ih =>
    rw [List.foldl_cons]
    split
    · exact List.mem_cons_of_mem _ (ih x)
    · rcases List.mem_cons.mp (ih d) with e | h
      · rw [e]; exact List.mem_cons_self
      · exact List.mem_cons_of_mem _ (List.mem_cons_of_mem _ h)
theorem minF_py (d : D) : ∀ ds : List D, PySem.W.minD d.py (D.pys ds) = (minF d ds).py := by
  intro ds
  unfold PySem.W.minD minF
  rw [pys_map]
  induction ds generalizing d with
  | nil => rfl
  | cons x xs ih =>
    rw [List.map_cons, List.foldl_cons, List.foldl_cons]
    unfold ltD
    split
    · exact ih x
    · exact ih d
theorem maxF_py (d : D) : ∀ ds : List D, PySem.W.maxD d.py (D.pys ds) = (maxF d ds).py := by
  intro ds
  unfold PySem.W.maxD maxF
  rw [pys_map]
  induction ds generalizing d with
  | nil => rfl
  | cons x xs ih =>
    rw [List.map_cons, List.foldl_cons, List.foldl_cons]
    unfold ltD
    split
    · exact ih x
    · exact ih d
section
variable {X : Cx}
theorem reads_rep {K : PySem.W.Frag} {H : Hp} {N : Addr → Prop} {ds : List D} {ws : List V} : ∀ {i : Nat} {v : Value} {its : List Value}, Reps K H N ws ds → Vals ws its → its[i]? = some v → ∃ w d, ws[i]? = some w ∧ ds[i]? = some d ∧ RelV w v ∧ Rep K H N w d := by
  intro i v its r rv h
  have h1 : i < its.length := by
    rcases Nat.lt_or_ge i its.length with z | z
    · exact z
    · rw [List.getElem?_eq_none z] at h; cases h
  have h2 : i < ds.length := by rw [← Reps.length r, rv.length]; exact h1
  obtain ⟨w, hw, rw⟩ := r.get (n := i) (d := ds[i]) (by simp [h2])
  obtain ⟨u, hu, ru⟩ := rv.get hw
  rw [h] at hu
  cases hu
  exact ⟨w, ds[i], hw, by simp [h2], ru, rw⟩
theorem b_min (hc : X.calm = true) (hu : X.A.units + 64 < cLine) : CallR X (.builtin "min") (rOp X.K fMinL) := by
  intro pins s σ H xs us Q I rx ⟨N, ds, o, hn, r, hf, q⟩
  have fin : ∀ {d : D} {ds : List D} {ws : List V} {its : List Value} {h' : Heap} {i : Nat} {v : Value} {tk : Nat} {bs : List Addr}, alikeB (d :: ds) = true → Reps X.K H N ws (d :: ds) → Vals ws its → o = .fr (minF d ds) → its.toArray[i]? = some v →
      Reads h' v (PySem.W.minD d.py (D.pys ds)) bs → (∀ b o, s.heap.get? b = some o → h'.get? b = some o) → EP X pins σ Q v { s with heap := h', toks := tk } := by
    intro d ds ws its h' i v tk bs ha g rv eo hi hr hk
    obtain ⟨l1, l2, l3⟩ := alikeB_ok ha
    obtain ⟨w, e, hw, he, rw, rp⟩ := reads_rep g rv (i := i) (v := v) (by simpa using hi)
    have I2 : Inv X pins σ H { s with heap := h', toks := tk } := I.kept hk
    have me : e ∈ d :: ds := List.mem_of_getElem? he
    obtain ⟨as2, r2⟩ := Dp.reads I2 _ _ v (Rep.dp e w (lays_mem l1 me) rp) rw
    rw [minF_py] at hr
    have mm := minF_mem d ds
    have al : PySem.W.alike e.py (minF d ds).py = true := l3.1 _ (by rw [pys_map]; exact List.mem_map_of_mem me) _ (by rw [pys_map]; exact List.mem_map_of_mem mm)
    have eq := py_inj _ _ (lays_mem l1 me) (lays_mem l1 mm) (PySem.W.alike_unique _ _ _ _ _ al r2 hr)
    rw [eq] at rp
    rw [eo] at q
    exact ⟨w, H, I2, rw, q w H [] (New.keep rp)⟩
  unfold fMinL at hf
  split at hf
  · split at hf
    · rename_i d ds ha
      cases hf
      obtain ⟨x, e, r1⟩ := r.one
      subst e
      obtain ⟨a, ws, e, f, g⟩ := rep1_lst r1
      subst e
      obtain ⟨l1, l2, l3⟩ := alikeB_ok ha
      obtain ⟨its, rv, p, hz⟩ := I.list (Or.inl f)
      obtain ⟨as, hr⟩ := Dp.readsAll I (D.pys (d :: ds)) ws its (Reps.dp _ ws l1 g) rv
      obtain ⟨u, eu, ru⟩ := vals1 rx
      subst eu
      cases ru
      rw [D.pys] at hr l3
      refine PySem.W.min_list_data (I.ok.hd hc) p.isList (by simpa using hr) l3 (by have := D.pys_depth (d :: ds); rw [D.pys] at this; rw [this]; omega) fun i v h' tk bs hi hr2 hk => fin ha g rv rfl hi hr2 hk
    · cases hf
  · split at hf
    · rename_i d ds ha
      cases hf
      obtain ⟨x, e, r1⟩ := r.one
      subst e
      obtain ⟨a, ws, e, f, g⟩ := rep1_tup r1
      subst e
      obtain ⟨l1, l2, l3⟩ := alikeB_ok ha
      obtain ⟨its, rv, p, hz⟩ := I.tuple f.sq
      obtain ⟨as, hr⟩ := Dp.readsAll I (D.pys (d :: ds)) ws its (Reps.dp _ ws l1 g) rv
      obtain ⟨u, eu, ru⟩ := vals1 rx
      subst eu
      cases ru
      rw [D.pys] at hr l3
      refine PySem.W.min_tuple_data (I.ok.hd hc) p (by simpa using hr) l3 (by have := D.pys_depth (d :: ds); rw [D.pys] at this; rw [this]; omega) fun i v h' tk bs hi hr2 hk => fin ha g rv rfl hi hr2 hk
    · cases hf
  · cases hf
theorem b_max (hc : X.calm = true) (hu : X.A.units + 64 < cLine) : CallR X (.builtin "max") (rOp X.K fMaxL) := by
  intro pins s σ H xs us Q I rx ⟨N, ds, o, hn, r, hf, q⟩
  have fin : ∀ {d : D} {ds : List D} {ws : List V} {its : List Value} {h' : Heap} {i : Nat} {v : Value} {tk : Nat} {bs : List Addr}, alikeB (d :: ds) = true → Reps X.K H N ws (d :: ds) → Vals ws its → o = .fr (maxF d ds) → its.toArray[i]? = some v →
      Reads h' v (PySem.W.maxD d.py (D.pys ds)) bs → (∀ b o, s.heap.get? b = some o → h'.get? b = some o) → EP X pins σ Q v { s with heap := h', toks := tk } := by
    intro d ds ws its h' i v tk bs ha g rv eo hi hr hk
    obtain ⟨l1, l2, l3⟩ := alikeB_ok ha
    obtain ⟨w, e, hw, he, rw, rp⟩ := reads_rep g rv (i := i) (v := v) (by simpa using hi)
    have I2 : Inv X pins σ H { s with heap := h', toks := tk } := I.kept hk
    have me : e ∈ d :: ds := List.mem_of_getElem? he
    obtain ⟨as2, r2⟩ := Dp.reads I2 _ _ v (Rep.dp e w (lays_mem l1 me) rp) rw
    rw [maxF_py] at hr
    have mm := maxF_mem d ds
    have al : PySem.W.alike e.py (maxF d ds).py = true := l3.1 _ (by rw [pys_map]; exact List.mem_map_of_mem me) _ (by rw [pys_map]; exact List.mem_map_of_mem mm)
    have eq := py_inj _ _ (lays_mem l1 me) (lays_mem l1 mm) (PySem.W.alike_unique _ _ _ _ _ al r2 hr)
    rw [eq] at rp
    rw [eo] at q
    exact ⟨w, H, I2, rw, q w H [] (New.keep rp)⟩
  unfold fMaxL at hf
  split at hf
  · split at hf
    · rename_i d ds ha
      cases hf
      obtain ⟨x, e, r1⟩ := r.one
      subst e
      obtain ⟨a, ws, e, f, g⟩ := rep1_lst r1
      subst e
      obtain ⟨l1, l2, l3⟩ := alikeB_ok ha
      obtain ⟨its, rv, p, hz⟩ := I.list (Or.inl f)
      obtain ⟨as, hr⟩ := Dp.readsAll I (D.pys (d :: ds)) ws its (Reps.dp _ ws l1 g) rv
      obtain ⟨u, eu, ru⟩ := vals1 rx
      subst eu
      cases ru
      rw [D.pys] at hr l3
      refine PySem.W.max_list_data (I.ok.hd hc) p.isList (by simpa using hr) l3 (by have := D.pys_depth (d :: ds); rw [D.pys] at this; rw [this]; omega) fun i v h' tk bs hi hr2 hk => fin ha g rv rfl hi hr2 hk
    · cases hf
  · split at hf
    · rename_i d ds ha
      cases hf
      obtain ⟨x, e, r1⟩ := r.one
      subst e
      obtain ⟨a, ws, e, f, g⟩ := rep1_tup r1
      subst e
      obtain ⟨l1, l2, l3⟩ := alikeB_ok ha
      obtain ⟨its, rv, p, hz⟩ := I.tuple f.sq
      obtain ⟨as, hr⟩ := Dp.readsAll I (D.pys (d :: ds)) ws its (Reps.dp _ ws l1 g) rv
      obtain ⟨u, eu, ru⟩ := vals1 rx
      subst eu
      cases ru
      rw [D.pys] at hr l3
      refine PySem.W.max_tuple_data (I.ok.hd hc) p (by simpa using hr) l3 (by have := D.pys_depth (d :: ds); rw [D.pys] at this; rw [this]; omega) fun i v h' tk bs hi hr2 hk => fin ha g rv rfl hi hr2 hk
    · cases hf
  · cases hf

theorem vals_each {its : List Value} {K : PySem.W.Frag} {H : Hp} {N : Addr → Prop} : ∀ {ds : List D} {ws : List V} {its : List Value}, Reps K H N ws ds → Vals ws its → PySem.W.EachIs (fun (v : Value) (p : D × V) => RelV p.2 v ∧ Rep K H N p.2 p.1) its (ds.zip ws)
  | [], ws, its, r, rv => by
    unfold Reps at r
    subst r
    cases rv
    exact .nil
  | d :: ds, ws, its, r, rv => by
    unfold Reps at r
    obtain ⟨v, vr, e, a, b⟩ := r
    subst e
    cases rv with
    | cons r1 r2 => exact .cons ⟨r1, a⟩ (vals_each (its := its) b r2)
theorem zip_fst {K : PySem.W.Frag} {H : Hp} {N : Addr → Prop} : ∀ {ds : List D} {ws : List V}, Reps K H N ws ds → (ds.zip ws).map (·.1) = ds
  | [], ws, r => rfl
  | d :: ds, ws, r => by
    unfold Reps at r
    obtain ⟨v, vr, e, a, b⟩ := r
    subst e
    rw [List.zip_cons_cons, List.map_cons, zip_fst b]
theorem reps_pairs {K : PySem.W.Frag} {H : Hp} {N : Addr → Prop} : ∀ {ps : List (D × V)}, (∀ p ∈ ps, Rep K H N p.2 p.1) → Reps K H N (ps.map (·.2)) (ps.map (·.1))
  | [], _ => by unfold List.map Reps; rfl
  | p :: ps, h => by
    rw [List.map_cons, List.map_cons]
    unfold Reps
    exact ⟨p.2, _, rfl, h p List.mem_cons_self, reps_pairs fun q hq => h q (List.mem_cons_of_mem _ hq)⟩
theorem each_vals {K : PySem.W.Frag} {H : Hp} {N : Addr → Prop} : ∀ {out : List Value} {ps : List (D × V)}, PySem.W.EachIs (fun (v : Value) (p : D × V) => RelV p.2 v ∧ Rep K H N p.2 p.1) out ps → Vals (ps.map (·.2)) out
  | _, _, .nil => .nil
  | _, _, .cons r rs => .cons r.1 (each_vals rs)
theorem each_mem {K : PySem.W.Frag} {H : Hp} {N : Addr → Prop} : ∀ {out : List Value} {ps : List (D × V)}, PySem.W.EachIs (fun (v : Value) (p : D × V) => RelV p.2 v ∧ Rep K H N p.2 p.1) out ps → ∀ p ∈ ps, Rep K H N p.2 p.1
  | _, _, .nil, _, h => nomatch h
  | _, _, .cons r rs, p, h => by
    rcases List.mem_cons.mp h with e | h
    · rw [e]; exact r.2
    · exact each_mem rs p h
theorem each_reads {pins : List (Addr × Obj)} {σ : L2.St} {H : Hp} {s : Shared} {N : Addr → Prop} (I : L2.Inv X pins σ H s) : ∀ {its : List Value} {ps : List (D × V)}, PySem.W.EachIs (fun (v : Value) (p : D × V) => RelV p.2 v ∧ Rep X.K H N p.2 p.1) its ps → (∀ p ∈ ps, p.1.lay = true) → PySem.W.EachIs (fun (v : Value) (p : D × V) => ∃ as, Reads s.heap v p.1.py as) its ps
  | _, _, .nil, _ => .nil
  | _, _, .cons r rs, hm => .cons (Dp.reads I _ _ _ (Rep.dp _ _ (hm _ List.mem_cons_self) r.2) r.1) (each_reads I rs fun p hp => hm p (List.mem_cons_of_mem _ hp))
theorem b_sort (hu : X.A.units + 64 < cLine) : CallR X (.builtin "sorted") (rOp X.K fSort) := by
  intro pins s σ H xs us Q I rx ⟨N, ds, o, hn, r, hf, q⟩
  unfold fSort at hf
  split at hf
  · split at hf
    · rename_i ds hs
      cases hf
      obtain ⟨x, e, r1⟩ := r.one
      subst e
      obtain ⟨a, ws, e, f, g⟩ := rep1_lst r1
      subst e
      unfold sortB at hs
      rw [Bool.and_eq_true, Bool.or_eq_true] at hs
      obtain ⟨l1, l2, l3⟩ := alikeB_ok hs.1
      obtain ⟨its, rv, p, hz⟩ := I.list (Or.inl f)
      obtain ⟨u, eu, ru⟩ := vals1 rx
      subst eu
      cases ru
      have ev := vals_each (its := its) g rv
      have hfst := zip_fst g
      have mem1 : ∀ p ∈ ds.zip ws, p.1 ∈ ds := fun p hp => by rw [← hfst]; exact List.mem_map_of_mem hp
      have er : PySem.W.EachIs (fun (v : Value) (p : D × V) => ∃ as, Reads s.heap v p.1.py as) its (ds.zip ws) := each_reads I ev fun p hp => lays_mem l1 (mem1 p hp)
      have hmap : (ds.zip ws).map (fun p => p.1.py) = D.pys ds := by
        have e1 : (ds.zip ws).map (fun p => p.1.py) = ((ds.zip ws).map (·.1)).map D.py := by rw [List.map_map]; rfl
        rw [e1, hfst, pys_map]
      refine PySem.W.sorted_data (enc := fun p : D × V => p.1.py) (R := fun v p => RelV p.2 v ∧ Rep X.K H N p.2 p.1) p.isList ev er (by rw [hmap]; exact l3.1) ?_ (by
        have : (ds.zip ws).length = ws.length := by rw [List.length_zip, Reps.length g]; omega
        rw [this]; exact hz) (fun b hb => ?_) fun out hl ho => ?_
      · rw [hmap, pys_map]
        rcases hs.2 with h | h
        · refine .inl fun d hd => ?_
          obtain ⟨e, he, rfl⟩ := List.mem_map.mp hd
          have := List.all_eq_true.mp h e he
          unfold isTupC at this
          split at this
          · rw [D.py, D.pys]; exact ⟨_, _, rfl⟩
          · cases this
        · refine .inr fun d hd => ⟨l3.2 d (by rw [pys_map]; exact hd), fun xs hx => ?_⟩
          obtain ⟨e, he, rfl⟩ := List.mem_map.mp hd
          have := List.all_eq_true.mp h e he
          cases e <;> simp only [D.py] at hx <;> first | cases hx; done | skip
          cases this
      · have : ∀ {d : D} {ds : List D}, d ∈ ds → d.dep ≤ D.deps ds := by
          intro d ds
          induction ds with
          | nil => intro h; cases h
          | cons x xs ih =>
            intro h
            rw [D.deps]
            rcases List.mem_cons.mp h with e | h
            · rw [e]; exact Nat.le_max_left _ _
            · exact Nat.le_trans (ih h) (Nat.le_max_right _ _)
        have h2 := this (mem1 b hb)
        show X.A.units + 2 + b.1.py.depth < cLine
        rw [D.py_depth]
        omega
      · have hv := each_vals ho
        have hm := each_mem ho
        have e1 : ((ds.zip ws).mergeSort (PySem.W.dataLe false fun p : D × V => p.1.py)).map (·.1) = ds.mergeSort leD := by
          have h3 := List.map_mergeSort (f := fun p : D × V => p.1) (r := PySem.W.dataLe false fun p : D × V => p.1.py) (s := leD) (l := ds.zip ws) (fun a _ b _ => rfl)
          rw [h3, hfst]
        have rr := reps_pairs hm
        rw [e1] at rr
        obtain ⟨ep, he'⟩ := PyProof.Rows.sortedAll_at s.heap its out.toArray
        refine ⟨.ref _, _, I.laid (t' := s.toks) (a := s.heap.objs.size + 1) (o := .lst (((ds.zip ws).mergeSort (PySem.W.dataLe false fun p : D × V => p.1.py)).map (·.2))) (fun _ _ => PyProof.Rows.sortedAll_old) (Nat.le_succ _) ⟨?_, out, ep, hv, he'⟩, rfl, q _ _ [s.heap.objs.size + 1] (New.lst hn (I.hok.fresh (Nat.le_succ _)) rr)⟩
        rw [hv.length, hl, List.length_zip, Reps.length g]
        have := Reps.length g
        omega
    · cases hf
  · cases hf
end
end Ev
end
section
set_option Elab.async false
set_option linter.all false
set_option maxRecDepth 100000
namespace Ev
open PySem PySem.Spec PyProof.Rows L2
def rDm (K : PySem.W.Frag) (f : D → List D → Option O) (v : V) : List V → Hp → VK → Prop := fun vs H Q =>
  ∃ (N : Addr → Prop) (d : D) (ds : List D) (o : O), (∀ a, N a → H a ≠ none) ∧ Rep1 K H N v d ∧ Reps K H N vs ds ∧ f d ds = some o ∧ ∀ v' H' fv, New K H N H' v' o fv → Q v' H'
section
variable {K : PySem.W.Frag} {W : XP} {p : D → Bool} {f : D → List D → Option O} {rc : Ev OR} {ms : List (Ev OR)} {σ : St} {H : Hp} {Q : VK} {N N' : Addr → Prop}
theorem frzs_rep {e : Env} (hn : ∀ a, N' a → N a) : ∀ (xs : List OR) (vs : List V) (fv : List Addr) (ds : List D), RepRs' K H N σ e vs xs fv → frzs xs = some ds → Reps K H N' vs ds
  | [], _, _, ds, h, hv => by
    unfold frzs at hv
    cases hv
    unfold Reps
    exact h.1
  | .v (.fr d) :: xs, vs, fv, ds, h, hv => by
    obtain ⟨v, vr, f1, f2, e1, e2, a, b⟩ := h
    unfold frzs at hv
    obtain ⟨dr, h1, h2⟩ := Option.map_eq_some_iff.mp hv
    subst h2
    unfold Reps
    have a' : RepO K H N v (.fr d) f1 := a
    unfold RepO at a'
    exact ⟨v, vr, e1, Rep.mono (Stb.same hn) _ _ a'.2, frzs_rep hn xs vr f2 dr b h1⟩
  | .v (.ol _) :: _, _, _, _, _, hv => by unfold frzs at hv; cases hv
  | .v (.ok _) :: _, _, _, _, _, hv => by unfold frzs at hv; cases hv
  | .v (.ot _) :: _, _, _, _, _, hv => by unfold frzs at hv; cases hv
  | .r _ _ :: _, _, _, _, _, hv => by unfold frzs at hv; cases hv
theorem tR_dm (h : tR K W (mDm p f rc ms) σ H Q) : tR K W rc σ H fun v H1 => (∃ d, Rep K H1 (fun _ => False) v d ∧ p d = true) ∧ tA K W (mArgs ms) σ H1 fun vs H2 => rDm K f v vs H2 Q := by
  obtain ⟨F, e, fp, R, q⟩ := h
  refine ⟨F, e, fp, R, wp_mono (wp_bind q) (fun x e1 z v H1 fp1 fv A => ?_) fun _ _ z => z⟩
  unfold dmAt at z
  split at z
  · rename_i hl hr
    obtain ⟨d, hd, hp⟩ := Option.map_eq_some_iff.mp hl
    refine ⟨⟨d, A.look hd, hp⟩, Fp F fv, e1, fp1, A.rel, wp_mono (wp_bind z) (fun xs e2 z2 vs H2 fp2 fw B => ?_) fun y e2 z2 H2 fp2 G => z2 H2 fp2 (Gone.lift A G)⟩
    have C := A.cons B (.inl hr)
    unfold dmFin at z2
    split at z2
    · rename_i d2 ds hv hz
      split at z2
      · rename_i o ho
        have C1 : Afs K F H fp σ H2 e2 fp2 (v :: vs) (x :: xs) (fv ++ fw) := C
        obtain ⟨v0, vr, f1, f2, ev, ef, c1, c2⟩ := C1.val
        cases ev
        have r1 : Rep1s K H2 (Fp F fp2) [v] [d2] := views_rep (fv := fv ++ fw) [x] [v] f1 [d2] (fun a ha => by rw [ef]; simp [ha]) C1.rel C1.dis ⟨v, [], f1, [], rfl, (List.append_nil _).symm, c1, rfl, rfl⟩ (by unfold views views; rw [hv]; rfl)
        obtain ⟨v9, e9, r9⟩ := r1.one
        cases e9
        exact ⟨Fp F fp2, d2, ds, o, C1.drop.rel.dom2, r9, frzs_rep (fun a z => z.imp .inl id) xs vs f2 ds c2 hz, ho, fun v' H' fw' n => z2 v' H' fp2 fw' (C1.drop.new n)⟩
      · exact z2.elim
    · exact z2.elim
  · exact z.elim
theorem isD_rep {d : D} {v : V} (r : Rep K H N v d) (h : d.isDict = true) : ∃ a, v = .ref a ∧ IsD H a := by
  cases d with
  | dk kvs =>
    unfold Rep at r
    obtain ⟨a, ws, e, f, _⟩ := r
    exact ⟨a, e, .inl ⟨ws, f.1⟩⟩
  | dt kvs =>
    unfold Rep at r
    obtain ⟨a, ws, e, f, _⟩ := r
    exact ⟨a, e, .inr ⟨ws, .inl f.1⟩⟩
  | _ => cases h
/-- what is got -/
theorem get_rep {d k : D} {a : Addr} {y : V} {r : Option D} (r1 : Rep1 K H N (.ref a) d) (r2 : Rep K H N y k) (h : d.get k = some r) : ∃ o, DGet H a y o ∧ (∀ z, r = some z → ∃ w, o = some w ∧ Rep K H N w z) ∧ (r = none → o = none) := by
  unfold D.get at h
  split at h
  · rename_i kvs
    obtain ⟨kk, h1, h2⟩ := Option.map_eq_some_iff.mp h
    obtain ⟨b, ws, e, f, s⟩ := r1
    cases e
    refine ⟨valV ws kk, .inl ⟨ws, kk, f, key_rep r2 h1, rfl⟩, fun z hz => ?_, fun hz => ?_⟩
    · rw [hz] at h2
      obtain ⟨w, h3, h4⟩ := s.get h2
      exact ⟨w, by rw [valV_kget, h3], h4⟩
    · rw [hz] at h2
      rw [valV_kget]
      exact Repk.none s h2
  · rename_i kvs
    obtain ⟨kk, h1, h2⟩ := Option.map_eq_some_iff.mp h
    obtain ⟨b, ws, e, f, s⟩ := r1
    cases e
    obtain ⟨b2, e2, f2⟩ := trk_rep r2 h1
    refine ⟨valV ws kk, .inr ⟨ws, kk, b2, .inl f, e2, f2, rfl⟩, fun z hz => ?_, fun hz => ?_⟩
    · rw [hz] at h2
      obtain ⟨w, h3, h4⟩ := s.get h2
      exact ⟨w, by rw [valV_kget, h3], h4⟩
    · rw [hz] at h2
      rw [valV_kget]
      exact Rept.none s h2
  · cases h
end
section
variable {X : Cx} {W : XP} {rc mk mx : Ev OR} {o a b : Expr} {apos cpos : Pos}
theorem e_get2 (hu : X.A.units + 1 < cLine) (ho : PE X o (tR X.K W rc)) (hk : PE X a (tR X.K W mk)) (hx : PE X b (tR X.K W mx)) (m : M2 X o "get" apos a b cpos) : PE X (.Call (.Attribute o "get" apos) [a, b] [] cpos) (tR X.K W (mDm D.isDict fGet2 rc [mk, mx])) :=
  (pe_dget2 hu ho hk hx m).to fun σ H Q h => by
    obtain ⟨F, e, fp, R, q⟩ := tR_dm h
    refine ⟨F, e, fp, R, wp_mono q (fun x e1 z v H1 fp1 fv A => ?_) fun _ _ z => z⟩
    obtain ⟨⟨d, rd, hd⟩, z⟩ := z v H1 fp1 fv A
    obtain ⟨l, ev, hl⟩ := isD_rep rd hd
    subst ev
    refine ⟨l, rfl, hl, ?_⟩
    obtain ⟨F2, e2, fp2, R2, q2⟩ := tA_cons z
    refine ⟨F2, e2, fp2, R2, wp_mono q2 (fun x e3 z w H2 fp3 fw A2 => ?_) fun _ _ z => z⟩
    obtain ⟨F4, e4, fp4, R4, q4⟩ := tA_last (z w H2 fp3 fw A2)
    refine ⟨F4, e4, fp4, R4, wp_mono q4 (fun x e5 z u H5 fp5 fw5 A5 => ?_) fun _ _ z => z⟩
    obtain ⟨N, d1, ds, ob, hn, r1, rs, hf, hq⟩ := z u H5 fp5 fw5 A5
    match ds, rs, hf with
    | [k, x], rs, hf =>
      obtain ⟨y1, y2, ey, ry, rz⟩ := rs.two
      cases ey
      unfold fGet2 at hf
      obtain ⟨r, hr, e1⟩ := Option.map_eq_some_iff.mp hf
      subst e1
      obtain ⟨ov, g, h1, h2⟩ := get_rep r1 ry hr
      refine ⟨ov, g, ?_⟩
      cases r with
      | none => rw [h2 rfl]; exact hq _ _ [] (New.keep rz)
      | some z =>
        obtain ⟨w2, e3, rw2⟩ := h1 z rfl
        rw [e3]
        exact hq _ _ [] (New.keep rw2)
    | [], _, hf => cases hf
    | [_], _, hf => cases hf
    | _ :: _ :: _ :: _, _, hf => cases hf
theorem e_get1 (hu : X.A.units + 1 < cLine) (ho : PE X o (tR X.K W rc)) (hk : PE X a (tR X.K W mk)) (m : M1 X o "get" apos a cpos) : PE X (.Call (.Attribute o "get" apos) [a] [] cpos) (tR X.K W (mDm D.isDict fGet1 rc [mk])) :=
  (pe_dget1 hu ho hk m).to fun σ H Q h => by
    obtain ⟨F, e, fp, R, q⟩ := tR_dm h
    refine ⟨F, e, fp, R, wp_mono q (fun x e1 z v H1 fp1 fv A => ?_) fun _ _ z => z⟩
    obtain ⟨⟨d, rd, hd⟩, z⟩ := z v H1 fp1 fv A
    obtain ⟨l, ev, hl⟩ := isD_rep rd hd
    subst ev
    refine ⟨l, rfl, hl, ?_⟩
    obtain ⟨F4, e4, fp4, R4, q4⟩ := tA_last z
    refine ⟨F4, e4, fp4, R4, wp_mono q4 (fun x e5 z u H5 fp5 fw5 A5 => ?_) fun _ _ z => z⟩
    obtain ⟨N, d1, ds, ob, hn, r1, rs, hf, hq⟩ := z u H5 fp5 fw5 A5
    match ds, rs, hf with
    | [k], rs, hf =>
      obtain ⟨y1, ey, ry⟩ := rs.one
      cases ey
      unfold fGet1 at hf
      obtain ⟨r, hr, e1⟩ := Option.map_eq_some_iff.mp hf
      subst e1
      obtain ⟨ov, g, h1, h2⟩ := get_rep r1 ry hr
      refine ⟨ov, g, ?_⟩
      cases r with
      | none => rw [h2 rfl]; exact hq _ _ [] (New.keep (by unfold Rep; rfl))
      | some z =>
        obtain ⟨w2, e3, rw2⟩ := h1 z rfl
        rw [e3]
        exact hq _ _ [] (New.keep rw2)
    | [], _, hf => cases hf
    | _ :: _ :: _, _, hf => cases hf
/-- xs.count(n), whole numbers -/
theorem m_count {K : PySem.W.Frag} (hK : K = X.K) : MtR X "list.count" fun v vs H Q => rDm K fCount v vs H Q := fun pins s σ H x xs v us Q I rx rxs h => by
  subst hK
  obtain ⟨N, d, ds, ob, hn, r1, rs, hf, hq⟩ := h
  unfold fCount at hf
  split at hf
  · split at hf
    · rename_i ns i hi
      cases hf
      obtain ⟨p, ws, e, f, g⟩ := rep1_lst r1
      obtain ⟨y1, ey, ry⟩ := rs.one
      have e2 := g.ints hi
      have e3 := rep_int ry
      subst e ey e2 e3
      exact mt_lcount pins s σ H _ _ v us Q I rx rxs ⟨p, ns, i, rfl, rfl, .inl f, hq _ _ [] (New.scal rfl)⟩
    · cases hf
  · cases hf
theorem e_count (ho : PE X o (tR X.K W rc)) (ha : PE X a (tR X.K W mk)) (hbase : attributeBase o "count" X.env (eval o X.env) = eval o X.env := by rfl) (hline : (apos.endLine == cpos.line) = true := by rfl) (hst : starEach [a] X.env = (false, eval a X.env) :: starEach [] X.env := by rfl)
    (hfew : ((backTo cpos (starEach [a] X.env)).all (fun x => !x.1) && (backToKw cpos (keywordEach [] X.env)).all (fun x => x.1.isSome) && decide ([a].length + ([] : List Keyword).length + (if ([] : List Keyword).isEmpty then 0 else 1) < 30)) = true := by rfl) :
    PE X (.Call (.Attribute o "count" apos) [a] [] cpos) (tR X.K W (mDm D.isLst fCount rc [mk])) :=
  (pe_bm PySem.F.plainAttrs_list PySem.F.slot_list_count PySem.F.type_list_count (m_count rfl) ho (pa_cons ha pa_nil hst) hbase hfew hline hst).to fun σ H Q h => by
    obtain ⟨F, e, fp, R, q⟩ := tR_dm h
    refine ⟨F, e, fp, R, wp_mono q (fun x e1 z v H1 fp1 fv A => ?_) fun _ _ z => z⟩
    obtain ⟨⟨d, rd, hd⟩, z⟩ := z v H1 fp1 fv A
    refine ⟨?_, tA_last z⟩
    cases d with
    | lst ds =>
      unfold Rep at rd
      obtain ⟨l, ws, ev, f, _⟩ := rd
      subst ev
      exact .inl ⟨rfl, ws, f.sq⟩
    | _ => cases hd
end
end Ev
end
section
set_option Elab.async false
set_option linter.all false
set_option maxRecDepth 100000
namespace Ev
open PySem PySem.Spec PyProof.Rows L2
theorem vals_ints_of {K : PySem.W.Frag} {H : Hp} {N : Addr → Prop} : ∀ {kvs : List (Key × D)} {ws : List (Key × V)} {ns : List Int}, Repk K H N ws kvs → vals? kvs = some ns → ∀ (i : Nat) (n : Int), ns[i]? = some n → ∃ k, ws[i]? = some (k, .int n)
  | [], _, _, _, h, i, n, e => by unfold vals? at h; cases h; simp at e
  | (k, .int m) :: kvs, ws, ns, r, h, i, n, e => by
    unfold vals? at h
    obtain ⟨nr, h1, h2⟩ := Option.map_eq_some_iff.mp h
    subst h2
    unfold Repk at r
    obtain ⟨v, vr, ev, r1, r2⟩ := r
    subst ev
    cases i with
    | zero => simp at e; subst e; exact ⟨k, by rw [rep_int r1]; rfl⟩
    | succ i =>
      obtain ⟨k2, h3⟩ := vals_ints_of r2 h1 i n (by simpa using e)
      exact ⟨k2, by simpa using h3⟩
  | (_, .non) :: _, _, _, _, h, _, _, _ => by unfold vals? at h; cases h
  | (_, .bl _) :: _, _, _, _, h, _, _, _ => by unfold vals? at h; cases h
  | (_, .str _) :: _, _, _, _, h, _, _, _ => by unfold vals? at h; cases h
  | (_, .tup _) :: _, _, _, _, h, _, _, _ => by unfold vals? at h; cases h
  | (_, .lst _) :: _, _, _, _, h, _, _, _ => by unfold vals? at h; cases h
  | (_, .dk _) :: _, _, _, _, h, _, _, _ => by unfold vals? at h; cases h
  | (_, .dt _) :: _, _, _, _, h, _, _, _ => by unfold vals? at h; cases h
theorem vals_len : ∀ {kvs : List (Key × D)} {ns : List Int}, vals? kvs = some ns → ns.length = kvs.length
  | [], _, h => by unfold vals? at h; cases h; rfl
  | (k, d) :: kvs, ns, h => by
    cases d with
    | int m =>
      unfold vals? at h
      obtain ⟨nr, h1, h2⟩ := Option.map_eq_some_iff.mp h
      subst h2
      rw [List.length_cons, List.length_cons, vals_len h1]
    | _ => unfold vals? at h; cases h
theorem maxI_spec : ∀ (is : List Int) (m : Int), (maxI is m = m ∨ maxI is m ∈ is) ∧ m ≤ maxI is m ∧ ∀ j ∈ is, j ≤ maxI is m
  | [], m => ⟨.inl rfl, Int.le_refl _, (fun _ z => nomatch z)⟩
  | i :: is, m => by
    unfold maxI
    obtain ⟨h1, h2, h3⟩ := maxI_spec is (if m < i then i else m)
    refine ⟨?_, ?_, fun j hj => ?_⟩
    · rcases h1 with h | h
      · rw [h]
        by_cases c : m < i
        · rw [if_pos c]; exact .inr List.mem_cons_self
        · rw [if_neg c]; exact .inl rfl
      · exact .inr (List.mem_cons_of_mem _ h)
    · by_cases c : m < i
      · rw [if_pos c] at h2 ⊢; omega
      · rw [if_neg c] at h2 ⊢; exact h2
    · rcases List.mem_cons.mp hj with e | hj
      · by_cases c : m < i
        · rw [if_pos c] at h2 ⊢; omega
        · rw [if_neg c] at h2 ⊢; omega
      · exact h3 j hj
section
variable {X : Cx} {W : XP} {rc : Ev OR} {o : Expr} {p pos apos mpos : Pos}
theorem e_maxV (hcalm : X.calm = true) (hg : Gl X "max") (hm : X.mg "max" = none) (ho : PE X o (tR X.K W rc)) (hbase : attributeBase o "values" X.env (eval o X.env) = eval o X.env := by rfl) (hline : (apos.endLine == mpos.line) = true := by rfl)
    (hse : starEach [Expr.Call (.Attribute o "values" apos) [] [] mpos] X.env = [(false, eval (Expr.Call (.Attribute o "values" apos) [] [] mpos) X.env)] := by rfl) :
    PE X (.Call (.Name "max" p) [.Call (.Attribute o "values" apos) [] [] mpos] [] pos) (tR X.K W (mDm D.isDict fMaxV rc [])) := by
  refine ⟨fun pins s σ H Q I h => wpAny_Call_Name_kw (ld_blt I hg hm (u := .builtin "max") boot_max ?_ (by decide) (by decide))⟩
  rw [hse]
  have h1 : tR X.K W rc σ H fun v H1 => rDm X.K fMaxV v [] H1 Q := by
    obtain ⟨F, e, fp, R, q⟩ := tR_dm h
    exact ⟨F, e, fp, R, wp_mono q (fun x e1 z v H1 fp1 fv A => tA_nil (z v H1 fp1 fv A).2) fun _ _ z => z⟩
  refine PySem.callWith_builtin1 (wpAny_Call_method0_late hbase hline (thn (ho.run pins s σ H _ I h1) fun u t ⟨x, G, J, rx, N, d, ds, ob, hn, r1, rs, hf, hq⟩ => ?_))
  unfold fMaxV at hf
  split at hf
  · rename_i kvs
    split at hf
    · rename_i n0 ns hns
      cases hf
      obtain ⟨a, ws, ex, hR, rk⟩ := r1
      subst ex
      obtain rfl : u = Value.ref a := rx
      obtain ⟨_, hsys, cells, rel, dof⟩ := dk_rd J.hok hR
      obtain ⟨epoch, table⟩ := dof.dictAt
      obtain ⟨obj, es, hobj, exact_, _⟩ := id table
      have all : (n0 :: ns).length = cells.length := by rw [vals_len hns, ← Repk.length rk]; exact KV.length rel
      refine ⟨"dict", "dict.values", PySem.F.plainAttrs_dict, PySem.F.slot_dict_values, PySem.F.type_dict_values, ⟨obj, hobj, exact_.1⟩, fun b e => by cases e; exact ⟨obj, hobj, exact_.2.1⟩, Calls.callWith_builtin rfl (PySem.evalArgs_none ?_)⟩
      refine call_meetsIn PySem.F.slot_dict_values ⟨obj, hobj, exact_.1⟩ PySem.F.entry_dict_values (PySem.F.args_dict_values_1 _) (meets_dict_values (mixKind X.prog X.w) a hsys) ⟨⟨cells, dof⟩, ?_⟩
      have grow : ∀ b u, t.heap.get? b = some u → (t.heap.push { cls := .type "dict_values", data := .fields #[.ref a] }).get? b = some u := fun b u e => Heap.get?_push_of_some _ e
      have size : (t.heap.push { cls := .type "dict_values", data := .fields #[.ref a] }).objs.size = t.heap.objs.size + 1 := Heap.size_push _ _
      have below : a < t.heap.objs.size := Heap.lt_size hobj
      have item : ∀ (i : Nat) (v : Value), (∃ k, cells[i]? = some (k, v)) → ∃ tk, v = Value.int ((n0 :: ns).getD i 0) tk := by
        intro i v ⟨k, hk⟩
        obtain ⟨y, hy, ry⟩ := KV.at' rel hk
        have hi : i < (n0 :: ns).length := by
          rw [all]
          rcases Nat.lt_or_ge i cells.length with z | z
          · exact z
          · rw [List.getElem?_eq_none z] at hk; cases hk
        obtain ⟨k2, h2⟩ := vals_ints_of rk hns i (n0 :: ns)[i] (by simp [hi])
        rw [hy] at h2
        cases h2
        obtain ⟨tk, e⟩ := ry
        exact ⟨tk, by rw [e, List.getD_eq_getElem?_getD, List.getElem?_eq_getElem hi] <;> rfl⟩
      refine call_max_walk (wpAny_pyIter_values (v := t.heap.objs.size) (d := a) ⟨_, Heap.get?_push_size _ rfl, rfl, rfl⟩ (table.keep grow) ?_)
      refine ⟨_, _, _, _, _, _, _, rfl, Walks.dictValues (knd := mixKind X.prog X.w) (A := X.A.in1) (J.ok.hd hcalm) (t.heap.push { cls := .type "dict_values", data := .fields #[.ref a] }).objs.size a (by rw [size]; exact Nat.ne_of_lt (Nat.lt_succ_of_lt below)) cells epoch,
        ⟨⟨_, Heap.get?_push_size _ rfl, rfl, rfl⟩, (table.keep grow).keep fun b u e => Heap.get?_push_of_some _ e⟩, fun b hb => ?_, by rw [← all]; exact Nat.succ_pos _, CmpOf.ints_gt (fun i => (n0 :: ns).getD i 0) item, fun v h' tk hP hk => ?_⟩
      · show b < ((t.heap.push _).push _).objs.size
        rw [Heap.size_push, Heap.size_push]
        rcases List.mem_cons.mp hb with e | hb
        · rw [e, size]; exact Nat.lt_succ_self _
        · rw [List.mem_singleton.mp hb]; exact Nat.lt_succ_of_lt (Nat.lt_succ_of_lt below)
      · obtain ⟨tv, rfl⟩ := item _ v hP
        obtain ⟨b1, b2⟩ := argBest_gt (fun i => (n0 :: ns).getD i 0) (cells.length - 1)
        have lt : argBest (fun i j => decide ((n0 :: ns).getD i 0 > (n0 :: ns).getD j 0)) (cells.length - 1) < (n0 :: ns).length := by rw [all]; have : 0 < cells.length := by rw [← all]; exact Nat.succ_pos _
                                                                                                                                       omega
        have same : (n0 :: ns).getD (argBest (fun i j => decide ((n0 :: ns).getD i 0 > (n0 :: ns).getD j 0)) (cells.length - 1)) 0 = maxI ns n0 := by
          obtain ⟨m1, m2, m3⟩ := maxI_spec ns n0
          have in1 : (n0 :: ns).getD (argBest (fun i j => decide ((n0 :: ns).getD i 0 > (n0 :: ns).getD j 0)) (cells.length - 1)) 0 ∈ n0 :: ns := by
            rw [List.getD_eq_getElem?_getD, List.getElem?_eq_getElem lt]; exact List.getElem_mem lt
          have up : (n0 :: ns).getD (argBest (fun i j => decide ((n0 :: ns).getD i 0 > (n0 :: ns).getD j 0)) (cells.length - 1)) 0 ≤ maxI ns n0 := by
            rcases List.mem_cons.mp in1 with e | hm
            · rw [e]; exact m2
            · exact m3 _ hm
          have in2 : maxI ns n0 ∈ n0 :: ns := by
            rcases m1 with e | e
            · rw [e]; exact List.mem_cons_self
            · exact List.mem_cons_of_mem _ e
          obtain ⟨j, hj, ej⟩ := List.mem_iff_getElem.mp in2
          have := b2 j (by omega)
          have ej2 : (n0 :: ns).getD j 0 = maxI ns n0 := by rw [List.getD_eq_getElem?_getD, List.getElem?_eq_getElem hj, ← ej] <;> rfl
          have this2 : (n0 :: ns).getD j 0 ≤ (n0 :: ns).getD (argBest (fun i j => decide ((n0 :: ns).getD i 0 > (n0 :: ns).getD j 0)) (cells.length - 1)) 0 := this
          omega
        rw [same]
        refine ⟨.int _, G, J.kept (t' := tk) fun b u e => hk b u (fun hmem => ?_) (Heap.get?_push_of_some _ (grow b u e)), ⟨tv, rfl⟩, hq _ _ [] (New.scal rfl)⟩
        have e2 := Heap.lt_size e
        rw [List.mem_singleton.mp hmem, size] at e2
        exact absurd e2 (Nat.not_lt.mpr (Nat.le_succ _))
    · cases hf
  · cases hf
end
end Ev
end
section
set_option Elab.async false
set_option linter.all false
set_option maxRecDepth 100000
namespace Ev
open PySem PySem.Spec PyProof.Rows L2
/-- the slots that are handed back stand -/
def IoS (io : List Nat) (σ σ' : St) : Prop := ∀ i ∈ io, σ'[i]? = σ[i]?
theorem IoS.refl {io : List Nat} {σ : St} : IoS io σ σ := fun _ _ => rfl
theorem IoS.trans {io : List Nat} {σ σ1 σ2 : St} (a : IoS io σ σ1) (b : IoS io σ1 σ2) : IoS io σ σ2 := fun i h => (b i h).trans (a i h)
section
variable {K : PySem.W.Frag} {W : XP} {F : Addr → Prop} {H H1 H2 : Hp} {N N' : Addr → Prop} {σ σ1 σ2 : St} {e e1 e2 : Env} {fp fp1 fp2 fv fw : List Addr} {v w : V} {vs : List V} {o q : O} {i : Nat} {x : OR} {xs : List OR}
theorem Gone.tr (A : Gone K F H fp σ1 H1 e1 fp1) (B : Gone K F H1 fp1 σ2 H2 e2 fp2) : Gone K F H fp σ2 H2 e2 fp2 :=
  ⟨B.rel, A.stb.trans B.stb, fun a z => (B.kF a z).trans (A.kF a z)⟩
theorem Gone.afT (A : Gone K F H fp σ1 H1 e1 fp1) (B : Af K F H1 fp1 σ2 H2 e2 fp2 v x fv) : Af K F H fp σ2 H2 e2 fp2 v x fv :=
  ⟨B.rel, B.val, B.nod, B.dis, A.stb.trans B.stb, fun a z => (B.kF a z).trans (A.kF a z)⟩
/-- the heap has grown -/
theorem Gone.grow (A : Gone K F H fp σ H1 e1 fp1) (h : ∀ a u, H1 a = some u → H2 a = some u) : Gone K F H fp σ H2 e1 fp1 := by
  have keep : ∀ a, H1 a ≠ none → H2 a = H1 a := fun a z => by
    cases q : H1 a with
    | none => exact absurd q z
    | some u => exact h a u q
  have st : Stb H1 (Fp F fp1) H2 (Fp F fp1) := fun a u ha hn => ⟨h a u ha, hn⟩
  exact ⟨A.rel.move st (fun a ha => keep a (A.rel.dom2 a (.inr ha))) A.rel.dis (fun a z => by rw [keep a (A.rel.dom a z)]; exact A.rel.dom a z), A.stb.trans st, fun a z => (keep a (A.rel.dom a z)).trans (A.kF a z)⟩
/-- a value goes into a slot -/
theorem Rel.store (R : Rel K (Fp F fv) H1 σ e1 fp1) (hv : RepO K H1 (Fp (Fp F fv) fp1) v o fv) (hn : fv.Nodup) (hd : ∀ a ∈ fv, ¬ F a) (i : Nat) : ∃ fp2, Rel K F H1 (σ.set i (some v)) (e1.set i (some o)) fp2 ∧ ∀ a, Fp F fp2 a → Fp (Fp F fv) fp1 a := by
  by_cases hi : i < e1.length
  · obtain ⟨P, f, B, e3, so, put⟩ := RepE.split e1 0 i fp1 R.rep hi
    rw [Nat.zero_add] at so put
    have nd : (P ++ (f ++ B)).Nodup := by rw [← e3]; exact R.nod
    obtain ⟨n1, n2, n3⟩ := nod_mid nd
    have sub : ∀ a, a ∈ P ++ B → a ∈ fp1 := fun a h => by rw [e3]; rcases List.mem_append.mp h with h | h <;> simp [h]
    have nv : ∀ a ∈ fv, a ∉ P ++ B := fun a ha z => R.dis a (sub a z) (.inr ha)
    have hN : ∀ a, Fp F (P ++ (fv ++ B)) a → Fp (Fp F fv) fp1 a := fun a z => by
      rcases z with z | z
      · exact .inl (.inl z)
      · simp only [List.mem_append] at z
        rcases z with z | z | z
        · exact .inr (sub a (by simp [z]))
        · exact .inl (.inr z)
        · exact .inr (sub a (by simp [z]))
    refine ⟨P ++ (fv ++ B), ⟨?_, ?_, fun a ha z => ?_, fun a z => R.dom a (.inl z), by rw [List.length_set, List.length_set]; exact R.len⟩, hN⟩
    · refine put H1 _ _ (some o) fv (Stb.same hN) (fun _ _ => rfl) (fun j hj => ?_) ⟨v, ?_, RepO.mono (Stb.same hN) o v fv (fun _ _ => rfl) hv⟩
      · rw [List.getElem?_set_ne (Ne.symm hj)]
      · rw [List.getElem?_set_self (by rw [← R.len]; exact hi)]
    · obtain ⟨h1, h2, h3⟩ := List.nodup_append.mp n2
      refine List.nodup_append.mpr ⟨h1, List.nodup_append.mpr ⟨hn, h2, fun a ha b hb e => nv a ha (by rw [e]; simp [hb])⟩, fun a ha b hb e => ?_⟩
      rcases List.mem_append.mp hb with z | z
      · exact nv b z (by rw [← e]; simp [ha])
      · exact h3 a ha b z e
    · simp only [List.mem_append] at ha
      rcases ha with ha | ha | ha
      · exact R.dis a (sub a (by simp [ha])) (.inl z)
      · exact hd a ha z
      · exact R.dis a (sub a (by simp [ha])) (.inl z)
  · have h1 : e1.set i (some o) = e1 := List.set_eq_of_length_le (by omega)
    have h2 : σ.set i (some v) = σ := List.set_eq_of_length_le (by rw [← R.len]; omega)
    rw [h1, h2]
    exact ⟨fp1, R.shrink fun a z => .inl z, fun a z => z.imp .inl id⟩
theorem Af.store (A : Af K F H fp σ H1 e1 fp1 v (.v o) fv) (i : Nat) : ∃ fp2, Gone K F H fp (σ.set i (some v)) H1 (e1.set i (some o)) fp2 := by
  obtain ⟨fp2, R, hN⟩ := A.rel.store A.val A.nod A.dis i
  exact ⟨fp2, R, A.stb.weak hN, A.kF⟩
end
/-! ### targets -/
def gT (K : PySem.W.Frag) (io : List Nat) (tg : Tg) : TG := fun v σ H Q => ∃ F H0 fp0 e fp fv o e1, Af K F H0 fp0 σ H e fp v (.v o) fv ∧ tg.bind io o e = some e1 ∧
  ∀ σ' H' fp', IoS io σ σ' → Gone K F H0 fp0 σ' H' e1 fp' → Q σ' H'
def gTs (K : PySem.W.Frag) (io : List Nat) (ts : List Tg) : TGs := fun vs σ H Q => ∃ F H0 fp0 e fp ds e1, Gone K F H0 fp0 σ H e fp ∧ Reps K H (Fp F fp) vs ds ∧ Tg.binds io ts ds e = some e1 ∧
  ∀ σ' H' fp', IoS io σ σ' → Gone K F H0 fp0 σ' H' e1 fp' → Q σ' H'
theorem _root_.L2.PG.to {X : Cx} {e : Expr} {t t' : TG} (h : PG X e t) (q : ∀ v σ H Q, t' v σ H Q → t v σ H Q) : PG X e t' := ⟨fun pins s σ H v u Q I r z => h.run pins s σ H v u Q I r (q v σ H Q z)⟩
theorem _root_.L2.PGs.to {X : Cx} {e : List Expr} {t t' : TGs} (h : PGs X e t) (q : ∀ v σ H Q, t' v σ H Q → t v σ H Q) : PGs X e t' := ⟨fun pins s σ H v u Q I r z => h.run pins s σ H v u Q I r (q v σ H Q z)⟩
section
variable {X : Cx} {io : List Nat} {pos : Pos} {tg : Tg} {ts : List Tg} {e : Expr} {es : List Expr}
theorem g_name (i : Nat) {x : Str} (hn : X.N.Nodup) (hN : X.N[i]? = some x := by rfl) (hx : Loc X.env.scope x := by first | exact Or.inl rfl | exact Or.inr rfl) (hf : X.fn x = true ∨ X.env.scope.names.lookup x = some .local := by first | exact .inl rfl | exact .inr rfl | assumption) : PG X (.Name x pos) (gT X.K io (.nm i)) :=
  (pg_name hn hN hx hf).to fun v σ H Q ⟨F, H0, fp0, e, fp, fv, o, e1, A, hb, q⟩ => by
    unfold Tg.bind at hb
    split at hb
    · cases hb
    · rename_i hc
      cases hb
      obtain ⟨fp2, G⟩ := A.store i
      refine q _ _ fp2 (fun j hj => ?_) G
      rw [List.getElem?_set_ne]
      intro z
      subst z
      exact hc (List.contains_iff_mem.mpr hj)
theorem gs_nil : PGs X [] (gTs X.K io []) := pgs_nil.to fun vs σ H Q ⟨F, H0, fp0, e, fp, ds, e1, G, r, hb, q⟩ => by
  cases ds with
  | nil =>
    unfold Tg.binds at hb
    cases hb
    unfold Reps at r
    exact ⟨r, q σ H fp IoS.refl G⟩
  | cons _ _ => unfold Tg.binds at hb; cases hb
theorem gs_cons (h1 : PG X e (gT X.K io tg)) (h2 : PGs X es (gTs X.K io ts)) (hs : (assignEach (e :: es) X.env).map (·.2) = assign e X.env :: (assignEach es X.env).map (·.2) := by rfl) : PGs X (e :: es) (gTs X.K io (tg :: ts)) :=
  (pgs_cons h1 h2 hs).to fun vs σ H Q ⟨F, H0, fp0, e, fp, ds, e1, G, r, hb, q⟩ => by
    cases ds with
    | nil => unfold Tg.binds at hb; cases hb
    | cons d ds =>
      unfold Tg.binds at hb
      obtain ⟨e2, hb1, hb2⟩ := Option.bind_eq_some_iff.mp hb
      unfold Reps at r
      obtain ⟨v, vr, ev, r1, r2⟩ := r
      refine ⟨v, vr, ev, F, H, fp, e, fp, [], .fr d, e2, (Gone.refl G.rel).val r1, hb1, fun σ' H' fp' s' G' => ?_⟩
      exact ⟨F, H0, fp0, e2, fp', ds, e1, G.tr G', Reps.mono G'.stb ds vr r2, hb2, fun σ2 H2 fp2 s2 G2 => q σ2 H2 fp2 (s'.trans s2) G2⟩
theorem g_tp {k : Nat} (hc : X.calm = true) (h : PGs X es (gTs X.K io ts)) (hl : ts.length = es.length) (hn : (assignEach es X.env).length = es.length := by rfl) (hst : (assignEach es X.env).findIdx? (·.1) = none := by rfl) : PG X (.Tuple es k pos) (gT X.K io (.tp ts)) := by
  refine ⟨fun pins s σ H v u Q I r ⟨F, H0, fp0, e, fp, fv, o, e1, A, hb, q⟩ => ?_⟩
  cases o with
  | fr d =>
    unfold Tg.bind at hb
    obtain ⟨ds, hi, hb⟩ := Option.bind_eq_some_iff.mp hb
    have len : ∀ (ts : List Tg) (ds : List D) (e : Env), Tg.binds io ts ds e = some e1 → ds.length = ts.length := by
      intro ts
      induction ts with
      | nil => intro ds e h; cases ds with
        | nil => rfl
        | cons _ _ => unfold Tg.binds at h; cases h
      | cons t ts ih => intro ds e h; cases ds with
        | nil => unfold Tg.binds at h; cases h
        | cons d ds =>
          unfold Tg.binds at h
          obtain ⟨e2, h1, h2⟩ := Option.bind_eq_some_iff.mp h
          rw [List.length_cons, List.length_cons, ih ds e2 h2]
    have ld := len ts ds e hb
    have rv := A.val
    unfold RepR' RepO at rv
    have ef := rv.1
    subst ef
    have rv2 : Rep X.K H (Fp F fp) v d := by have := rv.2; rwa [Fp.nil_eq] at this
    have G : Gone X.K F H0 fp0 σ H e fp := A.drop
    cases d with
    | tup xs =>
      cases hi
      unfold Rep at rv2
      obtain ⟨a, ws, ev, f, rs⟩ := rv2
      exact (pg_tup hc h (n := es.length) hn hst).run pins s σ H v u Q I r ⟨a, ws, ev, f.sq, by rw [Reps.length rs, ld, hl], F, H0, fp0, e, fp, ds, e1, G, rs, hb, q⟩
    | lst xs =>
      cases hi
      unfold Rep at rv2
      obtain ⟨a, ws, ev, f, rs⟩ := rv2
      exact (pg_lst hc h (n := es.length) hn hst).run pins s σ H v u Q I r ⟨a, ws, ev, f.sq, by rw [Reps.length rs, ld, hl], F, H0, fp0, e, fp, ds, e1, G, rs, hb, q⟩
    | _ => cases hi
  | _ => unfold Tg.bind at hb; cases hb
end
/-! ### statements -/
def fin (K : PySem.W.Frag) (io : List Nat) (F : Addr → Prop) (H : Hp) (fp : List Addr) (σ : St) (D : Ends) : Fl → Env → Prop
  | .nx, e' => ∀ σ' H' fp', IoS io σ σ' → Gone K F H fp σ' H' e' fp' → D.nx σ' H'
  | .bk, e' => ∀ σ' H' fp', IoS io σ σ' → Gone K F H fp σ' H' e' fp' → D.bk σ' H'
  | .ct, e' => ∀ σ' H' fp', IoS io σ σ' → Gone K F H fp σ' H' e' fp' → D.ct σ' H'
  | .rt o, e' => ∀ σ' H' fp' v fv, IoS io σ σ' → Af K F H fp σ' H' e' fp' v (.v o) fv → D.rt v H'
def finX (K : PySem.W.Frag) (W : XP) (io : List Nat) (F : Addr → Prop) (H : Hp) (fp : List Addr) (σ : St) (x : Exn) (e' : Env) : Prop := ∀ σ' H' fp', IoS io σ σ' → Gone K F H fp σ' H' e' fp' → W x e' σ' H'
def tSv (K : PySem.W.Frag) (W : XP) (io : List Nat) (m : Sv) : TS := fun D σ H => ∃ F e fp, Rel K F H σ e fp ∧ (m e).wp (fin K io F H fp σ D) (finX K W io F H fp σ)
section
variable {K : PySem.W.Frag} {W : XP} {io : List Nat} {F : Addr → Prop} {H H1 : Hp} {fp fp1 : List Addr} {σ σ1 : St} {e1 : Env} {D : Ends}
theorem fin.go (s : IoS io σ σ1) (G : Gone K F H fp σ1 H1 e1 fp1) {f : Fl} {e' : Env} (h : fin K io F H fp σ D f e') : fin K io F H1 fp1 σ1 D f e' := by
  cases f with
  | rt o => exact fun σ' H' fp' v fv s' A => h σ' H' fp' v fv (s.trans s') (G.afT A)
  | nx => exact fun σ' H' fp' s' G' => h σ' H' fp' (s.trans s') (G.tr G')
  | bk => exact fun σ' H' fp' s' G' => h σ' H' fp' (s.trans s') (G.tr G')
  | ct => exact fun σ' H' fp' s' G' => h σ' H' fp' (s.trans s') (G.tr G')
theorem finX.go (s : IoS io σ σ1) (G : Gone K F H fp σ1 H1 e1 fp1) {x : Exn} {e' : Env} (h : finX K W io F H fp σ x e') : finX K W io F H1 fp1 σ1 x e' := fun σ' H' fp' s' G' => h σ' H' fp' (s.trans s') (G.tr G')
/-- from there on -/
theorem tSv.at_ {m : Sv} (s : IoS io σ σ1) (G : Gone K F H fp σ1 H1 e1 fp1) (h : (m e1).wp (fin K io F H fp σ D) (finX K W io F H fp σ)) : tSv K W io m D σ1 H1 :=
  ⟨F, e1, fp1, G.rel, wp_mono h (fun f e' z => z.go s G) fun x e' z => z.go s G⟩
end
section
variable {X : Cx} {W : XP} {io : List Nat} {m : Ev OR} {t : Ev Bool} {s u : Sv} {ss : List Sv} {st : Stmt} {rest : List Stmt} {a : Expr} {pos pos' : Pos}
theorem ss_nil : PSs X [] (tSv X.K W io sNil) := pss_nil.to fun D σ H ⟨F, e, fp, R, q⟩ => q σ H fp IoS.refl (Gone.refl R)
theorem ss_one (h : PS X st (tSv X.K W io s)) : PSs X [st] (tSv X.K W io (sBlk [s])) := pss_one h
theorem ss_cons (h : PS X st (tSv X.K W io s)) (h2 : PSs X rest (tSv X.K W io (sBlk (u :: ss)))) : PSs X (st :: rest) (tSv X.K W io (sBlk (s :: u :: ss))) :=
  (pss_cons h h2).to fun D σ H ⟨F, e, fp, R, q⟩ => ⟨F, e, fp, R, wp_mono (wp_bind (show (sSeq s (sBlk (u :: ss)) e).wp _ _ from q)) (fun f e1 z => by
    cases f with
    | nx => exact fun σ' H' fp' s' G => tSv.at_ s' G z
    | rt o => exact z
    | bk => exact z
    | ct => exact z) fun _ _ z => z⟩
theorem ss_never {sts : List Stmt} : PSs X sts (tSv X.K W io sNever) := pss_never.to fun D σ H ⟨F, e, fp, R, q⟩ => q
theorem s_never : PS X st (tSv X.K W io sNever) := ps_never.to fun D σ H ⟨F, e, fp, R, q⟩ => q
theorem s_brk : PS X (.Break pos) (tSv X.K W io sBrk) := ps_break.to fun D σ H ⟨F, e, fp, R, q⟩ => q σ H fp IoS.refl (Gone.refl R)
theorem s_cnt : PS X (.Continue pos) (tSv X.K W io sCnt) := ps_continue.to fun D σ H ⟨F, e, fp, R, q⟩ => q σ H fp IoS.refl (Gone.refl R)
theorem s_pass : PS X (.Pass pos) (tSv X.K W io sNil) := ps_pass.to fun D σ H ⟨F, e, fp, R, q⟩ => q σ H fp IoS.refl (Gone.refl R)
theorem s_doc {x j} : PS X (.Expr (.Constant (.str x) j pos) pos') (tSv X.K W io sNil) := ps_doc.to fun D σ H ⟨F, e, fp, R, q⟩ => q σ H fp IoS.refl (Gone.refl R)
theorem s_ex (h : PE X a (tR X.K W m)) (hs : swapsWith a none pos.line X.env = pure false := by rfl) : PS X (.Expr a pos) (tSv X.K W io (sEx m)) :=
  (ps_expr h hs).to fun D σ H ⟨F, e, fp, R, q⟩ => ⟨F, e, fp, R, wp_mono (wp_bind q) (fun x e1 z v H1 fp1 fv A => z σ H1 fp1 IoS.refl A.drop) fun x e1 z H1 fp1 G => z σ H1 fp1 IoS.refl G⟩
theorem s_ret (h : PE X a (tR X.K W m)) : PS X (.Return (some a) pos) (tSv X.K W io (sRet m)) :=
  (ps_ret h).to fun D σ H ⟨F, e, fp, R, q⟩ => ⟨F, e, fp, R, wp_mono (wp_bind q) (fun x e1 z v H1 fp1 fv A => by
    cases x with
    | v o => exact z σ H1 fp1 v fv IoS.refl A
    | r i p => exact z.elim) fun x e1 z H1 fp1 G => z σ H1 fp1 IoS.refl G⟩
theorem s_retN : PS X (.Return none pos) (tSv X.K W io sRetN) := ps_retN.to fun D σ H ⟨F, e, fp, R, q⟩ => q σ H fp .non [] IoS.refl ((Gone.refl R).val (by unfold Rep; rfl))
theorem s_if {sa sb : Sv} {p q : List Stmt} (hc : PT X a (tT X.K W t)) (ha : PSs X p (tSv X.K W io sa)) (hb : PSs X q (tSv X.K W io sb)) : PS X (.If a p q pos) (tSv X.K W io (sIf t sa sb)) :=
  (ps_if hc ha hb).to fun D σ H ⟨F, e, fp, R, q⟩ => ⟨F, e, fp, R, wp_mono (wp_bind q) (fun k e1 z H1 fp1 G => by
    cases k with
    | true => exact iteT (tSv.at_ IoS.refl G z)
    | false => exact iteF (tSv.at_ IoS.refl G z)) fun x e1 z H1 fp1 G => z σ H1 fp1 IoS.refl G⟩
theorem s_asg {tgt : Expr} {tg : Tg} (h : PE X a (tR X.K W m)) (hg : PG X tgt (gT X.K io tg)) (hs : swapsWithSole [tgt] a pos.line X.env = pure false := by rfl) (hw : swappedStores [tgt] a X.env = pure none := by rfl)
    (h1 : (assignEach [tgt] X.env).map (·.2) = [assign tgt X.env] := by rfl) : PS X (.Assign [tgt] a pos) (tSv X.K W io (sAsg io tg m)) :=
  (ps_asg h hg hs hw h1).to fun D σ H ⟨F, e, fp, R, q⟩ => ⟨F, e, fp, R, wp_mono (wp_bind q) (fun x e1 z v H1 fp1 fv A => by
    cases x with
    | v o =>
      dsimp only at z
      cases hb : tg.bind io o e1 with
      | none => rw [hb] at z; exact z.elim
      | some e2 =>
        rw [hb] at z
        exact ⟨F, H, fp, e1, fp1, fv, o, e2, A, hb, fun σ' H' fp' s' G => z σ' H' fp' s' G⟩
    | r i p => exact z.elim) fun x e1 z H1 fp1 G => z σ H1 fp1 IoS.refl G⟩
theorem s_set (i : Nat) {x : Str} (hn : X.N.Nodup) (h : PE X a (tR X.K W m)) (hN : X.N[i]? = some x := by rfl) (hx : Loc X.env.scope x := by first | exact Or.inl rfl | exact Or.inr rfl) (hs : swapsWith a (some (.Name x pos')) pos.line X.env = pure false := by rfl)
    (hf : X.fn x = true ∨ X.env.scope.names.lookup x = some .local := by first | exact .inl rfl | exact .inr rfl | assumption) : PS X (.Assign [.Name x pos'] a pos) (tSv X.K W io (sAsg io (.nm i) m)) :=
  (ps_set hn hN hx h hs hf).to fun D σ H ⟨F, e, fp, R, q⟩ => ⟨F, e, fp, R, wp_mono (wp_bind q) (fun x e1 z v H1 fp1 fv A => by
    cases x with
    | v o =>
      dsimp only at z
      unfold Tg.bind at z
      split at z
      · rename_i e2 hb
        split at hb
        · cases hb
        · rename_i hc
          cases hb
          obtain ⟨fp2, G⟩ := A.store i
          refine z _ _ fp2 (fun j hj => ?_) G
          rw [List.getElem?_set_ne]
          intro y
          subst y
          exact hc (List.contains_iff_mem.mpr hj)
      · exact z.elim
    | r i p => exact z.elim) fun x e1 z H1 fp1 G => z σ H1 fp1 IoS.refl G⟩
end
end Ev
end
section
set_option Elab.async false
set_option linter.all false
set_option maxRecDepth 100000
namespace Ev
open PySem PySem.Spec PyProof.Rows L2
/-- what is walked gives these data, one after another, as long as what is frozen stands -/
structure WalkD (K : PySem.W.Frag) (H : Hp) (N : Addr → Prop) (J : It) (ds : List D) : Prop where
  goes : ∀ i H2 N2, Stb H N H2 N2 → i < ds.length → J.go i H2
  stops : ∀ H2 N2, Stb H N H2 N2 → J.stop ds.length H2
  yields : ∀ i H2 N2 x H3 d, Stb H N H2 N2 → (∀ a, N2 a → H2 a ≠ none) → ds[i]? = some d → J.yld i H2 x H3 → (∀ a u, H2 a = some u → H3 a = some u) ∧ Rep K H3 N2 x d
def tI (K : PySem.W.Frag) (W : XP) (m : Ev (List D)) : TI := fun σ H R => ∃ F e fp, Rel K F H σ e fp ∧ (m e).wp (fun ds e' => ∀ H' fp' J, Gone K F H fp σ H' e' fp' → WalkD K H' (Fp F fp') J ds → R J H') (fun x e' => ∀ H' fp', Gone K F H fp σ H' e' fp' → W x e' σ H')
theorem _root_.L2.PI.to {X : Cx} {tg e : Expr} {t t' : TI} (h : PI X tg e t) (q : ∀ σ H R, t' σ H R → t σ H R) : PI X tg e t' := ⟨fun pins s σ H R I z => h.run pins s σ H R I (q σ H R z)⟩
section
variable {K : PySem.W.Frag} {W : XP} {F : Addr → Prop} {H H1 H2 : Hp} {N N' : Addr → Prop} {σ σ1 σ2 : St} {e e1 e2 : Env} {fp fp1 fp2 fv fw : List Addr} {v w : V} {vs : List V} {o q : O} {i : Nat} {x : OR} {xs : List OR} {a b : Addr} {ds es : List D} {ws us : List V}
theorem Reps.lt {i : Nat} (r : Reps K H N ws ds) (h : i < ds.length) : ∃ w d, ws[i]? = some w ∧ ds[i]? = some d ∧ Rep K H N w d := by
  have hd : ds[i]? = some ds[i] := by simp [h]
  obtain ⟨w, h1, h2⟩ := r.get hd
  exact ⟨w, _, h1, hd, h2⟩
theorem wd_list (f : FzL K H N a ws) (r : Reps K H N ws ds) : WalkD K H N (Itl K a) ds :=
  ⟨fun i H2 N2 s h => let ⟨w, d, h1, h2, h3⟩ := r.lt h; ⟨ws, w, (f.mono s).sq, h1⟩, fun H2 N2 s => ⟨ws, (f.mono s).sq, by rw [Reps.length r]; exact Nat.le_refl _⟩,
    fun i H2 N2 x H3 d s _ hd y => by
      obtain ⟨e, y⟩ := y
      subst e
      obtain ⟨w, h1, h2⟩ := r.get hd
      have e2 := y ws (f.mono s).sq
      rw [h1] at e2
      cases e2
      exact ⟨fun _ _ z => z, Rep.mono s d _ h2⟩⟩
theorem wd_tup (f : FzT K H N a ws) (r : Reps K H N ws ds) : WalkD K H N (Itt K a) ds :=
  ⟨fun i H2 N2 s h => let ⟨w, d, h1, h2, h3⟩ := r.lt h; ⟨ws, w, (f.mono s).sq, h1⟩, fun H2 N2 s => ⟨ws, (f.mono s).sq, by rw [Reps.length r]; exact Nat.le_refl _⟩,
    fun i H2 N2 x H3 d s _ hd y => by
      obtain ⟨e, y⟩ := y
      subst e
      obtain ⟨w, h1, h2⟩ := r.get hd
      have e2 := y ws (f.mono s).sq
      rw [h1] at e2
      cases e2
      exact ⟨fun _ _ z => z, Rep.mono s d _ h2⟩⟩
theorem rangeD_len {i j : Int} : (rangeD i j).length = (j - i).toNat := by unfold rangeD; simp
theorem rangeD_get {i j : Int} {k : Nat} {d : D} (h : (rangeD i j)[k]? = some d) : d = .int (i + (k : Int)) := by
  unfold rangeD at h
  rw [List.getElem?_map] at h
  obtain ⟨n, h1, h2⟩ := Option.map_eq_some_iff.mp h
  have : n = k := by
    by_cases hk : k < (j - i).toNat
    · rw [List.getElem?_range hk] at h1; exact (Option.some.inj h1).symm
    · rw [List.getElem?_eq_none (by simpa using hk)] at h1; cases h1
  rw [← h2, this]
theorem wd_range {i j : Int} : WalkD K H N (Itr i (j - i).toNat) (rangeD i j) :=
  ⟨fun k H2 N2 s h => by rw [rangeD_len] at h; exact h, fun H2 N2 s => by rw [rangeD_len]; exact Nat.le_refl _, fun k H2 N2 x H3 d s _ hd y => by
    obtain ⟨e, y⟩ := y
    subst e y
    rw [rangeD_get hd]
    exact ⟨fun _ _ z => z, by unfold Rep; rfl⟩⟩
theorem enumD_len : ∀ (n : Nat) (ds : List D), (enumD n ds).length = ds.length
  | _, [] => rfl
  | n, d :: ds => by rw [enumD, List.length_cons, List.length_cons, enumD_len (n + 1) ds]
theorem enumD_get : ∀ (n : Nat) (ds : List D) (i : Nat) (x : D), (enumD n ds)[i]? = some x → ∃ d, ds[i]? = some d ∧ x = .tup [.int ((n + i : Nat) : Int), d]
  | _, [], _, _, h => by simp [enumD] at h
  | n, d :: ds, 0, x, h => by
    rw [enumD] at h
    simp at h
    exact ⟨d, rfl, h.symm⟩
  | n, d :: ds, i + 1, x, h => by
    rw [enumD] at h
    obtain ⟨d1, h1, h2⟩ := enumD_get (n + 1) ds i x (by simpa using h)
    exact ⟨d1, by simpa using h1, by rw [h2, show n + 1 + i = n + (i + 1) by omega]⟩
theorem rep_pair {p : Addr} {x y : V} {d e : D} (hp : H p = none) (hn : ∀ a, N a → H a ≠ none) (h1 : Rep K H N x d) (h2 : Rep K H N y e) : Rep K (upd H p (.tup [x, y])) N (.ref p) (.tup [d, e]) := by
  have st : Stb H N (upd H p (.tup [x, y])) N := fun a u e n => ⟨upd_stb (N := N) hp a u e, n⟩
  unfold Rep
  refine ⟨p, [x, y], rfl, ⟨upd_same, fun z => hn p z hp⟩, ?_⟩
  unfold Reps
  refine ⟨x, [y], rfl, Rep.mono st _ _ h1, ?_⟩
  unfold Reps
  refine ⟨y, [], rfl, Rep.mono st _ _ h2, ?_⟩
  unfold Reps
  rfl
theorem wd_enum (f : FzL K H N a ws) (r : Reps K H N ws ds) : WalkD K H N (Ite K a) (enumD 0 ds) :=
  ⟨fun i H2 N2 s h => by
      rw [enumD_len] at h
      obtain ⟨w, d, h1, h2, h3⟩ := r.lt h
      exact ⟨ws, w, (f.mono s).sq, h1⟩,
    fun H2 N2 s => by rw [enumD_len]; exact ⟨ws, (f.mono s).sq, by rw [Reps.length r]; exact Nat.le_refl _⟩,
    fun i H2 N2 x H3 d s hn hd y => by
      obtain ⟨T, z, h1, h2, h3, h4⟩ := y
      obtain ⟨d1, hd1, hd2⟩ := enumD_get 0 ds i d hd
      obtain ⟨w, g1, g2⟩ := r.get hd1
      have e2 := h4 ws (f.mono s).sq
      rw [g1] at e2
      cases e2
      subst h1 h3 hd2
      rw [Nat.zero_add]
      exact ⟨upd_stb (N := N2) h2, rep_pair h2 hn (by unfold Rep; rfl) (Rep.mono s _ _ g2)⟩⟩
theorem zipD_len : ∀ (as bs : List D), (zipD as bs).length = min as.length bs.length
  | [], bs => by simp [zipD]
  | a :: as, [] => by simp [zipD]
  | a :: as, b :: bs => by rw [zipD, List.length_cons, List.length_cons, List.length_cons, zipD_len as bs]; omega
theorem zipD_get : ∀ (as bs : List D) (i : Nat) (x : D), (zipD as bs)[i]? = some x → ∃ d e, as[i]? = some d ∧ bs[i]? = some e ∧ x = .tup [d, e]
  | [], bs, _, _, h => by simp [zipD] at h
  | a :: as, [], _, _, h => by simp [zipD] at h
  | a :: as, b :: bs, 0, x, h => by
    rw [zipD] at h
    simp at h
    exact ⟨a, b, rfl, rfl, h.symm⟩
  | a :: as, b :: bs, i + 1, x, h => by
    rw [zipD] at h
    obtain ⟨d, e, h1, h2, h3⟩ := zipD_get as bs i x (by simpa using h)
    exact ⟨d, e, by simpa using h1, by simpa using h2, h3⟩
theorem wd_zip (f : FzL K H N a ws) (r : Reps K H N ws ds) (f2 : FzL K H N b us) (r2 : Reps K H N us es) : WalkD K H N (Itz K a b) (zipD ds es) :=
  ⟨fun i H2 N2 s h => by
      rw [zipD_len] at h
      obtain ⟨w, d, h1, h2, h3⟩ := r.lt (i := i) (by omega)
      obtain ⟨w2, d2, h12, h22, h32⟩ := r2.lt (i := i) (by omega)
      exact ⟨ws, us, w, w2, (f.mono s).sq, (f2.mono s).sq, h1, h12⟩,
    fun H2 N2 s => by rw [zipD_len]; exact ⟨ws, us, (f.mono s).sq, (f2.mono s).sq, by rw [Reps.length r, Reps.length r2]; omega⟩,
    fun i H2 N2 x H3 d s hn hd y => by
      obtain ⟨T, z, z2, h1, h2, h3, h4, h5⟩ := y
      obtain ⟨d1, d2, hd1, hd2, hd3⟩ := zipD_get ds es i d hd
      obtain ⟨w, g1, g2⟩ := r.get hd1
      obtain ⟨w2, g12, g22⟩ := r2.get hd2
      have e2 := h4 ws (f.mono s).sq
      rw [g1] at e2
      cases e2
      have e3 := h5 us (f2.mono s).sq
      rw [g12] at e3
      cases e3
      subst h1 h3 hd3
      exact ⟨upd_stb (N := N2) h2, rep_pair h2 hn (Rep.mono s _ _ g2) (Rep.mono s _ _ g22)⟩⟩
theorem wd_zipT (f : FzT K H N a ws) (r : Reps K H N ws ds) (f2 : FzT K H N b us) (r2 : Reps K H N us es) : WalkD K H N (RZ.ItzT K a b) (zipD ds es) :=
  ⟨fun i H2 N2 s h => by
      rw [zipD_len] at h
      obtain ⟨w, d, h1, h2, h3⟩ := r.lt (i := i) (by omega)
      obtain ⟨w2, d2, h12, h22, h32⟩ := r2.lt (i := i) (by omega)
      exact ⟨ws, us, w, w2, (f.mono s).sq, (f2.mono s).sq, h1, h12⟩,
    fun H2 N2 s => by rw [zipD_len]; exact ⟨ws, us, (f.mono s).sq, (f2.mono s).sq, by rw [Reps.length r, Reps.length r2]; omega⟩,
    fun i H2 N2 x H3 d s hn hd y => by
      obtain ⟨T, z, z2, h1, h2, h3, h4, h5⟩ := y
      obtain ⟨d1, d2, hd1, hd2, hd3⟩ := zipD_get ds es i d hd
      obtain ⟨w, g1, g2⟩ := r.get hd1
      obtain ⟨w2, g12, g22⟩ := r2.get hd2
      have e2 := h4 ws (f.mono s).sq
      rw [g1] at e2
      cases e2
      have e3 := h5 us (f2.mono s).sq
      rw [g12] at e3
      cases e3
      subst h1 h3 hd3
      exact ⟨upd_stb (N := N2) h2, rep_pair h2 hn (Rep.mono s _ _ g2) (Rep.mono s _ _ g22)⟩⟩
theorem itemsOf_go {P : List D → Env → Prop} {WW : Exn → Env → Prop} (h : (itemsOf x e).wp P WW) : ∃ o ds, x = .v o ∧ o.thaw.items = some ds ∧ P ds e := by
  unfold itemsOf at h
  split at h
  · rename_i o
    split at h
    · rename_i ds hd
      exact ⟨o, ds, rfl, hd, h⟩
    · exact h.elim
  · exact h.elim
end
/-- .. of a list or a tuple -/
def iAny (K : PySem.W.Frag) (tl : TE) : TI := fun σ H R => tl σ H fun x H1 => ∃ a, x = .ref a ∧ (((∃ xs, SqL K H1 a xs) ∧ R (Itl K a) H1) ∨ ((∃ xs, SqT K H1 a xs) ∧ R (Itt K a) H1))
theorem pi_any {X : Cx} {tg l : Expr} {tl : TE} (hl : PE X l tl) : PI X tg l (iAny X.K tl) := by
  refine ⟨fun pins s σ H R I h => ?_⟩
  refine thn (hl.run pins s σ H _ I h) fun v s1 ⟨x, H1, I1, r1, q1⟩ => ?_
  obtain ⟨a, e, q⟩ := q1
  subst e
  cases r1
  rcases q with ⟨⟨xs, hq⟩, q⟩ | ⟨⟨xs, hq⟩, q⟩
  · obtain ⟨its, rv, p, hz⟩ := I1.list hq
    refine wpAny_pyIter_list p.isList ?_
    refine ⟨s1.heap.objs.size, [s1.heap.objs.size], _, _, H1, rfl, I1.kept (t' := s1.toks) fun b o e => Heap.get?_push_of_some _ e, turn_list a _, ⟨_, Heap.get?_push_size _ rfl, rfl, rfl⟩, fun b hb => ?_, q⟩
    have e : b = s1.heap.objs.size := by simpa using hb
    subst e
    exact I1.fpOk (Nat.le_refl _) (I1.hok.fresh (Nat.le_refl _))
  · obtain ⟨its, rv, p, hz⟩ := I1.tuple hq
    refine wpAny_pyIter_tuple (show s1.heap.IsTuple a its.toArray from p) ?_
    refine ⟨s1.heap.objs.size, [s1.heap.objs.size], _, _, H1, rfl, I1.kept (t' := s1.toks) fun b o e => Heap.get?_push_of_some _ e, turn_tuple a _, ⟨_, Heap.get?_push_size _ rfl, rfl, rfl⟩, fun b hb => ?_, q⟩
    have e : b = s1.heap.objs.size := by simpa using hb
    subst e
    exact I1.fpOk (Nat.le_refl _) (I1.hok.fresh (Nat.le_refl _))
section
variable {X : Cx} {W : XP} {io : List Nat} {m ma mb : Ev OR} {ms : List (Ev OR)} {tg a b : Expr} {pos p tpos : Pos} {elts : List Expr} {kk : Nat}
theorem i_seq (h : PE X a (tR X.K W m)) : PI X tg a (tI X.K W (iSeq m)) := (pi_any h).to fun σ H R ⟨F, e, fp, Rl, q⟩ => by
  refine ⟨F, e, fp, Rl, wp_mono (wp_bind q) (fun x e1 z v H1 fp1 fv A => ?_) fun _ _ z => z⟩
  obtain ⟨o, ds, e2, hd, z2⟩ := itemsOf_go z
  clear z
  subst e2
  have r := A.frz
  unfold D.items at hd
  split at hd
  · rename_i xs hx
    cases hd
    rw [hx] at r
    unfold Rep at r
    obtain ⟨l, ws, ev, f, rs⟩ := r
    exact ⟨l, ev, .inr ⟨⟨ws, f.sq⟩, z2 H1 fp1 _ A.drop (wd_tup f rs)⟩⟩
  · rename_i xs hx
    cases hd
    rw [hx] at r
    unfold Rep at r
    obtain ⟨l, ws, ev, f, rs⟩ := r
    exact ⟨l, ev, .inl ⟨⟨ws, f.sq⟩, z2 H1 fp1 _ A.drop (wd_list f rs)⟩⟩
  · cases hd
theorem Af.int {K : PySem.W.Frag} {F : Addr → Prop} {H H1 : Hp} {fp fp1 fv : List Addr} {σ : L2.St} {e1 : Env} {v : V} {i : Int} (A : Af K F H fp σ H1 e1 fp1 v (.v (.fr (.int i))) fv) : v = .int i := by
  have r := A.val
  unfold RepR' RepO at r
  exact rep_int r.2
theorem small_lim {i : Int} (h : smallI i = true) : -(2 ^ 62) ≤ i ∧ i < 2 ^ 62 := by
  unfold smallI at h
  simpa using h
theorem i_rng1 (hg : Gl X "range") (hm : X.mg "range" = none) (ha : PE X a (tR X.K W m)) (hs : starEach [a] X.env = [(false, eval a X.env)] := by rfl) : PI X tg (.Call (.Name "range" p) [a] [] pos) (tI X.K W (iRng1 m)) :=
  (pi_range1 hg hm (pa_cons ha pa_nil hs) hs).to fun σ H R ⟨F, e, fp, Rl, q⟩ => by
    refine ⟨F, e, fp, Rl, wp_mono (wp_bind q) (fun x e1 z v H1 fp1 fv A => ?_) fun _ _ z => z⟩
    unfold rng1 at z
    split at z
    · split at z
      · rename_i j hj
        obtain ⟨h1, h2⟩ := small_lim hj
        have ev := A.int
        subst ev
        have := z H1 fp1 _ A.drop (wd_range (i := 0) (j := j))
        rw [Int.sub_zero] at this
        exact ⟨j, rfl, h1, h2, this⟩
      · exact z.elim
    · exact z.elim
theorem i_rng2 (hg : Gl X "range") (hm : X.mg "range" = none) (ha : PA X [a, b] (tA X.K W (mArgs [ma, mb]))) (hs : starEach [a, b] X.env = [(false, eval a X.env), (false, eval b X.env)] := by rfl) (hs2 : starEach [b] X.env = [(false, eval b X.env)] := by rfl) : PI X tg (.Call (.Name "range" p) [a, b] [] pos) (tI X.K W (iRng2 [ma, mb])) :=
  (pi_range2 hg hm ha hs hs2).to fun σ H R ⟨F, e, fp, Rl, q⟩ => by
    refine ⟨F, e, fp, Rl, wp_mono (wp_bind q) (fun x e1 z vs H1 fp1 fv A => ?_) fun _ _ z => z⟩
    unfold rng2 at z
    split at z
    · split at z
      · rename_i i j hj
        rw [Bool.and_eq_true] at hj
        obtain ⟨h1, h2⟩ := small_lim hj.1
        obtain ⟨h3, h4⟩ := small_lim hj.2
        obtain ⟨v1, vr, f1, f2, ev, ef, r1, v2, vr2, g1, g2, ev2, eg, r2, r3⟩ := A.val
        obtain ⟨e3, _⟩ := r3
        unfold RepR' RepO at r1 r2
        have e4 := rep_int r1.2
        have e5 := rep_int r2.2
        subst ev ev2 e3 e4 e5
        exact ⟨i, j, rfl, ⟨h1, h2, h3, h4⟩, z H1 fp1 _ A.drop wd_range⟩
      · exact z.elim
    · exact z.elim
theorem i_enum (hg : Gl X "enumerate") (hm : X.mg "enumerate" = none) (ha : PE X a (tR X.K W m)) (hs : starEach [a] X.env = [(false, eval a X.env)] := by rfl) : PI X (.Tuple elts kk tpos) (.Call (.Name "enumerate" p) [a] [] pos) (tI X.K W (iEnum m)) :=
  (pi_enum hg hm (pa_cons ha pa_nil hs) hs).to fun σ H R ⟨F, e, fp, Rl, q⟩ => by
    refine ⟨F, e, fp, Rl, wp_mono (wp_bind q) (fun x e1 z v H1 fp1 fv A => ?_) fun _ _ z => z⟩
    unfold enum1 at z
    split at z
    · rename_i o
      split at z
      · rename_i ds ho
        have r := A.frz
        rw [ho] at r
        unfold Rep at r
        obtain ⟨l, ws, ev, f, rs⟩ := r
        subst ev
        exact ⟨l, ws, rfl, f.sq, z H1 fp1 _ A.drop (wd_enum f rs)⟩
      · exact z.elim
    · exact z.elim
theorem i_zip (hg : Gl X "zip") (hm : X.mg "zip" = none) (ha : PA X [a, b] (tA X.K W (mArgs [ma, mb]))) (hs : starEach [a, b] X.env = (false, eval a X.env) :: starEach [b] X.env := by rfl) (hpl : (backTo pos (starEach [b] X.env)).any (·.1) = false := by rfl) : PI X (.Tuple elts kk tpos) (.Call (.Name "zip" p) [a, b] [] pos) (tI X.K W (iZip [ma, mb])) :=
  (RZ.pi_zipA hg hm ha hs hpl).to fun σ H R ⟨F, e, fp, Rl, q⟩ => by
    refine ⟨F, e, fp, Rl, wp_mono (wp_bind q) (fun x e1 z vs H1 fp1 fv A => ?_) fun _ _ z => z⟩
    unfold zip2 at z
    split at z
    · rename_i o u
      split at z
      · rename_i as bs h1 h2
        obtain ⟨v1, vr, f1, f2, ev, ef, r1, v2, vr2, g1, g2, ev2, eg, r2, r3⟩ := A.val
        obtain ⟨e3, e4⟩ := r3
        subst e3 e4 ev2
        have hN : ∀ a, Fp F fp1 a → Fp (Fp F fv) fp1 a := fun a z => z.imp .inl id
        have hd : ∀ a ∈ fv, ¬ Fp F fp1 a := fun c hc z => by
          rcases z with z | z
          · exact A.dis c hc z
          · exact A.rel.dis c z (.inr hc)
        have q1 := RepO.freeze hN o v1 f1 (fun a ha => hd a (by rw [ef]; simp [ha])) r1
        have q2 := RepO.freeze hN u v2 g1 (fun a ha => hd a (by rw [ef, eg]; simp [ha])) r2
        rw [h1] at q1
        rw [h2] at q2
        unfold Rep at q1 q2
        obtain ⟨l, ws, e5, f, rs⟩ := q1
        obtain ⟨l2, ws2, e6, f', rs2⟩ := q2
        subst e5 e6
        exact ⟨l, l2, ws, ws2, ev, .inl ⟨f.sq, f'.sq, z H1 fp1 _ A.drop (wd_zip f rs f' rs2)⟩⟩
      · rename_i as bs h1 h2
        obtain ⟨v1, vr, f1, f2, ev, ef, r1, v2, vr2, g1, g2, ev2, eg, r2, r3⟩ := A.val
        obtain ⟨e3, e4⟩ := r3
        subst e3 e4 ev2
        have hN : ∀ a, Fp F fp1 a → Fp (Fp F fv) fp1 a := fun a z => z.imp .inl id
        have hd : ∀ a ∈ fv, ¬ Fp F fp1 a := fun c hc z => by
          rcases z with z | z
          · exact A.dis c hc z
          · exact A.rel.dis c z (.inr hc)
        have q1 := RepO.freeze hN o v1 f1 (fun a ha => hd a (by rw [ef]; simp [ha])) r1
        have q2 := RepO.freeze hN u v2 g1 (fun a ha => hd a (by rw [ef, eg]; simp [ha])) r2
        rw [h1] at q1
        rw [h2] at q2
        unfold Rep at q1 q2
        obtain ⟨l, ws, e5, f, rs⟩ := q1
        obtain ⟨l2, ws2, e6, f', rs2⟩ := q2
        subst e5 e6
        exact ⟨l, l2, ws, ws2, ev, .inr ⟨f.sq, f'.sq, z H1 fp1 _ A.drop (wd_zipT f rs f' rs2)⟩⟩
      · exact z.elim
    · exact z.elim
/-! ### loops -/
theorem drop_cons {α : Type} {l : List α} {i : Nat} {x : α} (h : l[i]? = some x) : l.drop i = x :: l.drop (i + 1) := by
  have hi : i < l.length := by
    rcases Nat.lt_or_ge i l.length with z | z
    · exact z
    · rw [List.getElem?_eq_none z] at h; cases h
  rw [List.drop_eq_getElem_cons hi]
  rw [List.getElem?_eq_getElem hi] at h
  cases h
  rfl
theorem s_for {tgt iter : Expr} {body : List Stmt} {src : Ev (List D)} {t : Tg} {sb : Sv} (hp : PassesOwn (model X.prog X.w) X.A X.env X.xe) (hc : X.calm = true) (hi : PI X tgt iter (tI X.K W src)) (hg : PG X tgt (gT X.K io t)) (hb : PSs X body (tSv X.K W io sb))
    (hs : ∀ x, foldedSetIterable iter X.env x = pure x := by intro _; rfl) : PS X (.For tgt iter body [] pos) (tSv X.K W io (sFor io t src sb)) :=
  (ps_for hp hc hi hg hb hs).to fun D σ H ⟨F, e, fp, R, q⟩ => by
    refine ⟨F, e, fp, R, wp_mono (wp_bind q) (fun ds e1 z H1 fp1 J G wd => ?_) fun x e1 z H1 fp1 G => z σ H1 fp1 IoS.refl G⟩
    have z1 := wp_mono z (fun f e' y => fin.go IoS.refl G y) fun x e' y => finX.go IoS.refl G y
    clear z
    refine ⟨fun i k σ' H' => k = ds.length - i ∧ i ≤ ds.length ∧ ∃ e' fp', IoS io σ σ' ∧ Gone X.K F H1 fp1 σ' H' e' fp' ∧ (forGo io t sb (ds.drop i) e').wp (fin X.K io F H1 fp1 σ D) (finX X.K W io F H1 fp1 σ), ⟨_, rfl, Nat.zero_le _, e1, fp1, IoS.refl, Gone.refl G.rel, z1⟩, ?_⟩
    rintro i k σ' H' ⟨rfl, hle, e', fp', s', G', w'⟩
    by_cases hlt : i < ds.length
    · have hd : ds[i]? = some ds[i] := by simp [hlt]
      refine .inr ⟨wd.goes i H' _ G'.stb hlt, fun σ2 H2 => ∃ e2 fp2, IoS io σ σ2 ∧ Gone X.K F H1 fp1 σ2 H2 e2 fp2 ∧ (forGo io t sb (ds.drop (i + 1)) e2).wp (fin X.K io F H1 fp1 σ D) (finX X.K W io F H1 fp1 σ),
        fun σ2 H2 z => ⟨_, by omega, rfl, hlt, z⟩, fun x H3 y => ?_⟩
      obtain ⟨grow, rx⟩ := wd.yields i H' _ x H3 _ G'.stb G'.rel.dom2 hd y
      have G3 := G'.grow grow
      rw [drop_cons hd] at w'
      unfold forGo at w'
      cases hbind : t.bind io (.fr ds[i]) e' with
      | none => rw [hbind] at w'; exact w'.elim
      | some e3 =>
        rw [hbind] at w'
        refine ⟨F, H3, fp', e', fp', [], .fr ds[i], e3, (Gone.refl G3.rel).val rx, hbind, fun σ4 H4 fp4 s4 G4 => ?_⟩
        refine ⟨F, e3, fp4, G4.rel, ?_⟩
        have GG : Gone X.K F H1 fp1 σ4 H4 e3 fp4 := G3.tr G4
        have ss := s'.trans s4
        have w2 : ((sb e3).bind fun f e2 => match f with
          | .nx => forGo io t sb (ds.drop (i + 1)) e2
          | .ct => forGo io t sb (ds.drop (i + 1)) e2
          | .bk => .ok .nx e2
          | .rt o => .ok (.rt o) e2).wp (fin X.K io F H1 fp1 σ D) (finX X.K W io F H1 fp1 σ) := w'
        cases hsb : sb e3 with
        | fail => rw [hsb] at w2; exact w2.elim
        | exc x e5 =>
          rw [hsb] at w2
          exact finX.go ss GG w2
        | ok f e5 =>
          rw [hsb] at w2
          cases f with
          | nx => exact fun σ5 H5 fp5 s5 G5 => ⟨e5, fp5, ss.trans s5, GG.tr G5, w2⟩
          | ct => exact fun σ5 H5 fp5 s5 G5 => ⟨e5, fp5, ss.trans s5, GG.tr G5, w2⟩
          | bk => exact fun σ5 H5 fp5 s5 G5 => w2 σ5 H5 fp5 (ss.trans s5) (GG.tr G5)
          | rt o => exact fun σ5 H5 fp5 v fv s5 A5 => w2 σ5 H5 fp5 v fv (ss.trans s5) (GG.afT A5)
    · have ei : i = ds.length := by omega
      subst ei
      rw [List.drop_length] at w'
      exact .inl ⟨wd.stops H' _ G'.stb, w' σ' H' fp' s' G'⟩
theorem s_while {c : Expr} {body : List Stmt} {t : Ev Bool} {sb : Sv} {n : Nat} (hp : PassesOwn (model X.prog X.w) X.A X.env X.xe) (hc : PT X c (tT X.K W t)) (hb : PSs X body (tSv X.K W io sb)) : PS X (.While c body [] pos) (tSv X.K W io (sWhile n t sb)) :=
  (ps_while hp hc hb).to fun D σ H ⟨F, e, fp, R, q⟩ => by
    refine ⟨fun k σ' H' => ∃ e' fp', IoS io σ σ' ∧ Gone X.K F H fp σ' H' e' fp' ∧ (sWhile k t sb e').wp (fin X.K io F H fp σ D) (finX X.K W io F H fp σ), ⟨n, e, fp, IoS.refl, Gone.refl R, q⟩, ?_⟩
    rintro k σ' H' ⟨e', fp', s', G', w'⟩
    cases k with
    | zero => exact w'.elim
    | succ k =>
      unfold sWhile at w'
      refine ⟨F, e', fp', G'.rel, wp_mono (wp_bind w') (fun b e2 z H2 fp2 G2 => ?_) fun x e2 z H2 fp2 G2 => z σ' H2 fp2 s' (G'.tr G2)⟩
      have GG := G'.tr G2
      cases b with
      | false => exact iteF (z σ' H2 fp2 s' GG)
      | true =>
        refine iteT ⟨fun σ3 H3 => ∃ e3 fp3, IoS io σ σ3 ∧ Gone X.K F H fp σ3 H3 e3 fp3 ∧ (sWhile k t sb e3).wp (fin X.K io F H fp σ D) (finX X.K W io F H fp σ), fun σ3 H3 y => ⟨k, Nat.lt_succ_self _, y⟩, ?_⟩
        refine ⟨F, e2, fp2, GG.rel, wp_mono (wp_bind z) (fun f e4 y => ?_) fun x e4 y => finX.go s' GG y⟩
        cases f with
        | nx => exact fun σ5 H5 fp5 s5 G5 => ⟨e4, fp5, s'.trans s5, GG.tr G5, y⟩
        | ct => exact fun σ5 H5 fp5 s5 G5 => ⟨e4, fp5, s'.trans s5, GG.tr G5, y⟩
        | bk => exact fun σ5 H5 fp5 s5 G5 => y σ5 H5 fp5 (s'.trans s5) (GG.tr G5)
        | rt o => exact fun σ5 H5 fp5 v fv s5 A5 => y σ5 H5 fp5 v fv (s'.trans s5) (GG.afT A5)
/-! ### name op= value -/
theorem tR_var {K : PySem.W.Frag} {i : Nat} {σ : L2.St} {H : Hp} {Q : VK} (h : tR K W (mV i) σ H Q) : ∃ v, σ[i]? = some (some v) ∧ Q v H := by
  obtain ⟨F, e, fp, R, q⟩ := h
  unfold mV at q
  cases hi : e.at i with
  | none => rw [hi] at q; exact q.elim
  | some o =>
    obtain ⟨A, f, B, v, e1, e2, r, _⟩ := R.slot hi
    rw [hi] at q
    refine ⟨v, e2, ?_⟩
    have own : ∀ (x : OR), RepR' K H (Fp F fp) σ e v (.r i []) [] := fun _ => ⟨rfl, v, e2, fun _ => rfl, fun o1 q1 ho hq => rfl⟩
    cases o with
    | fr d =>
      unfold RepO at r
      exact q v H fp [] (Af.now R ⟨rfl, r.2⟩)
    | ol d => exact q v H fp [] (Af.now R (own (.r i [])))
    | ok d => exact q v H fp [] (Af.now R (own (.r i [])))
    | ot d => exact q v H fp [] (Af.now R (own (.r i [])))
theorem s_aug (i : Nat) {x : Str} {op : Operator} {f : List D → Option O} {pos' : Pos} (hn : X.N.Nodup) (ho : PIp X op (fun x y H Q => rOp X.K f [x, y] H Q)) (h : PE X a (tR X.K W m)) (hN : X.N[i]? = some x := by rfl) (hx : Loc X.env.scope x := by first | exact Or.inl rfl | exact Or.inr rfl)
    (hf : X.fn x = true ∨ X.env.scope.names.lookup x = some .local := by first | exact .inl rfl | exact .inr rfl | assumption) : PS X (.AugAssign (.Name x pos') op a pos) (tSv X.K W io (sAug io i f m)) :=
  (ps_aug hn hN hx h ho hf).to fun D σ H ⟨F, e, fp, R, q⟩ => by
    have h2 : tR X.K W (mOp f [mV i, m]) σ H fun v H1 => D.nx (σ.set i (some v)) H1 := by
      refine ⟨F, e, fp, R, wp_mono (wp_bind q) (fun x e1 z v H1 fp1 fv A => ?_) fun x e1 z H1 fp1 G => z σ H1 fp1 IoS.refl G⟩
      cases x with
      | r _ _ => exact z.elim
      | v o =>
        split at z
        · rename_i hx hc
          obtain ⟨fp2, G⟩ := A.store i
          cases hx
          refine z _ _ fp2 (fun j hj => ?_) G
          rw [List.getElem?_set_ne]
          intro y
          subst y
          rw [List.contains_iff_mem.mpr hj] at hc
          cases hc
        · exact z.elim
    obtain ⟨v, e1, h3⟩ := tR_var (tA_cons (tR_op h2))
    exact ⟨v, e1, tA_last h3⟩
end
/-! ### op= of numbers and texts -/
section
variable {X : Cx}
theorem p_add : PIp X .Add (fun x y H Q => rOp X.K fAddI [x, y] H Q) := by
  intro pins s σ H x y v u Q I r1 r2 ⟨N, ds, o, hn, r, hf, q⟩
  unfold fAddI at hf
  split at hf
  · cases hf
    obtain ⟨e1, e2⟩ := int2 r
    exact ip_add pins s σ H x y v u Q I r1 r2 ⟨_, _, e1, e2, q _ _ _ (New.scal rfl)⟩
  · cases hf
theorem p_sub : PIp X .Sub (fun x y H Q => rOp X.K fSub [x, y] H Q) := by
  intro pins s σ H x y v u Q I r1 r2 ⟨N, ds, o, hn, r, hf, q⟩
  unfold fSub at hf
  split at hf
  · cases hf
    obtain ⟨e1, e2⟩ := int2 r
    exact ip_sub pins s σ H x y v u Q I r1 r2 ⟨_, _, e1, e2, q _ _ _ (New.scal rfl)⟩
  · cases hf
end
end Ev
end
section
set_option Elab.async false
set_option linter.all false
set_option maxRecDepth 100000
namespace Ev
open PySem PySem.Spec PyProof.Rows L2
/-- what the parameters hold behind a call -/
def RepOuts (K : PySem.W.Frag) (H : Hp) (N : Addr → Prop) : List V → List (Option O) → List Addr → Prop
  | [], [], f => f = []
  | _ :: vs, none :: os, f => RepOuts K H N vs os f
  | v :: vs, some o :: os, f => ∃ f1 f2, f = f1 ++ f2 ∧ RepO K H N v o f1 ∧ RepOuts K H N vs os f2
  | _, _, _ => False
/-- a written argument -/
def ArgR (K : PySem.W.Frag) (H : Hp) (N : Addr → Prop) (σ : St) (v : V) : OR → List Addr → Prop
  | .v o, f => RepO K H N v o f
  | .r i [], f => f = [] ∧ σ[i]? = some (some v)
  | _, _ => False
def ArgRs (K : PySem.W.Frag) (H : Hp) (N : Addr → Prop) (σ : St) : List V → List OR → List Addr → Prop
  | vs, [], f => vs = [] ∧ f = []
  | vs, x :: xs, f => ∃ v vr f1 f2, vs = v :: vr ∧ f = f1 ++ f2 ∧ ArgR K H N σ v x f1 ∧ ArgRs K H N σ vr xs f2
section
variable {K : PySem.W.Frag} {W : XP} {F : Addr → Prop} {H H1 H2 : Hp} {N N' : Addr → Prop} {σ σ1 σ2 : St} {e e1 e2 : Env} {fp fp1 fp2 fv fw : List Addr} {v w : V} {vs : List V} {o q : O} {i : Nat} {x : OR} {xs : List OR}
theorem ArgRs.of : ∀ (xs : List OR) (vs : List V) (fv : List Addr) (os : List O), RepRs' K H N σ e vs xs fv → objs e1 xs = some os → ArgRs K H N σ vs xs fv
  | [], _, _, _, h, _ => h
  | .v o :: xs, _, _, os, h, ho => by
    obtain ⟨v, vr, f1, f2, a, b, c, d⟩ := h
    unfold objs at ho
    obtain ⟨os', h1, h2⟩ := Option.map_eq_some_iff.mp ho
    exact ⟨v, vr, f1, f2, a, b, c, ArgRs.of xs vr f2 os' d h1⟩
  | .r i [] :: xs, _, _, os, h, ho => by
    obtain ⟨v, vr, f1, f2, a, b, c, d⟩ := h
    unfold objs at ho
    obtain ⟨o, h0, h1⟩ := Option.bind_eq_some_iff.mp ho
    obtain ⟨os', h1, h2⟩ := Option.map_eq_some_iff.mp h1
    obtain ⟨c1, w, c2, c3, _⟩ := c
    have e := c3 rfl
    subst e
    exact ⟨w, vr, f1, f2, a, b, ⟨c1, c2⟩, ArgRs.of xs vr f2 os' d h1⟩
  | .r i (_ :: _) :: xs, _, _, os, h, ho => by
    unfold objs at ho
    cases ho
theorem at_set_ne {j : Nat} {o : Option O} (h : j ≠ i) : Env.at (e.set i o) j = e.at j := by
  unfold Env.at
  rw [List.getElem?_set_ne (Ne.symm h)]
theorem objs_set : ∀ (xs : List OR), i ∉ refsOf xs → objs (e.set i none) xs = objs e xs
  | [], _ => rfl
  | .v o :: xs, h => by unfold objs; rw [objs_set xs h]
  | .r j [] :: xs, h => by
    unfold objs
    rw [objs_set xs (fun z => h (by unfold refsOf; exact List.mem_cons_of_mem _ z)), at_set_ne (fun z => h (by unfold refsOf; rw [z]; exact List.mem_cons_self))]
  | .r j (_ :: _) :: xs, h => rfl
/-- a slot's object leaves -/
theorem Rel.out (R : Rel K F H σ e fp) (h : e.at i = some o) : ∃ f fp2 v, σ[i]? = some (some v) ∧ RepO K H (Fp F fp) v o f ∧ Rel K (Fp F f) H σ (e.set i none) fp2 ∧ f.Nodup ∧ (∀ a ∈ f, ¬ F a) ∧ Fp (Fp F f) fp2 = Fp F fp := by
  obtain ⟨A, f, B, v, e1, e2, r, put⟩ := R.slot h
  have nd : (A ++ (f ++ B)).Nodup := by rw [← e1]; exact R.nod
  obtain ⟨n1, n2, n3⟩ := nod_mid nd
  have eq : Fp (Fp F f) (A ++ B) = Fp F fp := by rw [e1]; exact perm_mid
  have sub : ∀ a, a ∈ f → a ∈ fp := fun a h => by rw [e1]; simp [h]
  refine ⟨f, A ++ B, v, e2, r, ⟨?_, n2, fun a ha z => ?_, fun a z => ?_, by rw [List.length_set]; exact R.len⟩, n1, fun a ha => R.dis a (sub a ha), eq⟩
  · rw [eq]
    have := put H (Fp F fp) σ none [] Stb.refl (fun _ _ => rfl) (fun _ _ => rfl) rfl
    simpa using this
  · rcases z with z | z
    · exact R.dis a (by rw [e1]; rcases List.mem_append.mp ha with h | h <;> simp [h]) z
    · exact n3 a z ha
  · rcases z with z | z
    · exact R.dom a z
    · exact R.dom2 a (.inr (sub a z))
theorem Fp.assoc_eq {l m : List Addr} {n : List Addr} : Fp (Fp (Fp F l) m) n = Fp (Fp F (l ++ m)) n := by rw [Fp.app_eq (F := F)]
/-- the arguments are taken together -/
theorem take : ∀ (xs : List OR) (vs : List V) (fv : List Addr) (os : List O) (e : Env) (fp : List Addr) (F : Addr → Prop), Rel K (Fp F fv) H σ e fp → fv.Nodup → (∀ a ∈ fv, ¬ F a) → ArgRs K H (Fp (Fp F fv) fp) σ vs xs fv → objs e xs = some os → nodupB (refsOf xs) = true →
    ∃ fa fp', RepOs K H (Fp (Fp F fv) fp) vs os fa ∧ Rel K (Fp F fa) H σ (lose e (refsOf xs)) fp' ∧ fa.Nodup ∧ (∀ a ∈ fa, ¬ F a) ∧ Fp (Fp F fa) fp' = Fp (Fp F fv) fp
  | [], vs, fv, os, e, fp, F, R, hn, hd, h, ho, hb => by
    obtain ⟨h1, h2⟩ := h
    subst h1 h2
    unfold objs at ho
    cases ho
    exact ⟨[], fp, by unfold RepOs; exact ⟨rfl, rfl⟩, R, List.nodup_nil, (fun _ z => nomatch z), rfl⟩
  | .v o :: xs, vs, fv, os, e, fp, F, R, hn, hd, h, ho, hb => by
    obtain ⟨v, vr, f1, f2, a, b, c, d⟩ := h
    subst a b
    unfold objs at ho
    obtain ⟨os', h1, h2⟩ := Option.map_eq_some_iff.mp ho
    subst h2
    obtain ⟨n1, n2, n3⟩ := List.nodup_append.mp hn
    have eq : Fp (Fp (Fp F f1) f2) fp = Fp (Fp F (f1 ++ f2)) fp := Fp.assoc_eq
    obtain ⟨fa, fp', r1, r2, r3, r4, r5⟩ := take xs vr f2 os' e fp (Fp F f1) (by rw [Fp.app_eq]; exact R) n2 (fun x hx z => by
      rcases z with z | z
      · exact hd x (by simp [hx]) z
      · exact n3 x z x hx rfl) (by rw [eq]; exact d) h1 hb
    rw [eq] at r1 r5
    refine ⟨f1 ++ fa, fp', ?_, by rw [← Fp.app_eq]; exact r2, List.nodup_append.mpr ⟨n1, r3, fun x hx y hy e => r4 y hy (.inr (e ▸ hx))⟩, fun x hx z => ?_, by rw [← Fp.assoc_eq]; exact r5⟩
    · unfold RepOs
      exact ⟨v, vr, f1, fa, rfl, rfl, c, r1⟩
    · rcases List.mem_append.mp hx with y | y
      · exact hd x (by simp [y]) z
      · exact r4 x y (.inl z)
  | .r i [] :: xs, vs, fv, os, e, fp, F, R, hn, hd, h, ho, hb => by
    obtain ⟨v, vr, f1, f2, a, b, ⟨c1, c2⟩, d⟩ := h
    subst a b c1
    unfold objs at ho
    obtain ⟨o, h0, h1'⟩ := Option.bind_eq_some_iff.mp ho
    obtain ⟨os', h1, h2⟩ := Option.map_eq_some_iff.mp h1'
    subst h2
    have hb' : (!(refsOf xs).contains i && nodupB (refsOf xs)) = true := hb
    rw [Bool.and_eq_true, Bool.not_eq_true', ← Bool.not_eq_true, List.contains_iff_mem] at hb'
    obtain ⟨f, fp2, w, e1, ro, R2, n1, n2, eq⟩ := R.out h0
    rw [c2] at e1
    cases e1
    rw [List.nil_append] at hn hd R d ro eq R2 n2
    have eq2 : Fp (Fp (Fp F f) f2) fp2 = Fp (Fp F f2) fp := by rw [Fp.comm_eq (F := F)]; exact eq
    obtain ⟨fa, fp', r1, r2, r3, r4, r5⟩ := take xs vr f2 os' (e.set i none) fp2 (Fp F f) (by rw [Fp.comm_eq]; exact R2) hn (fun x hx z => by
      rcases z with z | z
      · exact hd x hx z
      · exact n2 x z (.inr hx)) (by rw [eq2]; exact d) (by rw [objs_set xs hb'.1]; exact h1) hb'.2
    rw [eq2] at r1 r5
    refine ⟨f ++ fa, fp', ?_, by rw [← Fp.app_eq]; exact r2, List.nodup_append.mpr ⟨n1, r3, fun x hx y hy e => r4 y hy (.inr (e ▸ hx))⟩, fun x hx z => ?_, by rw [← Fp.assoc_eq]; exact r5⟩
    · rw [List.nil_append]
      unfold RepOs
      exact ⟨v, vr, f, fa, rfl, rfl, ro, r1⟩
    · rcases List.mem_append.mp hx with y | y
      · exact n2 x y (.inl z)
      · exact r4 x y (.inl z)
  | .r i (_ :: _) :: xs, vs, fv, os, e, fp, F, R, hn, hd, h, ho, hb => by
    unfold objs at ho
    cases ho
/-- an object goes into a slot that already names it -/
theorem Rel.put (R : Rel K (Fp F fv) H σ e fp) (h : σ[i]? = some (some v)) (r : RepO K H (Fp (Fp F fv) fp) v o fv) (hn : fv.Nodup) (hd : ∀ a ∈ fv, ¬ F a) : ∃ fp2, Rel K F H σ (e.set i (some o)) fp2 ∧ ∀ a, Fp F fp2 a → Fp (Fp F fv) fp a := by
  have es : σ.set i (some v) = σ := by
    apply List.ext_getElem?
    intro j
    by_cases hj : i = j
    · subst hj
      have hi : i < σ.length := by
        rcases Nat.lt_or_ge i σ.length with z | z
        · exact z
        · rw [List.getElem?_eq_none z] at h; cases h
      rw [List.getElem?_set_self hi, h]
    · rw [List.getElem?_set_ne hj]
  obtain ⟨fp2, R2, hN⟩ := R.store r hn hd i
  rw [es] at R2
  exact ⟨fp2, R2, hN⟩
/-- a slot is forgotten -/
theorem Rel.clear (R : Rel K F H σ e fp) (i : Nat) : ∃ fp2, Rel K F H σ (e.set i none) fp2 ∧ ∀ a, Fp F fp2 a → Fp F fp a := by
  cases h : e.at i with
  | none =>
    have es : e.set i none = e := by
      apply List.ext_getElem?
      intro j
      by_cases hj : i = j
      · subst hj
        unfold Env.at at h
        rcases Nat.lt_or_ge i e.length with z | z
        · rw [List.getElem?_set_self z]
          rw [List.getElem?_eq_getElem z] at h ⊢
          have h' : e[i] = none := h
          rw [h']
        · rw [List.getElem?_eq_none z, List.getElem?_eq_none (by simpa using z)]
      · rw [List.getElem?_set_ne hj]
    rw [es]
    exact ⟨fp, R, fun _ z => z⟩
  | some o =>
    obtain ⟨f, fp2, v, e1, ro, R2, n1, n2, eq⟩ := R.out h
    exact ⟨fp2, R2.shrink fun a z => .inl z, fun a z => by rw [← eq]; exact z.imp .inl id⟩
theorem RepOuts.mono (s : Stb H N H1 N') : ∀ (vs : List V) (os : List (Option O)) (f : List Addr), (∀ a ∈ f, H1 a = H a) → RepOuts K H N vs os f → RepOuts K H1 N' vs os f
  | [], [], _, _, h => h
  | _ :: vs, none :: os, f, k, h => RepOuts.mono s vs os f k h
  | _ :: vs, some _ :: os, _, k, ⟨f1, f2, e, a, b⟩ => ⟨f1, f2, e, RepO.mono s _ _ _ (fun c hc => k c (by rw [e]; simp [hc])) a, RepOuts.mono s vs os f2 (fun c hc => k c (by rw [e]; simp [hc])) b⟩
  | [], _ :: _, _, _, h => h.elim
  | _ :: _, [], _, _, h => h.elim
theorem RepOuts.own : ∀ (vs : List V) (os : List (Option O)) (f : List Addr), RepOuts K H N vs os f → ∀ a ∈ f, ∃ u, H a = some u ∧ Mut (some u)
  | [], [], f, h, a, ha => by rw [show f = [] from h] at ha; cases ha
  | _ :: vs, none :: os, f, h, a, ha => RepOuts.own vs os f h a ha
  | _ :: vs, some _ :: os, _, ⟨f1, f2, e, r, b⟩, a, ha => by
    rw [e] at ha
    rcases List.mem_append.mp ha with ha | ha
    · exact RepO.own _ _ _ r a ha
    · exact RepOuts.own vs os f2 b a ha
  | [], _ :: _, _, h, _, _ => h.elim
  | _ :: _, [], _, h, _, _ => h.elim
/-- what the parameters hold goes back -/
theorem back : ∀ (xs : List OR) (vs : List V) (fv : List Addr) (outs : List (Option O)) (fo : List Addr) (e : Env) (fp : List Addr) (F : Addr → Prop) {H0 : Hp} {N0 : Addr → Prop}, ArgRs K H0 N0 σ vs xs fv → RepOuts K H (Fp (Fp F fo) fp) vs outs fo → Rel K (Fp F fo) H σ e fp → fo.Nodup → (∀ a ∈ fo, ¬ F a) →
    ∃ fp', Rel K F H σ (giveBack e xs outs) fp' ∧ ∀ a, Fp F fp' a → Fp (Fp F fo) fp a
  | [], vs, fv, outs, fo, e, fp, F, _, _, h, ro, R, hn, hd => ⟨fp, by unfold giveBack; exact R.shrink fun a z => .inl z, fun a z => z.imp .inl id⟩
  | .v o :: xs, vs, fv, outs, fo, e, fp, F, _, _, h, ro, R, hn, hd => by
    obtain ⟨v, vr, f1, f2, a, b, c, d⟩ := h
    subst a
    cases outs with
    | nil => exact ⟨fp, by unfold giveBack; exact R.shrink fun a z => .inl z, fun a z => z.imp .inl id⟩
    | cons u outs =>
      unfold giveBack
      cases u with
      | none => exact back xs vr f2 outs fo e fp F d ro R hn hd
      | some u =>
        obtain ⟨g1, g2, eg, r1, r2⟩ := ro
        subst eg
        have hN : ∀ a, Fp (Fp F g2) fp a → Fp (Fp F (g1 ++ g2)) fp a := fun a z => by
          rcases z with (z | z) | z
          · exact .inl (.inl z)
          · exact .inl (.inr (by simp [z]))
          · exact .inr z
        obtain ⟨fp', R', h'⟩ := back xs vr f2 outs g2 e fp F d (RepOuts.mono (Stb.same hN) _ _ _ (fun _ _ => rfl) r2) (R.shrink fun a z => z.imp id fun z => by simp [z]) (List.nodup_append.mp hn).2.1 (fun a ha => hd a (by simp [ha]))
        exact ⟨fp', R', fun a z => hN a (h' a z)⟩
  | .r i (_ :: _) :: xs, vs, fv, outs, fo, e, fp, F, _, _, h, ro, R, hn, hd => by
    obtain ⟨v, vr, f1, f2, a, b, c, d⟩ := h
    exact c.elim
  | .r i [] :: xs, vs, fv, outs, fo, e, fp, F, _, _, h, ro, R, hn, hd => by
    obtain ⟨v, vr, f1, f2, a, b, c, d⟩ := h
    subst a
    cases outs with
    | nil => exact ⟨fp, by unfold giveBack; exact R.shrink fun a z => .inl z, fun a z => z.imp .inl id⟩
    | cons u outs =>
      unfold giveBack
      cases u with
      | none =>
        obtain ⟨fp2, R2, h2⟩ := R.clear i
        obtain ⟨fp', R', h'⟩ := back xs vr f2 outs fo (e.set i none) fp2 F d (RepOuts.mono (Stb.same h2) _ _ _ (fun _ _ => rfl) ro) R2 hn hd
        exact ⟨fp', R', fun a z => h2 a (h' a z)⟩
      | some u =>
        obtain ⟨g1, g2, eg, r1, r2⟩ := ro
        subst eg
        obtain ⟨n1, n2, n3⟩ := List.nodup_append.mp hn
        have eq : Fp (Fp (Fp F g2) g1) fp = Fp (Fp F (g1 ++ g2)) fp := by rw [Fp.comm_eq (F := F), Fp.app_eq (F := F)]
        obtain ⟨fp2, R2, h2⟩ := Rel.put (F := Fp F g2) (fv := g1) (o := u) (by rw [Fp.comm_eq (F := F), Fp.app_eq (F := F)]; exact R) c.2 (by rw [eq]; exact r1) n1 (fun a ha z => by
          rcases z with z | z
          · exact hd a (by simp [ha]) z
          · exact n3 a ha a z rfl)
        rw [eq] at h2
        obtain ⟨fp', R', h'⟩ := back xs vr f2 outs g2 (e.set i (some u)) fp2 F d (RepOuts.mono (Stb.same h2) _ _ _ (fun _ _ => rfl) r2) R2 n2 (fun a ha => hd a (by simp [ha]))
        exact ⟨fp', R', fun a z => h2 a (h' a z)⟩
end
/-! ### a def's promise -/
/-- behind a call -/
structure Done (K : PySem.W.Frag) (F : Addr → Prop) (H : Hp) (fa : List Addr) (vs : List V) (H' : Hp) (v : V) (r : O) (fr : List Addr) (outs : List (Option O)) (fo : List Addr) : Prop where
  val : RepO K H' (Fp (Fp F fr) fo) v r fr
  out : RepOuts K H' (Fp (Fp F fr) fo) vs outs fo
  nod : (fr ++ fo).Nodup
  dis : ∀ a ∈ fr ++ fo, ¬ F a
  stb : Stb H (Fp F fa) H' (Fp (Fp F fr) fo)
  kF : ∀ a, F a → H' a = H a
abbrev XD := XK → Exn → Hp → Prop
def spF (K : PySem.W.Frag) (EX : XD) (sem : List O → CR) : Sp := fun vs H Q E => ∃ (F : Addr → Prop) (os : List O) (fa : List Addr), (∀ a, F a → H a ≠ none) ∧ fa.Nodup ∧ (∀ a ∈ fa, ¬ F a) ∧ RepOs K H (Fp F fa) vs os fa ∧
  match sem os with
  | .ok r outs => ∀ v H' fr fo, Done K F H fa vs H' v r fr outs fo → Q v H'
  | .exc x => ∀ H', Stb H (Fp F fa) H' F → (∀ a, F a → H' a = H a) → EX E x H'
  | .fail => False
section
variable {K : PySem.W.Frag} {W : XP} {F : Addr → Prop} {H H1 H2 : Hp} {N N' : Addr → Prop} {σ σ1 σ2 : St} {e e1 e2 : Env} {fp fp1 fp2 fv fw : List Addr} {v w : V} {vs : List V} {o q : O} {i : Nat} {x : OR} {xs : List OR}
/-- the call at the caller's -/
theorem call_go {EX : XD} {c : FT} {f : Nat} {E : XK} {P : OR → Env → Prop} {WW : Exn → Env → Prop} (A : Afs K F H fp σ H1 e1 fp1 vs xs fv) (hq : (callOn c f xs e1).wp P WW)
    {Q : VK} (hP : ∀ r e' v H' fp' fr, P r e' → Af K F H fp σ H' e' fp' v r fr → Q v H') (hW : ∀ x e' H' fp', WW x e' → Gone K F H fp σ H' e' fp' → EX E x H') : spF K EX (c f) vs H1 Q E := by
  unfold callOn at hq
  split at hq
  · rename_i os hb ho
    have ar := ArgRs.of xs vs fv os A.val ho
    obtain ⟨fa, fp', r1, R1, n1, d1, eq⟩ := take xs vs fv os e1 fp1 F A.rel A.nod A.dis ar ho hb
    have dd : ∀ a ∈ fa, ¬ Fp F fp' a := fun a ha z => by
      rcases z with z | z
      · exact d1 a ha z
      · exact R1.dis a z (.inr ha)
    have eqc : Fp (Fp F fp') fa = Fp (Fp F fv) fp1 := by rw [Fp.comm_eq (F := F)]; exact eq
    refine ⟨Fp F fp', os, fa, (R1.shrink (F := F) fun a z => .inl z).dom2, n1, dd, by rw [eqc]; exact r1, ?_⟩
    split at hq
    · rename_i r outs hc
      try rw [hc]
      intro v H' fr fo D
      have nFP : ∀ a ∈ fr ++ fo, a ∉ fp' := fun a ha z => D.dis a ha (.inr z)
      have own : ∀ a ∈ fr ++ fo, H' a ≠ none := fun a ha => by
        rcases List.mem_append.mp ha with ha | ha
        · obtain ⟨u, hu, _⟩ := RepO.own _ _ _ D.val a ha
          rw [hu]; exact fun z => nomatch z
        · obtain ⟨u, hu, _⟩ := RepOuts.own _ _ _ D.out a ha
          rw [hu]; exact fun z => nomatch z
      have eq2 : Fp (Fp (Fp F fp') fr) fo = Fp (Fp (Fp F fr) fo) fp' := by rw [Fp.comm_eq (F := F) (l := fp'), Fp.comm_eq (F := Fp F fr)]
      have eq3 : Fp (Fp (Fp F fr) fo) fp' = Fp (Fp F (fr ++ fo)) fp' := by rw [Fp.app_eq (F := F)]
      have st : Stb H1 (Fp (Fp F fa) fp') H' (Fp (Fp (Fp F fr) fo) fp') := by
        rw [← eq2, eq, ← eqc]
        exact D.stb
      have R2 : Rel K (Fp (Fp F fr) fo) H' σ (lose e1 (refsOf xs)) fp' := by
        refine R1.move st (fun a ha => D.kF a (.inr ha)) (fun a ha z => ?_) (fun a z => ?_)
        · rw [Fp.app_eq] at z
          rcases z with z | z
          · exact R1.dis a ha (.inl z)
          · exact nFP a z ha
        · rw [Fp.app_eq] at z
          rcases z with z | z
          · rw [D.kF a (.inl z)]; exact R1.dom a (.inl z)
          · exact own a z
      obtain ⟨m1, m2, m3⟩ := List.nodup_append.mp D.nod
      obtain ⟨fp3, R3, h3⟩ := back xs vs fv outs fo (lose e1 (refsOf xs)) fp' (Fp F fr) ar (by rw [← eq2]; exact D.out) R2 m2 (fun a ha z => by
        rcases z with z | z
        · exact D.dis a (by simp [ha]) (.inl z)
        · exact m3 a z a ha rfl)
      refine hP _ _ v H' fp3 fr hq ⟨R3, ?_, m1, fun a ha z => D.dis a (by simp [ha]) (.inl z), A.stb.trans ?_, fun a z => (D.kF a (.inl z)).trans (A.kF a z)⟩
      · show RepO K H' _ v r fr
        refine RepO.mono (Stb.same fun a z => ?_) r v fr (fun _ _ => rfl) D.val
        rw [eq2]
        exact h3 a z
      · rw [← eq]
        exact st.weak fun a z => h3 a z
    · rename_i x hc
      try rw [hc]
      intro H' st kf
      have st2 : Stb H1 (Fp (Fp F fa) fp') H' (Fp F fp') := by rw [Fp.comm_eq (F := F)]; exact st
      have R2 : Rel K F H' σ (lose e1 (refsOf xs)) fp' := R1.move (F' := F) st2 (fun a ha => kf a (.inr ha)) (fun a ha z => R1.dis a ha (.inl z)) (fun a z => by rw [kf a (.inl z)]; exact R1.dom a (.inl z))
      refine hW x _ H' fp' hq ⟨R2, A.stb.trans ?_, fun a z => (kf a (.inl z)).trans (A.kF a z)⟩
      rw [← eqc]
      exact st
    · exact hq.elim
  · exact hq.elim
end

section
variable {K : PySem.W.Frag} {F : Addr → Prop} {H H1 : Hp} {N : Addr → Prop} {σ : St} {e1 : Env} {fp fp1 fv : List Addr} {v : V} {vs : List V} {o : O}
theorem start_rep : ∀ (os : List O) (vs : List V) (fa : List Addr) (k n : Nat) (σ : St), RepOs K H N vs os fa → (∀ i, i < vs.length → σ[k + i]? = (vs[i]?).map some) → RepE K H N σ k (os.map some ++ List.replicate n none) fa
  | [], vs, fa, k, n, σ, h, hs => by
    unfold RepOs at h
    rw [h.2, List.map_nil, List.nil_append]
    have : ∀ (n k : Nat), RepE K H N σ k (List.replicate n none) [] := by
      intro n
      induction n with
      | zero => intro k; unfold List.replicate RepE; rfl
      | succ n ih => intro k; rw [List.replicate_succ]; unfold RepE; exact ih (k + 1)
    exact this n k
  | o :: os, vs, fa, k, n, σ, h, hs => by
    unfold RepOs at h
    obtain ⟨v, vr, f1, f2, e1, e2, r, q⟩ := h
    subst e1 e2
    rw [List.map_cons, List.cons_append]
    unfold RepE
    refine ⟨v, f1, f2, by simpa using hs 0 (by simp), rfl, r, start_rep os vr f2 (k + 1) n σ q fun i hi => ?_⟩
    have := hs (i + 1) (by simpa using hi)
    rw [show k + 1 + i = k + (i + 1) by omega]
    simpa using this
theorem outs_rep {io : List Nat} : ∀ (n k : Nat) (vs : List V) (e : Env) (fp : List Addr), vs.length = n → (∀ i, i < n → (k + i) ∈ io → σ[k + i]? = (vs[i]?).map some) → RepE K H N σ k e fp → ∃ fo, RepOuts K H N vs (outsOf io k n e) fo ∧ fo.Sublist fp
  | 0, k, vs, e, fp, hl, _, _ => by
    have : vs = [] := List.eq_nil_of_length_eq_zero hl
    subst this
    exact ⟨[], by unfold outsOf; rfl, List.nil_sublist _⟩
  | n + 1, k, [], e, fp, hl, _, _ => by cases hl
  | n + 1, k, v :: vr, [], fp, hl, hs, h => by
    obtain ⟨fo, r, s⟩ := outs_rep (io := io) n (k + 1) vr [] fp (by simpa using hl) (fun i hi hm => by
      have := hs (i + 1) (by omega) (by rw [show k + (i + 1) = k + 1 + i by omega]; exact hm)
      rw [show k + 1 + i = k + (i + 1) by omega]
      simpa using this) (by unfold RepE at h ⊢; exact h)
    exact ⟨fo, by unfold outsOf; exact r, s⟩
  | n + 1, k, v :: vr, none :: e, fp, hl, hs, h => by
    unfold RepE at h
    obtain ⟨fo, r, s⟩ := outs_rep (io := io) n (k + 1) vr e fp (by simpa using hl) (fun i hi hm => by
      have := hs (i + 1) (by omega) (by rw [show k + (i + 1) = k + 1 + i by omega]; exact hm)
      rw [show k + 1 + i = k + (i + 1) by omega]
      simpa using this) h
    refine ⟨fo, ?_, s⟩
    unfold outsOf
    rw [ite_self]
    exact r
  | n + 1, k, v :: vr, some o :: e, fp, hl, hs, h => by
    unfold RepE at h
    obtain ⟨w, f1, f2, e1, e2, ro, q⟩ := h
    subst e2
    obtain ⟨fo, r, s⟩ := outs_rep (io := io) n (k + 1) vr e f2 (by simpa using hl) (fun i hi hm => by
      have := hs (i + 1) (by omega) (by rw [show k + (i + 1) = k + 1 + i by omega]; exact hm)
      rw [show k + 1 + i = k + (i + 1) by omega]
      simpa using this) q
    unfold outsOf
    by_cases hm : k ∈ io
    · rw [if_pos (List.contains_iff_mem.mpr hm)]
      have := hs 0 (by omega) (by simpa using hm)
      rw [Nat.add_zero, e1] at this
      simp at this
      subst this
      exact ⟨f1 ++ fo, ⟨f1, fo, rfl, ro, r⟩, List.Sublist.append (List.Sublist.refl _) s⟩
    · rw [if_neg (fun z => hm (List.contains_iff_mem.mp z))]
      exact ⟨fo, r, s.trans (List.sublist_append_right _ _)⟩
theorem Af.done {io : List Nat} {σ0 : St} (A : Af K F H fp σ H1 e1 fp1 v (.v o) fv) (n : Nat) (hl : vs.length = n) (hs : ∀ i, i < n → σ0[i]? = (vs[i]?).map some) (s : IoS io σ0 σ) : ∃ fo, Done K F H fp vs H1 v o fv (outsOf io 0 n e1) fo := by
  obtain ⟨fo, r, sl⟩ := outs_rep (io := io) n 0 vs e1 fp1 hl (fun i hi hm => by
    rw [Nat.zero_add] at hm ⊢
    rw [s i hm]
    exact hs i hi) A.rel.rep
  have hN : ∀ a, Fp (Fp F fv) fo a → Fp (Fp F fv) fp1 a := fun a z => z.imp id fun z => sl.subset z
  refine ⟨fo, RepO.mono (Stb.same hN) _ _ _ (fun _ _ => rfl) A.val, RepOuts.mono (Stb.same hN) _ _ _ (fun _ _ => rfl) r, List.nodup_append.mpr ⟨A.nod, A.rel.nod.sublist sl, fun a ha b hb e => A.rel.dis b (sl.subset hb) (.inr (e ▸ ha))⟩, fun a ha z => ?_, A.stb.weak hN, A.kF⟩
  rcases List.mem_append.mp ha with ha | ha
  · exact A.dis a ha z
  · exact A.rel.dis a (sl.subset ha) (.inl z)
end
/-! ### a def by its body -/
section
variable {P : Program} {w : World} {K : PySem.W.Frag} {mg : Str → Option Value} {base : Heap} {CX : CXT} {EX : XD}
theorem fn_ev {x qual : Str} {params : Arguments} {body : List Stmt} {scope : Scope} {dvs : List V} {kws : List (Str × V)} {f : Addr} {fd : FuncData} {N ps : List Str} {k : Nat} {io : List Nat} {sv : Sv} (Fd : FunD K x qual params body scope dvs kws f fd) (S : FnScope N ps scope)
    (hb : ∀ (cdv : Value) (A : Around) (outer : List PySem.Env) (s : Shared) (H : Hp) (E : XK), Room k (A.deeper (envOfC qual scope s.heap.objs.size f cdv)) →
      PSs (cxOf CX P w K mg base N qual scope f cdv A outer s H E) body (tSv K (fun x _ _ H' => EX E x H') io sv)) : FnOk P w K mg base CX (k + 1) f fd ps (spF K EX (runF io ps.length N.length sv)) := by
  have hlen : ∀ {vs H Q E}, spF K EX (runF io ps.length N.length sv) vs H Q E → vs.length = ps.length := by
    intro vs H Q E ⟨F, os, fa, _, _, _, r, h⟩
    by_cases hl : os.length = ps.length
    · rw [RepOs.length os vs fa r, hl]
    · unfold runF at h
      rw [if_neg hl] at h
      exact h.elim
  refine Fd.ok S (fun vs H Q E h => hlen h) (fun cdv A outer s H vs Q E hr h => ⟨_, hb cdv A outer s H E hr, ?_⟩)
  have hl := hlen h
  obtain ⟨F, os, fa, dom, nd, ds, r, h⟩ := h
  have lo := RepOs.length os vs fa r
  have hpl : ps.length ≤ N.length := by have := congrArg List.length S.pre; rw [List.length_take] at this; omega
  have hst : ∀ i, i < ps.length → (L2.start N vs)[i]? = (vs[i]?).map some := fun i hi => by
    unfold L2.start
    rw [List.getElem?_append_left (by simpa [hl] using hi), List.getElem?_map]
  unfold runF at h
  rw [if_pos (by rw [← lo, hl])] at h
  have R : Rel K F H (L2.start N vs) (os.map some ++ List.replicate (N.length - os.length) none) fa :=
    ⟨start_rep os vs fa 0 _ _ r fun i hi => by rw [Nat.zero_add]; exact hst i (by rw [← hl]; exact hi), nd, ds, dom, by unfold L2.start; simp [lo]⟩
  refine ⟨F, _, fa, R, ?_⟩
  have hsl : ∀ i, i < ps.length → (L2.start N vs)[i]? = (vs[i]?).map some := hst
  cases hsv : sv (os.map some ++ List.replicate (N.length - os.length) none) with
  | fail => rw [hsv] at h; exact h.elim
  | exc x e' =>
    rw [hsv] at h
    exact fun σ' H' fp' s' G => h H' (G.stb.weak fun a z => .inl z) G.kF
  | ok fl e' =>
    rw [hsv] at h
    cases fl with
    | nx =>
        intro σ' H' fp' s' G
        obtain ⟨fo, D⟩ := (G.val (v := .non) (d := .non) (by unfold Rep; rfl)).done (vs := vs) ps.length hl hsl s'
        exact h .non H' [] fo D
    | rt o =>
        intro σ' H' fp' v fv s' A
        obtain ⟨fo, D⟩ := A.done (vs := vs) ps.length hl hsl s'
        exact h v H' fv fo D
    | bk => exact h.elim
    | ct => exact h.elim
end
/-! ### calls -/
/-- a def that may be called, under its name -/
structure CallOk (P : Program) (w : World) (K : PySem.W.Frag) (mg : Str → Option Value) (base : Heap) (CX : CXT) (k : Nat) (x : Str) (params : Arguments) (body : List Stmt) (scope : Scope) (dvs : List V) (ps : List Str) (sp : Sp) : Prop where
  ex : ∃ (f : Addr) (fd : FuncData), FunD K x x params body scope dvs [] f fd ∧ mg x = some (.ref f) ∧ FnOk P w K mg base CX k f fd ps sp
section
variable {X : Cx} {W : XP} {CX : CXT} {EX : XD} {E : XK} {c : FT} {i k j : Nat} {x : Str} {params : Arguments} {body : List Stmt} {scope : Scope} {ps : List Str} {dvs : List V} {ms : List (Ev OR)} {a : Expr} {es : List Expr} {pos p : Pos}
/-- all parameters written -/
def BindsAll (x : Str) (params : Arguments) (body : List Stmt) (scope : Scope) (ps : List Str) : Prop := ∀ (kV doc pm : Value) (an : Option Addr) (cdv ct : Value) (us : List Value), us.length = ps.length → bindArgs (PySem.W.fnOf x x params body scope .none kV doc pm an cdv ct) ⟨us, []⟩ = pure (ps.zip us)
theorem e_call (C : CallOk X.prog X.w X.K X.mg X.base CX k x params body scope [] ps (spF X.K EX (c i))) (hb : BindsAll x params body scope ps) (hr : Room k X.A) (hg : Gl X x) (hx : Passes CX X E) (hW : ∀ y e' σ H', W y e' σ H' → EX E y H')
    (ha : PA X (a :: es) (tA X.K W (mArgs ms))) (hdb : (x == ("__debug__" : Str)) = false := by decide) (he : starEach (a :: es) X.env = (false, eval a X.env) :: starEach es X.env := by rfl) (hpl : (backTo pos (starEach es X.env)).any (·.1) = false := by rfl) :
    PE X (.Call (.Name x p) (a :: es) [] pos) (tR X.K W (mCall c i ms)) := by
  obtain ⟨f, fd, F, hm, G⟩ := C.ex
  refine (pe_call (dvs := []) (ds := []) G hr hg hm F.kp (F.bindsN hb) .nil hx ha hdb he hpl).to fun σ H Q ⟨F', e, fp, R, q⟩ => ?_
  refine ⟨F', e, fp, R, wp_mono (wp_bind q) (fun xs e1 z vs H1 fp1 fv A => ?_) fun _ _ z => z⟩
  show spF X.K EX (c i) (vs ++ []) H1 Q E
  rw [List.append_nil]
  exact call_go A z (fun r e' v H' fp' fr hP A' => hP v H' fp' fr A') fun y e' H' fp' hw G' => hW y e' σ H' (hw H' fp' G')
theorem e_call0 (C : CallOk X.prog X.w X.K X.mg X.base CX k x params body scope [] ps (spF X.K EX (c i))) (hb : BindsAll x params body scope ps) (hr : Room k X.A) (hg : Gl X x) (hx : Passes CX X E) (hW : ∀ y e' σ H', W y e' σ H' → EX E y H')
    (hdb : (x == ("__debug__" : Str)) = false := by decide) : PE X (.Call (.Name x p) [] [] pos) (tR X.K W (mCall c i [])) := by
  obtain ⟨f, fd, F, hm, G⟩ := C.ex
  refine (pe_call0 (dvs := []) (ds := []) G hr hg hm F.kp (F.bindsN hb) .nil hx hdb).to fun σ H Q ⟨F', e, fp, R, q⟩ => ?_
  exact call_go (Afs.now R) q (fun r e' v H' fp' fr hP A' => hP v H' fp' fr A') fun y e' H' fp' hw G' => hW y e' σ H' (hw H' fp' G')
end
end Ev
end
section
set_option Elab.async false
set_option linter.all false
set_option maxRecDepth 100000
namespace Ev
open PySem PySem.Spec PyProof.Rows L2
mutual
theorem bind_len {io : List Nat} : ∀ (tg : Tg) (o : O) (e e1 : Env), tg.bind io o e = some e1 → e1.length = e.length
  | .nm i, o, e, e1, h => by
    unfold Tg.bind at h
    split at h
    · cases h
    · cases h; rw [List.length_set]
  | .tp ts, .fr d, e, e1, h => by
    unfold Tg.bind at h
    obtain ⟨ds, h1, h2⟩ := Option.bind_eq_some_iff.mp h
    exact binds_len ts ds e e1 h2
  | .tp ts, .ol _, e, e1, h => by unfold Tg.bind at h; cases h
  | .tp ts, .ok _, e, e1, h => by unfold Tg.bind at h; cases h
  | .tp ts, .ot _, e, e1, h => by unfold Tg.bind at h; cases h
theorem binds_len {io : List Nat} : ∀ (ts : List Tg) (ds : List D) (e e1 : Env), Tg.binds io ts ds e = some e1 → e1.length = e.length
  | [], [], e, e1, h => by unfold Tg.binds at h; cases h; rfl
  | t :: ts, d :: ds, e, e1, h => by
    unfold Tg.binds at h
    obtain ⟨e2, h1, h2⟩ := Option.bind_eq_some_iff.mp h
    rw [binds_len ts ds e2 e1 h2, bind_len t _ e e2 h1]
  | [], _ :: _, e, e1, h => by unfold Tg.binds at h; cases h
  | _ :: _, [], e, e1, h => by unfold Tg.binds at h; cases h
end
theorem wipeE_len (e : Env) : ∀ vs : List Nat, (wipeE e vs).length = e.length
  | [] => rfl
  | v :: vs => by unfold wipeE; rw [List.length_set, wipeE_len e vs]
theorem wipe_in {σ : St} {i : Nat} : ∀ {vs : List Nat}, i ∈ vs → i < σ.length → (wipe σ vs)[i]? = some none
  | [], h, _ => nomatch h
  | v :: vs, h, hi => by
    unfold wipe
    by_cases hv : v = i
    · subst hv
      rw [List.getElem?_set_self (by rw [wipe_length]; exact hi)]
    · rw [List.getElem?_set_ne hv]
      rcases List.mem_cons.mp h with z | z
      · exact absurd z.symm hv
      · exact wipe_in z hi
theorem wipeE_in {e : Env} {i : Nat} : ∀ {vs : List Nat}, i ∈ vs → i < e.length → (wipeE e vs)[i]? = some none
  | [], h, _ => nomatch h
  | v :: vs, h, hi => by
    unfold wipeE
    by_cases hv : v = i
    · subst hv
      rw [List.getElem?_set_self (by rw [wipeE_len]; exact hi)]
    · rw [List.getElem?_set_ne hv]
      rcases List.mem_cons.mp h with z | z
      · exact absurd z.symm hv
      · exact wipeE_in z hi
theorem wipe_eq {σ σ2 : St} {own : List Nat} (hl : σ2.length = σ.length) (h : ∀ i, i ∉ own → σ2[i]? = σ[i]?) : wipe σ2 own = wipe σ own := by
  apply List.ext_getElem?
  intro i
  by_cases hi : i ∈ own
  · by_cases hz : i < σ.length
    · rw [wipe_in hi hz, wipe_in hi (by omega)]
    · rw [List.getElem?_eq_none (by rw [wipe_length]; omega), List.getElem?_eq_none (by rw [wipe_length]; omega)]
  · rw [wipe_out hi, wipe_out hi]
    exact h i hi
/-- stores go to the own slots alone -/
theorem ioOf_out {n : Nat} {own : List Nat} {σ σ2 : St} (s : IoS (ioOf n own) σ σ2) (h1 : σ.length ≤ n) (h2 : σ2.length = σ.length) : ∀ i, i ∉ own → σ2[i]? = σ[i]? := fun i hi => by
  by_cases hz : i < n
  · refine s i ?_
    unfold ioOf
    simp only [List.mem_filter, List.mem_range, hz, true_and, Bool.not_eq_true', ← Bool.not_eq_true, List.contains_iff_mem]
    exact hi
  · rw [List.getElem?_eq_none (by omega), List.getElem?_eq_none (by omega)]
section
variable {K : PySem.W.Frag} {W : XP} {F : Addr → Prop} {H H1 H2 H3 H4 : Hp} {N N' : Addr → Prop} {σ σ1 σ2 σ3 : St} {e e0 e1 e2 e3 : Env} {fp fp1 fp2 fp3 fv fw fa : List Addr} {v w : V} {vs ws : List V} {o q y : O} {i : Nat} {x : OR} {xs acc : List O} {a D : Addr}
theorem RepE.congr {σ σ' : St} : ∀ {e : Env} {k : Nat} {f : List Addr}, RepE K H N σ k e f → (∀ j o, e[j]? = some (some o) → σ'[k + j]? = σ[k + j]?) → RepE K H N σ' k e f
  | [], _, _, h, _ => by unfold RepE at h ⊢; exact h
  | none :: e, k, f, h, hj => by
    unfold RepE at h ⊢
    exact RepE.congr h fun j o q => by rw [show k + 1 + j = k + (j + 1) by omega]; exact hj (j + 1) o (by simpa using q)
  | some o :: e, k, f, h, hj => by
    unfold RepE at h ⊢
    obtain ⟨v, f1, f2, e1, e2, r, q⟩ := h
    exact ⟨v, f1, f2, by have h0 := hj 0 o rfl; rw [Nat.add_zero] at h0; rw [h0]; exact e1, e2, r, RepE.congr q fun j o z => by rw [show k + 1 + j = k + (j + 1) by omega]; exact hj (j + 1) o (by simpa using z)⟩
theorem Rel.congr (R : Rel K F H σ e fp) (hl : σ1.length = σ.length) (h : ∀ (j : Nat) (o : O), e[j]? = some (some o) → σ1[j]? = σ[j]?) : Rel K F H σ1 e fp :=
  ⟨RepE.congr R.rep fun j o z => by rw [Nat.zero_add]; exact h j o z, R.nod, R.dis, R.dom, by rw [R.len, hl]⟩
theorem Rel.wipes (R : Rel K F H σ e fp) : ∀ vs : List Nat, ∃ fp2, Rel K F H (wipe σ vs) (wipeE e vs) fp2 ∧ ∀ a, Fp F fp2 a → Fp F fp a
  | [] => ⟨fp, R, fun _ z => z⟩
  | v :: vs => by
    obtain ⟨fp2, R2, h2⟩ := Rel.wipes R vs
    obtain ⟨fp3, R3, h3⟩ := R2.clear v
    refine ⟨fp3, ?_, fun a z => h2 a (h3 a z)⟩
    unfold wipe wipeE
    refine R3.congr (by rw [List.length_set]) fun j o z => ?_
    by_cases hj : v = j
    · subst hj
      rcases Nat.lt_or_ge v (wipeE e vs).length with hz | hz
      · rw [List.getElem?_set_self hz] at z; cases z
      · rw [List.getElem?_eq_none (by rw [List.length_set]; exact hz)] at z; cases z
    · rw [List.getElem?_set_ne hj]
/-- the own slots come back -/
theorem Rel.backs (R : Rel K F H σ e1 fp1) : ∀ vs : List Nat, (∀ v ∈ vs, e0.at v = none ∨ ∃ d w, e0.at v = some (.fr d) ∧ σ[v]? = some (some w) ∧ Rep K H (Fp F fp1) w d) → ∃ fp2, Rel K F H σ (backE e0 e1 vs) fp2 ∧ ∀ a, Fp F fp2 a → Fp F fp1 a
  | [], _ => ⟨fp1, R, fun _ z => z⟩
  | v :: vs, hv => by
    obtain ⟨fp2, R2, h2⟩ := Rel.backs R vs fun u hu => hv u (List.mem_cons_of_mem _ hu)
    unfold backE
    rcases hv v List.mem_cons_self with e | ⟨d, w, e, hs, r⟩
    · rw [e]
      obtain ⟨fp3, R3, h3⟩ := R2.clear v
      exact ⟨fp3, R3, fun a z => h2 a (h3 a z)⟩
    · rw [e]
      obtain ⟨fp3, R3, h3⟩ := Rel.put (F := F) (fv := []) (o := .fr d) (by rw [Fp.nil_eq]; exact R2) hs ⟨rfl, by rw [Fp.nil_eq]; exact Rep.mono (Stb.same h2) _ _ r⟩ List.nodup_nil (fun _ z => nomatch z)
      rw [Fp.nil_eq] at h3
      exact ⟨fp3, R3, fun a z => h2 a (h3 a z)⟩
/-- a value waits while other things are done -/
theorem Af.wait (A : Af K F H fp σ1 H1 e1 fp1 v (.v o) fv) (G : Gone K (Fp F fv) H1 fp1 σ2 H2 e2 fp2) : Af K F H fp σ2 H2 e2 fp2 v (.v o) fv :=
  ⟨G.rel, RepO.mono G.stb o v fv (fun a ha => G.kF a (.inr ha)) A.val, A.nod, A.dis, A.stb.trans G.stb, fun a z => (G.kF a (.inl z)).trans (A.kF a z)⟩
theorem Af.reslot (A : Af K F H fp σ1 H1 e1 fp1 v (.v o) fv) (R : Rel K (Fp F fv) H1 σ2 e2 fp2) (h : ∀ a, Fp (Fp F fv) fp2 a → Fp (Fp F fv) fp1 a) : Af K F H fp σ2 H1 e2 fp2 v (.v o) fv :=
  ⟨R, RepO.mono (Stb.same h) o v fv (fun _ _ => rfl) A.val, A.nod, A.dis, A.stb.weak h, A.kF⟩
theorem RepOs.snoc : ∀ (os : List O) (ws : List V) (f g : List Addr), RepOs K H N ws os f → RepO K H N w y g → RepOs K H N (ws ++ [w]) (os ++ [y]) (f ++ g)
  | [], ws, f, g, h, r => by
    unfold RepOs at h
    rw [h.1, h.2, List.nil_append, List.nil_append, List.nil_append]
    unfold RepOs
    exact ⟨w, [], g, [], rfl, (List.append_nil _).symm, r, by unfold RepOs; exact ⟨rfl, rfl⟩⟩
  | o :: os, ws, f, g, h, r => by
    unfold RepOs at h
    obtain ⟨v, vr, f1, f2, e1, e2, a, b⟩ := h
    subst e1 e2
    rw [List.cons_append, List.cons_append, List.append_assoc]
    unfold RepOs
    exact ⟨v, vr ++ [w], f1, f2 ++ g, rfl, rfl, a, RepOs.snoc os vr f2 g b r⟩
/-- a new list, empty -/
theorem Gone.empty (G : Gone K F H fp σ H1 e1 fp1) (hD : H1 D = none) : Af K F H fp σ (upd H1 D (.lst [])) e1 fp1 (.ref D) (.v (.ol [])) [D] :=
  G.new ⟨upd_stb (N := F) hD, (by simp), fun a ha => by rw [List.mem_singleton.mp ha]; exact hD, by unfold RepO; exact ⟨D, [], [], rfl, rfl, upd_same, by unfold RepOs; exact ⟨rfl, rfl⟩⟩⟩
theorem Af.lst_at (A : Af K F H fp σ H1 e1 fp1 (.ref D) (.v (.ol acc)) (D :: fa)) : ∃ ws, H1 D = some (.lst ws) ∧ ws.length = acc.length := by
  have r := A.val
  unfold RepR' RepO at r
  obtain ⟨a, ws, fq, e1, e2, ha, rs⟩ := r
  cases e1
  cases e2
  exact ⟨ws, ha, RepOs.length _ _ _ rs⟩
/-- a value joins a list that waits -/
theorem Af.push (A : Af K F H fp σ H1 e1 fp1 (.ref D) (.v (.ol acc)) (D :: fa)) (B : Af K (Fp F (D :: fa)) H1 fp1 σ2 H2 e2 fp2 w (.v y) fv) (hw : H1 D = some (.lst ws)) : Af K F H fp σ2 (upd H2 D (.lst (ws ++ [w]))) e2 fp2 (.ref D) (.v (.ol (acc ++ [y]))) (D :: (fa ++ fv)) := by
  have r := A.val
  unfold RepR' RepO at r
  obtain ⟨a, ws', fq, e3, e4, ha, rs⟩ := r
  cases e3
  cases e4
  rw [hw] at ha
  cases ha
  have eqs : Fp F (D :: (fa ++ fv)) = Fp (Fp F (D :: fa)) fv := by rw [Fp.app_eq]; rfl
  have nN : ∀ a, ¬ Fp (Fp (Fp F (D :: fa)) fv) fp2 a → a ≠ D := fun a h z => h (by rw [z]; exact .inl (.inl (.inr List.mem_cons_self)))
  have st : Stb H2 (Fp (Fp (Fp F (D :: fa)) fv) fp2) (upd H2 D (.lst (ws ++ [w]))) (Fp (Fp (Fp F (D :: fa)) fv) fp2) := fun a u e n => ⟨by rw [upd_ne (nN a n)]; exact e, n⟩
  have h2D : H2 D = some (.lst ws) := by rw [B.kF D (.inr List.mem_cons_self)]; exact hw
  have nd := A.nod
  obtain ⟨nd1, nd2⟩ := List.nodup_cons.mp nd
  have dvD : ∀ a ∈ fv, a ≠ D := fun a ha z => B.dis a ha (.inr (by rw [z]; exact List.mem_cons_self))
  refine ⟨?_, ?_, ?_, fun a ha z => ?_, ?_, fun a z => ?_⟩
  · rw [eqs]
    refine B.rel.move st (fun a ha => upd_ne fun z => B.rel.dis a ha (.inl (.inr (by rw [z]; exact List.mem_cons_self)))) B.rel.dis (fun a z => ?_)
    by_cases h : a = D
    · rw [h, upd_same]; exact fun z => nomatch z
    · rw [upd_ne h]; exact B.rel.dom a z
  · rw [eqs]
    show RepO K _ _ (.ref D) (.ol (acc ++ [y])) (D :: (fa ++ fv))
    unfold RepO
    refine ⟨D, ws ++ [w], fa ++ fv, rfl, rfl, upd_same, RepOs.snoc acc ws fa fv ?_ ?_⟩
    · have r1 := RepOs.mono B.stb acc ws fa (fun a ha => B.kF a (.inr (List.mem_cons_of_mem _ ha))) rs
      exact RepOs.mono st acc ws fa (fun a ha => upd_ne fun z => nd1 (z ▸ ha)) r1
    · exact RepO.mono st y w fv (fun a ha => upd_ne (dvD a ha)) B.val
  · refine List.nodup_cons.mpr ⟨fun z => ?_, List.nodup_append.mpr ⟨nd2, B.nod, fun a ha b hb e => B.dis b hb (.inr (by rw [← e]; exact List.mem_cons_of_mem _ ha))⟩⟩
    rcases List.mem_append.mp z with z | z
    · exact nd1 z
    · exact dvD D z rfl
  · rcases List.mem_cons.mp ha with h | h
    · exact A.dis a (by rw [h]; exact List.mem_cons_self) z
    · rcases List.mem_append.mp h with h | h
      · exact A.dis a (List.mem_cons_of_mem _ h) z
      · exact B.dis a h (.inl z)
  · rw [eqs]
    exact (A.stb.trans B.stb).trans st
  · rw [upd_ne (fun h : a = D => A.dis D List.mem_cons_self (by rw [← h]; exact z))]
    exact (B.kF a (.inl z)).trans (A.kF a z)
end
theorem calm_wp {α : Type} {r : Rs α} {P : α → Env → Prop} {W W' : Exn → Env → Prop} (h : r.calm.wp P W) : r.wp P W' := by
  cases r with
  | ok a e => exact h
  | exc x e => exact h.elim
  | fail => exact h
theorem calm_bind {α β : Type} {r : Rs α} {f : α → Env → Rs β} {P : β → Env → Prop} {W W' : Exn → Env → Prop} (h : (r.calm.bind f).wp P W) : r.wp (fun a e => (f a e).wp P W) W' := by
  cases r with
  | ok a e => exact h
  | exc x e => exact h.elim
  | fail => exact h
/-- the same with no slots in sight -/
def XF : XP := fun _ _ _ _ => False
section
variable {K : PySem.W.Frag} {W : XP} {F : Addr → Prop} {H H1 : Hp} {σ : St} {e e1 : Env} {fp fp1 : List Addr} {n : Nat} {own : List Nat} {tg : Tg} {src : Ev (List D)} {t : Ev Bool} {elt : Ev OR} {Q : VK}
/-- the end of a comprehension -/
theorem comp_end {acc : List O} {fa fp' : List Addr} {H' : Hp} {e' : Env} {Da : Addr} (G : Gone K F H fp σ H1 e1 fp1) (hown : own.all (frzAt e1) = true) (A : Af K F H1 fp1 (wipe σ own) H' e' fp' (.ref Da) (.v (.ol acc)) (Da :: fa)) :
    ∃ fp2, Af K F H fp σ H' (backE e1 (wipeE e' own) own) fp2 (.ref Da) (.v (.ol acc)) (Da :: fa) := by
  obtain ⟨fp3, R3, h3⟩ := A.rel.wipes own
  have R4 : Rel K (Fp F (Da :: fa)) H' σ (wipeE e' own) fp3 := R3.congr (by rw [wipe_length, wipe_length]) fun j o z => by
    have hj : j ∉ own := fun hj => by
      rcases Nat.lt_or_ge j e'.length with hz | hz
      · rw [wipeE_in hj hz] at z; cases z
      · rw [List.getElem?_eq_none (by rw [wipeE_len]; exact hz)] at z; cases z
    rw [wipe_out hj, wipe_out hj]
  obtain ⟨fp4, R5, h5⟩ := R4.backs (e0 := e1) own fun v hv => by
    have hf := List.all_eq_true.mp hown v hv
    unfold frzAt at hf
    split at hf
    · rename_i d hd
      obtain ⟨Aa, f, B, w, q1, q2, q3, _⟩ := G.rel.slot hd
      unfold RepO at q3
      exact .inr ⟨d, w, hd, q2, Rep.mono (A.stb.weak h3) _ _ q3.2⟩
    · rename_i hd
      exact .inl hd
    · cases hf
  have A2 : Af K F H1 fp1 σ H' _ fp4 (.ref Da) (.v (.ol acc)) (Da :: fa) := A.reslot R5 fun a z => h3 a (h5 a z)
  exact ⟨fp4, A2.rel, A2.val, A2.nod, A2.dis, G.stb.trans A2.stb, fun a z => (A2.kF a z).trans (G.kF a z)⟩
theorem lc_read (h : tR K W (mComp n own tg src t elt) σ H Q) : tLc (tI K W src) (gT K (ioOf n own) tg) (tT K XF t) (tR K XF elt) own σ H Q := by
  obtain ⟨F, e, fp, R, q⟩ := h
  refine ⟨F, e, fp, R, wp_mono (wp_bind q) (fun ds e1 z H1 fp1 J G wd => ?_) fun _ _ z => z⟩
  intro Da hDa
  cases hck : own.all (frzAt e1) && decide (e1.length ≤ n) with
  | false => rw [hck] at z; exact z.elim
  | true =>
    rw [hck] at z
    rw [Bool.and_eq_true, decide_eq_true_eq] at hck
    have z1 := wp_bind z
    clear z
    have hlen : σ.length ≤ n := by rw [← G.rel.len]; exact hck.2
    have A0 : Af K F H1 fp1 σ (upd H1 Da (.lst [])) e1 fp1 (.ref Da) (.v (.ol [])) [Da] := Gone.empty (Gone.refl G.rel) hDa
    obtain ⟨fp2, R2, h2⟩ := A0.rel.wipes own
    have A1 := A0.reslot R2 h2
    refine ⟨fun i k H' => k = ds.length - i ∧ i ≤ ds.length ∧ ∃ e' fp' acc fa, Af K F H1 fp1 (wipe σ own) H' e' fp' (.ref Da) (.v (.ol acc)) (Da :: fa) ∧
      (compGo n own tg t elt (ds.drop i) acc e').wp (fun ys e2 => (Rs.ok (OR.v (O.ol ys)) (backE e1 (wipeE e2 own) own)).wp (fun x e' => ∀ v H' fp' fv, Af K F H fp σ H' e' fp' v x fv → Q v H') (fun x e' => ∀ H' fp', Gone K F H fp σ H' e' fp' → W x e' σ H'))
        (fun x e' => ∀ H' fp', Gone K F H fp σ H' e' fp' → W x e' σ H'), ⟨_, rfl, Nat.zero_le _, _, fp2, [], [], A1, z1⟩, ?_⟩
    rintro i k H' ⟨rfl, hle, e', fp', acc, fa, A, w'⟩
    by_cases hlt : i < ds.length
    · have hd : ds[i]? = some ds[i] := by simp [hlt]
      refine .inr ⟨wd.goes i H' _ A.stb hlt, fun H2 => ∃ e2 fp2 acc2 fa2, Af K F H1 fp1 (wipe σ own) H2 e2 fp2 (.ref Da) (.v (.ol acc2)) (Da :: fa2) ∧
        (compGo n own tg t elt (ds.drop (i + 1)) acc2 e2).wp (fun ys e2 => (Rs.ok (OR.v (O.ol ys)) (backE e1 (wipeE e2 own) own)).wp (fun x e' => ∀ v H' fp' fv, Af K F H fp σ H' e' fp' v x fv → Q v H') (fun x e' => ∀ H' fp', Gone K F H fp σ H' e' fp' → W x e' σ H'))
          (fun x e' => ∀ H' fp', Gone K F H fp σ H' e' fp' → W x e' σ H'), fun H2 y => ⟨_, by omega, rfl, hlt, y⟩, fun x H3 y => ?_⟩
      obtain ⟨grow, rx⟩ := wd.yields i H' _ x H3 _ A.stb A.rel.dom2 hd y
      have G3 : Gone K (Fp F (Da :: fa)) H' fp' (wipe σ own) H3 e' fp' := (Gone.refl A.rel).grow grow
      have A3 := A.wait G3
      obtain ⟨fpw, Rw, hw⟩ := A3.rel.wipes own
      rw [wipe_eq (σ := σ) (σ2 := wipe σ own) (by rw [wipe_length]) (fun j hj => wipe_out hj)] at Rw
      rw [drop_cons hd] at w'
      unfold compGo at w'
      cases hb : tg.bind (ioOf n own) (.fr ds[i]) (wipeE e' own) with
      | none => rw [hb] at w'; exact w'.elim
      | some e3 =>
        rw [hb] at w'
        have Gw : Gone K (Fp F (Da :: fa)) H3 fp' (wipe σ own) H3 (wipeE e' own) fpw := ⟨Rw, Stb.same hw, fun _ _ => rfl⟩
        refine ⟨Fp F (Da :: fa), H3, fp', wipeE e' own, fpw, [], .fr ds[i], e3, Gw.val (Rep.mono (Stb.same hw) _ _ rx), hb, fun σ4 H4 fp4 s4 G4 => ?_⟩
        have hl4 : σ4.length = (wipe σ own).length := by rw [← G4.rel.len, bind_len _ _ _ _ hb, wipeE_len, ← A.rel.len]
        have heq : wipe σ4 own = wipe σ own := wipe_eq (by rw [hl4, wipe_length]) fun j hj => by
          rw [ioOf_out s4 (by rw [wipe_length]; exact hlen) hl4 j hj]
          exact wipe_out hj
        refine ⟨heq, Fp F (Da :: fa), e3, fp4, G4.rel, ?_⟩
        refine wp_mono (calm_bind (W' := fun _ _ => False) w') (fun b e5 z5 H5 fp5 G5 => ?_) fun _ _ z => z.elim
        have A5 := (A3.wait G4).wait G5
        cases b with
        | false =>
          refine iteF ?_
          obtain ⟨fp6, R6, h6⟩ := A5.rel.wipes own
          rw [heq] at R6
          exact ⟨_, fp6, acc, fa, A5.reslot R6 h6, z5⟩
        | true =>
          refine iteT ⟨Fp F (Da :: fa), e5, fp5, A5.rel, ?_⟩
          refine wp_mono (calm_bind (W' := fun _ _ => False) z5) (fun x6 e6 z6 v6 H6 fp6 fv6 A6 => ?_) fun _ _ z => z.elim
          cases x6 with
          | r _ _ => exact z6.elim
          | v y6 =>
            dsimp only at z6
            split at z6
            · rename_i hsz
              obtain ⟨ws, hws, hwl⟩ := A5.lst_at
              have P := A5.push A6 hws
              obtain ⟨fp7, R7, h7⟩ := P.rel.wipes own
              rw [heq] at R7
              refine ⟨ws, ?_, by rw [hwl, ← sizeMax_eq]; exact hsz, _, fp7, acc ++ [y6], fa ++ fv6, P.reslot R7 h7, z6⟩
              rw [A6.kF Da (.inr List.mem_cons_self)]
              exact hws
            · exact z6.elim
    · have ei : i = ds.length := by omega
      subst ei
      rw [List.drop_length] at w'
      obtain ⟨fp2, A2⟩ := comp_end G hck.1 A
      exact .inl ⟨wd.stops H' _ A.stb, w' (.ref Da) H' fp2 _ A2⟩
theorem Af.base {v : V} {o : O} {fv : List Addr} (A : Af K F H fp σ H1 e1 fp1 v (.v o) fv) : Af K F H1 (fv ++ fp1) σ H1 e1 fp1 v (.v o) fv :=
  ⟨A.rel, A.val, A.nod, A.dis, by rw [Fp.app_eq]; exact Stb.refl, fun _ _ => rfl⟩
theorem Af.chain {v v2 : V} {o : O} {x : OR} {fv fv2 fp2 : List Addr} {σ2 : St} {H2 : Hp} {e2 : Env} (A : Af K F H fp σ H1 e1 fp1 v (.v o) fv) (B : Af K F H1 (fv ++ fp1) σ2 H2 e2 fp2 v2 x fv2) : Af K F H fp σ2 H2 e2 fp2 v2 x fv2 :=
  ⟨B.rel, B.val, B.nod, B.dis, by have := B.stb; rw [← Fp.app_eq] at this; exact A.stb.trans this, fun a z => (B.kF a z).trans (A.kF a z)⟩
theorem lc2_read {own1 : List Nat} {tg1 : Tg} {src1 : Ev (List D)} {t1 : Ev Bool} (hsub : ∀ i ∈ own1, i ∈ own) (h : tR K W (mComp2 n own own1 tg src t tg1 src1 t1 elt) σ H Q) :
    tLc2 (tI K W src) (gT K (ioOf n own) tg) (tT K XF t) (tI K XF src1) (gT K (ioOf n own1) tg1) (tT K XF t1) (tR K XF elt) own own1 σ H Q := by
  obtain ⟨F, e, fp, R, q⟩ := h
  refine ⟨F, e, fp, R, wp_mono (wp_bind q) (fun ds e1 z H1 fp1 J G wd => ?_) fun _ _ z => z⟩
  intro Da hDa
  cases hck : own.all (frzAt e1) && decide (e1.length ≤ n) with
  | false => rw [hck] at z; exact z.elim
  | true =>
    rw [hck] at z
    rw [Bool.and_eq_true, decide_eq_true_eq] at hck
    have z1 := wp_bind z
    clear z
    have hlen : σ.length ≤ n := by rw [← G.rel.len]; exact hck.2
    have A0 : Af K F H1 fp1 σ (upd H1 Da (.lst [])) e1 fp1 (.ref Da) (.v (.ol [])) [Da] := Gone.empty (Gone.refl G.rel) hDa
    obtain ⟨fp2, R2, h2⟩ := A0.rel.wipes own
    have A1 := A0.reslot R2 h2
    refine ⟨fun i k H' => k = ds.length - i ∧ i ≤ ds.length ∧ ∃ e' fp' acc fa, Af K F H1 fp1 (wipe σ own) H' e' fp' (.ref Da) (.v (.ol acc)) (Da :: fa) ∧
      (compOut n own own1 tg t tg1 src1 t1 elt (ds.drop i) acc e').wp (fun ys e2 => (Rs.ok (OR.v (O.ol ys)) (backE e1 (wipeE e2 own) own)).wp (fun x e' => ∀ v H' fp' fv, Af K F H fp σ H' e' fp' v x fv → Q v H') (fun x e' => ∀ H' fp', Gone K F H fp σ H' e' fp' → W x e' σ H'))
        (fun x e' => ∀ H' fp', Gone K F H fp σ H' e' fp' → W x e' σ H'), ⟨_, rfl, Nat.zero_le _, _, fp2, [], [], A1, z1⟩, ?_⟩
    rintro i k H' ⟨rfl, hle, e', fp', acc, fa, A, w'⟩
    by_cases hlt : i < ds.length
    · have hd : ds[i]? = some ds[i] := by simp [hlt]
      refine .inr ⟨wd.goes i H' _ A.stb hlt, fun H2 => ∃ e2 fp2 acc2 fa2, Af K F H1 fp1 (wipe σ own) H2 e2 fp2 (.ref Da) (.v (.ol acc2)) (Da :: fa2) ∧
        (compOut n own own1 tg t tg1 src1 t1 elt (ds.drop (i + 1)) acc2 e2).wp (fun ys e2 => (Rs.ok (OR.v (O.ol ys)) (backE e1 (wipeE e2 own) own)).wp (fun x e' => ∀ v H' fp' fv, Af K F H fp σ H' e' fp' v x fv → Q v H') (fun x e' => ∀ H' fp', Gone K F H fp σ H' e' fp' → W x e' σ H'))
          (fun x e' => ∀ H' fp', Gone K F H fp σ H' e' fp' → W x e' σ H'), fun H2 y => ⟨_, by omega, rfl, hlt, y⟩, fun x H3 y => ?_⟩
      obtain ⟨grow, rx⟩ := wd.yields i H' _ x H3 _ A.stb A.rel.dom2 hd y
      have G3 : Gone K (Fp F (Da :: fa)) H' fp' (wipe σ own) H3 e' fp' := (Gone.refl A.rel).grow grow
      have A3 := A.wait G3
      obtain ⟨fpw, Rw, hw⟩ := A3.rel.wipes own
      rw [wipe_eq (σ := σ) (σ2 := wipe σ own) (by rw [wipe_length]) (fun j hj => wipe_out hj)] at Rw
      rw [drop_cons hd] at w'
      unfold compOut at w'
      cases hb : tg.bind (ioOf n own) (.fr ds[i]) (wipeE e' own) with
      | none => rw [hb] at w'; exact w'.elim
      | some e3 =>
        rw [hb] at w'
        have Gw : Gone K (Fp F (Da :: fa)) H3 fp' (wipe σ own) H3 (wipeE e' own) fpw := ⟨Rw, Stb.same hw, fun _ _ => rfl⟩
        refine ⟨Fp F (Da :: fa), H3, fp', wipeE e' own, fpw, [], .fr ds[i], e3, Gw.val (Rep.mono (Stb.same hw) _ _ rx), hb, fun σ4 H4 fp4 s4 G4 => ?_⟩
        have hl4 : σ4.length = (wipe σ own).length := by rw [← G4.rel.len, bind_len _ _ _ _ hb, wipeE_len, ← A.rel.len]
        have heq : wipe σ4 own = wipe σ own := wipe_eq (by rw [hl4, wipe_length]) fun j hj => by
          rw [ioOf_out s4 (by rw [wipe_length]; exact hlen) hl4 j hj]
          exact wipe_out hj
        refine ⟨heq, Fp F (Da :: fa), e3, fp4, G4.rel, ?_⟩
        refine wp_mono (calm_bind (W' := fun _ _ => False) w') (fun b e5 z5 H5 fp5 G5 => ?_) fun _ _ z => z.elim
        have A5 := (A3.wait G4).wait G5
        cases b with
        | false =>
          refine iteF ?_
          obtain ⟨fp6, R6, h6⟩ := A5.rel.wipes own
          rw [heq] at R6
          exact ⟨_, fp6, acc, fa, A5.reslot R6 h6, z5⟩
        | true =>
          refine iteT ⟨Fp F (Da :: fa), e5, fp5, A5.rel, ?_⟩
          refine wp_mono (calm_bind (W' := fun _ _ => False) z5) (fun ds1 e6 z6 H6 fp6 J1 G6 wd1 => ?_) fun _ _ z => z.elim
          have A6 := A5.wait G6
          have hl4n : σ4.length ≤ n := by rw [hl4, wipe_length]; exact hlen
          obtain ⟨fp7, R7, h7⟩ := A6.rel.wipes own1
          have B0 := A6.base.reslot R7 h7
          have z7 := wp_bind z6
          clear z6
          refine ⟨fun j k H' => k = ds1.length - j ∧ j ≤ ds1.length ∧ ∃ e' fp' acc2 fa2, Af K F H6 (Da :: fa ++ fp6) (wipe σ4 own1) H' e' fp' (.ref Da) (.v (.ol acc2)) (Da :: fa2) ∧
            (compIn n own1 tg1 t1 elt (ds1.drop j) acc2 e').wp (fun acc1 e4 => (compOut n own own1 tg t tg1 src1 t1 elt (ds.drop (i + 1)) acc1 (wipeE e4 own)).wp (fun ys e2 => (Rs.ok (OR.v (O.ol ys)) (backE e1 (wipeE e2 own) own)).wp (fun x e' => ∀ v H' fp' fv, Af K F H fp σ H' e' fp' v x fv → Q v H') (fun x e' => ∀ H' fp', Gone K F H fp σ H' e' fp' → W x e' σ H'))
              (fun x e' => ∀ H' fp', Gone K F H fp σ H' e' fp' → W x e' σ H')) (fun x e' => ∀ H' fp', Gone K F H fp σ H' e' fp' → W x e' σ H'), ⟨_, rfl, Nat.zero_le _, _, fp7, acc, fa, ?_, z7⟩, ?_⟩
          · exact B0
          rintro j k2 H7 ⟨rfl, hle1, e7, fp8, acc2, fa2, B, w7⟩
          have stb1 : Stb H6 (Fp (Fp F (Da :: fa)) fp6) H7 (Fp (Fp F (Da :: fa2)) fp8) := by have := B.stb; rw [← Fp.app_eq] at this; exact this
          by_cases hlt1 : j < ds1.length
          · have hd1 : ds1[j]? = some ds1[j] := by simp [hlt1]
            refine .inr ⟨wd1.goes j H7 _ stb1 hlt1, fun H2 => ∃ e' fp' acc2 fa2, Af K F H6 (Da :: fa ++ fp6) (wipe σ4 own1) H2 e' fp' (.ref Da) (.v (.ol acc2)) (Da :: fa2) ∧
              (compIn n own1 tg1 t1 elt (ds1.drop (j + 1)) acc2 e').wp (fun acc1 e4 => (compOut n own own1 tg t tg1 src1 t1 elt (ds.drop (i + 1)) acc1 (wipeE e4 own)).wp (fun ys e2 => (Rs.ok (OR.v (O.ol ys)) (backE e1 (wipeE e2 own) own)).wp (fun x e' => ∀ v H' fp' fv, Af K F H fp σ H' e' fp' v x fv → Q v H') (fun x e' => ∀ H' fp', Gone K F H fp σ H' e' fp' → W x e' σ H'))
                (fun x e' => ∀ H' fp', Gone K F H fp σ H' e' fp' → W x e' σ H')) (fun x e' => ∀ H' fp', Gone K F H fp σ H' e' fp' → W x e' σ H'), fun H2 y => ⟨_, by omega, rfl, hlt1, y⟩, fun x8 H8 y8 => ?_⟩
            obtain ⟨grow8, rx8⟩ := wd1.yields j H7 _ x8 H8 _ stb1 B.rel.dom2 hd1 y8
            have G8 : Gone K (Fp F (Da :: fa2)) H7 fp8 (wipe σ4 own1) H8 e7 fp8 := (Gone.refl B.rel).grow grow8
            have B8 := B.wait G8
            obtain ⟨fpw8, Rw8, hw8⟩ := B8.rel.wipes own1
            rw [wipe_eq (σ := σ4) (σ2 := wipe σ4 own1) (by rw [wipe_length]) (fun j hj => wipe_out hj)] at Rw8
            rw [drop_cons hd1] at w7
            unfold compIn at w7
            cases hb8 : tg1.bind (ioOf n own1) (.fr ds1[j]) (wipeE e7 own1) with
            | none => rw [hb8] at w7; exact w7.elim
            | some e8 =>
              rw [hb8] at w7
              have Gw8 : Gone K (Fp F (Da :: fa2)) H8 fp8 (wipe σ4 own1) H8 (wipeE e7 own1) fpw8 := ⟨Rw8, Stb.same hw8, fun _ _ => rfl⟩
              refine ⟨Fp F (Da :: fa2), H8, fp8, wipeE e7 own1, fpw8, [], .fr ds1[j], e8, Gw8.val (Rep.mono (Stb.same hw8) _ _ rx8), hb8, fun σ9 H9 fp9 s9 G9 => ?_⟩
              have hl9 : σ9.length = (wipe σ4 own1).length := by rw [← G9.rel.len, bind_len _ _ _ _ hb8, wipeE_len, ← B.rel.len]
              have heq9 : wipe σ9 own1 = wipe σ4 own1 := wipe_eq (by rw [hl9, wipe_length]) fun j hj => by
                rw [ioOf_out s9 (by rw [wipe_length]; exact hl4n) hl9 j hj]
                exact wipe_out hj
              refine ⟨heq9, Fp F (Da :: fa2), e8, fp9, G9.rel, ?_⟩
              refine wp_mono (calm_bind (W' := fun _ _ => False) w7) (fun b e10 z10 H10 fp10 G10 => ?_) fun _ _ z => z.elim
              have B10 := (B8.wait G9).wait G10
              cases b with
              | false =>
                refine iteF ?_
                obtain ⟨fp11, R11, h11⟩ := B10.rel.wipes own1
                rw [heq9] at R11
                exact ⟨_, fp11, acc2, fa2, B10.reslot R11 h11, z10⟩
              | true =>
                refine iteT ⟨Fp F (Da :: fa2), e10, fp10, B10.rel, ?_⟩
                refine wp_mono (calm_bind (W' := fun _ _ => False) z10) (fun x11 e11 z11 v11 H11 fp11 fv11 A11 => ?_) fun _ _ z => z.elim
                cases x11 with
                | r _ _ => exact z11.elim
                | v y11 =>
                  dsimp only at z11
                  split at z11
                  · rename_i hsz
                    obtain ⟨ws, hws, hwl⟩ := B10.lst_at
                    have P := B10.push A11 hws
                    obtain ⟨fp12, R12, h12⟩ := P.rel.wipes own1
                    rw [heq9] at R12
                    refine ⟨ws, ?_, by rw [hwl, ← sizeMax_eq]; exact hsz, _, fp12, acc2 ++ [y11], fa2 ++ fv11, P.reslot R12 h12, z11⟩
                    rw [A11.kF Da (.inr List.mem_cons_self)]
                    exact hws
                  · exact z11.elim
          · have ej : j = ds1.length := by omega
            subst ej
            rw [List.drop_length] at w7
            have A9 := A6.chain B
            obtain ⟨fp13, R13, h13⟩ := A9.rel.wipes own
            have heq13 : wipe (wipe σ4 own1) own = wipe σ own := by
              rw [wipe_eq (σ := σ4) (σ2 := wipe σ4 own1) (by rw [wipe_length]) (fun j hj => wipe_out fun hj1 => hj (hsub j hj1)), heq]
            rw [heq13] at R13
            exact .inl ⟨wd1.stops H7 _ stb1, _, fp13, acc2, fa2, A9.reslot R13 h13, w7⟩
    · have ei : i = ds.length := by omega
      subst ei
      rw [List.drop_length] at w'
      obtain ⟨fp2, A2⟩ := comp_end G hck.1 A
      exact .inl ⟨wd.stops H' _ A.stb, w' (.ref Da) H' fp2 _ A2⟩
end
section
variable {X : Cx} {W : XP} {io : List Nat} {n : Nat} {elt tgE iter tgE1 iter1 : Expr} {ifs ifs1 : List Expr} {scope : Scope} {own : List (Str × Nat)} {own1 : List Nat} {pos spos py : Pos} {tg tg1 : Tg} {src src1 : Ev (List D)} {t t1 : Ev Bool} {m : Ev OR}
theorem ts_nil : PTs X [] (tT X.K W (.ret true)) := ⟨fun pins s σ H Q I ⟨F, e, fp, R, q⟩ => pts_nil.run pins s σ H Q I (q H fp (Gone.refl R))⟩
theorem ts_one {c : Expr} (h : PT X c (tT X.K W t)) : PTs X [c] (tT X.K W t) := pts_one h
theorem e_comp (hc : X.calm = true) (hN : X.N.Nodup) (ok : BlkOk X.N X.env.scope scope own) (hi : PI X tgE iter (tI X.K W src))
    (hg : ∀ (s : Shared) (H : Hp) (C : Addr) (cl : List (Str × Addr)) (fp : List Addr), PG (X.blk s H scope (compEnvC scope cl C X.env) fp) tgE (gT X.K (ioOf n (own.map (·.2))) tg)) (ht : ∀ (s : Shared) (H : Hp) (C : Addr) (cl : List (Str × Addr)) (fp : List Addr), PTs (X.blk s H scope (compEnvC scope cl C X.env) fp) ifs (tT X.K XF t))
    (he : ∀ (s : Shared) (H : Hp) (C : Addr) (cl : List (Str × Addr)) (fp : List Addr), PE (X.blk s H scope (compEnvC scope cl C X.env) fp) elt (tR X.K XF m)) (hs : ∀ x, foldedSetIterable iter X.env x = pure x := by intro _; rfl) :
    PE X (.ListComp elt [⟨tgE, iter, ifs, 0⟩] scope pos) (tR X.K W (mComp n (own.map (·.2)) tg src t m)) := (pe_lc hc hN hi ok hg ht he hs).to fun _ _ _ h => lc_read h
theorem e_comp2 (hc : X.calm = true) (hN : X.N.Nodup) (ok : BlkOk X.N X.env.scope scope own) (hv : ∀ i ∈ own1, i ∈ own.map (·.2)) (hi : PI X tgE iter (tI X.K W src))
    (hg : ∀ (s : Shared) (H : Hp) (C : Addr) (cl : List (Str × Addr)) (fp : List Addr), PG (X.blk s H scope (compEnvC scope cl C X.env) fp) tgE (gT X.K (ioOf n (own.map (·.2))) tg)) (ht : ∀ (s : Shared) (H : Hp) (C : Addr) (cl : List (Str × Addr)) (fp : List Addr), PTs (X.blk s H scope (compEnvC scope cl C X.env) fp) ifs (tT X.K XF t))
    (hi1 : ∀ (s : Shared) (H : Hp) (C : Addr) (cl : List (Str × Addr)) (fp : List Addr), PI (X.blk s H scope (compEnvC scope cl C X.env) fp) tgE1 iter1 (tI X.K XF src1))
    (hg1 : ∀ (s : Shared) (H : Hp) (C : Addr) (cl : List (Str × Addr)) (fp : List Addr), PG (X.blk s H scope (compEnvC scope cl C X.env) fp) tgE1 (gT X.K (ioOf n own1) tg1)) (ht1 : ∀ (s : Shared) (H : Hp) (C : Addr) (cl : List (Str × Addr)) (fp : List Addr), PTs (X.blk s H scope (compEnvC scope cl C X.env) fp) ifs1 (tT X.K XF t1))
    (he : ∀ (s : Shared) (H : Hp) (C : Addr) (cl : List (Str × Addr)) (fp : List Addr), PE (X.blk s H scope (compEnvC scope cl C X.env) fp) elt (tR X.K XF m)) (hs : ∀ x, foldedSetIterable iter X.env x = pure x := by intro _; rfl) (hs1 : ∀ env x, foldedSetIterable iter1 env x = pure x := by intro _ _; rfl) :
    PE X (.ListComp elt [⟨tgE, iter, ifs, 0⟩, ⟨tgE1, iter1, ifs1, 0⟩] scope pos) (tR X.K W (mComp2 n (own.map (·.2)) own1 tg src t tg1 src1 t1 m)) := (pe_lc2 hc hN hi ok hv hg ht hi1 hg1 ht1 he hs hs1).to fun _ _ _ h => lc2_read hv h
/-- name = [..] on one line, the name a local -/
theorem asg_read {K : PySem.W.Frag} {i : Nat} {m : Ev OR} {te : TE} (h : ∀ σ H Q, tR K W m σ H Q → te σ H Q) {D : Ends} {σ : L2.St} {H : Hp} (q : tSv K W io (sAsg io (.nm i) m) D σ H) : tAsg te (gName i) D σ H := by
  obtain ⟨F, e, fp, R, q⟩ := q
  refine h σ H _ ⟨F, e, fp, R, wp_mono (wp_bind q) (fun x e1 z v H1 fp1 fv A => ?_) fun x e1 z H1 fp1 G => z σ H1 fp1 IoS.refl G⟩
  cases x with
  | v o =>
    dsimp only at z
    unfold Tg.bind at z
    split at z
    · rename_i e2 hb
      split at hb
      · cases hb
      · rename_i hc
        cases hb
        obtain ⟨fp2, G⟩ := A.store i
        refine z _ _ fp2 (fun j hj => ?_) G
        rw [List.getElem?_set_ne]
        intro y
        subst y
        exact hc (List.contains_iff_mem.mpr hj)
    · exact z.elim
  | r i p => exact z.elim
theorem s_setLc (i : Nat) {y : Str} (hc : X.calm = true) (hN : X.N.Nodup) (ok : BlkOk X.N X.env.scope scope own) (hi : PI X tgE iter (tI X.K W src))
    (hg : ∀ (s : Shared) (H : Hp) (C : Addr) (cl : List (Str × Addr)) (fp : List Addr), PG (X.blk s H scope (compEnvC scope cl C X.env) fp) tgE (gT X.K (ioOf n (own.map (·.2))) tg)) (ht : ∀ (s : Shared) (H : Hp) (C : Addr) (cl : List (Str × Addr)) (fp : List Addr), PTs (X.blk s H scope (compEnvC scope cl C X.env) fp) ifs (tT X.K XF t))
    (he : ∀ (s : Shared) (H : Hp) (C : Addr) (cl : List (Str × Addr)) (fp : List Addr), PE (X.blk s H scope (compEnvC scope cl C X.env) fp) elt (tR X.K XF m))
    (hsw : swapsWith (.ListComp elt [⟨tgE, iter, ifs, 0⟩] scope pos) (some (.Name y py)) spos.line X.env = pure true) (hy : X.N[i]? = some y := by rfl) (hyl : X.env.scope.names.lookup y = some .local := by rfl) (hs : ∀ x, foldedSetIterable iter X.env x = pure x := by intro _; rfl) :
    PS X (.Assign [.Name y py] (.ListComp elt [⟨tgE, iter, ifs, 0⟩] scope pos) spos) (tSv X.K W io (sAsg io (.nm i) (mComp n (own.map (·.2)) tg src t m))) := (ps_setLc hc hN hy hyl hsw hi ok hg ht he hs).to fun _ _ _ h => asg_read (fun _ _ _ h => lc_read h) h
theorem s_setLc2 (i : Nat) {y : Str} (hc : X.calm = true) (hN : X.N.Nodup) (ok : BlkOk X.N X.env.scope scope own) (hv : ∀ i ∈ own1, i ∈ own.map (·.2)) (hi : PI X tgE iter (tI X.K W src))
    (hg : ∀ (s : Shared) (H : Hp) (C : Addr) (cl : List (Str × Addr)) (fp : List Addr), PG (X.blk s H scope (compEnvC scope cl C X.env) fp) tgE (gT X.K (ioOf n (own.map (·.2))) tg)) (ht : ∀ (s : Shared) (H : Hp) (C : Addr) (cl : List (Str × Addr)) (fp : List Addr), PTs (X.blk s H scope (compEnvC scope cl C X.env) fp) ifs (tT X.K XF t))
    (hi1 : ∀ (s : Shared) (H : Hp) (C : Addr) (cl : List (Str × Addr)) (fp : List Addr), PI (X.blk s H scope (compEnvC scope cl C X.env) fp) tgE1 iter1 (tI X.K XF src1))
    (hg1 : ∀ (s : Shared) (H : Hp) (C : Addr) (cl : List (Str × Addr)) (fp : List Addr), PG (X.blk s H scope (compEnvC scope cl C X.env) fp) tgE1 (gT X.K (ioOf n own1) tg1)) (ht1 : ∀ (s : Shared) (H : Hp) (C : Addr) (cl : List (Str × Addr)) (fp : List Addr), PTs (X.blk s H scope (compEnvC scope cl C X.env) fp) ifs1 (tT X.K XF t1))
    (he : ∀ (s : Shared) (H : Hp) (C : Addr) (cl : List (Str × Addr)) (fp : List Addr), PE (X.blk s H scope (compEnvC scope cl C X.env) fp) elt (tR X.K XF m))
    (hsw : swapsWith (.ListComp elt [⟨tgE, iter, ifs, 0⟩, ⟨tgE1, iter1, ifs1, 0⟩] scope pos) (some (.Name y py)) spos.line X.env = pure true) (hy : X.N[i]? = some y := by rfl) (hyl : X.env.scope.names.lookup y = some .local := by rfl) (hs : ∀ x, foldedSetIterable iter X.env x = pure x := by intro _; rfl) (hs1 : ∀ env x, foldedSetIterable iter1 env x = pure x := by intro _ _; rfl) :
    PS X (.Assign [.Name y py] (.ListComp elt [⟨tgE, iter, ifs, 0⟩, ⟨tgE1, iter1, ifs1, 0⟩] scope pos) spos) (tSv X.K W io (sAsg io (.nm i) (mComp2 n (own.map (·.2)) own1 tg src t tg1 src1 t1 m))) := (ps_setLc2 hc hN hy hyl hsw hi ok hv hg ht hi1 hg1 ht1 he hs hs1).to fun _ _ _ h => asg_read (fun _ _ _ h => lc2_read hv h) h
end
end Ev
end
section
set_option Elab.async false
set_option linter.all false
set_option maxRecDepth 100000
namespace Ev
open PySem PySem.Spec PyProof.Rows L2
section
variable {K : PySem.W.Frag} {W : XP} {F : Addr → Prop} {H H1 H2 H3 H4 : Hp} {N N' : Addr → Prop} {σ σ1 σ2 σ3 : St} {e e0 e1 e2 e3 : Env} {fp fp1 fp2 fp3 fv fw fa : List Addr} {v w : V} {vs ws : List V} {o q y : O} {i : Nat} {x : OR} {xs : List OR} {os acc : List O} {a D : Addr}
theorem RepOs.split : ∀ (os : List O) (vs : List V) (f : List Addr) (n : Nat) (o : O), RepOs K H N vs os f → os[n]? = some o → ∃ w A g B, vs[n]? = some w ∧ f = A ++ (g ++ B) ∧ RepO K H N w o g ∧ RepOs K H N (vs.eraseIdx n) (os.eraseIdx n) (A ++ B) ∧
    ∀ (H' : Hp) (N' : Addr → Prop) (w' : V) (o' : O) (g' : List Addr), Stb H N H' N' → (∀ a ∈ A ++ B, H' a = H a) → RepO K H' N' w' o' g' → RepOs K H' N' (vs.set n w') (os.set n o') (A ++ (g' ++ B))
  | [], _, _, _, _, _, h => by simp at h
  | o :: os, vs, f, 0, o1, r, h => by
    unfold RepOs at r
    obtain ⟨v, vr, f1, f2, e1, e2, a, b⟩ := r
    subst e1 e2
    simp at h
    subst h
    refine ⟨v, [], f1, f2, rfl, rfl, a, b, fun H' N' w' o' g' s hk r' => ?_⟩
    show RepOs K H' N' (w' :: vr) (o' :: os) (g' ++ f2)
    unfold RepOs
    exact ⟨w', vr, g', f2, rfl, rfl, r', RepOs.mono s os vr f2 hk b⟩
  | o :: os, vs, f, n + 1, o1, r, h => by
    unfold RepOs at r
    obtain ⟨v, vr, f1, f2, e1, e2, a, b⟩ := r
    subst e1 e2
    obtain ⟨w, A, g, B, h1, h2, h3, h4, h5⟩ := RepOs.split os vr f2 n o1 b (by simpa using h)
    subst h2
    refine ⟨w, f1 ++ A, g, B, by simpa using h1, by rw [List.append_assoc], h3, ?_, fun H' N' w' o' g' s hk r' => ?_⟩
    · rw [List.append_assoc]
      show RepOs K H N (v :: vr.eraseIdx n) (o :: os.eraseIdx n) _
      unfold RepOs
      exact ⟨v, vr.eraseIdx n, f1, A ++ B, rfl, rfl, a, h4⟩
    · rw [List.append_assoc]
      show RepOs K H' N' (v :: vr.set n w') (o :: os.set n o') _
      unfold RepOs
      exact ⟨v, vr.set n w', f1, A ++ (g' ++ B), rfl, rfl, RepO.mono s o v f1 (fun c hc => hk c (by simp [hc])) a, h5 H' N' w' o' g' s (fun c hc => hk c (by simp at hc ⊢; rcases hc with z | z <;> simp [z])) r'⟩
theorem set_same {α : Type} {l : List α} {n : Nat} {x : α} (h : l[n]? = some x) : l.set n x = l := by
  apply List.ext_getElem?
  intro j
  by_cases hj : n = j
  · subst hj
    have hi : n < l.length := by
      rcases Nat.lt_or_ge n l.length with z | z
      · exact z
      · rw [List.getElem?_eq_none z] at h; cases h
    rw [List.getElem?_set_self hi, h]
  · rw [List.getElem?_set_ne hj]
theorem kset_keys {κ α : Type} [DecidableEq κ] (k : κ) (y : α) : ∀ kvs : List (κ × α), (kset kvs k y).map (·.1) = kvs.map (·.1)
  | [] => rfl
  | (j, v) :: r => by
    unfold kset
    split
    · rfl
    · rw [List.map_cons, List.map_cons, kset_keys k y r]
theorem kset_same {κ α : Type} [DecidableEq κ] {k : κ} {y : α} : ∀ {kvs : List (κ × α)}, kget kvs k = some y → kset kvs k y = kvs
  | [], h => rfl
  | (j, v) :: r, h => by
    unfold kget at h
    unfold kset
    by_cases z : j = k
    · rw [if_pos z] at h ⊢
      cases h
      rfl
    · rw [if_neg z] at h ⊢
      rw [kset_same h]
theorem RepOk.split : ∀ (os : List (Key × O)) (vs : List (Key × V)) (f : List Addr) (k : Key) (o : O), RepOk K H N vs os f → kget os k = some o → ∃ w A g B, kget vs k = some w ∧ f = A ++ (g ++ B) ∧ RepO K H N w o g ∧
    ∀ (H' : Hp) (N' : Addr → Prop) (w' : V) (o' : O) (g' : List Addr), Stb H N H' N' → (∀ a ∈ A ++ B, H' a = H a) → RepO K H' N' w' o' g' → RepOk K H' N' (kset vs k w') (kset os k o') (A ++ (g' ++ B))
  | [], _, _, _, _, _, h => by cases h
  | (j, o) :: os, vs, f, k, o1, r, h => by
    unfold RepOk at r
    obtain ⟨v, vr, f1, f2, e1, e2, a, b⟩ := r
    subst e1 e2
    unfold kget at h ⊢
    unfold kset
    by_cases z : j = k
    · rw [if_pos z] at h ⊢
      cases h
      refine ⟨v, [], f1, f2, rfl, rfl, a, fun H' N' w' o' g' s hk r' => ?_⟩
      rw [if_pos z, if_pos z]
      unfold RepOk
      exact ⟨w', vr, g', f2, rfl, rfl, r', RepOk.mono s os vr f2 hk b⟩
    · rw [if_neg z] at h ⊢
      obtain ⟨w, A, g, B, h1, h2, h3, h5⟩ := RepOk.split os vr f2 k o1 b h
      subst h2
      refine ⟨w, f1 ++ A, g, B, h1, by rw [List.append_assoc], h3, fun H' N' w' o' g' s hk r' => ?_⟩
      rw [if_neg z, if_neg z, List.append_assoc]
      unfold RepOk
      exact ⟨v, _, f1, A ++ (g' ++ B), rfl, rfl, RepO.mono s o v f1 (fun c hc => hk c (by simp [hc])) a, h5 H' N' w' o' g' s (fun c hc => hk c (by simp at hc ⊢; rcases hc with z | z <;> simp [z])) r'⟩
theorem RepOt.split : ∀ (os : List (List Key × O)) (vs : List (List Key × V)) (f : List Addr) (k : List Key) (o : O), RepOt K H N vs os f → kget os k = some o → ∃ w A g B, kget vs k = some w ∧ f = A ++ (g ++ B) ∧ RepO K H N w o g ∧
    ∀ (H' : Hp) (N' : Addr → Prop) (w' : V) (o' : O) (g' : List Addr), Stb H N H' N' → (∀ a ∈ A ++ B, H' a = H a) → RepO K H' N' w' o' g' → RepOt K H' N' (kset vs k w') (kset os k o') (A ++ (g' ++ B))
  | [], _, _, _, _, _, h => by cases h
  | (j, o) :: os, vs, f, k, o1, r, h => by
    unfold RepOt at r
    obtain ⟨v, vr, f1, f2, e1, e2, a, b⟩ := r
    subst e1 e2
    unfold kget at h ⊢
    unfold kset
    by_cases z : j = k
    · rw [if_pos z] at h ⊢
      cases h
      refine ⟨v, [], f1, f2, rfl, rfl, a, fun H' N' w' o' g' s hk r' => ?_⟩
      rw [if_pos z, if_pos z]
      unfold RepOt
      exact ⟨w', vr, g', f2, rfl, rfl, r', RepOt.mono s os vr f2 hk b⟩
    · rw [if_neg z] at h ⊢
      obtain ⟨w, A, g, B, h1, h2, h3, h5⟩ := RepOt.split os vr f2 k o1 b h
      subst h2
      refine ⟨w, f1 ++ A, g, B, h1, by rw [List.append_assoc], h3, fun H' N' w' o' g' s hk r' => ?_⟩
      rw [if_neg z, if_neg z, List.append_assoc]
      unfold RepOt
      exact ⟨v, _, f1, A ++ (g' ++ B), rfl, rfl, RepO.mono s o v f1 (fun c hc => hk c (by simp [hc])) a, h5 H' N' w' o' g' s (fun c hc => hk c (by simp at hc ⊢; rcases hc with z | z <;> simp [z])) r'⟩
/-- an object within another one, changed -/
theorem RepO.focus : ∀ (p : Path) (o q : O) (w v : V) (f : List Addr), RepO K H N w o f → o.sub p = some q → AtP H w p v → ∃ A g B, f = A ++ (g ++ B) ∧ RepO K H N v q g ∧
    ∀ (H' : Hp) (N' : Addr → Prop) (q1 : O) (g' : List Addr), Stb H N H' N' → (∀ a ∈ A ++ B, H' a = H a) → RepO K H' N' v q1 g' → RepO K H' N' w (o.put p q1) (A ++ (g' ++ B))
  | [], o, q, w, v, f, r, h, a => by
    unfold O.sub at h
    cases h
    have e : w = v := a
    subst e
    refine ⟨[], f, [], by simp, r, fun H' N' q1 g' s hk r' => ?_⟩
    unfold O.put
    simpa using r'
  | .ix n :: p, o, q, w, v, f, r, h, a => by
    cases o with
    | ol xs =>
      unfold O.sub at h
      unfold RepO at r
      obtain ⟨b, vs, fq, e1, e2, hb, rs⟩ := r
      obtain ⟨b', vs', u, e3, hb', hu, ar⟩ := a
      subst e1 e2
      cases e3
      rw [hb] at hb'
      cases hb'
      cases hx : xs[n]? with
      | none => rw [hx] at h; cases h
      | some o1 =>
        rw [hx] at h
        obtain ⟨w1, A, g, B, h1, h2, h3, h4, h5⟩ := RepOs.split xs vs fq n o1 rs hx
        rw [hu] at h1
        cases h1
        obtain ⟨A2, g2, B2, k1, k2, k3⟩ := RepO.focus p o1 q u v g h3 h ar
        subst h2 k1
        refine ⟨b :: (A ++ A2), g2, B2 ++ B, by simp [List.append_assoc], k2, fun H' N' q1 g' s hk r' => ?_⟩
        unfold O.put
        rw [hx]
        dsimp only
        unfold RepO
        refine ⟨b, vs, A ++ ((A2 ++ (g' ++ B2)) ++ B), rfl, by simp [List.append_assoc], by rw [hk b (by simp)]; exact hb, ?_⟩
        have r2 := h5 H' N' u (o1.put p q1) (A2 ++ (g' ++ B2)) s (fun c hc => hk c (by simp at hc ⊢; rcases hc with z | z <;> simp [z])) (k3 H' N' q1 g' s (fun c hc => hk c (by simp at hc ⊢; rcases hc with z | z <;> simp [z])) r')
        rw [set_same hu] at r2
        exact r2
    | fr d => unfold O.sub at h; cases h
    | ok d => unfold O.sub at h; cases h
    | ot d => unfold O.sub at h; cases h
  | .ky n :: p, o, q, w, v, f, r, h, a => by
    cases o with
    | ok xs =>
      unfold O.sub at h
      unfold RepO at r
      obtain ⟨b, vs, fq, e1, e2, hb, rs⟩ := r
      obtain ⟨b', vs', u, e3, hb', hu, ar⟩ := a
      subst e1 e2
      cases e3
      rw [hb] at hb'
      cases hb'
      cases hx : kget xs n with
      | none => rw [hx] at h; cases h
      | some o1 =>
        rw [hx] at h
        obtain ⟨w1, A, g, B, h1, h2, h3, h5⟩ := RepOk.split xs vs fq n o1 rs hx
        rw [hu] at h1
        cases h1
        obtain ⟨A2, g2, B2, k1, k2, k3⟩ := RepO.focus p o1 q u v g h3 h ar
        subst h2 k1
        refine ⟨b :: (A ++ A2), g2, B2 ++ B, by simp [List.append_assoc], k2, fun H' N' q1 g' s hk r' => ?_⟩
        unfold O.put
        rw [hx]
        dsimp only
        unfold RepO
        refine ⟨b, vs, A ++ ((A2 ++ (g' ++ B2)) ++ B), rfl, by simp [List.append_assoc], by rw [hk b (by simp)]; exact hb, ?_⟩
        have r2 := h5 H' N' u (o1.put p q1) (A2 ++ (g' ++ B2)) s (fun c hc => hk c (by simp at hc ⊢; rcases hc with z | z <;> simp [z])) (k3 H' N' q1 g' s (fun c hc => hk c (by simp at hc ⊢; rcases hc with z | z <;> simp [z])) r')
        rw [kset_same hu] at r2
        exact r2
    | fr d => unfold O.sub at h; cases h
    | ol d => unfold O.sub at h; cases h
    | ot d => unfold O.sub at h; cases h
  | .kt n :: p, o, q, w, v, f, r, h, a => by
    cases o with
    | ot xs =>
      unfold O.sub at h
      unfold RepO at r
      obtain ⟨b, vs, fq, e1, e2, hb, rs⟩ := r
      obtain ⟨b', vs', u, e3, hb', hu, ar⟩ := a
      subst e1 e2
      cases e3
      rw [hb] at hb'
      cases hb'
      cases hx : kget xs n with
      | none => rw [hx] at h; cases h
      | some o1 =>
        rw [hx] at h
        obtain ⟨w1, A, g, B, h1, h2, h3, h5⟩ := RepOt.split xs vs fq n o1 rs hx
        rw [hu] at h1
        cases h1
        obtain ⟨A2, g2, B2, k1, k2, k3⟩ := RepO.focus p o1 q u v g h3 h ar
        subst h2 k1
        refine ⟨b :: (A ++ A2), g2, B2 ++ B, by simp [List.append_assoc], k2, fun H' N' q1 g' s hk r' => ?_⟩
        unfold O.put
        rw [hx]
        dsimp only
        unfold RepO
        refine ⟨b, vs, A ++ ((A2 ++ (g' ++ B2)) ++ B), rfl, by simp [List.append_assoc], by rw [hk b (by simp)]; exact hb, ?_⟩
        have r2 := h5 H' N' u (o1.put p q1) (A2 ++ (g' ++ B2)) s (fun c hc => hk c (by simp at hc ⊢; rcases hc with z | z <;> simp [z])) (k3 H' N' q1 g' s (fun c hc => hk c (by simp at hc ⊢; rcases hc with z | z <;> simp [z])) r')
        rw [kset_same hu] at r2
        exact r2
    | fr d => unfold O.sub at h; cases h
    | ol d => unfold O.sub at h; cases h
    | ok d => unfold O.sub at h; cases h
theorem perm5 {A0 A g B B0 : List Addr} : (A0 ++ ((A ++ (g ++ B)) ++ B0)).Perm (g ++ (A0 ++ (A ++ (B ++ B0)))) := List.perm_iff_count.mpr fun x => by simp only [List.count_append]; omega
/-- an owned object is changed, by values that come in -/
theorem Rel.upd (R : Rel K (Fp F fv) H1 σ e1 fp1) (hd : ∀ a ∈ fv, ¬ F a) (hs : σ[i]? = some (some w)) (hat : e1.at i = some o) {p : Path} (hp : o.sub p = some q) (ha : AtP H1 w p v) : ∃ g, RepO K H1 (Fp (Fp F fv) fp1) v q g ∧ g.Nodup ∧ (∀ x ∈ g, x ∉ fv ∧ ¬ F x) ∧ (∀ x ∈ g, Fp (Fp F fv) fp1 x) ∧
    ∀ (H2 : Hp) (q1 : O) (g' gy : List Addr), (∀ x, x ∉ g → H2 x = H1 x) → (∀ x ∈ gy, H2 x ≠ none) → (∀ x ∈ g' ++ gy, x ∈ g ∨ x ∈ fv) → (g' ++ gy).Nodup → (∀ N2 : Addr → Prop, (∀ x, N2 x → Fp (Fp F fv) fp1 x) → RepO K H2 N2 v q1 g') →
      ∃ fp2, Rel K (Fp F gy) H2 σ (e1.set i (some (o.put p q1))) fp2 ∧ (∀ x, Fp (Fp F gy) fp2 x → Fp (Fp F fv) fp1 x) ∧ Stb H1 (Fp (Fp F fv) fp1) H2 (Fp (Fp F gy) fp2) ∧ ∀ x, F x → H2 x = H1 x := by
  obtain ⟨A0, f, B0, w', e2, e3, r, put⟩ := R.slot hat
  rw [hs] at e3
  cases e3
  obtain ⟨A, g, B, e4, rg, foc⟩ := RepO.focus p o q w v f r hp ha
  subst e4
  have nd : (g ++ (A0 ++ (A ++ (B ++ B0)))).Nodup := by rw [← List.Perm.nodup_iff perm5, ← e2]; exact R.nod
  obtain ⟨n1, n2, n3⟩ := List.nodup_append.mp nd
  have inF : ∀ x ∈ g, x ∈ fp1 := fun x hx => by rw [e2]; simp [hx]
  have inR : ∀ x, x ∈ A0 ++ (A ++ (B ++ B0)) → x ∈ fp1 := fun x hx => by rw [e2]; simp only [List.mem_append] at hx ⊢; rcases hx with z | z | z | z <;> simp [z]
  refine ⟨g, rg, n1, fun x hx => ⟨fun z => R.dis x (inF x hx) (.inr z), fun z => R.dis x (inF x hx) (.inl z)⟩, fun x hx => .inr (inF x hx), fun H2 q1 g' gy hH hy hg hn hr => ?_⟩
  obtain ⟨m1, m2, m3⟩ := List.nodup_append.mp hn
  have fvR : ∀ x ∈ fv, x ∉ fp1 := fun x hx z => R.dis x z (.inr hx)
  have hN : ∀ x, Fp (Fp F gy) (A0 ++ ((A ++ (g' ++ B)) ++ B0)) x → Fp (Fp F fv) fp1 x := fun x z => by
    rcases z with (z | z) | z
    · exact .inl (.inl z)
    · rcases hg x (by simp [z]) with z | z
      · exact .inr (inF x z)
      · exact .inl (.inr z)
    · by_cases hx : x ∈ g'
      · rcases hg x (by simp [hx]) with z | z
        · exact .inr (inF x z)
        · exact .inl (.inr z)
      · refine .inr (inR x ?_)
        simp only [List.mem_append] at z ⊢
        rcases z with z | (z | z | z) | z <;> first | exact absurd z hx | simp [z]
  have st : Stb H1 (Fp (Fp F fv) fp1) H2 (Fp (Fp F gy) (A0 ++ ((A ++ (g' ++ B)) ++ B0))) := fun a u e n => ⟨by rw [hH a (fun z => n (.inr (inF a z)))]; exact e, fun z => n (hN a z)⟩
  have offg : ∀ x, x ∈ A0 ++ (A ++ (B ++ B0)) → H2 x = H1 x := fun x hx => hH x fun z => n3 x z x hx rfl
  have kF : ∀ x, F x → H2 x = H1 x := fun x hx => hH x fun z => R.dis x (inF x z) (.inl hx)
  refine ⟨A0 ++ ((A ++ (g' ++ B)) ++ B0), ⟨?_, ?_, fun a ha z => ?_, fun a z => ?_, by rw [List.length_set]; exact R.len⟩, hN, st, kF⟩
  · refine put H2 _ σ (some (o.put p q1)) (A ++ (g' ++ B)) st (fun x hx => offg x (by simp only [List.mem_append] at hx ⊢; rcases hx with z | z <;> simp [z])) (fun _ _ => rfl) ⟨w, hs, ?_⟩
    exact foc H2 _ q1 g' st (fun x hx => offg x (by simp only [List.mem_append] at hx ⊢; rcases hx with z | z <;> simp [z])) (hr _ hN)
  · rw [List.Perm.nodup_iff perm5]
    refine List.nodup_append.mpr ⟨m1, n2, fun x hx y hy e => ?_⟩
    subst e
    rcases hg x (by simp [hx]) with z | z
    · exact n3 x z x hy rfl
    · exact fvR x z (inR x hy)
  · have ha' := (List.Perm.mem_iff perm5).mp ha
    rcases List.mem_append.mp ha' with ha' | ha'
    · rcases z with z | z
      · rcases hg a (by simp [ha']) with y | y
        · exact R.dis a (inF a y) (.inl z)
        · exact hd a y z
      · exact m3 a ha' a z rfl
    · rcases z with z | z
      · exact R.dis a (inR a ha') (.inl z)
      · rcases hg a (by simp [z]) with y | y
        · exact n3 a y a ha' rfl
        · exact fvR a y (inR a ha')
  · rcases z with z | z
    · rw [kF a z]; exact R.dom a (.inl z)
    · exact hy a z
/-- a change at the object itself -/
theorem stb_at {u : HO} (h : N a) (hn : ∀ x, N' x → N x) : Stb H N (upd H a u) N' := fun b w e n => ⟨by rw [upd_ne (fun z : b = a => n (by rw [z]; exact h))]; exact e, fun z => n (hn b z)⟩
end
/-! ### methods that change their owned list -/
structure MtIn (K : PySem.W.Frag) (f : O → List O → Option (O × O)) (F : Addr → Prop) (σ : St) (e : Env) (fp fv : List Addr) (i : Nat) (w : V) (o : O) (p : Path) (q : O) (os : List O) (q1 y : O) (v : V) (vs : List V) (H : Hp) (Q : VK) : Prop where
  R : Rel K (Fp F fv) H σ e fp
  nod : fv.Nodup
  dis : ∀ a ∈ fv, ¬ F a
  sl : σ[i]? = some (some w)
  at_ : e.at i = some o
  sub : o.sub p = some q
  path : AtP H w p v
  vals : RepOs K H (Fp (Fp F fv) fp) vs os fv
  does : f q os = some (q1, y)
  post : ∀ (yv : V) (H2 : Hp) (gy fp2 : List Addr), Rel K (Fp F gy) H2 σ (e.set i (some (o.put p q1))) fp2 → RepO K H2 (Fp (Fp F gy) fp2) yv y gy → gy.Nodup → (∀ a ∈ gy, ¬ F a) → Stb H (Fp (Fp F fv) fp) H2 (Fp (Fp F gy) fp2) → (∀ x, F x → H2 x = H x) → Q yv H2
def rMt (K : PySem.W.Frag) (f : O → List O → Option (O × O)) : V → List V → Hp → VK → Prop := fun v vs H Q => ∃ F σ e fp fv i w o p q os q1 y, MtIn K f F σ e fp fv i w o p q os q1 y v vs H Q
section
variable {K : PySem.W.Frag} {H : Hp} {N : Addr → Prop} {v : V} {vs : List V} {Q : VK}
theorem RepOs.one1 {o : O} {f : List Addr} (h : RepOs K H N vs [o] f) : ∃ v, vs = [v] ∧ RepO K H N v o f := by
  unfold RepOs at h
  obtain ⟨v, vr, f1, f2, e1, e2, a, b⟩ := h
  unfold RepOs at b
  obtain ⟨b1, b2⟩ := b
  subst b1 b2 e2
  rw [List.append_nil]
  exact ⟨v, e1, a⟩
theorem mt_app_go (h : rMt K fAppend v vs H Q) : rAppend v vs H Q := by
  obtain ⟨F, σ, e, fp, fv, i, w, o, p, q, os, q1, y, M⟩ := h
  have hf := M.does
  unfold fAppend at hf
  split at hf
  · rename_i xs o1
    split at hf
    · rename_i hz
      cases hf
      obtain ⟨g, rg, gn, gd, gN, up⟩ := M.R.upd M.dis M.sl M.at_ M.sub M.path
      unfold RepO at rg
      obtain ⟨a, ws, fq, e1, e2, ha, rs⟩ := rg
      subst e1 e2
      obtain ⟨y1, e3, r1⟩ := M.vals.one1
      subst e3
      obtain ⟨an, fqn⟩ := List.nodup_cons.mp gn
      refine ⟨a, ws, y1, rfl, rfl, ha, by rw [RepOs.length _ _ _ rs, ← sizeMax_eq]; exact hz, ?_⟩
      have aN := gN a List.mem_cons_self
      have afv : a ∉ fv := (gd a List.mem_cons_self).1
      obtain ⟨fp2, R2, h2, st, kF⟩ := up (upd H a (.lst (ws ++ [y1]))) (.ol (xs ++ [o1])) (a :: (fq ++ fv)) [] (fun x hx => upd_ne fun z => hx (by rw [z]; exact List.mem_cons_self)) (fun x hx => nomatch hx)
        (fun x hx => by
          rw [List.append_nil] at hx
          rcases List.mem_cons.mp hx with z | z
          · exact .inl (by rw [z]; exact List.mem_cons_self)
          · rcases List.mem_append.mp z with z | z
            · exact .inl (List.mem_cons_of_mem _ z)
            · exact .inr z)
        (by
          rw [List.append_nil]
          refine List.nodup_cons.mpr ⟨fun z => ?_, List.nodup_append.mpr ⟨fqn, M.nod, fun x hx y hy e => (gd x (List.mem_cons_of_mem _ hx)).1 (e ▸ hy)⟩⟩
          rcases List.mem_append.mp z with z | z
          · exact an z
          · exact afv z)
        (fun N2 hN2 => by
          have st := stb_at (H := H) (u := .lst (ws ++ [y1])) aN hN2
          unfold RepO
          refine ⟨a, ws ++ [y1], fq ++ fv, rfl, rfl, upd_same, RepOs.snoc xs ws fq fv ?_ ?_⟩
          · exact RepOs.mono st xs ws fq (fun x hx => upd_ne fun z => an (z ▸ hx)) rs
          · exact RepO.mono st o1 y1 fv (fun x hx => upd_ne fun z => afv (z ▸ hx)) r1)
      exact M.post .non _ [] fp2 R2 (by unfold RepO; exact ⟨rfl, by unfold Rep; rfl⟩) List.nodup_nil (fun _ z => nomatch z) st kF
    · cases hf
  · cases hf
/-- an item leaves -/
theorem mt_take_go {f : O → List O → Option (O × O)} {F : Addr → Prop} {σ : St} {e : Env} {fp : List Addr} {fv : List Addr} {i : Nat} {w : V} {o : O} {p : Path} {xs os : List O} {y : O} {k : Nat} (M : MtIn K f F σ e fp fv i w o p (.ol xs) os (.ol (xs.eraseIdx k)) y v vs H Q) (hk : xs[k]? = some y) :
    ∃ a ws yv, v = .ref a ∧ H a = some (.lst ws) ∧ ws.length = xs.length ∧ ws[k]? = some yv ∧ Q yv (upd H a (.lst (ws.eraseIdx k))) := by
  obtain ⟨g, rg, gn, gd, gN, up⟩ := M.R.upd M.dis M.sl M.at_ M.sub M.path
  unfold RepO at rg
  obtain ⟨a, ws, fq, e1, e2, ha, rs⟩ := rg
  subst e1 e2
  obtain ⟨yv, A, gy, B, h1, h2, h3, h4, _⟩ := RepOs.split xs ws fq k y rs hk
  subst h2
  obtain ⟨an, fqn⟩ := List.nodup_cons.mp gn
  have pm : (A ++ (gy ++ B)).Perm ((A ++ B) ++ gy) := List.perm_iff_count.mpr fun x => by simp only [List.count_append]; omega
  have fqn2 := (List.Perm.nodup_iff pm).mp fqn
  obtain ⟨n1, n2, n3⟩ := List.nodup_append.mp fqn2
  have aN := gN a List.mem_cons_self
  have mem : ∀ x, x ∈ A ++ B ∨ x ∈ gy → x ∈ A ++ (gy ++ B) := fun x hx => (List.Perm.mem_iff pm).mpr (List.mem_append.mpr hx)
  refine ⟨a, ws, yv, rfl, ha, RepOs.length _ _ _ rs, h1, ?_⟩
  obtain ⟨fp2, R2, hN2, st, kF⟩ := up (upd H a (.lst (ws.eraseIdx k))) (.ol (xs.eraseIdx k)) (a :: (A ++ B)) gy (fun x hx => upd_ne fun z => hx (by rw [z]; exact List.mem_cons_self))
    (fun x hx => by
      rw [upd_ne fun z : x = a => an (mem a (.inr (z ▸ hx)))]
      obtain ⟨u, hu, _⟩ := RepO.own _ _ _ h3 x hx
      rw [hu]
      exact fun z => nomatch z)
    (fun x hx => by
      rcases List.mem_append.mp hx with z | z
      · rcases List.mem_cons.mp z with z | z
        · exact .inl (by rw [z]; exact List.mem_cons_self)
        · exact .inl (List.mem_cons_of_mem _ (mem x (.inl z)))
      · exact .inl (List.mem_cons_of_mem _ (mem x (.inr z))))
    (by
      rw [List.cons_append]
      exact List.nodup_cons.mpr ⟨fun z => an (mem a (List.mem_append.mp z)), fqn2⟩)
    (fun N2 hN2 => by
      have st := stb_at (H := H) (u := .lst (ws.eraseIdx k)) aN hN2
      unfold RepO
      exact ⟨a, ws.eraseIdx k, A ++ B, rfl, rfl, upd_same, RepOs.mono st _ _ _ (fun x hx => upd_ne fun z => an (mem a (.inl (z ▸ hx)))) h4⟩)
  refine M.post yv _ gy fp2 R2 ?_ n2 (fun x hx z => (gd x (List.mem_cons_of_mem _ (mem x (.inr hx)))).2 z) st kF
  exact RepO.mono (stb_at (H := H) aN hN2) y yv gy (fun x hx => upd_ne fun z => an (mem a (.inr (z ▸ hx)))) h3
theorem erase_last {α : Type} (l : List α) : l.eraseIdx (l.length - 1) = l.dropLast := by
  rw [List.eraseIdx_length_sub_one]
theorem mt_pop_go (h : rMt K fPop v vs H Q) : rPop v vs H Q := by
  obtain ⟨F, σ, e, fp, fv, i, w, o, p, q, os, q1, y, M⟩ := h
  have hf := M.does
  unfold fPop at hf
  split at hf
  · rename_i xs
    obtain ⟨y', hy, e1⟩ := Option.map_eq_some_iff.mp hf
    cases e1
    have r := M.vals
    unfold RepOs at r
    have ev := r.1
    subst ev
    rw [← erase_last] at M
    obtain ⟨a, ws, yv, e1, ha, hl, hk, hq⟩ := mt_take_go M hy
    rw [← hl, erase_last] at hq
    rw [← hl] at hk
    exact ⟨a, ws, yv, e1, rfl, ha, hk, hq⟩
  · cases hf
theorem ixN_seqIndex {n k : Nat} {i : Int} (h : ixN n i = some k) (hn : n ≤ sizeMax) : -(2 ^ 63) ≤ i ∧ i < 2 ^ 63 ∧ seqIndex? i n = some k := by
  obtain ⟨h1, h2, h3, h4⟩ := ixN_seq (show L2.ixN n i = some k from h)
  have : sizeMax = 16777216 := rfl
  exact ⟨by omega, by omega, h1⟩
theorem mt_popAt_go (h : rMt K fPopAt v vs H Q) (hz : ∀ a ws, H a = some (.lst ws) → ws.length ≤ sizeLine) : rPopAt v vs H Q := by
  obtain ⟨F, σ, e, fp, fv, i, w, o, p, q, os, q1, y, M⟩ := h
  have hf := M.does
  unfold fPopAt at hf
  split at hf
  · rename_i xs j
    obtain ⟨k, hk, hf⟩ := Option.bind_eq_some_iff.mp hf
    obtain ⟨y', hy, e1⟩ := Option.map_eq_some_iff.mp hf
    cases e1
    obtain ⟨iv, ev, ri⟩ := M.vals.one1
    subst ev
    unfold RepO at ri
    have ei := rep_int ri.2
    subst ei
    obtain ⟨a, ws, yv, e1, ha, hl, hk2, hq⟩ := mt_take_go M hy
    rw [← hl] at hk
    obtain ⟨h1, h2, h3⟩ := ixN_seqIndex hk (by rw [sizeMax_eq]; exact hz a ws ha)
    exact ⟨a, ws, j, k, yv, e1, rfl, ha, h1, h2, h3, hk2, hq⟩
  · cases hf
end
/-! ### the call of such a method -/
section
variable {X : Cx} {W : XP} {rc : Ev OR} {ms : List (Ev OR)} {o a : Expr} {es : List Expr} {apos cpos : Pos} {f : O → List O → Option (O × O)} {name : Str} {id : String} {r : V → List V → Hp → VK → Prop}
theorem isOl_go {K : PySem.W.Frag} {F : Addr → Prop} {H H1 : Hp} {σ : L2.St} {e1 : Env} {fp fp1 fv : List Addr} {v : V} {x : OR} (A : Af K F H fp σ H1 e1 fp1 v x fv) (h : x.isOl e1 = true) : tyV K "list" v H1 := by
  unfold OR.isOl at h
  split at h
  · rename_i xs hx
    obtain ⟨g, r, _⟩ := RepR'.obj A.val A.rel hx
    unfold RepO at r
    obtain ⟨a, vs, fq, e, _, ha, _⟩ := r
    subst e
    exact .inl ⟨rfl, vs, SqL.of ha⟩
  · cases h
theorem mtFin_go {f : O → List O → Option (O × O)} {i : Nat} {p : Path} {xs : List OR} {e : Env} {P : OR → Env → Prop} {WW : Exn → Env → Prop} (h : (mtFin f (.r i p) xs e).wp P WW) : ∃ os q q1 y, vals xs = some os ∧ True ∧ (∃ o, e.at i = some o ∧ o.sub p = some q) ∧ f q os = some (q1, y) ∧ ∀ o, e.at i = some o → P (.v y) (e.set i (some (o.put p q1))) := by
  unfold mtFin at h
  split at h
  · rename_i i' p' os hx hv
    cases hx
    unfold upAt at h
    split at h
    · rename_i o ho
      split at h
      · rename_i q hq
        split at h
        · rename_i q1 y hf
          exact ⟨os, q, q1, y, hv, trivial, ⟨o, ho, hq⟩, hf, fun o' ho' => by rw [ho] at ho'; cases ho'; exact h⟩
        · exact h.elim
      · exact h.elim
    · exact h.elim
  · exact h.elim
theorem tR_mt {K : PySem.W.Frag} {σ : L2.St} {H : Hp} {Q : VK} (hr : Rooty rc) (h : tR K W (mMt f rc ms) σ H Q) : tR K W rc σ H fun v H1 => tyV K "list" v H1 ∧ tA K W (mArgs ms) σ H1 fun vs H2 => rMt K f v vs H2 Q := by
  obtain ⟨F, e, fp, R, q⟩ := h
  refine ⟨F, e, fp, R, ?_⟩
  have q2 := wp_bind q
  cases hm : rc e with
  | fail => rw [hm] at q2; exact q2.elim
  | exc x e1 => rw [hm] at q2; exact q2
  | ok x e1 =>
    rw [hm] at q2
    have z : (mtAt f ms x e1).wp _ _ := q2
    unfold mtAt at z
    intro v H1 fp1 fv A
    cases ho : x.isOl e1 with
    | false => rw [ho] at z; exact z.elim
    | true =>
      rw [ho] at z
      refine ⟨isOl_go A ho, Fp F fv, e1, fp1, A.rel, wp_mono (wp_bind z) (fun xs e2 z2 vs H2 fp2 fw B => ?_) fun y e2 z2 H2 fp2 G => z2 H2 fp2 (Gone.lift A G)⟩
      cases x with
      | v _ => exact z2.elim
      | r i p =>
        have hroot := hr e (.r i p) e1 hm
        cases p with
        | cons _ _ => cases hroot
        | nil =>
          obtain ⟨os, ob, q1, y, hv, hat, hsb, hf, hP⟩ := mtFin_go z2
          obtain ⟨ef, w, hw, h0, _⟩ := A.val
          subst ef
          have ew := h0 rfl
          subst ew
          obtain ⟨o, hat, hsb⟩ := hsb
          unfold O.sub at hsb
          cases hsb
          rw [Fp.nil_eq] at B
          exact ⟨F, σ, e2, fp2, fw, i, w, ob, [], ob, os, q1, y, B.rel, B.nod, B.dis, hw, hat, by unfold O.sub; rfl, rfl, vals_rep xs vs fw os B.val hv, hf,
            fun yv H3 gy fp3 R3 ry gn gd st kF => hP ob hat yv H3 fp3 gy ⟨R3, ry, gn, gd, by have s1 := A.stb; rw [Fp.nil_eq] at s1; exact (s1.trans B.stb).trans st, fun x hx => (kF x hx).trans ((B.kF x hx).trans (A.kF x hx))⟩⟩
theorem mV_rooty {i : Nat} : Rooty (mV i) := fun e x e' h => by
  unfold mV at h
  split at h <;> first | (cases h; rfl) | cases h
theorem tR_mtS {K : PySem.W.Frag} {σ : L2.St} {H : Hp} {Q : VK} {X : Cx} {k : Expr} {mk : Ev OR} (hk : Smp X k mk) (h : tR K W (mMt f rc [mk]) σ H Q) : tR K W rc σ H fun v H1 => tyV K "list" v H1 ∧ tS K mk σ H1 fun y H2 => rMt K f v [y] H2 Q := by
  obtain ⟨F, e, fp, R, q⟩ := h
  refine ⟨F, e, fp, R, wp_mono (wp_bind q) (fun x e1 z v H1 fp1 fv A => ?_) fun _ _ z => z⟩
  unfold mtAt at z
  cases ho : x.isOl e1 with
  | false => rw [ho] at z; exact z.elim
  | true =>
    rw [ho] at z
    have z2 := wp_bind (wp_bind z)
    refine ⟨isOl_go A ho, Fp F fv, e1, fp1, A.rel, ?_⟩
    cases hm : mk e1 with
    | fail => rw [hm] at z2; exact z2.elim
    | exc y e2 => exact absurd hm (hk.calm _ _ _)
    | ok y e2 =>
      have e3 := hk.only _ _ _ hm
      subst e3
      rw [hm] at z2
      cases x with
      | v _ => exact z2.elim
      | r i p =>
        obtain ⟨os, qo, q1, yo, hv, _, ⟨o, hat, hsb⟩, hf, hP⟩ := mtFin_go (show (mtFin f (.r i p) [y] e2).wp _ _ from z2)
        cases y with
        | r _ _ => unfold vals at hv; cases hv
        | v y1 =>
          obtain ⟨d, hd⟩ := hk.frz _ _ _ hm
          subst hd
          refine ⟨d, rfl, fun w1 rw1 => ?_⟩
          unfold vals vals at hv
          cases hv
          obtain ⟨ef, w, hw, h0, hp⟩ := A.val
          subst ef
          exact ⟨F, σ, e2, fp1, [], i, w, o, p, qo, _, q1, yo, A.rel, List.nodup_nil, (fun _ z => nomatch z), hw, hat, hsb, hp o qo hat hsb, by unfold RepOs; exact ⟨w1, [], [], [], rfl, rfl, ⟨rfl, rw1⟩, by unfold RepOs; exact ⟨rfl, rfl⟩⟩, hf,
            fun yv H3 gy fp3 R3 ry gn gd st kF => hP o hat yv H3 fp3 gy ⟨R3, ry, gn, gd, A.stb.trans st, fun x hx => (kF x hx).trans (A.kF x hx)⟩⟩
theorem tR_mt0 {K : PySem.W.Frag} {σ : L2.St} {H : Hp} {Q : VK} (h : tR K W (mMt f rc []) σ H Q) : tR K W rc σ H fun v H1 => tyV K "list" v H1 ∧ rMt K f v [] H1 Q := by
  obtain ⟨F, e, fp, R, q⟩ := h
  refine ⟨F, e, fp, R, wp_mono (wp_bind q) (fun x e1 z v H1 fp1 fv A => ?_) fun _ _ z => z⟩
  unfold mtAt at z
  cases ho : x.isOl e1 with
  | false => rw [ho] at z; exact z.elim
  | true =>
    rw [ho] at z
    refine ⟨isOl_go A ho, ?_⟩
    cases x with
    | v _ => exact z.elim
    | r i p =>
      obtain ⟨os, qo, q1, yo, hv, _, ⟨o, hat, hsb⟩, hf, hP⟩ := mtFin_go (show (mtFin f (.r i p) [] e1).wp _ _ from z)
      unfold vals at hv
      cases hv
      obtain ⟨ef, w, hw, h0, hp⟩ := A.val
      subst ef
      exact ⟨F, σ, e1, fp1, [], i, w, o, p, qo, _, q1, yo, A.rel, List.nodup_nil, (fun _ z => nomatch z), hw, hat, hsb, hp o qo hat hsb, by unfold RepOs; exact ⟨rfl, rfl⟩, hf,
        fun yv H3 gy fp3 R3 ry gn gd st kF => hP o hat yv H3 fp3 gy ⟨R3, ry, gn, gd, A.stb.trans st, fun x hx => (kF x hx).trans (A.kF x hx)⟩⟩
/-- the methods' rules -/
theorem m_append : MtR X "list.append" (rMt X.K fAppend) := fun pins s σ H x xs v us Q I rx rxs h => mt_append pins s σ H x xs v us Q I rx rxs (mt_app_go h)
theorem m_pop : MtR X "list.pop" (rMt X.K fPop) := fun pins s σ H x xs v us Q I rx rxs h => mt_pop pins s σ H x xs v us Q I rx rxs (mt_pop_go h)
theorem m_popAt : MtR X "list.pop" (rMt X.K fPopAt) := fun pins s σ H x xs v us Q I rx rxs h => mt_popAt pins s σ H x xs v us Q I rx rxs (mt_popAt_go h fun a ws ha => (I.lstM ha).1)
theorem e_append (hr : Rooty rc) (ho : PE X o (tR X.K W rc)) (ha : PA X [a] (tA X.K W (mArgs ms)))
    (hbase : attributeBase o "append" X.env (eval o X.env) = eval o X.env := by rfl) (hline : (apos.endLine == cpos.line) = true := by rfl) (hst : starEach [a] X.env = (false, eval a X.env) :: starEach [] X.env := by rfl)
    (hfew : ((backTo cpos (starEach [a] X.env)).all (fun x => !x.1) && (backToKw cpos (keywordEach [] X.env)).all (fun x => x.1.isSome) && decide ([a].length + ([] : List Keyword).length + (if ([] : List Keyword).isEmpty then 0 else 1) < 30)) = true := by rfl) :
    PE X (.Call (.Attribute o "append" apos) [a] [] cpos) (tR X.K W (mMt fAppend rc ms)) :=
  (pe_bm PySem.F.plainAttrs_list PySem.F.slot_list_append PySem.F.type_list_append m_append ho ha hbase hfew hline hst).to fun _ _ _ h => tR_mt hr h
theorem e_appendS {mk : Ev OR} (ho : PE X o (tR X.K W rc)) (hk : Smp X a mk)
    (hbase : attributeBase o "append" X.env (eval o X.env) = eval o X.env := by rfl) (hline : (apos.endLine == cpos.line) = true := by rfl) (hst : starEach [a] X.env = (false, eval a X.env) :: starEach [] X.env := by rfl)
    (hfew : ((backTo cpos (starEach [a] X.env)).all (fun x => !x.1) && (backToKw cpos (keywordEach [] X.env)).all (fun x => x.1.isSome) && decide ([a].length + ([] : List Keyword).length + (if ([] : List Keyword).isEmpty then 0 else 1) < 30)) = true := by rfl) :
    PE X (.Call (.Attribute o "append" apos) [a] [] cpos) (tR X.K W (mMt fAppend rc [mk])) :=
  (pe_bm PySem.F.plainAttrs_list PySem.F.slot_list_append PySem.F.type_list_append m_append ho (pa_cons hk.pe pa_nil hst) hbase hfew hline hst).to fun _ _ _ h => tR_mtS hk h
theorem e_popAt (hr : Rooty rc) (ho : PE X o (tR X.K W rc)) (ha : PA X [a] (tA X.K W (mArgs ms)))
    (hbase : attributeBase o "pop" X.env (eval o X.env) = eval o X.env := by rfl) (hline : (apos.endLine == cpos.line) = true := by rfl) (hst : starEach [a] X.env = (false, eval a X.env) :: starEach [] X.env := by rfl)
    (hfew : ((backTo cpos (starEach [a] X.env)).all (fun x => !x.1) && (backToKw cpos (keywordEach [] X.env)).all (fun x => x.1.isSome) && decide ([a].length + ([] : List Keyword).length + (if ([] : List Keyword).isEmpty then 0 else 1) < 30)) = true := by rfl) :
    PE X (.Call (.Attribute o "pop" apos) [a] [] cpos) (tR X.K W (mMt fPopAt rc ms)) :=
  (pe_bm PySem.F.plainAttrs_list PySem.F.slot_list_pop PySem.F.type_list_pop m_popAt ho ha hbase hfew hline hst).to fun _ _ _ h => tR_mt hr h
theorem e_pop (ho : PE X o (tR X.K W rc)) (hbase : attributeBase o "pop" X.env (eval o X.env) = eval o X.env := by rfl) (hline : (apos.endLine == cpos.line) = true := by rfl) :
    PE X (.Call (.Attribute o "pop" apos) [] [] cpos) (tR X.K W (mMt fPop rc [])) :=
  (pe_bm0 PySem.F.plainAttrs_list PySem.F.slot_list_pop PySem.F.type_list_pop m_pop ho hbase hline).to fun _ _ _ h => tR_mt0 h
end
end Ev
end
section
set_option Elab.async false
set_option linter.all false
set_option maxRecDepth 100000
namespace Ev
open PySem PySem.Spec PyProof.Rows L2
/-! ### several stores at once -/
def setSt : List Nat → List V → St → St
  | i :: is, v :: vs, σ => setSt is vs (σ.set i (some v))
  | _, _, σ => σ
section
variable {K : PySem.W.Frag} {W : XP} {F : Addr → Prop} {H H1 H2 H3 H4 : Hp} {N N' : Addr → Prop} {σ σ1 σ2 σ3 : St} {e e0 e1 e2 e3 : Env} {fp fp1 fp2 fp3 fv fw fa : List Addr} {v w : V} {vs ws : List V} {o q y : O} {i : Nat} {x : OR} {xs : List OR} {os acc : List O} {a D : Addr} {io : List Nat}
theorem Rel.storeAll : ∀ (is : List Nat) (os : List O) (vs : List V) (fv : List Addr) (σ : St) (e : Env) (fp : List Addr) (F : Addr → Prop) (e' : Env), Rel K (Fp F fv) H σ e fp → RepOs K H (Fp (Fp F fv) fp) vs os fv → fv.Nodup → (∀ a ∈ fv, ¬ F a) → setAll io is os e = some e' →
    IoS io σ (setSt is vs σ) ∧ ∃ fp2, Rel K F H (setSt is vs σ) e' fp2 ∧ ∀ a, Fp F fp2 a → Fp (Fp F fv) fp a
  | [], [], vs, fv, σ, e, fp, F, e', R, r, hn, hd, h => by
    unfold setAll at h
    cases h
    unfold RepOs at r
    rw [r.1]
    exact ⟨IoS.refl, fp, R.shrink fun a z => .inl z, fun a z => z.imp .inl id⟩
  | i :: is, o :: os, vs, fv, σ, e, fp, F, e', R, r, hn, hd, h => by
    unfold setAll at h
    split at h
    · cases h
    · rename_i hc
      unfold RepOs at r
      obtain ⟨v, vr, f1, f2, e1, e2, a, b⟩ := r
      subst e1 e2
      obtain ⟨n1, n2, n3⟩ := List.nodup_append.mp hn
      have eq : Fp (Fp (Fp F f2) f1) fp = Fp (Fp F (f1 ++ f2)) fp := by rw [Fp.comm_eq (F := F), Fp.app_eq (F := F)]
      obtain ⟨fp2, R2, h2⟩ := Rel.store (F := Fp F f2) (fv := f1) (v := v) (o := o) (by rw [Fp.comm_eq (F := F), Fp.app_eq (F := F)]; exact R) (by rw [eq]; exact a) n1 (fun x hx z => by
        rcases z with z | z
        · exact hd x (by simp [hx]) z
        · exact n3 x hx x z rfl) i
      rw [eq] at h2
      obtain ⟨s, fp3, R3, h3⟩ := Rel.storeAll is os vr f2 (σ.set i (some v)) (e.set i (some o)) fp2 F e' R2 (RepOs.mono (Stb.same h2) os vr f2 (fun _ _ => rfl) b) n2 (fun x hx => hd x (by simp [hx])) h
      refine ⟨IoS.trans (fun j hj => ?_) s, fp3, R3, fun a z => h2 a (h3 a z)⟩
      rw [List.getElem?_set_ne]
      intro y
      subst y
      exact hc (List.contains_iff_mem.mpr hj)
  | [], _ :: _, _, _, _, _, _, _, _, _, _, _, _, h => by unfold setAll at h; cases h
  | _ :: _, [], _, _, _, _, _, _, _, _, _, _, _, h => by unfold setAll at h; cases h
theorem setAll_len : ∀ (is : List Nat) (os : List O) (e e' : Env), setAll io is os e = some e' → is.length = os.length
  | [], [], _, _, _ => rfl
  | i :: is, o :: os, e, e', h => by
    unfold setAll at h
    split at h
    · cases h
    · rw [List.length_cons, List.length_cons, setAll_len is os _ e' h]
  | [], _ :: _, _, _, h => by unfold setAll at h; cases h
  | _ :: _, [], _, _, h => by unfold setAll at h; cases h
theorem par_read {is : List Nat} {ms : List (Ev OR)} {D : Ends} (h : tSv K W io (sPar io is ms) D σ H) : tA K W (mArgs ms) σ H fun vs H1 => vs.length = is.length ∧ ∀ H2, (∀ a u, H1 a = some u → H2 a = some u) → D.nx (setSt is vs σ) H2 := by
  obtain ⟨F, e, fp, R, q⟩ := h
  refine ⟨F, e, fp, R, wp_mono (wp_bind q) (fun xs e1 z vs H1 fp1 fv A => ?_) fun x e1 z H1 fp1 G => z σ H1 fp1 IoS.refl G⟩
  cases hv : vals xs with
  | none => rw [hv] at z; exact z.elim
  | some os =>
    rw [hv] at z
    dsimp only at z
    cases hs : setAll io is os e1 with
    | none => rw [hs] at z; exact z.elim
    | some e2 =>
      rw [hs] at z
      have r := vals_rep xs vs fv os A.val hv
      refine ⟨by rw [setAll_len is os e1 e2 hs]; exact RepOs.length _ _ _ r, fun H2 hg => ?_⟩
      obtain ⟨s, fp2, R2, h2⟩ := Rel.storeAll is os vs fv σ e1 fp1 F e2 A.rel r A.nod A.dis hs
      have G : Gone K F H fp (setSt is vs σ) H1 e2 fp2 := ⟨R2, A.stb.weak h2, A.kF⟩
      exact z (setSt is vs σ) H2 fp2 s (G.grow hg)
end
section
variable {X : Cx} {W : XP} {io : List Nat} {a b c : Expr} {ms : List (Ev OR)} {pos px py pz pt pt2 : Pos} {kt k2 : Nat}
theorem s_par2 (i j : Nat) {x y : Str} (hc : X.calm = true) (hn : X.N.Nodup) (ha : PA X [a, b] (tA X.K W (mArgs ms))) (hi : X.N[i]? = some x) (hj : X.N[j]? = some y) (hij : i ≠ j) (hx : X.env.scope.names.lookup x = some .local) (hy : X.env.scope.names.lookup y = some .local)
    (hw : swappedStores [.Tuple [.Name x px, .Name y py] kt pt] (.Tuple [a, b] k2 pt2) X.env = pure (some [x, y])) (hs : swapsWithSole [.Tuple [.Name x px, .Name y py] kt pt] (.Tuple [a, b] k2 pt2) pos.line X.env = pure false := by rfl) :
    PS X (.Assign [.Tuple [.Name x px, .Name y py] kt pt] (.Tuple [a, b] k2 pt2) pos) (tSv X.K W io (sPar io [i, j] ms)) := (ps_par hc hn hi hj hij hx hy ha hw hs).to fun D σ H h => by
  obtain ⟨F, e, fp, R, q⟩ := par_read h
  refine ⟨F, e, fp, R, wp_mono q (fun xs e1 z vs H1 fp1 fv A => ?_) fun _ _ z => z⟩
  obtain ⟨hl, hn⟩ := z vs H1 fp1 fv A
  match vs, hl, hn with
  | [v, w], _, hn => exact ⟨v, w, rfl, hn H1 fun _ _ z => z⟩
theorem s_par3 (i j l : Nat) {x y z : Str} (hc : X.calm = true) (hn : X.N.Nodup) (ha : PA X [a, b, c] (tA X.K W (mArgs ms))) (hi : X.N[i]? = some x) (hj : X.N[j]? = some y) (hl : X.N[l]? = some z) (hij : i ≠ j) (hil : i ≠ l) (hjl : j ≠ l)
    (hx : X.env.scope.names.lookup x = some .local) (hy : X.env.scope.names.lookup y = some .local) (hz : X.env.scope.names.lookup z = some .local)
    (hw : swappedStores [.Tuple [.Name x px, .Name y py, .Name z pz] kt pt] (.Tuple [a, b, c] k2 pt2) X.env = pure (some [x, y, z])) (hs : swapsWithSole [.Tuple [.Name x px, .Name y py, .Name z pz] kt pt] (.Tuple [a, b, c] k2 pt2) pos.line X.env = pure false := by rfl) :
    PS X (.Assign [.Tuple [.Name x px, .Name y py, .Name z pz] kt pt] (.Tuple [a, b, c] k2 pt2) pos) (tSv X.K W io (sPar io [i, j, l] ms)) := (ps_par3 hc hn hi hj hl hij hil hjl hx hy hz ha hw hs).to fun D σ H h => by
  obtain ⟨F, e, fp, R, q⟩ := par_read h
  refine ⟨F, e, fp, R, wp_mono q (fun xs e1 z vs H1 fp1 fv A => ?_) fun _ _ z => z⟩
  obtain ⟨hl, hn⟩ := z vs H1 fp1 fv A
  match vs, hl, hn with
  | [u, v, w], _, hn => exact ⟨u, v, w, rfl, hn H1 fun _ _ z => z⟩
/-- with names that blocks see: by a tuple -/
def gNames : List Nat → TGs
  | [] => gNil
  | i :: is => gCons (gName i) (gNames is)
theorem gNames_go {Q : L2.St → Hp → Prop} : ∀ {is : List Nat} {vs : List V} {σ : L2.St} {H : Hp}, vs.length = is.length → Q (setSt is vs σ) H → gNames is vs σ H Q
  | [], [], σ, H, _, q => ⟨rfl, q⟩
  | i :: is, v :: vs, σ, H, hl, q => ⟨v, vs, rfl, gNames_go (is := is) (by simpa using hl) q⟩
  | [], _ :: _, _, _, hl, _ => nomatch hl
  | _ :: _, [], _, _, hl, _ => nomatch hl
theorem gn_nil : PGs X [] (gNames []) := pgs_nil
theorem gn_cons (i : Nat) {x : Str} {es : List Expr} {is : List Nat} (hn : X.N.Nodup) (hr : PGs X es (gNames is)) (hN : X.N[i]? = some x) (hx : Loc X.env.scope x) (hf : X.fn x = true ∨ X.env.scope.names.lookup x = some .local := by first | exact .inl rfl | exact .inr rfl | assumption) : PGs X (.Name x px :: es) (gNames (i :: is)) :=
  pgs_cons (pg_name hn hN hx hf) hr
theorem s_parT {es vs : List Expr} {is : List Nat} (hc : X.calm = true) (hg : PGs X es (gNames is)) (ha : PA X vs (tA X.K W (mArgs ms))) (hlen : is.length ≤ 1000 := by decide) (hw : swappedStores [.Tuple es kt pt] (.Tuple vs k2 pt2) X.env = pure none := by rfl) (hs : swapsWithSole [.Tuple es kt pt] (.Tuple vs k2 pt2) pos.line X.env = pure false := by rfl)
    (h1 : (assignEach [.Tuple es kt pt] X.env).map (·.2) = [assign (.Tuple es kt pt) X.env] := by rfl) (hn : (assignEach es X.env).length = is.length := by rfl) (hst : (assignEach es X.env).findIdx? (·.1) = none := by rfl) :
    PS X (.Assign [.Tuple es kt pt] (.Tuple vs k2 pt2) pos) (tSv X.K W io (sPar io is ms)) := (ps_asg (pe_tup ha) (pg_tup hc hg hn hst) hs hw h1).to fun D σ H h => by
  obtain ⟨F, e, fp, R, q⟩ := par_read h
  refine ⟨F, e, fp, R, wp_mono q (fun xs e1 z vs H1 fp1 fv A => ?_) fun _ _ z => z⟩
  obtain ⟨hl, hn⟩ := z vs H1 fp1 fv A
  refine ⟨by rw [hl]; exact Nat.le_trans hlen (by decide), fun p hp => ⟨p, vs, rfl, SqT.of upd_same, hl, gNames_go hl (hn _ (upd_stb (N := F) hp))⟩⟩
end
/-! ### slices -/
def tP (K : PySem.W.Frag) (W : XP) (m : Ev OR) : TO := fun σ H Q => tR K W m σ H fun v H1 => (v = .non → Q none H1) ∧ ∀ i, v = .int i → Q (some i) H1
theorem _root_.L2.PO.to {X : Cx} {e : Option Expr} {t t' : TO} (h : PO X e t) (q : ∀ σ H Q, t' σ H Q → t σ H Q) : PO X e t' := ⟨fun pins s σ H Q I z => h.run pins s σ H Q I (q σ H Q z)⟩
section
variable {X : Cx} {W : XP} {m ma mb mc mk : Ev OR} {a k : Expr} {lo hi : Option Expr} {pos p2 : Pos}
theorem tR_non {K : PySem.W.Frag} {σ : L2.St} {H : Hp} {Q : VK} (h : tR K W (mC .non) σ H Q) : Q .non H := by
  obtain ⟨F, e, fp, R, q⟩ := h
  exact q .non H fp [] (Af.now R ⟨rfl, by unfold Rep; rfl⟩)
theorem tR_int {K : PySem.W.Frag} {σ : L2.St} {H : Hp} {Q : VK} (h : tR K W (mInt m) σ H Q) : tR K W m σ H fun v H1 => ∃ i, v = .int i ∧ Q (.int i) H1 := by
  obtain ⟨F, e, fp, R, q⟩ := h
  refine ⟨F, e, fp, R, wp_mono (wp_bind q) (fun x e1 z v H1 fp1 fv A => ?_) fun _ _ z => z⟩
  cases x with
  | r _ _ => exact z.elim
  | v o =>
    cases o with
    | fr d =>
      cases d with
      | int i =>
        have ev := A.int
        subst ev
        exact ⟨i, rfl, z _ H1 fp1 fv A⟩
      | _ => exact z.elim
    | _ => exact z.elim
theorem o_none : PO X none (tP X.K W (mC .non)) := po_none.to fun σ H Q h => (tR_non h).1 rfl
theorem o_some (h : PE X a (tR X.K W m)) : PO X (some a) (tP X.K W (mInt m)) := (po_some h).to fun σ H Q h => by
  obtain ⟨F, e, fp, R, q⟩ := tR_int h
  refine ⟨F, e, fp, R, wp_mono q (fun x e1 z v H1 fp1 fv A => ?_) fun _ _ z => z⟩
  obtain ⟨i, e2, h1, h2⟩ := z v H1 fp1 fv A
  exact ⟨i, e2, h2 i rfl⟩
def partV : Option Int → V
  | none => .non
  | some i => .int i
theorem ix_part {K : PySem.W.Frag} {H : Hp} {N : Addr → Prop} {l : Option Int} {d : D} {j : Option Int} (r : Rep1 K H N (partV l) d) (h : d.ix? = some j) : l = j := by
  cases d with
  | int i =>
    have := rep1_int r
    cases h
    cases l with
    | none => cases this
    | some k => cases this; rfl
  | non =>
    have := rep1_non r
    cases h
    cases l with
    | none => rfl
    | some k => cases this
  | _ => cases h
theorem sl_go {K : PySem.W.Frag} {x : V} {l u : Option Int} {H : Hp} {Q : VK} (h : rOp K fSlice [x, partV l, partV u] H Q) : rSlL K x l u H Q ∨ rSlA K x l u H Q := by
  obtain ⟨N, ds, o, hn, r, hf, q⟩ := h
  match ds, r, hf with
  | [d, a, b], r, hf =>
    obtain ⟨v, w, z, e, r1, r2, r3⟩ := r.three
    cases e
    unfold fSlice at hf
    obtain ⟨lo, h1, hf⟩ := Option.bind_eq_some_iff.mp hf
    obtain ⟨hi, h2, hf⟩ := Option.bind_eq_some_iff.mp hf
    have e1 := ix_part r2 h1
    have e2 := ix_part r3 h2
    subst e1 e2
    cases d with
    | lst xs =>
      cases hf
      obtain ⟨p, ws, e, f, g⟩ := rep1_lst r1
      subst e
      refine .inl ⟨p, ws, rfl, .inl f, fun p' hp' => q _ _ [p'] ?_⟩
      have g2 := (g.drop (sIx xs.length 0 l)).take (sIx xs.length xs.length u - sIx xs.length 0 l)
      have hl := Reps.length g
      unfold cutL
      have := New.lst hn hp' g2
      rw [← hl] at this ⊢
      exact this
    | tup xs =>
      cases hf
      obtain ⟨p, ws, e, f, g⟩ := rep1_tup r1
      subst e
      have hl := Reps.length g
      refine .inr ⟨p, ws, rfl, f.sq, fun hw => q _ _ [] ?_, fun _ p' hp' => q _ _ [] ?_⟩
      · have e3 : cutL xs l u = xs := by
          unfold cutL
          rw [hl] at hw
          have h1 : sIx xs.length 0 l = 0 := hw.1
          have h2 : sIx xs.length xs.length u = xs.length := hw.2
          rw [h1, h2, List.drop_zero, Nat.sub_zero, List.take_length]
        rw [e3]
        exact New.keep (by unfold Rep; exact ⟨p, ws, rfl, f, g⟩)
      · have g2 := (g.drop (sIx xs.length 0 l)).take (sIx xs.length xs.length u - sIx xs.length 0 l)
        unfold cutL
        have := New.tup hn hp' g2
        rw [← hl] at this ⊢
        exact this
    | _ => cases hf
  | [], _, hf => cases hf
  | [_], _, hf => cases hf
  | [_, _], _, hf => cases hf
  | _ :: _ :: _ :: _ :: _, _, hf => cases hf
theorem e_slice (ha : PE X a (tR X.K W ma)) (hl : PO X lo (tP X.K W mb)) (hu : PO X hi (tP X.K W mc)) : PE X (.Subscript a (.Slice lo hi none p2) pos) (tR X.K W (mOp fSlice [ma, mb, mc])) :=
  (pe_slice (sl_list.or sl_tupA) ha hl hu).to fun σ H Q h => by
    obtain ⟨F, e, fp, R, q⟩ := tA_cons (tR_op h)
    refine ⟨F, e, fp, R, wp_mono q (fun x e1 z v H1 fp1 fv A => ?_) fun _ _ z => z⟩
    obtain ⟨F2, e2, fp2, R2, q2⟩ := tA_cons (z v H1 fp1 fv A)
    refine ⟨F2, e2, fp2, R2, wp_mono q2 (fun x e3 z w H2 fp3 fw A2 => ?_) fun _ _ z => z⟩
    have last : ∀ l : Option Int, w = partV l → tP X.K W mc σ H2 fun u H3 => rSlL X.K v l u H3 Q ∨ rSlA X.K v l u H3 Q := fun l hl => by
      obtain ⟨F4, e4, fp4, R4, q4⟩ := tA_last (z w H2 fp3 fw A2)
      refine ⟨F4, e4, fp4, R4, wp_mono q4 (fun x e5 z w2 H5 fp5 fw5 A5 => ?_) fun _ _ z => z⟩
      have z2 := z w2 H5 fp5 fw5 A5
      subst hl
      exact ⟨fun e => sl_go (u := none) (by subst e; exact z2), fun i e => sl_go (u := some i) (by subst e; exact z2)⟩
    exact ⟨fun e => last none e, fun i e => last (some i) e⟩
end
end Ev
end
section
set_option Elab.async false
set_option linter.all false
set_option maxRecDepth 100000
namespace Ev
open PySem PySem.Spec PyProof.Rows L2
section
variable {K : PySem.W.Frag} {W : XP} {F : Addr → Prop} {H H1 H2 H3 H4 : Hp} {N N' : Addr → Prop} {σ σ1 σ2 σ3 : St} {e e0 e1 e2 e3 : Env} {fp fp1 fp2 fp3 fv fw fa : List Addr} {v w : V} {o q y : O} {i : Nat} {x : OR} {xs : List OR} {a : Addr} {io : List Nat}
theorem ixN_lt {n k : Nat} {i : Int} (h : ixN n i = some k) : k < n := by
  unfold ixN at h
  split at h
  · split at h
    · cases h; omega
    · cases h
  · split at h
    · cases h; omega
    · cases h
theorem RepOk.snoc {k : Key} : ∀ (os : List (Key × O)) (ws : List (Key × V)) (f g : List Addr), RepOk K H N ws os f → RepO K H N w y g → RepOk K H N (ws ++ [(k, w)]) (os ++ [(k, y)]) (f ++ g)
  | [], ws, f, g, h, r => by
    unfold RepOk at h
    rw [h.1, h.2, List.nil_append, List.nil_append, List.nil_append]
    unfold RepOk
    exact ⟨w, [], g, [], rfl, (List.append_nil _).symm, r, by unfold RepOk; exact ⟨rfl, rfl⟩⟩
  | (j, o) :: os, ws, f, g, h, r => by
    unfold RepOk at h
    obtain ⟨v, vr, f1, f2, e1, e2, a, b⟩ := h
    subst e1 e2
    rw [List.cons_append, List.cons_append, List.append_assoc]
    unfold RepOk
    exact ⟨v, vr ++ [(k, w)], f1, f2 ++ g, rfl, rfl, a, RepOk.snoc os vr f2 g b r⟩
theorem RepOk.any {p : Key → Bool} : ∀ (os : List (Key × O)) (ws : List (Key × V)) (f : List Addr), RepOk K H N ws os f → ws.any (fun kv => p kv.1) = os.any fun kv => p kv.1
  | [], ws, f, h => by
    unfold RepOk at h
    rw [h.1]
    rfl
  | (j, o) :: os, ws, f, h => by
    unfold RepOk at h
    obtain ⟨v, vr, f1, f2, e1, e2, a, b⟩ := h
    subst e1
    rw [List.any_cons, List.any_cons, RepOk.any os vr f2 b]
theorem RepOk.len : ∀ (os : List (Key × O)) (ws : List (Key × V)) (f : List Addr), RepOk K H N ws os f → ws.length = os.length
  | [], ws, f, h => by
    unfold RepOk at h
    rw [h.1]
    rfl
  | (j, o) :: os, ws, f, h => by
    unfold RepOk at h
    obtain ⟨v, vr, f1, f2, e1, e2, a, b⟩ := h
    subst e1
    rw [List.length_cons, List.length_cons, RepOk.len os vr f2 b]
theorem RepOk.repl {k : Key} {d : D} (r : RepO K H N w (.fr d) []) : ∀ (os : List (Key × O)) (ws : List (Key × V)) (f : List Addr), RepOk K H N ws os f → ∃ f', RepOk K H N (ws.map fun kv => if kv.1 = k then (kv.1, w) else kv) (os.map fun kv => if kv.1 = k then (kv.1, .fr d) else kv) f' ∧ f'.Sublist f
  | [], ws, f, h => by
    unfold RepOk at h
    rw [h.1]
    exact ⟨[], by unfold List.map RepOk; exact ⟨rfl, rfl⟩, List.nil_sublist _⟩
  | (j, o) :: os, ws, f, h => by
    unfold RepOk at h
    obtain ⟨v, vr, f1, f2, e1, e2, a, b⟩ := h
    subst e1 e2
    obtain ⟨f', h1, h2⟩ := RepOk.repl r os vr f2 b
    rw [List.map_cons, List.map_cons]
    by_cases z : j = k
    · rw [if_pos z, if_pos z]
      refine ⟨f', ?_, h2.trans (List.sublist_append_right _ _)⟩
      unfold RepOk
      exact ⟨w, _, [], f', rfl, rfl, r, h1⟩
    · rw [if_neg z, if_neg z]
      refine ⟨f1 ++ f', ?_, List.Sublist.append (List.Sublist.refl _) h2⟩
      unfold RepOk
      exact ⟨v, _, f1, f', rfl, rfl, a, h1⟩
theorem RepOk.put {k : Key} {os os' : List (Key × O)} {ws : List (Key × V)} {f g : List Addr} (h : RepOk K H N ws os f) (r : RepO K H N w y g) (hp : kput? os k y = some os') (hf : f.Nodup) (hg : g.Nodup) (hd : ∀ x ∈ f, x ∉ g) : ∃ f', RepOk K H N (putK ws k w) os' f' ∧ f'.Nodup ∧ ∀ x ∈ f', x ∈ f ∨ x ∈ g := by
  have ha : (ws.any fun kv => decide (kv.1 = k)) = os.any fun kv => decide (kv.1 = k) := RepOk.any (p := fun j => decide (j = k)) os ws f h
  have app : ((os.any fun kv => decide (kv.1 = k)) = true → False) → os' = os ++ [(k, y)] → ∃ f', RepOk K H N (putK ws k w) os' f' ∧ f'.Nodup ∧ ∀ x ∈ f', x ∈ f ∨ x ∈ g := fun hn e => by
    subst e
    unfold putK
    rw [ha, if_neg hn]
    exact ⟨f ++ g, RepOk.snoc os ws f g h r, List.nodup_append.mpr ⟨hf, hg, fun x hx z hz e => hd x hx (e ▸ hz)⟩, fun x hx => List.mem_append.mp hx⟩
  unfold kput? at hp
  split at hp
  · rename_i d
    cases hp
    have eg : g = [] := by unfold RepO at r; exact r.1
    subst eg
    by_cases z : (os.any fun kv => decide (kv.1 = k)) = true
    · unfold kput
      rw [if_pos z]
      obtain ⟨f', h1, h2⟩ := RepOk.repl (k := k) r os ws f h
      refine ⟨f', ?_, hf.sublist h2, fun x hx => .inl (h2.subset hx)⟩
      unfold putK
      rw [ha, if_pos z]
      exact h1
    · exact app z (by unfold kput; rw [if_neg z])
  · split at hp
    · cases hp
    · rename_i z
      cases hp
      exact app z rfl
theorem RepOt.snoc {k : List Key} : ∀ (os : List (List Key × O)) (ws : List (List Key × V)) (f g : List Addr), RepOt K H N ws os f → RepO K H N w y g → RepOt K H N (ws ++ [(k, w)]) (os ++ [(k, y)]) (f ++ g)
  | [], ws, f, g, h, r => by
    unfold RepOt at h
    rw [h.1, h.2, List.nil_append, List.nil_append, List.nil_append]
    unfold RepOt
    exact ⟨w, [], g, [], rfl, (List.append_nil _).symm, r, by unfold RepOt; exact ⟨rfl, rfl⟩⟩
  | (j, o) :: os, ws, f, g, h, r => by
    unfold RepOt at h
    obtain ⟨v, vr, f1, f2, e1, e2, a, b⟩ := h
    subst e1 e2
    rw [List.cons_append, List.cons_append, List.append_assoc]
    unfold RepOt
    exact ⟨v, vr ++ [(k, w)], f1, f2 ++ g, rfl, rfl, a, RepOt.snoc os vr f2 g b r⟩
theorem RepOt.any {p : List Key → Bool} : ∀ (os : List (List Key × O)) (ws : List (List Key × V)) (f : List Addr), RepOt K H N ws os f → ws.any (fun kv => p kv.1) = os.any fun kv => p kv.1
  | [], ws, f, h => by
    unfold RepOt at h
    rw [h.1]
    rfl
  | (j, o) :: os, ws, f, h => by
    unfold RepOt at h
    obtain ⟨v, vr, f1, f2, e1, e2, a, b⟩ := h
    subst e1
    rw [List.any_cons, List.any_cons, RepOt.any os vr f2 b]
theorem RepOt.len : ∀ (os : List (List Key × O)) (ws : List (List Key × V)) (f : List Addr), RepOt K H N ws os f → ws.length = os.length
  | [], ws, f, h => by
    unfold RepOt at h
    rw [h.1]
    rfl
  | (j, o) :: os, ws, f, h => by
    unfold RepOt at h
    obtain ⟨v, vr, f1, f2, e1, e2, a, b⟩ := h
    subst e1
    rw [List.length_cons, List.length_cons, RepOt.len os vr f2 b]
theorem RepOt.repl {k : List Key} {d : D} (r : RepO K H N w (.fr d) []) : ∀ (os : List (List Key × O)) (ws : List (List Key × V)) (f : List Addr), RepOt K H N ws os f → ∃ f', RepOt K H N (ws.map fun kv => if kv.1 = k then (kv.1, w) else kv) (os.map fun kv => if kv.1 = k then (kv.1, .fr d) else kv) f' ∧ f'.Sublist f
  | [], ws, f, h => by
    unfold RepOt at h
    rw [h.1]
    exact ⟨[], by unfold List.map RepOt; exact ⟨rfl, rfl⟩, List.nil_sublist _⟩
  | (j, o) :: os, ws, f, h => by
    unfold RepOt at h
    obtain ⟨v, vr, f1, f2, e1, e2, a, b⟩ := h
    subst e1 e2
    obtain ⟨f', h1, h2⟩ := RepOt.repl r os vr f2 b
    rw [List.map_cons, List.map_cons]
    by_cases z : j = k
    · rw [if_pos z, if_pos z]
      refine ⟨f', ?_, h2.trans (List.sublist_append_right _ _)⟩
      unfold RepOt
      exact ⟨w, _, [], f', rfl, rfl, r, h1⟩
    · rw [if_neg z, if_neg z]
      refine ⟨f1 ++ f', ?_, List.Sublist.append (List.Sublist.refl _) h2⟩
      unfold RepOt
      exact ⟨v, _, f1, f', rfl, rfl, a, h1⟩
theorem RepOt.put {k : List Key} {os os' : List (List Key × O)} {ws : List (List Key × V)} {f g : List Addr} (h : RepOt K H N ws os f) (r : RepO K H N w y g) (hp : kput? os k y = some os') (hf : f.Nodup) (hg : g.Nodup) (hd : ∀ x ∈ f, x ∉ g) : ∃ f', RepOt K H N (putK ws k w) os' f' ∧ f'.Nodup ∧ ∀ x ∈ f', x ∈ f ∨ x ∈ g := by
  have ha : (ws.any fun kv => decide (kv.1 = k)) = os.any fun kv => decide (kv.1 = k) := RepOt.any (p := fun j => decide (j = k)) os ws f h
  have app : ((os.any fun kv => decide (kv.1 = k)) = true → False) → os' = os ++ [(k, y)] → ∃ f', RepOt K H N (putK ws k w) os' f' ∧ f'.Nodup ∧ ∀ x ∈ f', x ∈ f ∨ x ∈ g := fun hn e => by
    subst e
    unfold putK
    rw [ha, if_neg hn]
    exact ⟨f ++ g, RepOt.snoc os ws f g h r, List.nodup_append.mpr ⟨hf, hg, fun x hx z hz e => hd x hx (e ▸ hz)⟩, fun x hx => List.mem_append.mp hx⟩
  unfold kput? at hp
  split at hp
  · rename_i d
    cases hp
    have eg : g = [] := by unfold RepO at r; exact r.1
    subst eg
    by_cases z : (os.any fun kv => decide (kv.1 = k)) = true
    · unfold kput
      rw [if_pos z]
      obtain ⟨f', h1, h2⟩ := RepOt.repl (k := k) r os ws f h
      refine ⟨f', ?_, hf.sublist h2, fun x hx => .inl (h2.subset hx)⟩
      unfold putK
      rw [ha, if_pos z]
      exact h1
    · exact app z (by unfold kput; rw [if_neg z])
  · split at hp
    · cases hp
    · rename_i z
      cases hp
      exact app z rfl
end
/-! ### o[k] = v -/
structure SetIn (K : PySem.W.Frag) (F : Addr → Prop) (σ : St) (e : Env) (fp fv : List Addr) (i : Nat) (w : V) (o : O) (p : Path) (q : O) (d : D) (y q1 : O) (v kv yv : V) (H : Hp) (Q : Hp → Prop) : Prop where
  R : Rel K (Fp F fv) H σ e fp
  nod : fv.Nodup
  dis : ∀ a ∈ fv, ¬ F a
  sl : σ[i]? = some (some w)
  at_ : e.at i = some o
  sub : o.sub p = some q
  path : AtP H w p v
  key : Rep K H (Fp (Fp F fv) fp) kv d
  val : RepO K H (Fp (Fp F fv) fp) yv y fv
  does : q.setItem d y = some q1
  post : ∀ (H2 : Hp) (fp2 : List Addr), Rel K F H2 σ (e.set i (some (o.put p q1))) fp2 → Stb H (Fp (Fp F fv) fp) H2 (Fp F fp2) → (∀ x, F x → H2 x = H x) → Q H2
def rSet (K : PySem.W.Frag) : V → V → V → Hp → (Hp → Prop) → Prop := fun v kv yv H Q => ∃ F σ e fp fv i w o p q d y q1, SetIn K F σ e fp fv i w o p q d y q1 v kv yv H Q
section
variable {K : PySem.W.Frag} {H : Hp} {N : Addr → Prop} {v kv yv : V} {vs : List V} {Q : Hp → Prop}
def isList : HO → Bool
  | .lst _ => true
  | _ => false
theorem set_go_list (h : rSet K v kv yv H Q) (hl : ∀ a, v = .ref a → ∃ ws, H a = some (.lst ws)) : rSetL v kv yv H Q := by
  obtain ⟨F, σ, e, fp, fv, i, w, o, p, q, d, y, q1, M⟩ := h
  obtain ⟨g, rg, gn, gd, gN, up⟩ := M.R.upd M.dis M.sl M.at_ M.sub M.path
  have hf := M.does
  unfold O.setItem at hf
  split at hf
  · rename_i xs j
    obtain ⟨n, hn, e1⟩ := Option.map_eq_some_iff.mp hf
    subst e1
    unfold RepO at rg
    obtain ⟨a, ws, fq, e1, e2, ha, rs⟩ := rg
    subst e1 e2
    have hnl := ixN_lt hn
    obtain ⟨ov, A, go, B, h1, h2, h3, h4, h5⟩ := RepOs.split xs ws fq n xs[n] rs (by simp [hnl])
    subst h2
    obtain ⟨an, fqn⟩ := List.nodup_cons.mp gn
    have pm : (A ++ (go ++ B)).Perm (go ++ (A ++ B)) := List.perm_iff_count.mpr fun x => by simp only [List.count_append]; omega
    have pm2 : (A ++ (fv ++ B)).Perm (fv ++ (A ++ B)) := List.perm_iff_count.mpr fun x => by simp only [List.count_append]; omega
    obtain ⟨n1, n2, n3⟩ := List.nodup_append.mp ((List.Perm.nodup_iff pm).mp fqn)
    have aN := gN a List.mem_cons_self
    have afv : a ∉ fv := (gd a List.mem_cons_self).1
    have mem : ∀ x, x ∈ A ++ B → x ∈ A ++ (go ++ B) := fun x hx => (List.Perm.mem_iff pm).mpr (by simp [List.mem_append.mp hx])
    have ek := rep_int M.key
    subst ek
    refine ⟨a, ws, j, n, rfl, rfl, ha, by rw [RepOs.length _ _ _ rs]; exact hn, ?_⟩
    obtain ⟨fp2, R2, hN2, st, kF⟩ := up (upd H a (.lst (ws.set n yv))) (.ol (xs.set n y)) (a :: (A ++ (fv ++ B))) [] (fun x hx => upd_ne fun z => hx (by rw [z]; exact List.mem_cons_self)) (fun x hx => nomatch hx)
      (fun x hx => by
        rw [List.append_nil] at hx
        rcases List.mem_cons.mp hx with z | z
        · exact .inl (by rw [z]; exact List.mem_cons_self)
        · rcases List.mem_append.mp ((List.Perm.mem_iff pm2).mp z) with z | z
          · exact .inr z
          · exact .inl (List.mem_cons_of_mem _ (mem x z)))
      (by
        rw [List.append_nil]
        refine List.nodup_cons.mpr ⟨fun z => ?_, (List.Perm.nodup_iff pm2).mpr (List.nodup_append.mpr ⟨M.nod, n2, fun x hx z hz e => (gd x (List.mem_cons_of_mem _ (mem x (e ▸ hz)))).1 hx⟩)⟩
        rcases List.mem_append.mp ((List.Perm.mem_iff pm2).mp z) with z | z
        · exact afv z
        · exact an (mem a z))
      (fun N2 hN2 => by
        have st := stb_at (H := H) (u := .lst (ws.set n yv)) aN hN2
        unfold RepO
        refine ⟨a, ws.set n yv, A ++ (fv ++ B), rfl, rfl, upd_same, h5 _ _ yv y fv st (fun x hx => upd_ne fun z => an (mem a (z ▸ hx))) (RepO.mono st y yv fv (fun x hx => upd_ne fun z => afv (z ▸ hx)) M.val)⟩)
    rw [Fp.nil_eq] at R2 st
    exact M.post _ fp2 R2 st kF
  · rename_i kvs
    unfold RepO at rg
    obtain ⟨a, ws, fq, e1, e2, ha, rs⟩ := rg
    obtain ⟨us, hu⟩ := hl a e1
    rw [ha] at hu
    cases hu
  · unfold RepO at rg
    obtain ⟨a, ws, fq, e1, e2, ha, rs⟩ := rg
    obtain ⟨us, hu⟩ := hl a e1
    rw [ha] at hu
    cases hu
  · cases hf
theorem set_go_dict (h : rSet K v kv yv H Q) (hl : ∀ a, v = .ref a → (∃ ws, H a = some (.dK ws)) ∨ ∃ ws, H a = some (.dT ws)) : ∃ a H2, v = .ref a ∧ DPut H a kv yv H2 ∧ Q H2 := by
  obtain ⟨F, σ, e, fp, fv, i, w, o, p, q, d, y, q1, M⟩ := h
  obtain ⟨g, rg, gn, gd, gN, up⟩ := M.R.upd M.dis M.sl M.at_ M.sub M.path
  have hf := M.does
  unfold O.setItem at hf
  split at hf
  · rename_i xs j
    unfold RepO at rg
    obtain ⟨a, ws, fq, e1, e2, ha, rs⟩ := rg
    rcases hl a e1 with ⟨us, hu⟩ | ⟨us, hu⟩ <;> (rw [ha] at hu; cases hu)
  · rename_i kvs
    obtain ⟨k, hk, hf⟩ := Option.bind_eq_some_iff.mp hf
    split at hf
    · rename_i hz
      obtain ⟨kvs', hp, e1⟩ := Option.map_eq_some_iff.mp hf
      subst e1
      unfold RepO at rg
      obtain ⟨a, ws, fq, e1, e2, ha, rs⟩ := rg
      subst e1 e2
      obtain ⟨an, fqn⟩ := List.nodup_cons.mp gn
      have aN := gN a List.mem_cons_self
      have afv : a ∉ fv := (gd a List.mem_cons_self).1
      obtain ⟨f', r', n', m'⟩ := RepOk.put rs M.val hp fqn M.nod fun x hx => (gd x (List.mem_cons_of_mem _ hx)).1
      have af' : a ∉ f' := fun z => (m' a z).elim an afv
      have ek := key_rep M.key hk
      refine ⟨a, _, rfl, .inl ⟨ws, k, ha, ek, by rw [RepOk.len _ _ _ rs, ← sizeMax_eq]; exact hz, rfl⟩, ?_⟩
      obtain ⟨fp2, R2, hN2, st, kF⟩ := up (upd H a (.dK (putK ws k yv))) (.ok kvs') (a :: f') [] (fun x hx => upd_ne fun z => hx (by rw [z]; exact List.mem_cons_self)) (fun x hx => nomatch hx)
        (fun x hx => by
          rw [List.append_nil] at hx
          rcases List.mem_cons.mp hx with z | z
          · exact .inl (by rw [z]; exact List.mem_cons_self)
          · exact (m' x z).imp (List.mem_cons_of_mem _) id)
        (by rw [List.append_nil]; exact List.nodup_cons.mpr ⟨af', n'⟩)
        (fun N2 hN2 => by
          have st := stb_at (H := H) (u := .dK (putK ws k yv)) aN hN2
          unfold RepO
          exact ⟨a, putK ws k yv, f', rfl, rfl, upd_same, RepOk.mono st _ _ _ (fun x hx => upd_ne fun z => af' (z ▸ hx)) r'⟩)
      rw [Fp.nil_eq] at R2 st
      exact M.post _ fp2 R2 st kF
    · cases hf
  · rename_i kvs
    obtain ⟨k, hk, hf⟩ := Option.bind_eq_some_iff.mp hf
    split at hf
    · rename_i hz
      obtain ⟨kvs', hp, e1⟩ := Option.map_eq_some_iff.mp hf
      subst e1
      unfold RepO at rg
      obtain ⟨a, ws, fq, e1, e2, ha, rs⟩ := rg
      subst e1 e2
      obtain ⟨an, fqn⟩ := List.nodup_cons.mp gn
      have aN := gN a List.mem_cons_self
      have afv : a ∉ fv := (gd a List.mem_cons_self).1
      obtain ⟨f', r', n', m'⟩ := RepOt.put rs M.val hp fqn M.nod fun x hx => (gd x (List.mem_cons_of_mem _ hx)).1
      have af' : a ∉ f' := fun z => (m' a z).elim an afv
      obtain ⟨b, ek, hb⟩ := trk_rep M.key hk
      refine ⟨a, _, rfl, .inr ⟨ws, k, b, ha, ek, hb, by rw [RepOt.len _ _ _ rs, ← sizeMax_eq]; exact hz, rfl⟩, ?_⟩
      obtain ⟨fp2, R2, hN2, st, kF⟩ := up (upd H a (.dT (putK ws k yv))) (.ot kvs') (a :: f') [] (fun x hx => upd_ne fun z => hx (by rw [z]; exact List.mem_cons_self)) (fun x hx => nomatch hx)
        (fun x hx => by
          rw [List.append_nil] at hx
          rcases List.mem_cons.mp hx with z | z
          · exact .inl (by rw [z]; exact List.mem_cons_self)
          · exact (m' x z).imp (List.mem_cons_of_mem _) id)
        (by rw [List.append_nil]; exact List.nodup_cons.mpr ⟨af', n'⟩)
        (fun N2 hN2 => by
          have st := stb_at (H := H) (u := .dT (putK ws k yv)) aN hN2
          unfold RepO
          exact ⟨a, putK ws k yv, f', rfl, rfl, upd_same, RepOt.mono st _ _ _ (fun x hx => upd_ne fun z => af' (z ▸ hx)) r'⟩)
      rw [Fp.nil_eq] at R2 st
      exact M.post _ fp2 R2 st kF
    · cases hf
  · cases hf
theorem set_go (h : rSet K v kv yv H Q) : rSetL v kv yv H Q ∨ ∃ a H2, v = .ref a ∧ DPut H a kv yv H2 ∧ Q H2 := by
  obtain ⟨F, σ, e, fp, fv, i, w, o, p, q, d, y, q1, M⟩ := id h
  obtain ⟨g, rg, _⟩ := M.R.upd M.dis M.sl M.at_ M.sub M.path
  have hf := M.does
  unfold O.setItem at hf
  split at hf
  · refine .inl (set_go_list h fun a e1 => ?_)
    unfold RepO at rg
    obtain ⟨b, ws, fq, e2, _, ha, _⟩ := rg
    rw [e1] at e2
    cases e2
    exact ⟨ws, ha⟩
  · refine .inr (set_go_dict h fun a e1 => ?_)
    unfold RepO at rg
    obtain ⟨b, ws, fq, e2, _, ha, _⟩ := rg
    rw [e1] at e2
    cases e2
    exact .inl ⟨ws, ha⟩
  · refine .inr (set_go_dict h fun a e1 => ?_)
    unfold RepO at rg
    obtain ⟨b, ws, fq, e2, _, ha, _⟩ := rg
    rw [e1] at e2
    cases e2
    exact .inr ⟨ws, ha⟩
  · cases hf
end
section
variable {X : Cx} {W : XP} {io : List Nat} {rc mk m : Ev OR} {o k a : Expr} {pos pos' : Pos}
theorem p_set (hu : X.A.units + 1 < cLine) : PSet X (rSet X.K) := by
  intro pins s σ H o i v ov iv u Q I ro ri rv h
  rcases set_go h with h | ⟨a, H2, ev, g, q⟩
  · exact set_list pins s σ H o i v ov iv u Q I ro ri rv h
  · subst ev
    obtain rfl : ov = Value.ref a := ro
    exact d_setItem hu I g ri rv fun s4 I4 => ⟨H2, I4, q⟩
theorem setFin_go {z x y : OR} {e : Env} {P : Fl → Env → Prop} {WW : Exn → Env → Prop} (h : (setFin z x y e).wp P WW) : ∃ w i p d o q q1, z = .v w ∧ x = .r i p ∧ y = .v (.fr d) ∧ e.at i = some o ∧ o.sub p = some q ∧ q.setItem d w = some q1 ∧ P .nx (e.set i (some (o.put p q1))) := by
  unfold setFin at h
  split at h
  · rename_i w i p d hy
    have ey : y = .v (.fr d) := by
      unfold OR.fz at hy
      split at hy <;> first | (cases hy; rfl) | cases hy
    unfold upAt at h
    split at h
    · rename_i o ho
      split at h
      · rename_i q hq
        split at h
        · rename_i q1 yy hf
          obtain ⟨q2, h1, h2⟩ := Option.map_eq_some_iff.mp hf
          cases h2
          exact ⟨w, i, p, d, o, q, _, rfl, rfl, ey, ho, hq, h1, h⟩
        · exact h.elim
      · exact h.elim
    · exact h.elim
  · exact h.elim
theorem Af.pair {K : PySem.W.Frag} {F : Addr → Prop} {H H1 H2 : Hp} {σ : L2.St} {e1 e2 : Env} {fp fp1 fp2 fv fw : List Addr} {v w : V} {o : O} {x : OR} (A : Af K F H fp σ H1 e1 fp1 v (.v o) fv) (B : Af K (Fp F fv) H1 fp1 σ H2 e2 fp2 w x fw) : Af K F H fp σ H2 e2 fp2 v (.v o) fv := A.wait B.drop
/-- the last step of a store -/
theorem set_last {K : PySem.W.Frag} {F : Addr → Prop} {H H1 : Hp} {σ : L2.St} {e1 : Env} {fp fp1 fv : List Addr} {vo vk vy w : V} {y o q q1 : O} {d : D} {i : Nat} {p : Path} {D : Ends} (A : Af K F H fp σ H1 e1 fp1 vy (.v y) fv) (hs : σ[i]? = some (some w)) (hat : e1.at i = some o) (hq : o.sub p = some q) (hp : AtP H1 w p vo)
    (hk : Rep K H1 (Fp (Fp F fv) fp1) vk d) (hf : q.setItem d y = some q1) (hP : ∀ σ' H' fp', IoS io σ σ' → Gone K F H fp σ' H' (e1.set i (some (o.put p q1))) fp' → D.nx σ' H') : rSet K vo vk vy H1 fun H3 => D.nx σ H3 :=
  ⟨F, σ, e1, fp1, fv, i, w, o, p, q, d, y, q1, A.rel, A.nod, A.dis, hs, hat, hq, hp, hk, A.val, hf, fun H2 fp2 R2 st kF => hP σ H2 fp2 IoS.refl ⟨R2, A.stb.trans st, fun x hx => (kF x hx).trans (A.kF x hx)⟩⟩
theorem s_setI (hu : X.A.units + 1 < cLine) (hr : Rooty rc) (hm : PE X a (tR X.K W m)) (ho : PE X o (tR X.K W rc)) (hk : PE X k (tR X.K W mk)) (hs : swapsWithSole [.Subscript o k pos'] a pos.line X.env = pure false := by rfl) (hw : swappedStores [.Subscript o k pos'] a X.env = pure none := by rfl)
    (h1 : (assignEach [.Subscript o k pos'] X.env).map (·.2) = [assign (.Subscript o k pos') X.env] := by rfl)
    (ha : ∀ v, assign (.Subscript o k pos') X.env v = (do
      let ov ← holding [v] (eval o X.env)
      let iv ← holding [v, ov] (eval k X.env)
      standAt pos'
      holding [v, ov, iv] (setItem ov iv v)
      release [v, ov, iv] []) := by intro _; rfl) : PS X (.Assign [.Subscript o k pos'] a pos) (tSv X.K W io (sSetI rc mk m)) :=
  (ps_asg hm (pg_sub ho hk (p_set hu) ha) hs hw h1).to fun D σ H ⟨F, e, fp, R, q⟩ => by
    refine ⟨F, e, fp, R, wp_mono (wp_bind q) (fun z e1 q1 vy H1 fp1 fv A => ?_) fun x e1 z H1 fp1 G => z σ H1 fp1 IoS.refl G⟩
    cases z with
    | r _ _ => exact q1.elim
    | v y =>
      have q1 : ((rc.bind fun x => mk.bind fun yk => setFin (.v y) x yk) e1).wp (fin X.K io F H fp σ D) (finX X.K W io F H fp σ) := q1
      refine ⟨Fp F fv, e1, fp1, A.rel, ?_⟩
      have q2 := wp_bind q1
      cases hrc : rc e1 with
      | fail => rw [hrc] at q2; exact q2.elim
      | exc x e2 => rw [hrc] at q2; exact fun H2 fp2 G => q2 σ H2 fp2 IoS.refl (Gone.lift A G)
      | ok x e2 =>
        rw [hrc] at q2
        have hroot := hr e1 x e2 hrc
        intro vo H2 fp2 fo B
        refine ⟨Fp (Fp F fv) fo, e2, fp2, B.rel, wp_mono (wp_bind q2) (fun yk e3 z3 vk H3 fp3 fk C => ?_) fun x e3 z3 H3 fp3 G => z3 σ H3 fp3 IoS.refl (Gone.lift A (Gone.lift B G))⟩
        obtain ⟨w, i, p, d, ob, qo, q1', ez, ex, ey, hat, hsub, hf, hP⟩ := setFin_go z3
        cases ez
        subst ex ey
        cases p with
        | cons _ _ => cases hroot
        | nil =>
          obtain ⟨ef, w0, hw0, h0, _⟩ := B.val
          subst ef
          have ew := h0 rfl
          subst ew
          rw [Fp.nil_eq] at C
          have B' := B.drop
          have A2 := A.wait B'
          have A3 : Af X.K F H fp σ H3 e3 fp3 vy (.v y) fv := A2.wait C.drop
          have rk : Rep X.K H3 (Fp (Fp F fv) fp3) vk d := C.frz
          exact set_last (io := io) A3 hw0 hat hsub rfl rk hf hP
/-- .. the key is simple -/
theorem s_setIS (hu : X.A.units + 1 < cLine) (hm : PE X a (tR X.K W m)) (ho : PE X o (tR X.K W rc)) (hk : Smp X k mk) (hs : swapsWithSole [.Subscript o k pos'] a pos.line X.env = pure false := by rfl) (hw : swappedStores [.Subscript o k pos'] a X.env = pure none := by rfl)
    (h1 : (assignEach [.Subscript o k pos'] X.env).map (·.2) = [assign (.Subscript o k pos') X.env] := by rfl)
    (ha : ∀ v, assign (.Subscript o k pos') X.env v = (do
      let ov ← holding [v] (eval o X.env)
      let iv ← holding [v, ov] (eval k X.env)
      standAt pos'
      holding [v, ov, iv] (setItem ov iv v)
      release [v, ov, iv] []) := by intro _; rfl) : PS X (.Assign [.Subscript o k pos'] a pos) (tSv X.K W io (sSetI rc mk m)) :=
  (ps_asg hm (pg_sub ho hk.pe (p_set hu) ha) hs hw h1).to fun D σ H ⟨F, e, fp, R, q⟩ => by
    refine ⟨F, e, fp, R, wp_mono (wp_bind q) (fun z e1 q1 vy H1 fp1 fv A => ?_) fun x e1 z H1 fp1 G => z σ H1 fp1 IoS.refl G⟩
    cases z with
    | r _ _ => exact q1.elim
    | v y =>
      have q1 : ((rc.bind fun x => mk.bind fun yk => setFin (.v y) x yk) e1).wp (fin X.K io F H fp σ D) (finX X.K W io F H fp σ) := q1
      refine ⟨Fp F fv, e1, fp1, A.rel, wp_mono (wp_bind q1) (fun x e2 q2 vo H2 fp2 fo B => ?_) fun x e2 z2 H2 fp2 G => z2 σ H2 fp2 IoS.refl (Gone.lift A G)⟩
      refine ⟨Fp (Fp F fv) fo, e2, fp2, B.rel, ?_⟩
      obtain ⟨yk, hmk, z3⟩ := hk.go (F := F) (H := H) (H1 := H1) (σ := σ) (e := e2) (fp := fp) (fp1 := fp1) (fv := fv) (v := vo) (x := x) q2
      obtain ⟨w, i, p, d, ob, qo, q1', ez, ex, ey, hat, hsub, hf, hP⟩ := setFin_go z3
      cases ez
      subst ex ey
      refine ⟨d, hmk, fun vk rk => ?_⟩
      obtain ⟨ef, w0, hw0, h0, hp0⟩ := B.val
      subst ef
      have A2 := A.wait B.drop
      rw [Fp.nil_eq] at rk
      exact set_last (io := io) A2 hw0 hat hsub (hp0 ob qo hat hsub) rk hf hP
/-! ### new dicts, items that are owned, d.get -/
theorem e_dk : PE X (.Dict [] [] pos) (tR X.K W mDk) := pe_dnewK.to fun σ H Q ⟨F, e, fp, R, q⟩ p hp =>
  q (.ref p) _ fp [p] ((Gone.refl R).new ⟨upd_stb (N := F) hp, (by simp), fun a ha => by rw [List.mem_singleton.mp ha]; exact hp, by unfold RepO; exact ⟨p, [], [], rfl, rfl, upd_same, by unfold RepOk; exact ⟨rfl, rfl⟩⟩⟩)
theorem e_dt : PE X (.Dict [] [] pos) (tR X.K W mDt) := pe_dnewT.to fun σ H Q ⟨F, e, fp, R, q⟩ p hp =>
  q (.ref p) _ fp [p] ((Gone.refl R).new ⟨upd_stb (N := F) hp, (by simp), fun a ha => by rw [List.mem_singleton.mp ha]; exact hp, by unfold RepO; exact ⟨p, [], [], rfl, rfl, upd_same, by unfold RepOt; exact ⟨rfl, rfl⟩⟩⟩)
end
end Ev
end
section
set_option Elab.async false
set_option linter.all false
set_option maxRecDepth 100000
namespace Ev
open PySem PySem.Spec PyProof.Rows L2
/-! ### operands that are no ways into objects -/
theorem rooty_fin {α : Type} {a : Ev α} {f : α → Env → Rs OR} (h : ∀ x e y e', f x e = .ok y e' → y.root = true) : Rooty (a.bind f) := fun e x e' hx => by
  unfold Ev.bind at hx
  cases q : a e with
  | ok b e1 => rw [q] at hx; exact h b e1 x e' hx
  | exc b e1 => rw [q] at hx; cases hx
  | fail => rw [q] at hx; cases hx
theorem rooty_op {f : List D → Option O} {ms : List (Ev OR)} : Rooty (mOp f ms) := rooty_fin fun xs e y e' h => by
  split at h
  · split at h
    · cases h; rfl
    · cases h
  · cases h
theorem rooty_rd {f : List D → Option D} {ms : List (Ev OR)} : Rooty (mRd f ms) := rooty_fin fun xs e y e' h => by
  split at h
  · split at h
    · cases h; rfl
    · cases h
  · cases h
theorem subFin_root {f : O → D → Option D} {x y z : OR} {e e' : Env} (h : subFin f x y e = .ok z e') : z.root = true := by
  unfold subFin at h
  split at h
  · split at h
    · cases h; rfl
    · cases h
  · cases h
theorem rooty_sub {f : O → D → Option D} {a k : Ev OR} : Rooty (mSubG f a k) := rooty_fin fun x e y e' h => by
  unfold Ev.bind at h
  cases q : k e with
  | ok b e1 => rw [q] at h; exact subFin_root h
  | exc b e1 => rw [q] at h; cases h
  | fail => rw [q] at h; cases h
theorem rooty_call {c : FT} {f : Nat} {ms : List (Ev OR)} : Rooty (mCall c f ms) := rooty_fin fun xs e y e' h => by
  unfold callOn at h
  split at h
  · split at h
    · cases h; rfl
    · cases h
    · cases h
  · cases h
theorem tR_z {K : PySem.W.Frag} {W : XP} {m : Ev OR} {σ : L2.St} {H : Hp} {Q : VK} (h : tR K W (mZ m) σ H Q) : tR K W m σ H Q := by
  obtain ⟨F, e, fp, R, q⟩ := h
  refine ⟨F, e, fp, R, wp_mono (wp_bind q) (fun x e1 z v H1 fp1 fv A => ?_) fun _ _ z => z⟩
  cases x with
  | v o => exact z v H1 fp1 [] (A.drop.val A.frz)
  | r i p => exact z.elim
section
variable {X : Cx} {W : XP} {io : List Nat} {n : Nat} {elt tgE iter tgE1 iter1 : Expr} {ifs ifs1 : List Expr} {scope : Scope} {own : List (Str × Nat)} {own1 : List Nat} {pos spos py : Pos} {tg tg1 : Tg} {src src1 : Ev (List D)} {t t1 : Ev Bool} {m : Ev OR}
theorem s_setLcZ (i : Nat) {y : Str} (hc : X.calm = true) (hN : X.N.Nodup) (ok : BlkOk X.N X.env.scope scope own) (hi : PI X tgE iter (tI X.K W src))
    (hg : ∀ (s : Shared) (H : Hp) (C : Addr) (cl : List (Str × Addr)) (fp : List Addr), PG (X.blk s H scope (compEnvC scope cl C X.env) fp) tgE (gT X.K (ioOf n (own.map (·.2))) tg)) (ht : ∀ (s : Shared) (H : Hp) (C : Addr) (cl : List (Str × Addr)) (fp : List Addr), PTs (X.blk s H scope (compEnvC scope cl C X.env) fp) ifs (tT X.K XF t))
    (he : ∀ (s : Shared) (H : Hp) (C : Addr) (cl : List (Str × Addr)) (fp : List Addr), PE (X.blk s H scope (compEnvC scope cl C X.env) fp) elt (tR X.K XF m))
    (hsw : swapsWith (.ListComp elt [⟨tgE, iter, ifs, 0⟩] scope pos) (some (.Name y py)) spos.line X.env = pure true) (hy : X.N[i]? = some y := by rfl) (hyl : X.env.scope.names.lookup y = some .local := by rfl) (hs : ∀ x, foldedSetIterable iter X.env x = pure x := by intro _; rfl) :
    PS X (.Assign [.Name y py] (.ListComp elt [⟨tgE, iter, ifs, 0⟩] scope pos) spos) (tSv X.K W io (sAsg io (.nm i) (mZ (mComp n (own.map (·.2)) tg src t m)))) := (ps_setLc hc hN hy hyl hsw hi ok hg ht he hs).to fun _ _ _ h => asg_read (fun _ _ _ h => lc_read (tR_z h)) h
theorem s_setLc2Z (i : Nat) {y : Str} (hc : X.calm = true) (hN : X.N.Nodup) (ok : BlkOk X.N X.env.scope scope own) (hv : ∀ i ∈ own1, i ∈ own.map (·.2)) (hi : PI X tgE iter (tI X.K W src))
    (hg : ∀ (s : Shared) (H : Hp) (C : Addr) (cl : List (Str × Addr)) (fp : List Addr), PG (X.blk s H scope (compEnvC scope cl C X.env) fp) tgE (gT X.K (ioOf n (own.map (·.2))) tg)) (ht : ∀ (s : Shared) (H : Hp) (C : Addr) (cl : List (Str × Addr)) (fp : List Addr), PTs (X.blk s H scope (compEnvC scope cl C X.env) fp) ifs (tT X.K XF t))
    (hi1 : ∀ (s : Shared) (H : Hp) (C : Addr) (cl : List (Str × Addr)) (fp : List Addr), PI (X.blk s H scope (compEnvC scope cl C X.env) fp) tgE1 iter1 (tI X.K XF src1))
    (hg1 : ∀ (s : Shared) (H : Hp) (C : Addr) (cl : List (Str × Addr)) (fp : List Addr), PG (X.blk s H scope (compEnvC scope cl C X.env) fp) tgE1 (gT X.K (ioOf n own1) tg1)) (ht1 : ∀ (s : Shared) (H : Hp) (C : Addr) (cl : List (Str × Addr)) (fp : List Addr), PTs (X.blk s H scope (compEnvC scope cl C X.env) fp) ifs1 (tT X.K XF t1))
    (he : ∀ (s : Shared) (H : Hp) (C : Addr) (cl : List (Str × Addr)) (fp : List Addr), PE (X.blk s H scope (compEnvC scope cl C X.env) fp) elt (tR X.K XF m))
    (hsw : swapsWith (.ListComp elt [⟨tgE, iter, ifs, 0⟩, ⟨tgE1, iter1, ifs1, 0⟩] scope pos) (some (.Name y py)) spos.line X.env = pure true) (hy : X.N[i]? = some y := by rfl) (hyl : X.env.scope.names.lookup y = some .local := by rfl) (hs : ∀ x, foldedSetIterable iter X.env x = pure x := by intro _; rfl) (hs1 : ∀ env x, foldedSetIterable iter1 env x = pure x := by intro _ _; rfl) :
    PS X (.Assign [.Name y py] (.ListComp elt [⟨tgE, iter, ifs, 0⟩, ⟨tgE1, iter1, ifs1, 0⟩] scope pos) spos) (tSv X.K W io (sAsg io (.nm i) (mZ (mComp2 n (own.map (·.2)) own1 tg src t tg1 src1 t1 m)))) := (ps_setLc2 hc hN hy hyl hsw hi ok hv hg ht hi1 hg1 ht1 he hs hs1).to fun _ _ _ h => asg_read (fun _ _ _ h => lc2_read hv (tR_z h)) h
end
/-! ### defs that raise nothing -/
def EX0 : XD := fun _ _ _ => False
abbrev Cal (P : Program) (w : World) (K : PySem.W.Frag) (mg : Str → Option Value) (base : Heap) (k : Nat) (x : Str) (st : Stmt) (dvs : List V) (ps : List Str) (sem : List O → CR) : Prop := CallOk P w K mg base CX0 k x (defArgs st) (defBody st) (defScope st) dvs ps (spF K EX0 sem)
abbrev Bnd (x : Str) (st : Stmt) (ps : List Str) : Prop := BindsAll x (defArgs st) (defBody st) (defScope st) ps
section
variable {P : Program} {w : World} {K : PySem.W.Frag} {mg : Str → Option Value} {base : Heap}
theorem cal_ev {x : Str} {st : Stmt} {dvs : List V} {f : Addr} {fd : FuncData} {N ps : List Str} {k : Nat} {io : List Nat} {sv : Sv} (Fd : FunD K x x (defArgs st) (defBody st) (defScope st) dvs [] f fd) (hm : mg x = some (.ref f)) (S : FnScope N ps (defScope st))
    (hb : ∀ (cdv : Value) (A : Around) (outer : List PySem.Env) (s : Shared) (H : Hp) (E : XK), Room k (A.deeper (envOfC x (defScope st) s.heap.objs.size f cdv)) →
      PSs (cxOf CX0 P w K mg base N x (defScope st) f cdv A outer s H E).nox (defBody st) (tSv K XF io sv)) : Cal P w K mg base (k + 1) x st dvs ps (runF io ps.length N.length sv) :=
  ⟨f, fd, Fd, hm, fn_ev Fd S fun cdv A outer s H E hr => PSs.nox (hb cdv A outer s H E hr)⟩
theorem cal_zero {x : Str} {st : Stmt} {dvs : List V} {f : Addr} {fd : FuncData} {ps : List Str} (Fd : FunD K x x (defArgs st) (defBody st) (defScope st) dvs [] f fd) (hm : mg x = some (.ref f)) : Cal P w K mg base 0 x st dvs ps fun _ => .fail :=
  ⟨f, fd, Fd, hm, ⟨fun vs H Q E ⟨_, _, _, _, _, _, _, h⟩ => h.elim, fun A outer s H args us vs Q E _ _ _ _ ⟨_, _, _, _, _, _, _, h⟩ => h.elim⟩⟩
end
theorem room1 {k : Nat} {A : Around} (hr : Room k A) : A.units + 1 < cLine := by have := hr.units; omega
section
variable {X : Cx} {c : FT} {i k : Nat} {x : Str} {st : Stmt} {ps : List Str} {ms : List (Ev OR)} {a : Expr} {es : List Expr} {pos p : Pos}
theorem e_c (C : Cal X.prog X.w X.K X.mg X.base k x st [] ps (c i)) (hb : Bnd x st ps) (hr : Room k X.A) (hg : Gl X x) (ha : PA X (a :: es) (tA X.K XF (mArgs ms)))
    (hdb : (x == ("__debug__" : Str)) = false := by kernel_rfl) (he : starEach (a :: es) X.env = (false, eval a X.env) :: starEach es X.env := by rfl) (hpl : (backTo pos (starEach es X.env)).any (·.1) = false := by rfl) :
    PE X (.Call (.Name x p) (a :: es) [] pos) (tR X.K XF (mCall c i ms)) := e_call (E := E0) C hb hr hg L2.pass0 (fun _ _ _ _ z => z.elim) ha hdb he hpl
theorem e_c0 (C : Cal X.prog X.w X.K X.mg X.base k x st [] ps (c i)) (hb : Bnd x st ps) (hr : Room k X.A) (hg : Gl X x) (hdb : (x == ("__debug__" : Str)) = false := by kernel_rfl) :
    PE X (.Call (.Name x p) [] [] pos) (tR X.K XF (mCall c i [])) := e_call0 (E := E0) C hb hr hg L2.pass0 (fun _ _ _ _ z => z.elim) hdb
end
end Ev
namespace Ev
open PySem PySem.Spec PyProof.Rows L2
theorem gl_of {X : Cx} {x : Str} (h : X.env.kindOf x = some .globalImplicit) : Gl X x := h
end Ev
namespace Ev
open PySem PySem.Spec PyProof.Rows L2
/-! ### the head: no list stands among the module's own things -/
def noL (K : PySem.W.Frag) : Bool := K.all fun p => decide (p.2.cls ≠ .type "list")
theorem noL_ok {K : PySem.W.Frag} (h : noL K = true) {a : Addr} {o : Obj} (e : K.lookup a = some o) : o.cls ≠ .type "list" := by
  have hm : (a, o) ∈ K := by
    clear h
    induction K with
    | nil => cases e
    | cons p K ih =>
      obtain ⟨b, u⟩ := p
      rw [List.lookup_cons] at e
      split at e
      · rename_i hb
        cases e
        rw [beq_iff_eq.mp hb]
        exact List.mem_cons_self
      · exact List.mem_cons_of_mem _ (ih e)
  exact of_decide_eq_true (List.all_eq_true.mp h (a, o) hm)
abbrev AlN : Type := Bool × He.AlD
def obsN (n : Nat) (fa : List He.Fa) (fn : List He.DefD) (g : Addr → Option Obj) : AlN := (noL (He.frG g (He.asD g n)), He.obsD fa fn (He.frG g (He.asD g n)))
def hookN (n : Nat) (fa : List He.Fa) (fn : List He.DefD) : PySem.W.Hook where
  α := AlN
  obs := fun s => obsN n fa fn s.heap.get?
  val := fun _ => (true, He.valD fn)
  says := fun _ h => ∃ K : PySem.W.Frag, K.In h ∧ noL K = true ∧ He.SaysD fa fn K
  of := fun _ _ e => ⟨_, He.frG_in, congrArg Prod.fst e, congrArg Prod.snd e⟩
  keeps := fun _ _ _ ⟨K, hK, c⟩ k => ⟨K, PySem.W.Frag.In.keeps hK k, c⟩
theorem obsN_eq {n : Nat} {fa : List He.Fa} {fn : List He.DefD} {g : Addr → Option Obj} {s : Shared} (h : ∀ a, g a = s.heap.get? a) : obsN n fa fn g = (hookN n fa fn).obs s := by
  have e : g = s.heap.get? := funext h
  rw [e] <;> rfl
section
variable {P : Program} {w : World} {K : PySem.W.Frag} {mg : Str → Option Value} {base : Heap}
theorem fn_cal {x : Str} {st : Stmt} {dvs : List V} {f : Addr} {fd : FuncData} {N ps : List Str} {k : Nat} {io : List Nat} {sv : Sv} (Fd : FunD K x x (defArgs st) (defBody st) (defScope st) dvs [] f fd) (S : FnScope N ps (defScope st))
    (hb : ∀ (cdv : Value) (A : Around) (outer : List PySem.Env) (s : Shared) (H : Hp) (E : XK), Room k (A.deeper (envOfC x (defScope st) s.heap.objs.size f cdv)) →
      PSs (cxOf CX0 P w K mg base N x (defScope st) f cdv A outer s H E).nox (defBody st) (tSv K XF io sv)) : FnOk P w K mg base CX0 (k + 1) f fd ps (spF K EX0 (runF io ps.length N.length sv)) :=
  fn_ev Fd S fun cdv A outer s H E hr => PSs.nox (hb cdv A outer s H E hr)
theorem reps_ints {H : Hp} {N : Addr → Prop} : ∀ ns : List Int, Reps K H N (ns.map V.int) (ns.map D.int)
  | [] => by unfold List.map Reps; rfl
  | n :: ns => by
    rw [List.map_cons, List.map_cons]
    unfold Reps
    exact ⟨_, _, rfl, by unfold Rep; rfl, reps_ints ns⟩
theorem law_sp {sem : List O → CR} {outs : List (Option O)} {H : Hp} {a : Addr} {ns : List Int} {E : XK} (hN : noL K = true) (hS : SqL K H a (ns.map V.int)) (ht : sem [.fr (.lst (ns.map .int))] = .ok (.fr (.bl true)) outs) : spF K EX0 sem [.ref a] H (fun v _ => v = .bl true) E := by
  have hR : Rd H a (.lst (ns.map V.int)) := by
    rcases hS with h | ⟨o, its, n, hk, hc, _⟩
    · exact h
    · exact absurd hc (noL_ok hN hk)
  refine ⟨fun _ => False, [.fr (.lst (ns.map .int))], [], (fun _ z => z.elim), List.nodup_nil, (fun _ z => nomatch z), ?_, ?_⟩
  · unfold RepOs
    refine ⟨.ref a, [], [], [], rfl, rfl, ⟨rfl, ?_⟩, by unfold RepOs; exact ⟨rfl, rfl⟩⟩
    unfold Rep
    exact ⟨a, _, rfl, ⟨hR, fun z => z.elim id fun z => nomatch z⟩, reps_ints ns⟩
  · rw [ht]
    intro v H' fr fo D
    have := D.val
    unfold RepO at this
    exact rep_bl this.2
end
end Ev
end
section
set_option Elab.async false
set_option linter.all false
set_option maxRecDepth 100000
namespace Ev
open PySem PySem.Spec PyProof.Rows L2
theorem permL_map {α β : Type} (g : α → β) (l : List α) (is : List Nat) : permL (l.map g) is = (permL l is).map g := by
  unfold permL
  rw [List.map_filterMap]
  congr 1
  funext i
  rw [List.getElem?_map]
theorem permL_range {α : Type} (l : List α) : permL l (List.range l.length) = l := by
  have h : ∀ (p m : List α), permL (p ++ m) (List.range' p.length m.length) = m := by
    intro p m
    induction m generalizing p with
    | nil => rfl
    | cons x m ih =>
      unfold permL
      rw [List.length_cons, List.range'_succ, List.filterMap_cons]
      have e : (p ++ x :: m)[p.length]? = some x := by simp
      rw [e]
      have e2 := ih (p ++ [x])
      unfold permL at e2
      rw [List.append_assoc, List.length_append, List.length_singleton] at e2
      show x :: List.filterMap (fun i => (p ++ x :: m)[i]?) (List.range' (p.length + 1) m.length) = x :: m
      exact congrArg _ e2
  have := h [] l
  rw [List.range_eq_range']
  exact this
theorem permL_perm {α : Type} {l : List α} {is : List Nat} (h : is.Perm (List.range l.length)) : (permL l is).Perm l := by
  have h1 : (permL l is).Perm (permL l (List.range l.length)) := List.Perm.filterMap _ h
  rw [permL_range] at h1
  exact h1
section
variable {K : PySem.W.Frag} {W : XP} {F : Addr → Prop} {H H1 : Hp} {N : Addr → Prop} {σ : St} {e e1 : Env} {fp fp1 fv : List Addr} {vs : List V} {xs : List OR}
/-- operands one by one -/
def One (K : PySem.W.Frag) (H : Hp) (N : Addr → Prop) (σ : St) (e : Env) (t : V × OR × List Addr) : Prop := RepR' K H N σ e t.1 t.2.1 t.2.2
theorem ones_of : ∀ (xs : List OR) (vs : List V) (fv : List Addr), RepRs' K H N σ e vs xs fv → ∃ ts : List (V × OR × List Addr), vs = ts.map (·.1) ∧ xs = ts.map (·.2.1) ∧ fv = (ts.map (·.2.2)).flatten ∧ ∀ t ∈ ts, One K H N σ e t
  | [], vs, fv, h => ⟨[], h.1, rfl, h.2, (fun _ z => nomatch z)⟩
  | x :: xs, vs, fv, h => by
    obtain ⟨v, vr, f1, f2, a, b, c, d⟩ := h
    obtain ⟨ts, h1, h2, h3, h4⟩ := ones_of xs vr f2 d
    subst a b h1 h2 h3
    refine ⟨(v, x, f1) :: ts, rfl, rfl, rfl, fun t ht => ?_⟩
    rcases List.mem_cons.mp ht with e | ht
    · rw [e]; exact c
    · exact h4 t ht
theorem of_ones : ∀ ts : List (V × OR × List Addr), (∀ t ∈ ts, One K H N σ e t) → RepRs' K H N σ e (ts.map (·.1)) (ts.map (·.2.1)) (ts.map (·.2.2)).flatten
  | [], _ => ⟨rfl, rfl⟩
  | t :: ts, h => ⟨t.1, _, t.2.2, _, rfl, rfl, h t List.mem_cons_self, of_ones ts fun u hu => h u (List.mem_cons_of_mem _ hu)⟩
theorem Fp.perm {l m : List Addr} (h : l.Perm m) : Fp F l = Fp F m := funext fun a => propext (or_congr_right h.mem_iff)
/-- operands in another order -/
theorem Afs.perm (A : Afs K F H fp σ H1 e1 fp1 vs xs fv) {is : List Nat} (h : is.Perm (List.range xs.length)) : ∃ fv', Afs K F H fp σ H1 e1 fp1 (permL vs is) (permL xs is) fv' := by
  obtain ⟨ts, h1, h2, h3, h4⟩ := ones_of xs vs fv A.val
  subst h1 h2 h3
  rw [List.length_map] at h
  have pm := permL_perm h
  have pf : ((permL ts is).map (·.2.2)).flatten.Perm (ts.map (·.2.2)).flatten := (pm.map _).flatten
  refine ⟨((permL ts is).map (·.2.2)).flatten, ?_⟩
  rw [permL_map, permL_map]
  have r := of_ones (permL ts is) fun t ht => h4 t (pm.mem_iff.mp ht)
  exact ⟨by rw [Fp.perm pf]; exact A.rel, by rw [Fp.perm pf]; exact r, (List.Perm.nodup_iff pf).mpr A.nod, fun a ha => A.dis a (pf.mem_iff.mp ha), by rw [Fp.perm pf]; exact A.stb, A.kF⟩
end
/-! ### calls with keywords alone -/
/-- how keywords bind -/
def BindsKw (x : Str) (params : Arguments) (body : List Stmt) (scope : Scope) (ps ks : List Str) (is : List Nat) : Prop := ∀ (kV doc pm : Value) (an : Option Addr) (cdv ct : Value) (ws : List Value), ws.length = ks.length → bindArgs (PySem.W.fnOf x x params body scope .none kV doc pm an cdv ct) ⟨[], ks.zip ws⟩ = pure (ps.zip (permL ws is))
/-- the keywords' values -/
structure PKs (X : Cx) (kws : List Keyword) (es : List Expr) : Prop where
  eq : (backToKw ⟨0, 0, 0, 0⟩ (keywordEach kws X.env)).length = es.length
section
variable {X : Cx} {W : XP} {m m2 : Ev OR} {ms : List (Ev OR)} {a : Expr} {kws : List Keyword} {kpos : Pos} {nm : Option Str}
theorem k0 : PK X [] (tA X.K W (mArgs [])) := ⟨fun pos pins s σ H Q I h => pk_nil.run pos pins s σ H Q I (tA_nil h)⟩
theorem k1 (h : PE X a (tR X.K W m)) : PK X [⟨nm, a, kpos⟩] (tA X.K W (mArgs [m])) := ⟨fun pos pins s σ H Q I q => (pk_cons h pk_nil).run pos pins s σ H Q I (tA_last q)⟩
theorem k2 (h : PE X a (tR X.K W m)) (hr : PK X kws (tA X.K W (mArgs (m2 :: ms)))) : PK X (⟨nm, a, kpos⟩ :: kws) (tA X.K W (mArgs (m :: m2 :: ms))) := ⟨fun pos pins s σ H Q I q => (pk_cons h hr).run pos pins s σ H Q I (tA_cons q)⟩
theorem mArgs_len : ∀ (ms : List (Ev OR)) (e : Env) (xs : List OR) (e' : Env), mArgs ms e = .ok xs e' → xs.length = ms.length
  | [], e, xs, e', h => by cases h; rfl
  | [m], e, xs, e', h => by
    unfold mArgs Ev.bind at h
    cases q : m e with
    | ok x e1 => rw [q] at h; cases h; rfl
    | exc x e1 => rw [q] at h; cases h
    | fail => rw [q] at h; cases h
  | m :: m2 :: ms, e, xs, e', h => by
    rw [mArgs_cons] at h
    unfold Ev.bind at h
    cases q : m e with
    | exc x e1 => rw [q] at h; cases h
    | fail => rw [q] at h; cases h
    | ok x e1 =>
      rw [q] at h
      cases hx : x.root with
      | false => have h2 : ((match x.root with | true => (mArgs (m2 :: ms)).bind fun xs => .ret (x :: xs) | false => .fail : Ev (List OR)) e1) = .ok xs e' := h; rw [hx] at h2; cases h2
      | true =>
        have h2 : ((mArgs (m2 :: ms)).bind (fun xs => Ev.ret (x :: xs)) e1) = .ok xs e' := by
          have h3 : ((match x.root with | true => (mArgs (m2 :: ms)).bind fun xs => .ret (x :: xs) | false => .fail : Ev (List OR)) e1) = .ok xs e' := h
          rw [hx] at h3
          exact h3
        unfold Ev.bind at h2
        cases q2 : mArgs (m2 :: ms) e1 with
        | exc y e2 => rw [q2] at h2; cases h2
        | fail => rw [q2] at h2; cases h2
        | ok ys e2 =>
          rw [q2] at h2
          have := mArgs_len (m2 :: ms) e1 ys e2 q2
          cases h2
          rw [List.length_cons, this]
          rfl
theorem RepRs'.len {K : PySem.W.Frag} {H : Hp} {N : Addr → Prop} {σ : L2.St} {e : Env} : ∀ (xs : List OR) (vs : List V) (fv : List Addr), RepRs' K H N σ e vs xs fv → vs.length = xs.length
  | [], vs, fv, h => by rw [h.1]; rfl
  | x :: xs, vs, fv, h => by
    obtain ⟨v, vr, f1, f2, a, b, c, d⟩ := h
    rw [a, List.length_cons, List.length_cons, RepRs'.len xs vr f2 d]
theorem vals_perm {zs : List V} {ws : List Value} (r : Vals zs ws) : ∀ is : List Nat, Vals (permL zs is) (permL ws is)
  | [] => .nil
  | i :: is => by
    unfold permL
    rw [List.filterMap_cons, List.filterMap_cons]
    have ih := vals_perm r is
    unfold permL at ih
    cases h : zs[i]? with
    | none =>
      rw [r.none_of h]
      exact ih
    | some z =>
      obtain ⟨u, h1, h2⟩ := r.get h
      rw [h1]
      exact .cons h2 ih
variable {c : FT} {i k : Nat} {x : Str} {st : Stmt} {ps ks : List Str} {is : List Nat} {pos p : Pos}
abbrev BndK (x : Str) (st : Stmt) (ps ks : List Str) (is : List Nat) : Prop := BindsKw x (defArgs st) (defBody st) (defScope st) ps ks is
theorem e_ck (C : Cal X.prog X.w X.K X.mg X.base k x st [] ps (c i)) (hb : BndK x st ps ks is) (hr : Room k X.A) (hg : Gl X x) (hkw : PK X kws (tA X.K XF (mArgs ms))) (hp : is.Perm (List.range ms.length) := by decide) (hl : ks.length = ms.length := by rfl)
    (hall : (backToKw pos (keywordEach kws X.env)).all (·.1.isSome) = true := by rfl) (hks : (backToKw pos (keywordEach kws X.env)).filterMap (·.1) = ks := by rfl)
    (hpl : ((backTo pos (starEach [] X.env)).any (·.1) || (backToKw pos (keywordEach kws X.env)).any (·.1.isNone)) = false := by rfl) (hdb : (x == ("__debug__" : Str)) = false := by kernel_rfl) :
    PE X (.Call (.Name x p) [] kws pos) (tR X.K XF (mCallP c i is ms)) := by
  obtain ⟨f, fd, F, hm, G⟩ := C.ex
  have KB : KBn X.K fd ps 0 ks (fun _ ws => permL ws is) (fun _ zs => permL zs is) := by
    refine ⟨fun s us ws X0 l1 l2 => ?_, fun r1 r2 => vals_perm r2 is⟩
    have eu := List.eq_nil_of_length_eq_zero l1
    subst eu
    obtain ⟨oc, od, dV, kV, doc, pm, an, cdv, ct, osl, rfl, lk, hcd, hD, hK⟩ := F.ex
    rcases hD with ⟨_, rfl⟩ | ⟨e, _⟩
    · exact BindsTo.of_eq (hb kV doc pm an cdv ct ws l2)
    · exact absurd rfl e
  refine ⟨fun pins s σ H Q I h => ?_⟩
  have h2 : tA X.K XF (mArgs ms) σ H fun zs H2 => zs.length = ks.length ∧ spF X.K EX0 (c i) (permL zs is) H2 Q E0 := by
    obtain ⟨F', e, fp, R, q⟩ := h
    refine ⟨F', e, fp, R, ?_⟩
    have q2 := wp_bind q
    cases hm : mArgs ms e with
    | fail => rw [hm] at q2; exact q2.elim
    | exc y e1 => rw [hm] at q2; exact q2
    | ok xs e1 =>
      rw [hm] at q2
      have hx := mArgs_len ms e xs e1 hm
      intro vs H1 fp1 fv A
      obtain ⟨fv', A'⟩ := A.perm (is := is) (by rw [hx]; exact hp)
      exact ⟨by rw [RepRs'.len xs vs fv A.val, hx, hl], call_go A' q2 (fun r e' v H' fp' fr hP A2 => hP v H' fp' fr A2) fun y e' H' fp' hw G' => (hw H' fp' G').elim⟩
  refine wpAny_Call_Name_kw (ld_glob I hg hm ?_ hdb)
  refine PySem.W.callWith_KW0 (h₀ := X.base) I.ok.mod.kin F.kp hall (thn (hkw.run pos pins s σ H _ I h2) fun ws s2 ⟨zs, H2, I2, rz, l2, q2⟩ => ⟨I2.kIn, ?_⟩) hpl
  rw [hks]
  exact run_fnN (n := 0) (vs := []) (us := []) (E := E0) G hr KB L2.pass0 I2 .nil rz rfl l2 q2
end
end Ev
end
section
set_option Elab.async false
set_option linter.all false
set_option maxRecDepth 100000
namespace Ev
open PySem PySem.Spec PyProof.Rows L2
/-! ### a dict that waits -/
section
variable {K : PySem.W.Frag} {W : XP} {F : Addr → Prop} {H H1 H2 : Hp} {σ σ2 : St} {e e1 e2 : Env} {fp fp1 fp2 fa fv : List Addr} {acc acc2 : List (Key × O)} {D : Addr} {ws : List (Key × V)} {w : V} {y : O} {k : Key}
theorem Gone.emptyK (G : Gone K F H fp σ H1 e1 fp1) (hD : H1 D = none) : Af K F H fp σ (upd H1 D (.dK [])) e1 fp1 (.ref D) (.v (.ok [])) [D] :=
  G.new ⟨upd_stb (N := F) hD, (by simp), fun a ha => by rw [List.mem_singleton.mp ha]; exact hD, by unfold RepO; exact ⟨D, [], [], rfl, rfl, upd_same, by unfold RepOk; exact ⟨rfl, rfl⟩⟩⟩
theorem Af.dct_at (A : Af K F H fp σ H1 e1 fp1 (.ref D) (.v (.ok acc)) (D :: fa)) : ∃ ws, H1 D = some (.dK ws) ∧ ws.length = acc.length := by
  have r := A.val
  unfold RepR' RepO at r
  obtain ⟨a, ws, fq, e1, e2, ha, rs⟩ := r
  cases e1
  cases e2
  exact ⟨ws, ha, RepOk.len _ _ _ rs⟩
theorem Af.pushK (A : Af K F H fp σ H1 e1 fp1 (.ref D) (.v (.ok acc)) (D :: fa)) (B : Af K (Fp F (D :: fa)) H1 fp1 σ2 H2 e2 fp2 w (.v y) fv) (hw : H1 D = some (.dK ws)) (hp : kput? acc k y = some acc2) : ∃ fb, Af K F H fp σ2 (upd H2 D (.dK (putK ws k w))) e2 fp2 (.ref D) (.v (.ok acc2)) (D :: fb) := by
  have r := A.val
  unfold RepR' RepO at r
  obtain ⟨a, ws', fq, e3, e4, ha, rs⟩ := r
  cases e3
  cases e4
  rw [hw] at ha
  cases ha
  have nd := A.nod
  obtain ⟨nd1, nd2⟩ := List.nodup_cons.mp nd
  have dvD : ∀ a ∈ fv, a ≠ D := fun a ha z => B.dis a ha (.inr (by rw [z]; exact List.mem_cons_self))
  have r1 := RepOk.mono B.stb acc ws fa (fun a ha => B.kF a (.inr (List.mem_cons_of_mem _ ha))) rs
  obtain ⟨fb, rb, nb, hb⟩ := RepOk.put (k := k) r1 B.val hp nd2 B.nod (fun x hx z => B.dis x z (.inr (List.mem_cons_of_mem _ hx)))
  have hbD : ∀ a ∈ fb, a ≠ D := fun a ha z => by
    rcases hb a ha with h | h
    · exact nd1 (z ▸ h)
    · exact dvD a h z
  have sub : ∀ a, Fp F (D :: fb) a → Fp (Fp F (D :: fa)) fv a := fun a h => by
    rcases h with h | h
    · exact .inl (.inl h)
    · rcases List.mem_cons.mp h with h | h
      · exact .inl (.inr (by rw [h]; exact List.mem_cons_self))
      · rcases hb a h with h | h
        · exact .inl (.inr (List.mem_cons_of_mem _ h))
        · exact .inr h
  have sub2 : ∀ a, Fp (Fp F (D :: fb)) fp2 a → Fp (Fp (Fp F (D :: fa)) fv) fp2 a := fun a h => h.imp (sub a) id
  have nN : ∀ a, ¬ Fp (Fp (Fp F (D :: fa)) fv) fp2 a → a ≠ D := fun a h z => h (by rw [z]; exact .inl (.inl (.inr List.mem_cons_self)))
  have st : Stb H2 (Fp (Fp (Fp F (D :: fa)) fv) fp2) (upd H2 D (.dK (putK ws k w))) (Fp (Fp F (D :: fb)) fp2) := fun a u e n => ⟨by rw [upd_ne (nN a n)]; exact e, fun z => n (sub2 a z)⟩
  have R1 : Rel K (Fp F (D :: fb)) H2 σ2 e2 fp2 := B.rel.shrink sub
  refine ⟨fb, ?_, ?_, ?_, fun a ha z => ?_, ?_, fun a z => ?_⟩
  · refine B.rel.move st (fun a ha => upd_ne fun z => B.rel.dis a ha (.inl (.inr (by rw [z]; exact List.mem_cons_self)))) (fun a ha z => B.rel.dis a ha (sub a z)) (fun a z => ?_)
    by_cases h : a = D
    · rw [h, upd_same]; exact fun z => nomatch z
    · rw [upd_ne h]; exact B.rel.dom a (sub a z)
  · show RepO K _ _ (.ref D) (.ok acc2) (D :: fb)
    unfold RepO
    exact ⟨D, putK ws k w, fb, rfl, rfl, upd_same, RepOk.mono st acc2 _ fb (fun a ha => upd_ne (hbD a ha)) rb⟩
  · exact List.nodup_cons.mpr ⟨fun z => hbD D z rfl, nb⟩
  · rcases List.mem_cons.mp ha with h | h
    · exact A.dis a (by rw [h]; exact List.mem_cons_self) z
    · rcases hb a h with h | h
      · exact A.dis a (List.mem_cons_of_mem _ h) z
      · exact B.dis a h (.inl z)
  · exact (A.stb.trans B.stb).trans st
  · rw [upd_ne (fun h : a = D => A.dis D List.mem_cons_self (by rw [← h]; exact z))]
    exact (B.kF a (.inl z)).trans (A.kF a z)
theorem keyOf_some {x : OR} (h : keyOf x = some k) : ∃ d, x = .v (.fr d) ∧ d.key = some k := by
  unfold keyOf at h
  cases q : x.fz with
  | none => rw [q] at h; cases h
  | some d =>
    rw [q] at h
    unfold OR.fz at q
    split at q
    · cases q; exact ⟨_, rfl, h⟩
    · cases q
theorem rep_key {N : Addr → Prop} {v : V} {d : Ev.D} (r : Rep K H N v d) (h : d.key = some k) : v = kV k := by
  unfold D.key at h
  split at h
  · cases h
    unfold Rep at r
    exact r
  · cases h
    unfold Rep at r
    exact r
  · cases h
/-- the end of a comprehension that makes a dict -/
theorem dc_end {own : List Nat} {fp' : List Addr} {H' : Hp} {e' : Env} {Da : Addr} (G : Gone K F H fp σ H1 e1 fp1) (hown : own.all (frzAt e1) = true) (A : Af K F H1 fp1 (wipe σ own) H' e' fp' (.ref Da) (.v (.ok acc)) (Da :: fa)) :
    ∃ fp2, Af K F H fp σ H' (backE e1 (wipeE e' own) own) fp2 (.ref Da) (.v (.ok acc)) (Da :: fa) := by
  obtain ⟨fp3, R3, h3⟩ := A.rel.wipes own
  have R4 : Rel K (Fp F (Da :: fa)) H' σ (wipeE e' own) fp3 := R3.congr (by rw [wipe_length, wipe_length]) fun j o z => by
    have hj : j ∉ own := fun hj => by
      rcases Nat.lt_or_ge j e'.length with hz | hz
      · rw [wipeE_in hj hz] at z; cases z
      · rw [List.getElem?_eq_none (by rw [wipeE_len]; exact hz)] at z; cases z
    rw [wipe_out hj, wipe_out hj]
  obtain ⟨fp4, R5, h5⟩ := R4.backs (e0 := e1) own fun v hv => by
    have hf := List.all_eq_true.mp hown v hv
    unfold frzAt at hf
    split at hf
    · rename_i d hd
      obtain ⟨Aa, f, B, w, q1, q2, q3, _⟩ := G.rel.slot hd
      unfold RepO at q3
      exact .inr ⟨d, w, hd, q2, Rep.mono (A.stb.weak h3) _ _ q3.2⟩
    · rename_i hd
      exact .inl hd
    · cases hf
  have A2 : Af K F H1 fp1 σ H' _ fp4 (.ref Da) (.v (.ok acc)) (Da :: fa) := A.reslot R5 fun a z => h3 a (h5 a z)
  exact ⟨fp4, A2.rel, A2.val, A2.nod, A2.dis, G.stb.trans A2.stb, fun a z => (A2.kF a z).trans (G.kF a z)⟩
theorem dc_read {n : Nat} {own : List Nat} {tg : Tg} {src : Ev (List Ev.D)} {t : Ev Bool} {key elt : Ev OR} {Q : VK} (h : tR K W (mDc n own tg src t key elt) σ H Q) : tDc (tI K W src) (gT K (ioOf n own) tg) (tT K XF t) (tR K XF key) (tR K XF elt) own σ H Q := by
  obtain ⟨F, e, fp, R, q⟩ := h
  refine ⟨F, e, fp, R, wp_mono (wp_bind q) (fun ds e1 z H1 fp1 J G wd => ?_) fun _ _ z => z⟩
  intro Da hDa
  cases hck : own.all (frzAt e1) && decide (e1.length ≤ n) with
  | false => rw [hck] at z; exact z.elim
  | true =>
    rw [hck] at z
    rw [Bool.and_eq_true, decide_eq_true_eq] at hck
    have z1 := wp_bind z
    clear z
    have hlen : σ.length ≤ n := by rw [← G.rel.len]; exact hck.2
    have A0 : Af K F H1 fp1 σ (upd H1 Da (.dK [])) e1 fp1 (.ref Da) (.v (.ok [])) [Da] := Gone.emptyK (Gone.refl G.rel) hDa
    obtain ⟨fp2, R2, h2⟩ := A0.rel.wipes own
    have A1 := A0.reslot R2 h2
    refine ⟨fun i k H' => k = ds.length - i ∧ i ≤ ds.length ∧ ∃ e' fp' acc fa, Af K F H1 fp1 (wipe σ own) H' e' fp' (.ref Da) (.v (.ok acc)) (Da :: fa) ∧
      (dcGo n own tg t key elt (ds.drop i) acc e').wp (fun ys e2 => (Rs.ok (OR.v (O.ok ys)) (backE e1 (wipeE e2 own) own)).wp (fun x e' => ∀ v H' fp' fv, Af K F H fp σ H' e' fp' v x fv → Q v H') (fun x e' => ∀ H' fp', Gone K F H fp σ H' e' fp' → W x e' σ H'))
        (fun x e' => ∀ H' fp', Gone K F H fp σ H' e' fp' → W x e' σ H'), ⟨_, rfl, Nat.zero_le _, _, fp2, [], [], A1, z1⟩, ?_⟩
    rintro i k H' ⟨rfl, hle, e', fp', acc, fa, A, w'⟩
    by_cases hlt : i < ds.length
    · have hd : ds[i]? = some ds[i] := by simp [hlt]
      refine .inr ⟨wd.goes i H' _ A.stb hlt, fun H2 => ∃ e2 fp2 acc2 fa2, Af K F H1 fp1 (wipe σ own) H2 e2 fp2 (.ref Da) (.v (.ok acc2)) (Da :: fa2) ∧
        (dcGo n own tg t key elt (ds.drop (i + 1)) acc2 e2).wp (fun ys e2 => (Rs.ok (OR.v (O.ok ys)) (backE e1 (wipeE e2 own) own)).wp (fun x e' => ∀ v H' fp' fv, Af K F H fp σ H' e' fp' v x fv → Q v H') (fun x e' => ∀ H' fp', Gone K F H fp σ H' e' fp' → W x e' σ H'))
          (fun x e' => ∀ H' fp', Gone K F H fp σ H' e' fp' → W x e' σ H'), fun H2 y => ⟨_, by omega, rfl, hlt, y⟩, fun x H3 y => ?_⟩
      obtain ⟨grow, rx⟩ := wd.yields i H' _ x H3 _ A.stb A.rel.dom2 hd y
      have G3 : Gone K (Fp F (Da :: fa)) H' fp' (wipe σ own) H3 e' fp' := (Gone.refl A.rel).grow grow
      have A3 := A.wait G3
      obtain ⟨fpw, Rw, hw⟩ := A3.rel.wipes own
      rw [wipe_eq (σ := σ) (σ2 := wipe σ own) (by rw [wipe_length]) (fun j hj => wipe_out hj)] at Rw
      rw [drop_cons hd] at w'
      unfold dcGo at w'
      cases hb : tg.bind (ioOf n own) (.fr ds[i]) (wipeE e' own) with
      | none => rw [hb] at w'; exact w'.elim
      | some e3 =>
        rw [hb] at w'
        have Gw : Gone K (Fp F (Da :: fa)) H3 fp' (wipe σ own) H3 (wipeE e' own) fpw := ⟨Rw, Stb.same hw, fun _ _ => rfl⟩
        refine ⟨Fp F (Da :: fa), H3, fp', wipeE e' own, fpw, [], .fr ds[i], e3, Gw.val (Rep.mono (Stb.same hw) _ _ rx), hb, fun σ4 H4 fp4 s4 G4 => ?_⟩
        have hl4 : σ4.length = (wipe σ own).length := by rw [← G4.rel.len, bind_len _ _ _ _ hb, wipeE_len, ← A.rel.len]
        have heq : wipe σ4 own = wipe σ own := wipe_eq (by rw [hl4, wipe_length]) fun j hj => by
          rw [ioOf_out s4 (by rw [wipe_length]; exact hlen) hl4 j hj]
          exact wipe_out hj
        refine ⟨heq, Fp F (Da :: fa), e3, fp4, G4.rel, ?_⟩
        refine wp_mono (calm_bind (W' := fun _ _ => False) w') (fun b e5 z5 H5 fp5 G5 => ?_) fun _ _ z => z.elim
        have A5 := (A3.wait G4).wait G5
        cases b with
        | false =>
          refine iteF ?_
          obtain ⟨fp6, R6, h6⟩ := A5.rel.wipes own
          rw [heq] at R6
          exact ⟨_, fp6, acc, fa, A5.reslot R6 h6, z5⟩
        | true =>
          refine iteT ⟨Fp F (Da :: fa), e5, fp5, A5.rel, ?_⟩
          refine wp_mono (calm_bind (W' := fun _ _ => False) z5) (fun x6 e6 z6 v6 H6 fp6 fv6 A6 => ?_) fun _ _ z => z.elim
          split at z6
          · rename_i ky hky
            obtain ⟨dk, hdk, hdk2⟩ := keyOf_some hky
            subst hdk
            have A6' := A6
            have e6' : fv6 = [] := by have := A6.val; unfold RepR' RepO at this; exact this.1
            subst e6'
            have G6 : Gone K (Fp F (Da :: fa)) H5 fp5 σ4 H6 e6 fp6 := A6.drop
            have hv6 : v6 = kV ky := by have := A6.val; unfold RepR' RepO at this; exact rep_key this.2 hdk2
            have A7 := A5.wait G6
            refine ⟨Fp F (Da :: fa), e6, fp6, A7.rel, ?_⟩
            refine wp_mono (calm_bind (W' := fun _ _ => False) z6) (fun x8 e8 z8 v8 H8 fp8 fv8 A8 => ?_) fun _ _ z => z.elim
            cases x8 with
            | r _ _ => exact z8.elim
            | v y8 =>
              dsimp only at z8
              split at z8
              · rename_i acc2 hacc2
                split at z8
                · rename_i hsz
                  obtain ⟨ws, hws, hwl⟩ := A7.dct_at
                  obtain ⟨fb, P⟩ := A7.pushK A8 hws hacc2
                  obtain ⟨fp9, R9, h9⟩ := P.rel.wipes own
                  rw [heq] at R9
                  refine ⟨ws, ky, hv6, ?_, by rw [hwl, ← sizeMax_eq]; exact hsz, _, fp9, acc2, fb, P.reslot R9 h9, z8⟩
                  rw [A8.kF Da (.inr List.mem_cons_self)]
                  exact hws
                · exact z8.elim
              · exact z8.elim
          · exact z6.elim
    · have ei : i = ds.length := by omega
      subst ei
      rw [List.drop_length] at w'
      obtain ⟨fp2, A2⟩ := dc_end G hck.1 A
      exact .inl ⟨wd.stops H' _ A.stb, w' (.ref Da) H' fp2 _ A2⟩
end
section
variable {X : Cx} {W : XP} {m mk : Ev OR} {n : Nat} {tg : Tg} {src : Ev (List Ev.D)} {t : Ev Bool} {own : List (Str × Nat)} {scope : Scope} {tgE kx elt iter : Expr} {ifs : List Expr} {pos : Pos}
theorem e_dc (hc : X.calm = true) (hN : X.N.Nodup) (ok : BlkOk X.N X.env.scope scope own) (hi : PI X tgE iter (tI X.K W src))
    (hg : ∀ (s : Shared) (H : Hp) (C : Addr) (cl : List (Str × Addr)) (fp : List Addr), PG (X.blk s H scope (compEnvC scope cl C X.env) fp) tgE (gT X.K (ioOf n (own.map (·.2))) tg)) (ht : ∀ (s : Shared) (H : Hp) (C : Addr) (cl : List (Str × Addr)) (fp : List Addr), PTs (X.blk s H scope (compEnvC scope cl C X.env) fp) ifs (tT X.K XF t))
    (hk : ∀ (s : Shared) (H : Hp) (C : Addr) (cl : List (Str × Addr)) (fp : List Addr), PE (X.blk s H scope (compEnvC scope cl C X.env) fp) kx (tR X.K XF mk))
    (he : ∀ (s : Shared) (H : Hp) (C : Addr) (cl : List (Str × Addr)) (fp : List Addr), PE (X.blk s H scope (compEnvC scope cl C X.env) fp) elt (tR X.K XF m)) (hs : ∀ x, foldedSetIterable iter X.env x = pure x := by intro _; rfl) :
    PE X (.DictComp kx elt [⟨tgE, iter, ifs, 0⟩] scope pos) (tR X.K W (mDc n (own.map (·.2)) tg src t mk m)) := (pe_dc hc hN hi ok hg ht hk he hs).to fun _ _ _ h => dc_read h
end
/-! ### a dict with written keys -/
section
variable {K : PySem.W.Frag} {W : XP} {F : Addr → Prop} {H H0 H1 H2 : Hp} {σ σ2 : St} {e e1 e2 : Env} {fp fp1 fp2 fa fv : List Addr} {D : Addr} {w : V}
def tKy (k : Key) : TE := fun _ H Q => Q (kV k) H
def kyTrs (K : PySem.W.Frag) (W : XP) (ks : List Key) (ms : List (Ev OR)) : List (TE × TE) := List.zipWith (fun k m => (tKy k, tR K W m)) ks ms
theorem tR_mono {m : Ev OR} {Q Q' : VK} (h : tR K W m σ H Q) (q : ∀ v H', Q v H' → Q' v H') : tR K W m σ H Q' := by
  obtain ⟨F, e, fp, R, z⟩ := h
  exact ⟨F, e, fp, R, wp_mono z (fun x e1 z v H1 fp1 fv A => q _ _ (z v H1 fp1 fv A)) fun _ _ z => z⟩
theorem tPairs_mono : ∀ {trs : List (TE × TE)} {Q Q' : List (V × V) → Hp → Prop} {H : Hp}, (∀ p ∈ trs, ∃ k m, p = (tKy k, tR K W m)) → tPairs trs σ H Q → (∀ ps H', Q ps H' → Q' ps H') → tPairs trs σ H Q'
  | [], _, _, _, _, h, q => q _ _ h
  | (tk, tv) :: r, Q, Q', H, hp, h, q => by
    obtain ⟨k, m, e⟩ := hp (tk, tv) List.mem_cons_self
    cases e
    exact tR_mono h fun v H' z => tPairs_mono (fun p hp' => hp p (List.mem_cons_of_mem _ hp')) z fun ps H2 z2 => q _ _ z2
theorem kyTrs_mem {ks : List Key} {ms : List (Ev OR)} : ∀ p ∈ kyTrs K W ks ms, ∃ k m, p = (tKy k, tR K W m) := by
  unfold kyTrs
  induction ks generalizing ms with
  | nil => intro p h; cases h
  | cons k ks ih =>
    cases ms with
    | nil => intro p h; cases h
    | cons m ms =>
      intro p h
      rcases List.mem_cons.mp h with h | h
      · exact ⟨k, m, h⟩
      · exact ih p h
theorem pairs_of : ∀ (ks : List Key) (ms : List (Ev OR)) {H : Hp} {Q : List V → Hp → Prop}, ks.length = ms.length → tA K W (mArgs ms) σ H Q →
    tPairs (kyTrs K W ks ms) σ H (fun ps H2 => ∃ vs, vs.length = ks.length ∧ ps = (ks.zip vs).map (fun kv => (kV kv.1, kv.2)) ∧ Q vs H2)
  | [], [], _, _, _, h => ⟨[], rfl, rfl, tA_nil h⟩
  | [], _ :: _, _, _, hl, _ => by cases hl
  | _ :: _, [], _, _, hl, _ => by cases hl
  | [k], [m], _, _, _, h => tR_mono (tA_last h) fun v H' z => ⟨[v], rfl, rfl, z⟩
  | [_], _ :: _ :: _, _, _, hl, _ => by cases hl
  | _ :: _ :: _, [_], _, _, hl, _ => by cases hl
  | k :: k2 :: ks, m :: m2 :: ms, _, _, hl, h => tR_mono (tA_cons h) fun v H' z =>
    tPairs_mono kyTrs_mem (pairs_of (k2 :: ks) (m2 :: ms) (by simpa using hl) z) fun ps H2 ⟨vs, h1, h2, h3⟩ => ⟨v :: vs, by simp [h1], by rw [h2]; rfl, h3⟩
theorem repk_zip {N : Addr → Prop} : ∀ (ks : List Key) (xs : List OR) (vs : List V) (os : List O) (f : List Addr), ks.length = xs.length → vals xs = some os → RepRs' K H N σ e vs xs f → RepOk K H N (ks.zip vs) (ks.zip os) f
  | [], [], vs, os, f, _, hv, h => by
    cases hv
    obtain ⟨h1, h2⟩ := h
    subst h1 h2
    unfold List.zip List.zipWith RepOk
    exact ⟨rfl, rfl⟩
  | [], _ :: _, _, _, _, hl, _, _ => by cases hl
  | _ :: _, [], _, _, _, hl, _, _ => by cases hl
  | k :: ks, x :: xs, vs, os, f, hl, hv, h => by
    obtain ⟨v, vr, f1, f2, e1, e2, a, b⟩ := h
    subst e1 e2
    cases x with
    | r _ _ => cases hv
    | v o =>
      unfold vals at hv
      cases q : vals xs with
      | none => rw [q] at hv; cases hv
      | some os' =>
        rw [q] at hv
        cases hv
        show RepOk K H N ((k, v) :: ks.zip vr) ((k, o) :: ks.zip os') (f1 ++ f2)
        unfold RepOk
        exact ⟨v, _, f1, f2, rfl, rfl, a, repk_zip ks xs vr os' f2 (by simpa using hl) q b⟩
theorem merge_new : ∀ (more acc : List (Key × V)), ((acc ++ more).map Prod.fst).Nodup → mergeK acc more = acc ++ more
  | [], acc, _ => by rw [List.append_nil]; rfl
  | p :: more, acc, h => by
    show mergeK (putK acc p.1 p.2) more = _
    have hn : ¬ (acc.any fun kv => decide (kv.1 = p.1)) = true := by
      intro z
      rw [List.any_eq_true] at z
      obtain ⟨q, h1, h2⟩ := z
      rw [List.map_append, List.nodup_append] at h
      exact h.2.2 q.1 (List.mem_map_of_mem h1) p.1 (by simp) (by simpa using h2)
    have e : putK acc p.1 p.2 = acc ++ [p] := by
      unfold putK
      rw [if_neg hn]
    rw [e, merge_new more (acc ++ [p]) (by simpa using h)]
    simp
theorem zip_fstK {α β : Type} : ∀ (ks : List α) (vs : List β), vs.length = ks.length → (ks.zip vs).map Prod.fst = ks
  | [], _, _ => rfl
  | k :: ks, [], h => by cases h
  | k :: ks, v :: vs, h => by
    rw [List.zip_cons_cons, List.map_cons, zip_fstK ks vs (by simpa using h)]
theorem dsp_read {ks : List Key} {ms : List (Ev OR)} {Q : VK} (hl : ks.length = ms.length) (h15 : ks.length ≤ 15) (hk : ks.Nodup) (h : tR K W (mDsp ks ms) σ H Q) : tDisp (kyTrs K W ks ms) σ H Q := by
  obtain ⟨F, e, fp, R, q⟩ := h
  intro p hp
  have A0 : Af K F H fp σ (upd H p (.dK [])) e fp (.ref p) (.v (.ok [])) [p] := Gone.emptyK (Gone.refl R) hp
  have T : tA K W (mArgs ms) σ (upd H p (.dK [])) fun vs H2 => vs.length = ks.length → H2 p = some (.dK []) ∧ Q (.ref p) (upd H2 p (.dK (ks.zip vs))) := by
    refine ⟨Fp F [p], e, fp, A0.rel, ?_⟩
    have q' := wp_bind q
    revert q'
    cases hx : mArgs ms e with
    | fail => exact fun z => z
    | exc x e1 => exact fun z H' fp' G => z H' fp' (Gone.lift A0 G)
    | ok xs e1 =>
      intro z vs H1 fp1 fv B hvl
      have h1p : H1 p = some (.dK []) := by rw [B.kF p (.inr List.mem_cons_self)]; exact upd_same
      refine ⟨h1p, ?_⟩
      have z' : (match vals xs with | some os => Rs.ok (OR.v (.ok (ks.zip os))) e1 | none => Rs.fail).wp (fun x e' => ∀ v H' fp' fv, Af K F H fp σ H' e' fp' v x fv → Q v H') (fun x e' => ∀ H' fp', Gone K F H fp σ H' e' fp' → W x e' σ H') := z
      cases hv : vals xs with
      | none => rw [hv] at z'; exact z'.elim
      | some os =>
        rw [hv] at z'
        refine z' (.ref p) _ fp1 (p :: fv) ?_
        have eqs : Fp F (p :: fv) = Fp (Fp F [p]) fv := by rw [Fp.app_eq]; rfl
        have nN : ∀ a, ¬ Fp (Fp (Fp F [p]) fv) fp1 a → a ≠ p := fun a h z => h (by rw [z]; exact .inl (.inl (.inr List.mem_cons_self)))
        have st : Stb H1 (Fp (Fp (Fp F [p]) fv) fp1) (upd H1 p (.dK (ks.zip vs))) (Fp (Fp (Fp F [p]) fv) fp1) := fun a u e n => ⟨by rw [upd_ne (nN a n)]; exact e, n⟩
        have dvD : ∀ a ∈ fv, a ≠ p := fun a ha z => B.dis a ha (.inr (by rw [z]; exact List.mem_cons_self))
        refine ⟨?_, ?_, ?_, fun a ha z => ?_, ?_, fun a z => ?_⟩
        · rw [eqs]
          refine B.rel.move st (fun a ha => upd_ne fun z => B.rel.dis a ha (.inl (.inr (by rw [z]; exact List.mem_cons_self)))) B.rel.dis (fun a z => ?_)
          by_cases h : a = p
          · rw [h, upd_same]; exact fun z => nomatch z
          · rw [upd_ne h]; exact B.rel.dom a z
        · rw [eqs]
          show RepO K _ _ (.ref p) (.ok (ks.zip os)) (p :: fv)
          unfold RepO
          exact ⟨p, ks.zip vs, fv, rfl, rfl, upd_same, RepOk.mono st _ _ fv (fun a ha => upd_ne (dvD a ha)) (repk_zip ks xs vs os fv (by rw [hl, mArgs_len _ _ _ _ hx]) hv B.val)⟩
        · exact List.nodup_cons.mpr ⟨fun z => dvD p z rfl, B.nod⟩
        · rcases List.mem_cons.mp ha with h | h
          · exact A0.dis a (by rw [h]; exact List.mem_cons_self) z
          · exact B.dis a h (.inl z)
        · rw [eqs]
          exact (A0.stb.trans B.stb).trans st
        · rw [upd_ne (fun h : a = p => A0.dis p List.mem_cons_self (by rw [← h]; exact z))]
          exact (B.kF a (.inl z)).trans (A0.kF a z)
  refine tPairs_mono kyTrs_mem (pairs_of ks ms hl T) fun ps H2 ⟨vs, h1, h2, h3⟩ => ?_
  obtain ⟨h4, h5⟩ := h3 h1
  refine ⟨h4, ks.zip vs, h2, by rw [List.length_zip]; omega, ?_⟩
  rw [merge_new _ [] (by rw [List.nil_append, zip_fstK ks vs h1]; exact hk), List.nil_append]
  exact h5
theorem chn_read {f g : List Ev.D → Option Ev.D} {a b c : Ev OR} {Q : VK} (h : tR K W (mChn f g a b c) σ H Q) : tChain (fun x y H Q => rRd K f [x, y] H Q) (fun x y H Q => rRd K g [x, y] H Q) (tR K W a) (tR K W b) (tR K W c) σ H Q := by
  obtain ⟨F, e, fp, R, q⟩ := h
  refine ⟨F, e, fp, R, wp_mono (wp_bind q) (fun x e1 z v H1 fp1 fv A => ?_) fun _ _ z => z⟩
  refine ⟨F, e1, fp1, A.drop.rel, wp_mono (wp_bind z) (fun y e2 z2 w H2 fp2 fw B => ?_) fun y e2 z2 H2 fp2 B => z2 H2 fp2 (A.drop.trans B)⟩
  unfold chnA at z2
  split at z2
  · rename_i i j
    have hv : v = .int i := by have := A.val; unfold RepR' RepO Rep at this; exact this.2
    have hw : w = .int j := by have := B.val; unfold RepR' RepO Rep at this; exact this.2
    subst hv hw
    have rij : Reps K H2 (fun _ => False) [V.int i, V.int j] [.int i, .int j] := by
      unfold Reps
      refine ⟨_, _, rfl, by unfold Rep; rfl, ?_⟩
      unfold Reps
      refine ⟨_, _, rfl, by unfold Rep; rfl, ?_⟩
      unfold Reps
      rfl
    have G2 : Gone K F H fp σ H2 e2 fp2 := A.drop.trans B.drop
    cases hf : f [.int i, .int j] with
    | none => rw [hf] at z2; exact z2.elim
    | some d =>
      rw [hf] at z2
      cases d with
      | bl bb =>
        cases bb with
        | true =>
          refine ⟨_, _, rij, hf, fun u H3 hu hk => ?_⟩
          cases hu
          refine ⟨true, rfl, iteT ?_⟩
          have G3 : Gone K F H fp σ H3 e2 fp2 := G2.grow hk
          refine ⟨F, e2, fp2, G3.rel, wp_mono (wp_bind z2) (fun x3 e3 z3 w3 H4 fp3 f3 C => ?_) fun y3 e3 z3 H4 fp3 C => z3 H4 fp3 (G3.trans C)⟩
          unfold chnB at z3
          split at z3
          · rename_i k
            have hw3 : w3 = .int k := by have := C.val; unfold RepR' RepO Rep at this; exact this.2
            subst hw3
            cases hg : g [.int j, .int k] with
            | none => rw [hg] at z3; exact z3.elim
            | some d3 =>
              rw [hg] at z3
              cases d3 with
              | bl r =>
                refine ⟨[.int j, .int k], .bl r, ?_, hg, fun u H5 hu hk5 => ?_⟩
                · unfold Reps
                  refine ⟨_, _, rfl, by unfold Rep; rfl, ?_⟩
                  unfold Reps
                  refine ⟨_, _, rfl, by unfold Rep; rfl, ?_⟩
                  unfold Reps
                  rfl
                · cases hu
                  have G5 : Gone K F H fp σ H5 e3 fp3 := (G3.trans C.drop).grow hk5
                  exact z3 (.bl r) H5 fp3 [] (G5.val (by unfold Rep; rfl))
              | _ => exact z3.elim
          · exact z3.elim
        | false =>
          refine ⟨_, _, rij, hf, fun u H3 hu hk => ?_⟩
          cases hu
          refine ⟨false, rfl, iteF ?_⟩
          exact z2 (.bl false) H3 fp2 [] ((G2.grow hk).val (by unfold Rep; rfl))
      | _ => exact z2.elim
  · exact z2.elim
end
section
variable {X : Cx} {W : XP} {m : Ev OR} {ms : List (Ev OR)} {k : Key} {ks : List Key} {ek ev : Expr} {eks : List (Option Expr)} {evs : List Expr} {pos : Pos} {j : Nat}
theorem pk_nil : PPs X pos [] [] (kyTrs X.K W [] []) := pps_nil
theorem pk_str {s : Str} {p : Pos} (hv : PE X ev (tR X.K W m)) (r : PPs X pos eks evs (kyTrs X.K W ks ms)) : PPs X pos (some (.Constant (.str s) j p) :: eks) (ev :: evs) (kyTrs X.K W (.inr s :: ks) (m :: ms)) := pps_cons (pe_str.to fun σ H Q h => h) hv r
theorem pk_int {s : Int} {p : Pos} (hv : PE X ev (tR X.K W m)) (r : PPs X pos eks evs (kyTrs X.K W ks ms)) : PPs X pos (some (.Constant (.int s) j p) :: eks) (ev :: evs) (kyTrs X.K W (.inl s :: ks) (m :: ms)) := pps_cons (pe_int.to fun σ H Q h => h) hv r
theorem e_dsp (h : PPs X pos eks evs (kyTrs X.K W ks ms)) (hl : ks.length = ms.length := by rfl) (h15 : ks.length ≤ 15 := by decide) (hk : ks.Nodup := by decide) (hall : eks.all (·.isSome) = true := by rfl) (hle : eks.length = evs.length := by rfl) (h0 : eks ≠ [] := by exact fun z => nomatch z) (he15 : eks.length ≤ 15 := by decide) :
    PE X (.Dict eks evs pos) (tR X.K W (mDsp ks ms)) := (pe_disp h hall hle h0 he15).to fun σ H Q q => dsp_read hl h15 hk q
/-! ### a < b < c -/
theorem e_chn {op op' : CmpOp} {f g : List Ev.D → Option Ev.D} {a b c : Expr} {ma mb mc : Ev OR} (ho : OpR X (compareOp op) (fun x y H Q => rRd X.K f [x, y] H Q)) (ho' : OpR X (compareOp op') (fun x y H Q => rRd X.K g [x, y] H Q)) (ha : PE X a (tR X.K W ma)) (hb : PE X b (tR X.K W mb)) (hc : PE X c (tR X.K W mc))
    (hm : lastMarks [op, op'] [b, c] = false := by with_unfolding_all rfl) : PE X (.Compare a [op, op'] [b, c] pos) (tR X.K W (mChn f g ma mb mc)) :=
  (pe_chain ho ho' ha hb hc hm).to fun σ H Q q => chn_read q
theorem t_chn {op op' : CmpOp} {f g : List Ev.D → Option Ev.D} {a b c : Expr} {ma mb mc : Ev OR} (ho : OpR X (compareOp op) (fun x y H Q => rRd X.K f [x, y] H Q)) (ho' : OpR X (compareOp op') (fun x y H Q => rRd X.K g [x, y] H Q)) (ha : PE X a (tR X.K W ma)) (hb : PE X b (tR X.K W mb)) (hc : PE X c (tR X.K W mc))
    (hm : lastMarks [op, op'] [b, c] = false := by with_unfolding_all rfl) : PT X (.Compare a [op, op'] [b, c] pos) (tT X.K W (tV (mChn f g ma mb mc))) :=
  (pt_chain ho ho' ha hb hc hm).to fun σ H Q q => chn_read (tV_ _ q)
end
end Ev
end
section
/-! EvP: how terms of the layer compute (plain; no program in sight). -/
set_option linter.all false
namespace Ev
open PySem
section
variable {α β γ : Type}
@[simp] theorem bind_ok (a : α) (e : Env) (f : α → Env → Rs β) : (Rs.ok a e).bind f = f a e := (rfl)
@[simp ↓] theorem bind_ok_pre (a : α) (e : Env) (f : α → Env → Rs β) : (Rs.ok a e).bind f = f a e := (rfl)
@[simp ↓] theorem bind_fail_pre (f : α → Env → Rs β) : (Rs.fail : Rs α).bind f = .fail := (rfl)
@[simp] theorem bind_exc (x : Exn) (e : Env) (f : α → Env → Rs β) : (Rs.exc x e : Rs α).bind f = .exc x e := (rfl)
@[simp] theorem bind_fail (f : α → Env → Rs β) : (Rs.fail : Rs α).bind f = .fail := (rfl)
def thenK (f : α → Env → Rs β) (g : β → Env → Rs γ) : α → Env → Rs γ := fun a e => (f a e).bind g
@[simp] theorem thenK_app (f : α → Env → Rs β) (g : β → Env → Rs γ) (a : α) (e : Env) : thenK f g a e = (f a e).bind g := (rfl)
@[simp ↓] theorem bind_bind (x : Rs α) (f : α → Env → Rs β) (g : β → Env → Rs γ) : (x.bind f).bind g = x.bind (thenK f g) := by cases x <;> rfl
@[simp] theorem ret_app (a : α) (e : Env) : Ev.ret a e = .ok a e := (rfl)
@[simp] theorem fail_app (e : Env) : (Ev.fail : Ev α) e = .fail := (rfl)
@[simp] theorem ebind_app (m : Ev α) (f : α → Ev β) (e : Env) : Ev.bind m f e = (m e).bind f := (rfl)
@[simp] theorem ite_app (p : Prop) [Decidable p] (a b : Ev α) (e : Env) : (if p then a else b) e = if p then a e else b e := by split <;> rfl
@[simp] theorem calm_ok (a : α) (e : Env) : (Rs.ok a e).calm = .ok a e := (rfl)
@[simp] theorem calm_fail : (Rs.fail : Rs α).calm = .fail := (rfl)
end
/-! ### slots -/
@[simp] theorem at_nil (i : Nat) : Env.at [] i = none := by simp [Env.at]
@[simp] theorem at_zero (x : Option O) (e : Env) : Env.at (x :: e) 0 = x := (rfl)
@[simp] theorem at_succ (x : Option O) (e : Env) (i : Nat) : Env.at (x :: e) (i + 1) = Env.at e i := (rfl)
@[simp] theorem sub_nil (o : O) : o.sub [] = some o := by cases o <;> rfl
@[simp] theorem put_nil (o y : O) : o.put [] y = y := by cases o <;> rfl
@[simp] theorem sub_ol (xs : List O) (n : Nat) (p : Path) : (O.ol xs).sub (.ix n :: p) = (xs[n]?).bind fun o => o.sub p := (rfl)
@[simp] theorem put_ol (xs : List O) (n : Nat) (p : Path) (y : O) : (O.ol xs).put (.ix n :: p) y = match xs[n]? with
    | some o => .ol (xs.set n (o.put p y))
    | none => .ol xs := (rfl)
@[simp] theorem sub_ok (kvs : List (Key × O)) (k : Key) (p : Path) : (O.ok kvs).sub (.ky k :: p) = (kget kvs k).bind fun o => o.sub p := (rfl)
@[simp] theorem put_ok (xs : List (Key × O)) (k : Key) (p : Path) (y : O) : (O.ok xs).put (.ky k :: p) y = match kget xs k with
    | some o => .ok (kset xs k (o.put p y))
    | none => .ok xs := (rfl)
@[simp] theorem thaw_fr (d : D) : (O.fr d).thaw = d := (rfl)
@[simp] theorem thaw_ol (xs : List O) : (O.ol xs).thaw = .lst (O.thaws xs) := (rfl)
@[simp] theorem thaw_ok (xs : List (Key × O)) : (O.ok xs).thaw = .dk (O.thawk xs) := (rfl)
@[simp] theorem thaw_ot (xs : List (List Key × O)) : (O.ot xs).thaw = .dt (O.thawt xs) := (rfl)
@[simp] theorem thaws_nil : O.thaws [] = [] := (rfl)
@[simp] theorem thaws_cons (x : O) (xs : List O) : O.thaws (x :: xs) = x.thaw :: O.thaws xs := (rfl)
@[simp] theorem thawk_nil : O.thawk [] = [] := (rfl)
@[simp] theorem thawk_cons (k : Key) (x : O) (xs : List (Key × O)) : O.thawk ((k, x) :: xs) = (k, x.thaw) :: O.thawk xs := (rfl)
@[simp] theorem thawt_nil : O.thawt [] = [] := (rfl)
@[simp] theorem thawt_cons (k : List Key) (x : O) (xs : List (List Key × O)) : O.thawt ((k, x) :: xs) = (k, x.thaw) :: O.thawt xs := (rfl)
@[simp] theorem shal_fr (d : D) : (O.fr d).shal = some d := (rfl)
@[simp] theorem shal_ol (xs : List O) : (O.ol xs).shal = (frs xs).map .lst := (rfl)
@[simp] theorem shal_ok (xs : List (Key × O)) : (O.ok xs).shal = (frk xs).map .dk := (rfl)
@[simp] theorem shal_ot (xs : List (List Key × O)) : (O.ot xs).shal = (frk xs).map .dt := (rfl)
@[simp] theorem frs_nil : frs [] = some [] := (rfl)
@[simp] theorem frs_cons (d : D) (xs : List O) : frs (.fr d :: xs) = (frs xs).map (d :: ·) := (rfl)
@[simp] theorem frk_nil {κ : Type} : frk ([] : List (κ × O)) = some [] := (rfl)
@[simp] theorem frk_cons {κ : Type} (k : κ) (d : D) (xs : List (κ × O)) : frk ((k, .fr d) :: xs) = (frk xs).map ((k, d) :: ·) := (rfl)
@[simp] theorem obj_v (o : O) (e : Env) : (OR.v o).obj e = some o := (rfl)
@[simp] theorem obj_r (i : Nat) (p : Path) (e : Env) : (OR.r i p).obj e = (e.at i).bind fun o => o.sub p := (rfl)
@[simp] theorem view_v (o : O) (e : Env) : (OR.v o).view e = some o.thaw := (rfl)
@[simp] theorem view_r (i : Nat) (p : Path) (e : Env) : (OR.r i p).view e = ((e.at i).bind fun o => o.sub p).bind O.shal := (rfl)
@[simp] theorem look_app (x : OR) (e : Env) : x.look e = (x.obj e).map O.thaw := (rfl)
@[simp] theorem root_v (o : O) : (OR.v o).root = true := (rfl)
@[simp] theorem root_r (i : Nat) : (OR.r i []).root = true := (rfl)
@[simp] theorem fz_v (d : D) : (OR.v (.fr d)).fz = some d := (rfl)
@[simp] theorem frz_fr (d : D) : (O.fr d).frz? = some d := (rfl)
@[simp] theorem items_tup (xs : List D) : (D.tup xs).items = some xs := (rfl)
@[simp] theorem items_lst (xs : List D) : (D.lst xs).items = some xs := (rfl)
@[simp] theorem itemsO_fr (d : D) : (O.fr d).itemsO = d.items.map (·.map .fr) := (rfl)
@[simp] theorem itemsO_ol (xs : List O) : (O.ol xs).itemsO = some xs := (rfl)
@[simp] theorem truth_non : D.non.truth = some false := (rfl)
@[simp] theorem truth_bl (b : Bool) : (D.bl b).truth = some b := (rfl)
@[simp] theorem truth_int (i : Int) : (D.int i).truth = some (i != 0) := (rfl)
@[simp] theorem truth_tup (xs : List D) : (D.tup xs).truth = some (!xs.isEmpty) := (rfl)
@[simp] theorem truth_lst (xs : List D) : (D.lst xs).truth = some (!xs.isEmpty) := (rfl)
@[simp] theorem key_int (i : Int) : (D.int i).key = some (.inl i) := (rfl)
@[simp] theorem key_str (s : Str) : (D.str s).key = some (.inr s) := (rfl)
@[simp] theorem keys_nil : D.keys [] = some [] := (rfl)
@[simp] theorem keys_cons (d : D) (ds : List D) : D.keys (d :: ds) = d.key.bind fun k => (D.keys ds).map (k :: ·) := (rfl)
@[simp] theorem tkey_tup (ds : List D) : (D.tup ds).tkey = D.keys ds := (rfl)
@[simp] theorem ix_int (i : Int) : (D.int i).ix? = some (some i) := (rfl)
@[simp] theorem ix_non : D.non.ix? = some none := (rfl)
@[simp] theorem thaws_map (xs : List D) : O.thaws (xs.map .fr) = xs := by induction xs with
  | nil => rfl
  | cons x xs ih => simp [ih]
theorem thaws_eq (xs : List O) : O.thaws xs = xs.map O.thaw := by induction xs with
  | nil => rfl
  | cons x xs ih => simp [ih]
@[simp] theorem thaws_mapf {α : Type} (f : α → O) (xs : List α) : O.thaws (xs.map f) = xs.map fun x => (f x).thaw := by rw [thaws_eq, List.map_map]; rfl
@[simp] theorem thaws_app (xs ys : List O) : O.thaws (xs ++ ys) = O.thaws xs ++ O.thaws ys := by rw [thaws_eq, thaws_eq, thaws_eq, List.map_append]
@[simp] theorem frs_mapc {α : Type} (f : α → D) (xs : List α) : frs (xs.map (O.fr ∘ f)) = some (xs.map f) := by induction xs with
  | nil => rfl
  | cons x xs ih => simp [ih]
@[simp] theorem frs_mapf {α : Type} (f : α → D) (xs : List α) : frs (xs.map fun x => O.fr (f x)) = some (xs.map f) := frs_mapc f xs
theorem frs_app (xs ys : List O) (as bs : List D) (h : frs xs = some as) (h2 : frs ys = some bs) : frs (xs ++ ys) = some (as ++ bs) := by
  induction xs generalizing as with
  | nil => cases h; simpa using h2
  | cons x xs ih =>
    cases x with
    | fr d =>
      simp only [frs_cons, Option.map_eq_some_iff] at h
      obtain ⟨u, h3, rfl⟩ := h
      simp [ih u h3]
    | _ => cases h
@[simp] theorem frs_map (xs : List D) : frs (xs.map .fr) = some xs := by induction xs with
  | nil => rfl
  | cons x xs ih => simp [ih]
/-! ### expressions -/
@[simp] theorem mC_app (d : D) (e : Env) : mC d e = .ok (.v (.fr d)) e := (rfl)
@[simp] theorem mV_app (i : Nat) (e : Env) : mV i e = match e.at i with
  | some (.fr d) => .ok (.v (.fr d)) e
  | some _ => .ok (.r i []) e
  | none => .fail := (rfl)
@[simp] theorem mMv_app (i : Nat) (e : Env) : mMv i e = match e.at i with
  | some o => .ok (.v o) (e.set i none)
  | none => .fail := (rfl)
@[simp] theorem mFz_app (i : Nat) (e : Env) : mFz i e = match e.at i with
  | some o => .ok (.v (.fr o.thaw)) (e.set i (some (.fr o.thaw)))
  | none => .fail := (rfl)
def zK : OR → Env → Rs OR := fun x => match x with
  | .v o => Ev.ret (.v (.fr o.thaw))
  | _ => Ev.fail
@[simp] theorem zK_v (o : O) (e : Env) : zK (.v o) e = .ok (.v (.fr o.thaw)) e := (rfl)
@[simp] theorem mZ_app (m : Ev OR) (e : Env) : mZ m e = (m e).bind zK := (rfl)
def intK : OR → Env → Rs OR := fun x => match x with
  | .v (.fr (.int i)) => Ev.ret (.v (.fr (.int i)))
  | _ => Ev.fail
@[simp] theorem intK_v (i : Int) (e : Env) : intK (.v (.fr (.int i))) e = .ok (.v (.fr (.int i))) e := (rfl)
@[simp] theorem mInt_app (m : Ev OR) (e : Env) : mInt m e = (m e).bind intK := (rfl)
@[simp] theorem mArgs_nil (e : Env) : mArgs [] e = .ok [] e := (rfl)
def oneK : OR → Env → Rs (List OR) := fun x e => .ok [x] e
@[simp] theorem oneK_app (x : OR) (e : Env) : oneK x e = .ok [x] e := (rfl)
@[simp] theorem mArgs_one (m : Ev OR) (e : Env) : mArgs [m] e = (m e).bind oneK := (rfl)
def consK (x : OR) : List OR → Env → Rs (List OR) := fun xs e => .ok (x :: xs) e
@[simp] theorem consK_app (x : OR) (xs : List OR) (e : Env) : consK x xs e = .ok (x :: xs) e := (rfl)
def moreK (ms : List (Ev OR)) : OR → Env → Rs (List OR) := fun x e => match x.root with
    | true => (mArgs ms e).bind (consK x)
    | false => .fail
@[simp] theorem moreK_app (ms : List (Ev OR)) (x : OR) (e : Env) : moreK ms x e = match x.root with
    | true => (mArgs ms e).bind (consK x)
    | false => .fail := (rfl)
@[simp] theorem mArgs_more (m n : Ev OR) (ms : List (Ev OR)) (e : Env) : mArgs (m :: n :: ms) e = (m e).bind (moreK (n :: ms)) := by
  show (m e).bind _ = _
  congr 1
  funext x e
  rw [moreK_app]
  cases x.root <;> rfl
@[simp] theorem views_nil (e : Env) : views e [] = some [] := (rfl)
@[simp] theorem views_cons (e : Env) (x : OR) (xs : List OR) : views e (x :: xs) = (x.view e).bind fun d => (views e xs).map (d :: ·) := (rfl)
@[simp] theorem looks_nil (e : Env) : looks e [] = some [] := (rfl)
@[simp] theorem looks_cons (e : Env) (x : OR) (xs : List OR) : looks e (x :: xs) = (x.look e).bind fun d => (looks e xs).map (d :: ·) := (rfl)
@[simp] theorem vals_nil : vals [] = some [] := (rfl)
@[simp] theorem vals_cons (o : O) (xs : List OR) : vals (.v o :: xs) = (vals xs).map (o :: ·) := (rfl)
@[simp] theorem frzs_nil : frzs [] = some [] := (rfl)
@[simp] theorem frzs_cons (d : D) (xs : List OR) : frzs (.v (.fr d) :: xs) = (frzs xs).map (d :: ·) := (rfl)
def opK (f : List D → Option O) : List OR → Env → Rs OR := fun xs e => match views e xs with
  | some ds => match f ds with
    | some o => .ok (.v o) e
    | none => .fail
  | none => .fail
@[simp] theorem mOp_app (f : List D → Option O) (ms : List (Ev OR)) (e : Env) : mOp f ms e = (mArgs ms e).bind (opK f) := (rfl)
@[simp] theorem opK_app (f : List D → Option O) (xs : List OR) (e : Env) : opK f xs e = match views e xs with
  | some ds => match f ds with
    | some o => .ok (.v o) e
    | none => .fail
  | none => .fail := (rfl)
def rdK (f : List D → Option D) : List OR → Env → Rs OR := fun xs e => match looks e xs with
  | some ds => match f ds with
    | some d => .ok (.v (.fr d)) e
    | none => .fail
  | none => .fail
@[simp] theorem mRd_app (f : List D → Option D) (ms : List (Ev OR)) (e : Env) : mRd f ms e = (mArgs ms e).bind (rdK f) := (rfl)
@[simp] theorem rdK_app (f : List D → Option D) (xs : List OR) (e : Env) : rdK f xs e = match looks e xs with
  | some ds => match f ds with
    | some d => .ok (.v (.fr d)) e
    | none => .fail
  | none => .fail := (rfl)
def tupK : List OR → Env → Rs OR := fun xs e => match vals xs with
  | some os => if os.length ≤ 1000 then .ok (.v (.fr (.tup (O.thaws os)))) e else .fail
  | none => .fail
@[simp] theorem mTup_app (ms : List (Ev OR)) (e : Env) : mTup ms e = (mArgs ms e).bind tupK := (rfl)
@[simp] theorem tupK_app (xs : List OR) (e : Env) : tupK xs e = match vals xs with
  | some os => if os.length ≤ 1000 then .ok (.v (.fr (.tup (O.thaws os)))) e else .fail
  | none => .fail := (rfl)
def lstK : List OR → Env → Rs OR := fun xs e => match vals xs with
  | some os => if os.length ≤ 1000 then .ok (.v (.ol os)) e else .fail
  | none => .fail
@[simp] theorem mLst_app (ms : List (Ev OR)) (e : Env) : mLst ms e = (mArgs ms e).bind lstK := (rfl)
@[simp] theorem lstK_app (xs : List OR) (e : Env) : lstK xs e = match vals xs with
  | some os => if os.length ≤ 1000 then .ok (.v (.ol os)) e else .fail
  | none => .fail := (rfl)
/-! ### items -/
def subK (f : O → D → Option D) (k : Ev OR) : OR → Env → Rs OR := fun x e => (k e).bind (subFin f x)
@[simp] theorem subK_app (f : O → D → Option D) (k : Ev OR) (x : OR) (e : Env) : subK f k x e = (k e).bind (subFin f x) := (rfl)
@[simp] theorem mSubG_app (f : O → D → Option D) (a k : Ev OR) (e : Env) : mSubG f a k e = (a e).bind (subK f k) := (rfl)
@[simp] theorem subFin_app (f : O → D → Option D) (x y : OR) (e : Env) : subFin f x y e = match x.obj e, y.fz with
  | some o, some d => match f o d with
    | some z => .ok (.v (.fr z)) e
    | none => .fail
  | _, _ => .fail := (rfl)
theorem ixN_nat (n k : Nat) (h : k < n) : ixN n (k : Int) = some k := by
  unfold ixN
  have h1 : (0 : Int) ≤ (k : Int) := by omega
  have h2 : (k : Int) < (n : Int) := by omega
  simp [h1, h2]
theorem atI_nat {α : Type} (xs : List α) (k : Nat) (h : k < xs.length) : atI xs (k : Int) = some xs[k] := by
  unfold atI
  rw [ixN_nat _ _ h]
  simp [h]
@[simp] theorem ixN_0 (n : Nat) : ixN (n + 1) 0 = some 0 := by unfold ixN; simp
@[simp] theorem ixN_1 (n : Nat) : ixN (n + 1 + 1) 1 = some 1 := by unfold ixN; simp; omega
@[simp] theorem ixN_2 (n : Nat) : ixN (n + 1 + 1 + 1) 2 = some 2 := by unfold ixN; simp; omega
@[simp] theorem ixN_3 (n : Nat) : ixN (n + 1 + 1 + 1 + 1) 3 = some 3 := by unfold ixN; simp; omega
@[simp] theorem atI_0 {α : Type} (x : α) (xs : List α) : atI (x :: xs) 0 = some x := by simp [atI]
@[simp] theorem atI_1 {α : Type} (x y : α) (xs : List α) : atI (x :: y :: xs) 1 = some y := by simp [atI]
@[simp] theorem atI_2 {α : Type} (x y z : α) (xs : List α) : atI (x :: y :: z :: xs) 2 = some z := by simp [atI]
@[simp] theorem atI_3 {α : Type} (x y z u : α) (xs : List α) : atI (x :: y :: z :: u :: xs) 3 = some u := by simp [atI]
@[simp] theorem item_lst (xs : List D) (i : Int) : (O.fr (.lst xs)).item (.int i) = atI xs i := (rfl)
@[simp] theorem item_tup (xs : List D) (i : Int) : (O.fr (.tup xs)).item (.int i) = atI xs i := (rfl)
@[simp] theorem item_ol (xs : List O) (i : Int) : (O.ol xs).item (.int i) = (atI xs i).bind O.frz? := (rfl)
@[simp] theorem itemD_dk (kvs : List (Key × D)) (d : D) : (O.fr (.dk kvs)).itemD d = d.key.bind (kget kvs) := (rfl)
@[simp] theorem itemD_dt (kvs : List (List Key × D)) (d : D) : (O.fr (.dt kvs)).itemD d = d.tkey.bind (kget kvs) := (rfl)
@[simp] theorem itemD_ok (kvs : List (Key × O)) (d : D) : (O.ok kvs).itemD d = (d.key.bind (kget kvs)).bind O.frz? := (rfl)
@[simp] theorem itemD_ot (kvs : List (List Key × O)) (d : D) : (O.ot kvs).itemD d = (d.tkey.bind (kget kvs)).bind O.frz? := (rfl)
def subRK (k : Ev OR) : OR → Env → Rs OR := fun x e => (k e).bind (subRFin x)
@[simp] theorem subRK_app (k : Ev OR) (x : OR) (e : Env) : subRK k x e = (k e).bind (subRFin x) := (rfl)
@[simp] theorem mSubR_app (a k : Ev OR) (e : Env) : mSubR a k e = (a e).bind (subRK k) := (rfl)
@[simp] theorem subRFin_app (i : Nat) (p : Path) (y : OR) (e : Env) : subRFin (.r i p) y e = match (OR.r i p).obj e, y.fz with
  | some o, some d => match o.step d with
    | some st => match o.sub [st] with
      | some (.fr z) => .ok (.v (.fr z)) e
      | some _ => .ok (.r i (p ++ [st])) e
      | none => .fail
    | none => .fail
  | _, _ => .fail := by
  unfold subRFin
  cases h1 : (OR.r i p).obj e <;> cases h2 : y.fz <;> rfl
@[simp] theorem step_ol (xs : List O) (i : Int) : (O.ol xs).step (.int i) = (ixN xs.length i).map .ix := (rfl)
@[simp] theorem step_ok (kvs : List (Key × O)) (d : D) : (O.ok kvs).step d = d.key.map .ky := (rfl)
@[simp] theorem step_ot (kvs : List (List Key × O)) (d : D) : (O.ot kvs).step d = d.tkey.map .kt := (rfl)
/-! ### calls -/
@[simp] theorem objs_nil (e : Env) : objs e [] = some [] := (rfl)
@[simp] theorem objs_v (e : Env) (o : O) (xs : List OR) : objs e (.v o :: xs) = (objs e xs).map (o :: ·) := (rfl)
@[simp] theorem objs_r (e : Env) (i : Nat) (xs : List OR) : objs e (.r i [] :: xs) = (e.at i).bind fun o => (objs e xs).map (o :: ·) := (rfl)
@[simp] theorem refsOf_nil : refsOf [] = [] := (rfl)
@[simp] theorem refsOf_v (o : O) (xs : List OR) : refsOf (.v o :: xs) = refsOf xs := (rfl)
@[simp] theorem refsOf_r (i : Nat) (p : Path) (xs : List OR) : refsOf (.r i p :: xs) = i :: refsOf xs := (rfl)
@[simp] theorem giveBack_nil (e : Env) (os : List (Option O)) : giveBack e [] os = e := by cases os <;> rfl
@[simp] theorem giveBack_v (e : Env) (o : O) (xs : List OR) (u : Option O) (os : List (Option O)) : giveBack e (.v o :: xs) (u :: os) = giveBack e xs os := (rfl)
@[simp] theorem giveBack_r (e : Env) (i : Nat) (p : Path) (xs : List OR) (u : Option O) (os : List (Option O)) : giveBack e (.r i p :: xs) (u :: os) = giveBack (e.set i u) xs os := (rfl)
@[simp] theorem lose_nil (e : Env) : lose e [] = e := (rfl)
@[simp] theorem lose_cons (e : Env) (i : Nat) (is : List Nat) : lose e (i :: is) = lose (e.set i none) is := (rfl)
@[simp] theorem nodupB_nil : nodupB [] = true := (rfl)
@[simp] theorem nodupB_cons (i : Nat) (is : List Nat) : nodupB (i :: is) = (!is.contains i && nodupB is) := (rfl)
@[simp] theorem permL_app {α : Type} (l : List α) (is : List Nat) : permL l is = is.filterMap fun i => l[i]? := (rfl)
@[simp] theorem mCall_app (c : FT) (f : Nat) (ms : List (Ev OR)) (e : Env) : mCall c f ms e = (mArgs ms e).bind (callOn c f) := (rfl)
def callPK (c : FT) (f : Nat) (is : List Nat) : List OR → Env → Rs OR := fun xs e => callOn c f (permL xs is) e
@[simp] theorem callPK_app (c : FT) (f : Nat) (is : List Nat) (xs : List OR) (e : Env) : callPK c f is xs e = callOn c f (permL xs is) e := (rfl)
@[simp] theorem mCallP_app (c : FT) (f : Nat) (is : List Nat) (ms : List (Ev OR)) (e : Env) : mCallP c f is ms e = (mArgs ms e).bind (callPK c f is) := (rfl)
def callDK (c : FT) (f : Nat) (ds : List D) : List OR → Env → Rs OR := fun xs e => callOn c f (xs ++ ds.map fun d => .v (.fr d)) e
@[simp] theorem callDK_app (c : FT) (f : Nat) (ds : List D) (xs : List OR) (e : Env) : callDK c f ds xs e = callOn c f (xs ++ ds.map fun d => .v (.fr d)) e := (rfl)
@[simp] theorem mCallD_app (c : FT) (f : Nat) (ds : List D) (ms : List (Ev OR)) (e : Env) : mCallD c f ds ms e = (mArgs ms e).bind (callDK c f ds) := (rfl)
@[simp] theorem callOn_app (c : FT) (f : Nat) (xs : List OR) (e : Env) : callOn c f xs e = match nodupB (refsOf xs), objs e xs with
  | true, some os => match c f os with
    | .ok r outs => .ok (.v r) (giveBack (lose e (refsOf xs)) xs outs)
    | .exc x => .exc x (lose e (refsOf xs))
    | .fail => .fail
  | _, _ => .fail := (rfl)
/-! ### tests -/
def tvK : OR → Env → Rs Bool := fun x e => match x with
  | .v (.fr (.bl b)) => .ok b e
  | _ => .fail
@[simp] theorem tvK_v (b : Bool) (e : Env) : tvK (.v (.fr (.bl b))) e = .ok b e := (rfl)
@[simp] theorem tV_app (m : Ev OR) (e : Env) : tV m e = (m e).bind tvK := (rfl)
def truK : OR → Env → Rs Bool := fun x e => match (x.look e).bind D.truth with
  | some b => .ok b e
  | none => .fail
@[simp] theorem truK_app (x : OR) (e : Env) : truK x e = match (x.look e).bind D.truth with
  | some b => .ok b e
  | none => .fail := (rfl)
@[simp] theorem tTru_app (m : Ev OR) (e : Env) : tTru m e = (m e).bind truK := (rfl)
def notK : Bool → Env → Rs Bool := fun b e => .ok (!b) e
@[simp] theorem notK_app (b : Bool) (e : Env) : notK b e = .ok (!b) e := (rfl)
@[simp] theorem tNot_app (t : Ev Bool) (e : Env) : tNot t e = (t e).bind notK := (rfl)
def andK (u : Ev Bool) : Bool → Env → Rs Bool := fun b => match b with
  | true => u
  | false => Ev.ret false
def orK (u : Ev Bool) : Bool → Env → Rs Bool := fun b => match b with
  | true => Ev.ret true
  | false => u
@[simp] theorem tAnd_app (t u : Ev Bool) (e : Env) : tAnd t u e = (t e).bind (andK u) := (rfl)
@[simp] theorem tOr_app (t u : Ev Bool) (e : Env) : tOr t u e = (t e).bind (orK u) := (rfl)
@[simp] theorem andK_app (u : Ev Bool) (b : Bool) (e : Env) : andK u b e = if b = true then u e else .ok false e := by cases b <;> rfl
@[simp] theorem orK_app (u : Ev Bool) (b : Bool) (e : Env) : orK u b e = if b = true then .ok true e else u e := by cases b <;> rfl
def blK : Bool → Env → Rs OR := fun b e => .ok (.v (.fr (.bl b))) e
@[simp] theorem blK_app (b : Bool) (e : Env) : blK b e = .ok (.v (.fr (.bl b))) e := (rfl)
@[simp] theorem mB_app (t : Ev Bool) (e : Env) : mB t e = (t e).bind blK := (rfl)
def mOrK (b : Ev OR) : OR → Env → Rs OR := fun x e => match (x.look e).bind D.truth, x.root with
  | some true, true => .ok x e
  | some false, true => b e
  | _, _ => .fail
@[simp] theorem mOrK_app (b : Ev OR) (x : OR) (e : Env) : mOrK b x e = match (x.look e).bind D.truth, x.root with
  | some true, true => .ok x e
  | some false, true => b e
  | _, _ => .fail := (rfl)
@[simp] theorem mOr_app (a b : Ev OR) (e : Env) : mOr a b e = (a e).bind (mOrK b) := (rfl)
def mAndK (b : Ev OR) : OR → Env → Rs OR := fun x e => match (x.look e).bind D.truth, x.root with
  | some true, true => b e
  | some false, true => .ok x e
  | _, _ => .fail
@[simp] theorem mAndK_app (b : Ev OR) (x : OR) (e : Env) : mAndK b x e = match (x.look e).bind D.truth, x.root with
  | some true, true => b e
  | some false, true => .ok x e
  | _, _ => .fail := (rfl)
@[simp] theorem mAnd_app (a b : Ev OR) (e : Env) : mAnd a b e = (a e).bind (mAndK b) := (rfl)
def ifK (a b : Ev OR) : Bool → Env → Rs OR := fun c => match c with
  | true => a
  | false => b
@[simp] theorem mIf_app (t : Ev Bool) (a b : Ev OR) (e : Env) : mIf t a b e = (t e).bind (ifK a b) := (rfl)
@[simp] theorem ifK_app (a b : Ev OR) (c : Bool) (e : Env) : ifK a b c e = if c = true then a e else b e := by cases c <;> rfl
@[simp] theorem tg_nm (io : List Nat) (i : Nat) (o : O) (e : Env) : (Tg.nm i).bind io o e = if io.contains i then none else some (e.set i (some o)) := (rfl)
@[simp] theorem tg_tp (io : List Nat) (ts : List Tg) (d : D) (e : Env) : (Tg.tp ts).bind io (.fr d) e = d.items.bind fun ds => Tg.binds io ts ds e := (rfl)
@[simp] theorem tgs_nil (io : List Nat) (e : Env) : Tg.binds io [] [] e = some e := (rfl)
@[simp] theorem tgs_cons (io : List Nat) (t : Tg) (ts : List Tg) (d : D) (ds : List D) (e : Env) : Tg.binds io (t :: ts) (d :: ds) e = (t.bind io (.fr d) e).bind fun e1 => Tg.binds io ts ds e1 := (rfl)
/-! ### what is walked -/
@[simp] theorem iSeq_app (m : Ev OR) (e : Env) : iSeq m e = (m e).bind itemsOf := (rfl)
@[simp] theorem itemsOf_v (o : O) (e : Env) : itemsOf (.v o) e = match o.thaw.items with
  | some ds => .ok ds e
  | none => .fail := (rfl)
@[simp] theorem iRng1_app (m : Ev OR) (e : Env) : iRng1 m e = (m e).bind rng1 := (rfl)
@[simp] theorem iRng2_app (ms : List (Ev OR)) (e : Env) : iRng2 ms e = (mArgs ms e).bind rng2 := (rfl)
@[simp] theorem iEnum_app (m : Ev OR) (e : Env) : iEnum m e = (m e).bind enum1 := (rfl)
@[simp] theorem iZip_app (ms : List (Ev OR)) (e : Env) : iZip ms e = (mArgs ms e).bind zip2 := (rfl)
@[simp] theorem rng1_v (j : Int) (e : Env) : rng1 (.v (.fr (.int j))) e = if smallI j then .ok (rangeD 0 j) e else .fail := (rfl)
@[simp] theorem rng2_v (i j : Int) (e : Env) : rng2 [.v (.fr (.int i)), .v (.fr (.int j))] e = if smallI i && smallI j then .ok (rangeD i j) e else .fail := (rfl)
@[simp] theorem enum1_v (o : O) (e : Env) : enum1 (.v o) e = match o.thaw with
    | .lst ds => .ok (enumD 0 ds) e
    | _ => .fail := (rfl)
@[simp] theorem zip2_v (o u : O) (e : Env) : zip2 [.v o, .v u] e = match o.thaw, u.thaw with
    | .lst as, .lst bs => .ok (zipD as bs) e
    | .tup as, .tup bs => .ok (zipD as bs) e
    | _, _ => .fail := (rfl)
@[simp] theorem wipeE_nil (e : Env) : wipeE e [] = e := (rfl)
@[simp] theorem wipeE_cons (e : Env) (v : Nat) (vs : List Nat) : wipeE e (v :: vs) = (wipeE e vs).set v none := (rfl)
@[simp] theorem backE_nil (e0 e : Env) : backE e0 e [] = e := (rfl)
@[simp] theorem backE_cons (e0 e : Env) (v : Nat) (vs : List Nat) : backE e0 e (v :: vs) = (backE e0 e vs).set v (e0.at v) := (rfl)
@[simp] theorem frzAt_app (e : Env) (v : Nat) : frzAt e v = match e.at v with
  | some (.fr _) => true
  | none => true
  | _ => false := (rfl)
/-! ### statements -/
@[simp] theorem sNil_app (e : Env) : sNil e = .ok .nx e := (rfl)
def seqK (u : Sv) : Fl → Env → Rs Fl := fun f => match f with
  | .nx => u
  | g => Ev.ret g
@[simp] theorem seqK_nx (u : Sv) (e : Env) : seqK u .nx e = u e := (rfl)
@[simp] theorem seqK_rt (u : Sv) (o : O) (e : Env) : seqK u (.rt o) e = .ok (.rt o) e := (rfl)
@[simp] theorem seqK_bk (u : Sv) (e : Env) : seqK u .bk e = .ok .bk e := (rfl)
@[simp] theorem seqK_ct (u : Sv) (e : Env) : seqK u .ct e = .ok .ct e := (rfl)
@[simp] theorem sSeq_app (s u : Sv) (e : Env) : sSeq s u e = (s e).bind (seqK u) := (rfl)
@[simp] theorem sBlk_nil (e : Env) : sBlk [] e = .ok .nx e := (rfl)
@[simp] theorem sBlk_one (s : Sv) (e : Env) : sBlk [s] e = s e := (rfl)
@[simp] theorem sBlk_cons (s t : Sv) (ss : List Sv) (e : Env) : sBlk (s :: t :: ss) e = (s e).bind (seqK (sBlk (t :: ss))) := (rfl)
@[simp] theorem sBrk_app (e : Env) : sBrk e = .ok .bk e := (rfl)
@[simp] theorem sCnt_app (e : Env) : sCnt e = .ok .ct e := (rfl)
@[simp] theorem sNever_app (e : Env) : sNever e = .fail := (rfl)
def asgK (io : List Nat) (tg : Tg) : OR → Env → Rs Fl := fun x e => match x with
  | .v o => match tg.bind io o e with
    | some e1 => .ok .nx e1
    | none => .fail
  | _ => .fail
@[simp] theorem sAsg_app (io : List Nat) (tg : Tg) (m : Ev OR) (e : Env) : sAsg io tg m e = (m e).bind (asgK io tg) := (rfl)
@[simp] theorem asgK_v (io : List Nat) (tg : Tg) (o : O) (e : Env) : asgK io tg (.v o) e = match tg.bind io o e with
    | some e1 => .ok .nx e1
    | none => .fail := (rfl)
@[simp] theorem setAll_nil (io : List Nat) (e : Env) : setAll io [] [] e = some e := (rfl)
@[simp] theorem setAll_cons (io : List Nat) (i : Nat) (is : List Nat) (o : O) (os : List O) (e : Env) : setAll io (i :: is) (o :: os) e = if io.contains i then none else setAll io is os (e.set i (some o)) := (rfl)
def parK (io is : List Nat) : List OR → Env → Rs Fl := fun xs e => match vals xs with
  | some os => match setAll io is os e with
    | some e1 => .ok .nx e1
    | none => .fail
  | none => .fail
@[simp] theorem parK_app (io is : List Nat) (xs : List OR) (e : Env) : parK io is xs e = match vals xs with
  | some os => match setAll io is os e with
    | some e1 => .ok .nx e1
    | none => .fail
  | none => .fail := (rfl)
@[simp] theorem sPar_app (io is : List Nat) (ms : List (Ev OR)) (e : Env) : sPar io is ms e = (mArgs ms e).bind (parK io is) := (rfl)
def exK : OR → Env → Rs Fl := fun _ e => .ok .nx e
@[simp] theorem exK_app (x : OR) (e : Env) : exK x e = .ok .nx e := (rfl)
@[simp] theorem sEx_app (m : Ev OR) (e : Env) : sEx m e = (m e).bind exK := (rfl)
def retK : OR → Env → Rs Fl := fun x => match x with
  | .v o => Ev.ret (.rt o)
  | _ => Ev.fail
@[simp] theorem retK_v (o : O) (e : Env) : retK (.v o) e = .ok (.rt o) e := (rfl)
@[simp] theorem sRet_app (m : Ev OR) (e : Env) : sRet m e = (m e).bind retK := (rfl)
@[simp] theorem sRetN_app (e : Env) : sRetN e = .ok (.rt (.fr .non)) e := (rfl)
def sifK (a b : Sv) : Bool → Env → Rs Fl := fun c => match c with
  | true => a
  | false => b
@[simp] theorem sIf_app (t : Ev Bool) (a b : Sv) (e : Env) : sIf t a b e = (t e).bind (sifK a b) := (rfl)
@[simp] theorem sifK_app (a b : Sv) (c : Bool) (e : Env) : sifK a b c e = if c = true then a e else b e := by cases c <;> rfl
@[simp] theorem sFor_app (io : List Nat) (tg : Tg) (src : Ev (List D)) (body : Sv) (e : Env) : sFor io tg src body e = (src e).bind (forGo io tg body) := (rfl)
/-! ### stores -/
@[simp] theorem upAt_app (e : Env) (i : Nat) (p : Path) (f : O → Option (O × O)) : upAt e i p f = match e.at i with
  | some o => match o.sub p with
    | some q => match f q with
      | some (q1, y) => .ok y (e.set i (some (o.put p q1)))
      | none => .fail
    | none => .fail
  | none => .fail := (rfl)
@[simp] theorem isOl_app (x : OR) (e : Env) : x.isOl e = match x.obj e with
  | some (.ol _) => true
  | _ => false := (rfl)
def vK : O → Env → Rs OR := fun y e => .ok (.v y) e
@[simp] theorem vK_app (y : O) (e : Env) : vK y e = .ok (.v y) e := (rfl)
def nxK : O → Env → Rs Fl := fun _ e => .ok .nx e
@[simp] theorem nxK_app (y : O) (e : Env) : nxK y e = .ok .nx e := (rfl)
@[simp] theorem mtFin_app (f : O → List O → Option (O × O)) (i : Nat) (p : Path) (xs : List OR) (e : Env) : mtFin f (.r i p) xs e = match vals xs with
  | some os => (upAt e i p fun q => f q os).bind vK
  | none => .fail := by
  unfold mtFin
  cases h : vals xs <;> rfl
@[simp] theorem isV_v (o : O) : isV (.v o) = true := (rfl)
@[simp] theorem setFin_app (w : O) (i : Nat) (p : Path) (y : OR) (e : Env) : setFin (.v w) (.r i p) y e = match y.fz with
  | some d => (upAt e i p fun q => (q.setItem d w).map fun q1 => (q1, .fr .non)).bind nxK
  | none => .fail := by
  unfold setFin
  cases h : y.fz <;> rfl
@[simp] theorem mMt_app (f : O → List O → Option (O × O)) (rc : Ev OR) (ms : List (Ev OR)) (e : Env) : mMt f rc ms e = (rc e).bind (mtAt f ms) := (rfl)
@[simp] theorem mtAt_app (f : O → List O → Option (O × O)) (ms : List (Ev OR)) (x : OR) (e : Env) : mtAt f ms x e = match x.isOl e with
  | true => (mArgs ms e).bind (mtFin f x)
  | false => .fail := by
  unfold mtAt
  cases x.isOl e <;> rfl
@[simp] theorem fAppend_app (xs : List O) (o : O) : fAppend (.ol xs) [o] = if xs.length < sizeMax then some (.ol (xs ++ [o]), .fr .non) else none := (rfl)
@[simp] theorem fPop_app (xs : List O) : fPop (.ol xs) [] = (xs[xs.length - 1]?).map fun y => (.ol xs.dropLast, y) := (rfl)
@[simp] theorem fPopAt_app (xs : List O) (i : Int) : fPopAt (.ol xs) [.fr (.int i)] = (ixN xs.length i).bind fun k => (xs[k]?).map fun y => (.ol (xs.eraseIdx k), y) := (rfl)
@[simp] theorem setItem_ol (xs : List O) (i : Int) (y : O) : (O.ol xs).setItem (.int i) y = (ixN xs.length i).map fun k => .ol (xs.set k y) := (rfl)
@[simp] theorem setItem_ok (kvs : List (Key × O)) (d : D) (y : O) : (O.ok kvs).setItem d y = d.key.bind fun k => if kvs.length < sizeMax then (kput? kvs k y).map .ok else none := (rfl)
@[simp] theorem kput_fr {κ : Type} [DecidableEq κ] (kvs : List (κ × O)) (k : κ) (d : D) : kput? kvs k (.fr d) = some (kput kvs k (.fr d)) := (rfl)
def setKK (z : OR) (x : OR) : OR → Env → Rs Fl := fun y e => setFin z x y e
@[simp] theorem setKK_app (z x y : OR) (e : Env) : setKK z x y e = setFin z x y e := (rfl)
def setRK (k : Ev OR) (z : OR) : OR → Env → Rs Fl := fun x e => (k e).bind (setKK z x)
@[simp] theorem setRK_app (k : Ev OR) (z x : OR) (e : Env) : setRK k z x e = (k e).bind (setKK z x) := (rfl)
def setK (rc k : Ev OR) : OR → Env → Rs Fl := fun z e => match isV z with
  | true => (rc e).bind (setRK k z)
  | false => .fail
@[simp] theorem setK_app (rc k : Ev OR) (z : OR) (e : Env) : setK rc k z e = match isV z with
  | true => (rc e).bind (setRK k z)
  | false => .fail := (rfl)
@[simp] theorem sSetI_app (rc k m : Ev OR) (e : Env) : sSetI rc k m e = (m e).bind (setK rc k) := by
  show (m e).bind _ = _
  congr 1
  funext z e
  rw [setK_app]
  cases h : isV z <;> rfl
@[simp] theorem mDk_app (e : Env) : mDk e = .ok (.v (.ok [])) e := (rfl)
@[simp] theorem mDt_app (e : Env) : mDt e = .ok (.v (.ot [])) e := (rfl)
def augK (io : List Nat) (i : Nat) : OR → Env → Rs Fl := fun x e => match x, io.contains i with
  | .v o, false => .ok .nx (e.set i (some o))
  | _, _ => .fail
@[simp] theorem augK_app (io : List Nat) (i : Nat) (x : OR) (e : Env) : augK io i x e = match x, io.contains i with
  | .v o, false => .ok .nx (e.set i (some o))
  | _, _ => .fail := (rfl)
@[simp] theorem sAug_app (io : List Nat) (i : Nat) (f : List D → Option O) (m : Ev OR) (e : Env) : sAug io i f m e = (mOp f [mV i, m] e).bind (augK io i) := (rfl)
@[simp] theorem dmFin_app (f : D → List D → Option O) (x : OR) (xs : List OR) (e : Env) : dmFin f x xs e = match x.view e, frzs xs with
  | some d, some ds => match f d ds with
    | some o => .ok (.v o) e
    | none => .fail
  | _, _ => .fail := (rfl)
@[simp] theorem mDm_app (p : D → Bool) (f : D → List D → Option O) (rc : Ev OR) (ms : List (Ev OR)) (e : Env) : mDm p f rc ms e = (rc e).bind (dmAt p f ms) := (rfl)
@[simp] theorem dmAt_app (p : D → Bool) (f : D → List D → Option O) (ms : List (Ev OR)) (x : OR) (e : Env) : dmAt p f ms x e = match (x.look e).map p, x.root with
  | some true, true => (mArgs ms e).bind (dmFin f x)
  | _, _ => .fail := (rfl)
/-! ### defs -/
@[simp] theorem outsOf_0 (io : List Nat) (k : Nat) (e : Env) : outsOf io k 0 e = [] := by cases e <;> rfl
@[simp] theorem outsOf_cons (io : List Nat) (k n : Nat) (o : Option O) (e : Env) : outsOf io k (n + 1) (o :: e) = (if io.contains k then o else none) :: outsOf io (k + 1) n e := (rfl)
/-! ### operations -/
@[simp] theorem fAdd_ii (i j : Int) : fAdd [.int i, .int j] = some (.fr (.int (i + j))) := (rfl)
@[simp] theorem fSub_ii (i j : Int) : fSub [.int i, .int j] = some (.fr (.int (i - j))) := (rfl)
@[simp] theorem fAddI_ii (i j : Int) : fAddI [.int i, .int j] = some (.fr (.int (i + j))) := (rfl)
@[simp] theorem fMul_ii (i j : Int) : fMul [.int i, .int j] = if mulOk i j then some (.fr (.int (i * j))) else none := (rfl)
@[simp] theorem fDiv_ii (i j : Int) : fDiv [.int i, .int j] = if divOk j then some (.fr (.int (i / j))) else none := (rfl)
@[simp] theorem fMod_ii (i j : Int) : fMod [.int i, .int j] = if 0 < j then some (.fr (.int (i % j))) else none := by simp [fMod, oI]
@[simp] theorem fNeg_i (i : Int) : fNeg [.int i] = some (.fr (.int (-i))) := (rfl)
@[simp] theorem fInt_i (i : Int) : fInt [.int i] = some (.fr (.int i)) := (rfl)
@[simp] theorem fInt_b (b : Bool) : fInt [.bl b] = some (.fr (.int (if b then 1 else 0))) := (rfl)
@[simp] theorem fAbs_i (i : Int) : fAbs [.int i] = some (.fr (.int (if i < 0 then -i else i))) := (rfl)
@[simp] theorem fMin2_ii (i j : Int) : fMin2 [.int i, .int j] = some (.fr (.int (if j < i then j else i))) := (rfl)
@[simp] theorem fMax2_ii (i j : Int) : fMax2 [.int i, .int j] = some (.fr (.int (if j > i then j else i))) := (rfl)
@[simp] theorem fLt_ii (i j : Int) : fLt [.int i, .int j] = some (.bl (decide (i < j))) := (rfl)
@[simp] theorem fLe_ii (i j : Int) : fLe [.int i, .int j] = some (.bl (decide (i ≤ j))) := (rfl)
@[simp] theorem fGt_ii (i j : Int) : fGt [.int i, .int j] = some (.bl (decide (j < i))) := (rfl)
@[simp] theorem fGe_ii (i j : Int) : fGe [.int i, .int j] = some (.bl (decide (j ≤ i))) := (rfl)
@[simp] theorem fEq_ii (i j : Int) : fEq [.int i, .int j] = some (.bl (i == j)) := (rfl)
@[simp] theorem fNe_ii (i j : Int) : fNe [.int i, .int j] = some (.bl (!(i == j))) := (rfl)
@[simp] theorem fEq_bb (i j : Bool) : fEq [.bl i, .bl j] = some (.bl (i == j)) := by
  cases i <;> cases j <;> rfl
@[simp] theorem fNe_bb (i j : Bool) : fNe [.bl i, .bl j] = some (.bl (!(i == j))) := by
  cases i <;> cases j <;> rfl
@[simp] theorem fNot_bl (b : Bool) : fNot [.bl b] = some (.bl !b) := (rfl)
@[simp] theorem fLen_lst (xs : List D) : fLen [.lst xs] = some (.int xs.length) := (rfl)
@[simp] theorem fLen_tup (xs : List D) : fLen [.tup xs] = some (.int xs.length) := (rfl)
@[simp] theorem fTuple_lst (xs : List D) : fTuple [.lst xs] = some (.fr (.tup xs)) := (rfl)
@[simp] theorem fTuple_tup (xs : List D) : fTuple [.tup xs] = some (.fr (.tup xs)) := (rfl)
@[simp] theorem fList_lst (xs : List D) : fList [.lst xs] = some (.ol (xs.map .fr)) := (rfl)
@[simp] theorem fList_tup (xs : List D) : fList [.tup xs] = some (.ol (xs.map .fr)) := (rfl)
@[simp] theorem fIsI_app (ts : List Ty) (d : D) : fIsI ts [d] = some (.bl (ts.any d.isT)) := (rfl)
@[simp] theorem fIsN_app (d : D) : fIsN [d] = some (.bl d.isNon) := by cases d <;> rfl
@[simp] theorem fNotN_app (d : D) : fNotN [d] = some (.bl !d.isNon) := by cases d <;> rfl
@[simp] theorem isNon_non : D.non.isNon = true := (rfl)
@[simp] theorem isNon_bl (b : Bool) : (D.bl b).isNon = false := (rfl)
@[simp] theorem isNon_int (b : Int) : (D.int b).isNon = false := (rfl)
@[simp] theorem isNon_str (b : Str) : (D.str b).isNon = false := (rfl)
@[simp] theorem isNon_tup (b : List D) : (D.tup b).isNon = false := (rfl)
@[simp] theorem isNon_lst (b : List D) : (D.lst b).isNon = false := (rfl)
@[simp] theorem isT_non (t : Ty) : D.non.isT t = false := by cases t <;> rfl
@[simp] theorem isT_int (i : Int) (t : Ty) : (D.int i).isT t = (match t with | .int => true | _ => false) := by cases t <;> rfl
@[simp] theorem isT_bl (i : Bool) (t : Ty) : (D.bl i).isT t = (match t with | .int => true | .bool => true | _ => false) := by cases t <;> rfl
@[simp] theorem isT_str (i : Str) (t : Ty) : (D.str i).isT t = (match t with | .str => true | _ => false) := by cases t <;> rfl
@[simp] theorem isT_lst (i : List D) (t : Ty) : (D.lst i).isT t = (match t with | .list => true | _ => false) := by cases t <;> rfl
@[simp] theorem isT_tup (i : List D) (t : Ty) : (D.tup i).isT t = (match t with | .tuple => true | _ => false) := by cases t <;> rfl
@[simp] theorem isT_dk (i : List (Key × D)) (t : Ty) : (D.dk i).isT t = (match t with | .dict => true | _ => false) := by cases t <;> rfl
@[simp] theorem isDict_dk (x : List (Key × D)) : (D.dk x).isDict = true := (rfl)
@[simp] theorem isDict_dt (x : List (List Key × D)) : (D.dt x).isDict = true := (rfl)
@[simp] theorem isLst_lst (x : List D) : (D.lst x).isLst = true := (rfl)
theorem powOk_of {i : Int} {j : Int} (h : powOk i j = true) : fPow [.int i, .int j] = some (.fr (.int (i ^ j.toNat))) := by
  show (if powOk i j then oI (i ^ j.toNat) else none) = _
  rw [if_pos h]
  rfl
end Ev
end
section
/-! EvP2: comprehensions, loops, calls (plain). -/
set_option linter.all false
namespace Ev
open PySem
/-- one round of a comprehension -/
def compOne (n : Nat) (own : List Nat) (tg : Tg) (t : Ev Bool) (elt : Ev OR) (d : D) : Env → Rs (Option OR) := fun e => match tg.bind (ioOf n own) (.fr d) (wipeE e own) with
  | none => .fail
  | some e1 => (t e1).calm.bind fun b e2 => match b with
    | false => .ok none (wipeE e2 own)
    | true => (elt e2).calm.bind fun x e3 => .ok (some x) (wipeE e3 own)
def compEK (own : List Nat) : OR → Env → Rs (Option OR) := fun x e3 => .ok (some x) (wipeE e3 own)
@[simp] theorem compEK_app (own : List Nat) (x : OR) (e : Env) : compEK own x e = .ok (some x) (wipeE e own) := (rfl)
def compTK (own : List Nat) (elt : Ev OR) : Bool → Env → Rs (Option OR) := fun b e2 => match b with
    | false => .ok none (wipeE e2 own)
    | true => (elt e2).calm.bind (compEK own)
@[simp] theorem compTK_app (own : List Nat) (elt : Ev OR) (b : Bool) (e : Env) : compTK own elt b e = match b with
    | false => .ok none (wipeE e own)
    | true => (elt e).calm.bind (compEK own) := (rfl)
@[simp] theorem compOne_app (n : Nat) (own : List Nat) (tg : Tg) (t : Ev Bool) (elt : Ev OR) (d : D) (e : Env) : compOne n own tg t elt d e = match tg.bind (ioOf n own) (.fr d) (wipeE e own) with
  | none => .fail
  | some e1 => (t e1).calm.bind (compTK own elt) := (rfl)
theorem compGo_cons (n : Nat) (own : List Nat) (tg : Tg) (t : Ev Bool) (elt : Ev OR) (d : D) (ds : List D) (acc : List O) (e : Env) : compGo n own tg t elt (d :: ds) acc e = (compOne n own tg t elt d e).bind fun r e => match r with
    | none => compGo n own tg t elt ds acc e
    | some (.v y) => if acc.length < sizeMax then compGo n own tg t elt ds (acc ++ [y]) e else .fail
    | _ => .fail := by
  show (match tg.bind (ioOf n own) (.fr d) (wipeE e own) with | none => Rs.fail | some e1 => _) = _
  unfold compOne
  cases tg.bind (ioOf n own) (.fr d) (wipeE e own) with
  | none => rfl
  | some e1 =>
    show (t e1).calm.bind _ = ((t e1).calm.bind _).bind _
    rw [bind_bind]
    congr 1
    funext b e2
    cases b with
    | false => rfl
    | true =>
      show (elt e2).calm.bind _ = ((elt e2).calm.bind _).bind _
      rw [bind_bind]
      congr 1
      funext x e3
      cases x <;> rfl
theorem wipe_len (e : Env) (own : List Nat) : (wipeE e own).length = e.length := by
  induction own with
  | nil => rfl
  | cons v vs ih => simp [ih]
theorem compGo_inv {n : Nat} {own : List Nat} {tg : Tg} {t : Ev Bool} {elt : Ev OR} (I : List D → List O → Env → Prop)
    (hstep : ∀ d ds acc e, I (d :: ds) acc e → ∃ r e', compOne n own tg t elt d e = .ok r e' ∧ ((r = none ∧ I ds acc e') ∨ ∃ y, r = some (.v y) ∧ acc.length < sizeMax ∧ I ds (acc ++ [y]) e')) :
    ∀ ds acc e, I ds acc e → ∃ ys e', compGo n own tg t elt ds acc e = .ok ys e' ∧ I [] ys e'
  | [], acc, e, h => ⟨acc, e, rfl, h⟩
  | d :: ds, acc, e, h => by
    obtain ⟨r, e', q, z⟩ := hstep d ds acc e h
    rw [compGo_cons, q, bind_ok]
    rcases z with ⟨rfl, z⟩ | ⟨y, rfl, l, z⟩
    · exact compGo_inv I hstep ds acc e' z
    · simp only [l, if_true]
      exact compGo_inv I hstep ds (acc ++ [y]) e' z
theorem comp_inv {n : Nat} {own : List Nat} {tg : Tg} {src : Ev (List D)} {t : Ev Bool} {elt : Ev OR} {e e1 : Env} {ds : List D} (I : List D → List O → Env → Prop)
    (hs : src e = .ok ds e1) (hz : own.all (frzAt e1) = true) (hl : e1.length ≤ n) (h0 : I ds [] (wipeE e1 own))
    (hstep : ∀ d ds acc e, I (d :: ds) acc e → ∃ r e', compOne n own tg t elt d e = .ok r e' ∧ ((r = none ∧ I ds acc e') ∨ ∃ y, r = some (.v y) ∧ acc.length < sizeMax ∧ I ds (acc ++ [y]) e')) :
    ∃ ys e', mComp n own tg src t elt e = .ok (.v (.ol ys)) (backE e1 (wipeE e' own) own) ∧ I [] ys e' := by
  obtain ⟨ys, e', q, z⟩ := compGo_inv I hstep ds [] _ h0
  refine ⟨ys, e', ?_, z⟩
  show (src e).bind _ = _
  rw [hs, bind_ok, hz, show decide (e1.length ≤ n) = true from by simpa using hl]
  show (compGo n own tg t elt ds [] (wipeE e1 own)).bind _ = _
  rw [q, bind_ok]
theorem comp_pure {n : Nat} {own : List Nat} {tg : Tg} {src : Ev (List D)} {t : Ev Bool} {elt : Ev OR} {e e1 : Env} {ds : List D} (f : D → Option O)
    (hs : src e = .ok ds e1) (hz : own.all (frzAt e1) = true) (hl : e1.length ≤ n) (hn : ds.length ≤ sizeMax)
    (hstep : ∀ d ∈ ds, compOne n own tg t elt d (wipeE e1 own) = .ok ((f d).map .v) (wipeE e1 own)) :
    mComp n own tg src t elt e = .ok (.v (.ol (ds.filterMap f))) (backE e1 (wipeE (wipeE e1 own) own) own) := by
  obtain ⟨ys, e', q, z⟩ := comp_inv (n := n) (own := own) (tg := tg) (src := src) (t := t) (elt := elt) (fun r acc e' => e' = wipeE e1 own ∧ ∃ p, ds = p ++ r ∧ acc = p.filterMap f) hs hz hl ⟨rfl, [], rfl, rfl⟩ (by
    rintro d r acc e' ⟨rfl, p, rfl, rfl⟩
    refine ⟨_, _, hstep d (by simp), ?_⟩
    cases q : f d with
    | none => exact .inl ⟨rfl, rfl, p ++ [d], by simp, by simp [q]⟩
    | some y =>
      refine .inr ⟨y, rfl, ?_, rfl, p ++ [d], by simp, by simp [q]⟩
      have := List.length_filterMap_le f p
      simp at hn
      omega)
  obtain ⟨rfl, p, hp, rfl⟩ := z
  simp at hp
  rw [q, hp]
/-- all items go over -/
theorem comp_map {n : Nat} {own : List Nat} {tg : Tg} {src : Ev (List D)} {t : Ev Bool} {elt : Ev OR} {e e1 : Env} {ds : List D} (f : D → O)
    (hs : src e = .ok ds e1) (hz : own.all (frzAt e1) = true) (hl : e1.length ≤ n) (hn : ds.length ≤ sizeMax)
    (hstep : ∀ d ∈ ds, compOne n own tg t elt d (wipeE e1 own) = .ok (some (.v (f d))) (wipeE e1 own)) :
    mComp n own tg src t elt e = .ok (.v (.ol (ds.map f))) (backE e1 (wipeE (wipeE e1 own) own) own) := by
  have := comp_pure (n := n) (own := own) (tg := tg) (src := src) (t := t) (elt := elt) (fun d => some (f d)) hs hz hl hn (by simpa using hstep)
  simpa using this
/-! two clauses -/
theorem compIn_eq (n : Nat) (own : List Nat) (tg : Tg) (t : Ev Bool) (elt : Ev OR) : ∀ (ds : List D) (acc : List O), compIn n own tg t elt ds acc = compGo n own tg t elt ds acc
  | [], acc => rfl
  | d :: ds, acc => by
    funext e
    show (match tg.bind (ioOf n own) (.fr d) (wipeE e own) with | none => Rs.fail | some e1 => _) = (match tg.bind (ioOf n own) (.fr d) (wipeE e own) with | none => Rs.fail | some e1 => _)
    cases tg.bind (ioOf n own) (.fr d) (wipeE e own) with
    | none => rfl
    | some e1 =>
      show (t e1).calm.bind _ = (t e1).calm.bind _
      congr 1
      funext b e2
      cases b with
      | false => exact congrFun (compIn_eq n own tg t elt ds acc) _
      | true =>
        show (elt e2).calm.bind _ = (elt e2).calm.bind _
        congr 1
        funext x e3
        cases x with
        | v y =>
          show (if acc.length < sizeMax then compIn n own tg t elt ds (acc ++ [y]) (wipeE e3 own) else .fail) = (if acc.length < sizeMax then compGo n own tg t elt ds (acc ++ [y]) (wipeE e3 own) else .fail)
          rw [compIn_eq n own tg t elt ds (acc ++ [y])]
        | r i p => rfl
/-- the outer round up to the inner items -/
def compHead (n : Nat) (own own1 : List Nat) (tg : Tg) (t : Ev Bool) (src1 : Ev (List D)) (d : D) : Env → Rs (Option (List D)) := fun e => match tg.bind (ioOf n own) (.fr d) (wipeE e own) with
  | none => .fail
  | some e1 => (t e1).calm.bind fun b e2 => match b with
    | false => .ok none (wipeE e2 own)
    | true => (src1 e2).calm.bind fun ds1 e3 => .ok (some ds1) (wipeE e3 own1)
def headEK (own1 : List Nat) : List D → Env → Rs (Option (List D)) := fun ds1 e3 => .ok (some ds1) (wipeE e3 own1)
@[simp] theorem headEK_app (own1 : List Nat) (ds1 : List D) (e : Env) : headEK own1 ds1 e = .ok (some ds1) (wipeE e own1) := (rfl)
def headTK (own own1 : List Nat) (src1 : Ev (List D)) : Bool → Env → Rs (Option (List D)) := fun b e2 => match b with
    | false => .ok none (wipeE e2 own)
    | true => (src1 e2).calm.bind (headEK own1)
@[simp] theorem headTK_app (own own1 : List Nat) (src1 : Ev (List D)) (b : Bool) (e : Env) : headTK own own1 src1 b e = match b with
    | false => .ok none (wipeE e own)
    | true => (src1 e).calm.bind (headEK own1) := (rfl)
@[simp] theorem compHead_app (n : Nat) (own own1 : List Nat) (tg : Tg) (t : Ev Bool) (src1 : Ev (List D)) (d : D) (e : Env) : compHead n own own1 tg t src1 d e = match tg.bind (ioOf n own) (.fr d) (wipeE e own) with
  | none => .fail
  | some e1 => (t e1).calm.bind (headTK own own1 src1) := (rfl)
theorem compOut_cons (n : Nat) (own own1 : List Nat) (tg : Tg) (t : Ev Bool) (tg1 : Tg) (src1 : Ev (List D)) (t1 : Ev Bool) (elt : Ev OR) (d : D) (ds : List D) (acc : List O) (e : Env) : compOut n own own1 tg t tg1 src1 t1 elt (d :: ds) acc e = (compHead n own own1 tg t src1 d e).bind fun r e => match r with
    | none => compOut n own own1 tg t tg1 src1 t1 elt ds acc e
    | some ds1 => (compGo n own1 tg1 t1 elt ds1 acc e).bind fun acc1 e4 => compOut n own own1 tg t tg1 src1 t1 elt ds acc1 (wipeE e4 own) := by
  show (match tg.bind (ioOf n own) (.fr d) (wipeE e own) with | none => Rs.fail | some e1 => _) = _
  unfold compHead
  cases tg.bind (ioOf n own) (.fr d) (wipeE e own) with
  | none => rfl
  | some e1 =>
    show (t e1).calm.bind _ = ((t e1).calm.bind _).bind _
    rw [bind_bind]
    congr 1
    funext b e2
    cases b with
    | false => rfl
    | true =>
      show (src1 e2).calm.bind _ = ((src1 e2).calm.bind _).bind _
      rw [bind_bind]
      congr 1
      funext x e3
      show (compIn n own1 tg1 t1 elt x acc (wipeE e3 own1)).bind _ = (compGo n own1 tg1 t1 elt x acc (wipeE e3 own1)).bind _
      rw [compIn_eq]
theorem compGo_pure {n : Nat} {own : List Nat} {tg : Tg} {t : Ev Bool} {elt : Ev OR} {e : Env} (f : D → Option O) :
    ∀ (ds : List D) (acc : List O), acc.length + ds.length ≤ sizeMax → (∀ d ∈ ds, compOne n own tg t elt d e = .ok ((f d).map .v) e) → compGo n own tg t elt ds acc e = .ok (acc ++ ds.filterMap f) e
  | [], acc, _, _ => by simp [compGo]
  | d :: ds, acc, hn, h => by
    rw [compGo_cons, h d (by simp), bind_ok]
    simp at hn
    cases q : f d with
    | none =>
      show compGo n own tg t elt ds acc e = _
      rw [compGo_pure f ds acc (by omega) fun x hx => h x (by simp [hx])]
      simp [q]
    | some y =>
      show (if acc.length < sizeMax then compGo n own tg t elt ds (acc ++ [y]) e else .fail) = _
      rw [if_pos (by omega), compGo_pure f ds (acc ++ [y]) (by simp; omega) fun x hx => h x (by simp [hx])]
      simp [q]
theorem compOut_pure {n : Nat} {own own1 : List Nat} {tg : Tg} {t : Ev Bool} {tg1 : Tg} {src1 : Ev (List D)} {t1 : Ev Bool} {elt : Ev OR} {e : Env} (g : D → Option (List D)) (f : D → D → Option O) :
    ∀ (ds : List D) (acc : List O), acc.length + (ds.map fun d => ((g d).getD []).length).sum ≤ sizeMax →
    (∀ d ∈ ds, (g d = none ∧ compHead n own own1 tg t src1 d e = .ok none e) ∨ ∃ ds1 e1, g d = some ds1 ∧ compHead n own own1 tg t src1 d e = .ok (some ds1) e1 ∧ wipeE e1 own = e ∧ ∀ d1 ∈ ds1, compOne n own1 tg1 t1 elt d1 e1 = .ok ((f d d1).map .v) e1) →
    compOut n own own1 tg t tg1 src1 t1 elt ds acc e = .ok (acc ++ ds.flatMap fun d => ((g d).getD []).filterMap (f d)) e
  | [], acc, _, _ => by simp [compOut]
  | d :: ds, acc, hn, h => by
    rw [compOut_cons]
    simp at hn
    rcases h d (by simp) with ⟨q, z⟩ | ⟨ds1, e1, q, z, w, u⟩
    · rw [z, bind_ok]
      show compOut n own own1 tg t tg1 src1 t1 elt ds acc e = _
      rw [compOut_pure g f ds acc (by omega) fun x hx => h x (by simp [hx])]
      simp [q]
    · rw [z, bind_ok]
      show (compGo n own1 tg1 t1 elt ds1 acc e1).bind _ = _
      rw [q] at hn
      simp at hn
      have l := List.length_filterMap_le (f d) ds1
      rw [compGo_pure (f d) ds1 acc (by omega) u, bind_ok, w]
      rw [compOut_pure g f ds _ (by rw [List.length_append]; omega) fun x hx => h x (by simp [hx])]
      simp [q]
theorem comp2_pure {n : Nat} {own own1 : List Nat} {tg : Tg} {src : Ev (List D)} {t : Ev Bool} {tg1 : Tg} {src1 : Ev (List D)} {t1 : Ev Bool} {elt : Ev OR} {e e1 : Env} {ds : List D} (g : D → Option (List D)) (f : D → D → Option O)
    (hs : src e = .ok ds e1) (hz : own.all (frzAt e1) = true) (hl : e1.length ≤ n) (hn : (ds.map fun d => ((g d).getD []).length).sum ≤ sizeMax)
    (hstep : ∀ d ∈ ds, (g d = none ∧ compHead n own own1 tg t src1 d (wipeE e1 own) = .ok none (wipeE e1 own)) ∨ ∃ ds1 e2, g d = some ds1 ∧ compHead n own own1 tg t src1 d (wipeE e1 own) = .ok (some ds1) e2 ∧ wipeE e2 own = wipeE e1 own ∧ ∀ d1 ∈ ds1, compOne n own1 tg1 t1 elt d1 e2 = .ok ((f d d1).map .v) e2) :
    mComp2 n own own1 tg src t tg1 src1 t1 elt e = .ok (.v (.ol (ds.flatMap fun d => ((g d).getD []).filterMap (f d)))) (backE e1 (wipeE (wipeE e1 own) own) own) := by
  show (src e).bind _ = _
  rw [hs, bind_ok, hz, show decide (e1.length ≤ n) = true from by simpa using hl]
  show (compOut n own own1 tg t tg1 src1 t1 elt ds [] (wipeE e1 own)).bind _ = _
  rw [compOut_pure g f ds [] (by simpa using hn) hstep]
  simp
/-! items told by other things -/
theorem compGo_pureA {α : Type} {n : Nat} {own : List Nat} {tg : Tg} {t : Ev Bool} {elt : Ev OR} {e : Env} (g : α → D) (f : α → Option O) :
    ∀ (xs : List α) (acc : List O), acc.length + xs.length ≤ sizeMax → (∀ a ∈ xs, compOne n own tg t elt (g a) e = .ok ((f a).map .v) e) → compGo n own tg t elt (xs.map g) acc e = .ok (acc ++ xs.filterMap f) e
  | [], acc, _, _ => by simp [compGo]
  | d :: ds, acc, hn, h => by
    rw [List.map_cons, compGo_cons, h d (by simp), bind_ok]
    simp at hn
    cases q : f d with
    | none =>
      show compGo n own tg t elt _ acc e = _
      rw [compGo_pureA g f ds acc (by omega) fun x hx => h x (by simp [hx])]
      simp [q]
    | some y =>
      show (if acc.length < sizeMax then compGo n own tg t elt _ (acc ++ [y]) e else .fail) = _
      rw [if_pos (by omega), compGo_pureA g f ds (acc ++ [y]) (by simp; omega) fun x hx => h x (by simp [hx])]
      simp [q]
theorem comp_pureA {α : Type} {n : Nat} {own : List Nat} {tg : Tg} {src : Ev (List D)} {t : Ev Bool} {elt : Ev OR} {e e1 : Env} {xs : List α} (g : α → D) (f : α → Option O)
    (hs : src e = .ok (xs.map g) e1) (hz : own.all (frzAt e1) = true) (hl : e1.length ≤ n) (hn : xs.length ≤ sizeMax)
    (hstep : ∀ a ∈ xs, compOne n own tg t elt (g a) (wipeE e1 own) = .ok ((f a).map .v) (wipeE e1 own)) :
    mComp n own tg src t elt e = .ok (.v (.ol (xs.filterMap f))) (backE e1 (wipeE (wipeE e1 own) own) own) := by
  show (src e).bind _ = _
  rw [hs, bind_ok, hz, show decide (e1.length ≤ n) = true from by simpa using hl]
  show (compGo n own tg t elt _ [] (wipeE e1 own)).bind _ = _
  rw [compGo_pureA g f xs [] (by simpa using hn) hstep]
  simp
theorem comp_mapA {α : Type} {n : Nat} {own : List Nat} {tg : Tg} {src : Ev (List D)} {t : Ev Bool} {elt : Ev OR} {e e1 : Env} {xs : List α} (g : α → D) (f : α → O)
    (hs : src e = .ok (xs.map g) e1) (hz : own.all (frzAt e1) = true) (hl : e1.length ≤ n) (hn : xs.length ≤ sizeMax)
    (hstep : ∀ a ∈ xs, compOne n own tg t elt (g a) (wipeE e1 own) = .ok (some (.v (f a))) (wipeE e1 own)) :
    mComp n own tg src t elt e = .ok (.v (.ol (xs.map f))) (backE e1 (wipeE (wipeE e1 own) own) own) := by
  have := comp_pureA (n := n) (own := own) (tg := tg) (src := src) (t := t) (elt := elt) g (fun d => some (f d)) hs hz hl hn (by simpa using hstep)
  simpa using this
theorem compOut_pureA {α β : Type} {n : Nat} {own own1 : List Nat} {tg : Tg} {t : Ev Bool} {tg1 : Tg} {src1 : Ev (List D)} {t1 : Ev Bool} {elt : Ev OR} {e : Env} (g : α → D) (ys : α → List β) (h : α → β → D) (f : α → β → Option O) :
    ∀ (xs : List α) (acc : List O), acc.length + (xs.map fun a => (ys a).length).sum ≤ sizeMax →
    (∀ a ∈ xs, (ys a = [] ∧ compHead n own own1 tg t src1 (g a) e = .ok none e) ∨ ∃ e1, compHead n own own1 tg t src1 (g a) e = .ok (some ((ys a).map (h a))) e1 ∧ wipeE e1 own = e ∧ ∀ b ∈ ys a, compOne n own1 tg1 t1 elt (h a b) e1 = .ok ((f a b).map .v) e1) →
    compOut n own own1 tg t tg1 src1 t1 elt (xs.map g) acc e = .ok (acc ++ xs.flatMap fun a => (ys a).filterMap (f a)) e
  | [], acc, _, _ => by simp [compOut]
  | d :: ds, acc, hn, hh => by
    rw [List.map_cons, compOut_cons]
    simp at hn
    rcases hh d (by simp) with ⟨q, z⟩ | ⟨e1, z, w, u⟩
    · rw [z, bind_ok]
      show compOut n own own1 tg t tg1 src1 t1 elt _ acc e = _
      rw [compOut_pureA g ys h f ds acc (by omega) fun x hx => hh x (by simp [hx])]
      simp [q]
    · rw [z, bind_ok]
      show (compGo n own1 tg1 t1 elt _ acc e1).bind _ = _
      have l := List.length_filterMap_le (f d) (ys d)
      rw [compGo_pureA (h d) (f d) (ys d) acc (by omega) u, bind_ok, w]
      rw [compOut_pureA g ys h f ds _ (by rw [List.length_append]; omega) fun x hx => hh x (by simp [hx])]
      simp
theorem comp2_pureA {α β : Type} {n : Nat} {own own1 : List Nat} {tg : Tg} {src : Ev (List D)} {t : Ev Bool} {tg1 : Tg} {src1 : Ev (List D)} {t1 : Ev Bool} {elt : Ev OR} {e e1 : Env} {xs : List α} (g : α → D) (ys : α → List β) (h : α → β → D) (f : α → β → Option O)
    (hs : src e = .ok (xs.map g) e1) (hz : own.all (frzAt e1) = true) (hl : e1.length ≤ n) (hn : (xs.map fun a => (ys a).length).sum ≤ sizeMax)
    (hstep : ∀ a ∈ xs, (ys a = [] ∧ compHead n own own1 tg t src1 (g a) (wipeE e1 own) = .ok none (wipeE e1 own)) ∨ ∃ e2, compHead n own own1 tg t src1 (g a) (wipeE e1 own) = .ok (some ((ys a).map (h a))) e2 ∧ wipeE e2 own = wipeE e1 own ∧ ∀ b ∈ ys a, compOne n own1 tg1 t1 elt (h a b) e2 = .ok ((f a b).map .v) e2) :
    mComp2 n own own1 tg src t tg1 src1 t1 elt e = .ok (.v (.ol (xs.flatMap fun a => (ys a).filterMap (f a)))) (backE e1 (wipeE (wipeE e1 own) own) own) := by
  show (src e).bind _ = _
  rw [hs, bind_ok, hz, show decide (e1.length ≤ n) = true from by simpa using hl]
  show (compOut n own own1 tg t tg1 src1 t1 elt _ [] (wipeE e1 own)).bind _ = _
  rw [compOut_pureA g ys h f xs [] (by simpa using hn) hstep]
  simp
/-- numbers one behind another -/
theorem range_D (i : Int) (k : Nat) (j : Int) (h : j = i + k) : rangeD i j = (List.range k).map fun n : Nat => D.int (i + (n : Int)) := by
  subst h
  unfold rangeD
  congr 2
  omega
/-! ### for -/
def forOne (io : List Nat) (tg : Tg) (body : Sv) (d : D) : Env → Rs Fl := fun e => match tg.bind io (.fr d) e with
  | none => .fail
  | some e1 => body e1
@[simp] theorem forOne_app (io : List Nat) (tg : Tg) (body : Sv) (d : D) (e : Env) : forOne io tg body d e = match tg.bind io (.fr d) e with
  | none => .fail
  | some e1 => body e1 := (rfl)
theorem forGo_cons (io : List Nat) (tg : Tg) (body : Sv) (d : D) (ds : List D) (e : Env) : forGo io tg body (d :: ds) e = (forOne io tg body d e).bind fun f e2 => match f with
      | .nx => forGo io tg body ds e2
      | .ct => forGo io tg body ds e2
      | .bk => .ok .nx e2
      | .rt o => .ok (.rt o) e2 := by
  show (match tg.bind io (.fr d) e with | none => Rs.fail | some e1 => _) = _
  unfold forOne
  cases tg.bind io (.fr d) e <;> rfl
@[simp] theorem forGo_nil (io : List Nat) (tg : Tg) (body : Sv) (e : Env) : forGo io tg body [] e = .ok .nx e := (rfl)
/-- a loop that always goes on -/
theorem for_inv {io : List Nat} {tg : Tg} {body : Sv} (I : List D → Env → Prop)
    (hstep : ∀ d ds e, I (d :: ds) e → ∃ f e', forOne io tg body d e = .ok f e' ∧ (f = .nx ∨ f = .ct) ∧ I ds e') :
    ∀ ds e, I ds e → ∃ e', forGo io tg body ds e = .ok .nx e' ∧ I [] e'
  | [], e, h => ⟨e, rfl, h⟩
  | d :: ds, e, h => by
    obtain ⟨f, e', q, z, w⟩ := hstep d ds e h
    rw [forGo_cons, q, bind_ok]
    rcases z with rfl | rfl
    · exact for_inv I hstep ds e' w
    · exact for_inv I hstep ds e' w
/-- .. that may return -/
theorem for_inv_rt {io : List Nat} {tg : Tg} {body : Sv} (I : List D → Env → Prop) (R : O → Env → Prop)
    (hstep : ∀ d ds e, I (d :: ds) e → ∃ f e', forOne io tg body d e = .ok f e' ∧ (((f = .nx ∨ f = .ct) ∧ I ds e') ∨ ∃ o, f = .rt o ∧ R o e')) :
    ∀ ds e, I ds e → ∃ f e', forGo io tg body ds e = .ok f e' ∧ ((f = .nx ∧ I [] e') ∨ ∃ o, f = .rt o ∧ R o e')
  | [], e, h => ⟨.nx, e, rfl, .inl ⟨rfl, h⟩⟩
  | d :: ds, e, h => by
    obtain ⟨f, e', q, z⟩ := hstep d ds e h
    rw [forGo_cons, q, bind_ok]
    rcases z with ⟨z | z, w⟩ | ⟨o, z, w⟩ <;> subst z
    · exact for_inv_rt I R hstep ds e' w
    · exact for_inv_rt I R hstep ds e' w
    · exact ⟨.rt o, e', rfl, .inr ⟨o, rfl, w⟩⟩
/-! ### dicts -/
def dspK (ks : List Key) : List OR → Env → Rs OR := fun xs e => match vals xs with
  | some os => .ok (.v (.ok (ks.zip os))) e
  | none => .fail
@[simp] theorem dspK_app (ks : List Key) (xs : List OR) (e : Env) : dspK ks xs e = match vals xs with
  | some os => .ok (.v (.ok (ks.zip os))) e
  | none => .fail := (rfl)
@[simp] theorem mDsp_app (ks : List Key) (ms : List (Ev OR)) (e : Env) : mDsp ks ms e = (mArgs ms e).bind (dspK ks) := (rfl)
def chnBK (f g : List D → Option D) (b c : Ev OR) : OR → Env → Rs OR := fun x e => (b e).bind (chnA f g c x)
@[simp] theorem chnBK_app (f g : List D → Option D) (b c : Ev OR) (x : OR) (e : Env) : chnBK f g b c x e = (b e).bind (chnA f g c x) := (rfl)
@[simp] theorem mChn_app (f g : List D → Option D) (a b c : Ev OR) (e : Env) : mChn f g a b c e = (a e).bind (chnBK f g b c) := (rfl)
@[simp] theorem chnA_app (f g : List D → Option D) (c : Ev OR) (i j : Int) (e : Env) : chnA f g c (.v (.fr (.int i))) (.v (.fr (.int j))) e = match f [.int i, .int j] with
    | some (.bl true) => (c e).bind (chnB g j)
    | some (.bl false) => .ok (.v (.fr (.bl false))) e
    | _ => .fail := by
  show (match f [.int i, .int j] with
    | some (.bl true) => c.bind (chnB g j)
    | some (.bl false) => Ev.ret (.v (.fr (.bl false)))
    | _ => Ev.fail : Ev OR) e = _
  cases f [.int i, .int j] with
  | none => rfl
  | some d =>
    cases d with
    | bl b => cases b <;> rfl
    | _ => rfl
@[simp] theorem chnB_app (g : List D → Option D) (j k : Int) (e : Env) : chnB g j (.v (.fr (.int k))) e = match g [.int j, .int k] with
    | some (.bl r) => .ok (.v (.fr (.bl r))) e
    | _ => .fail := by
  show (match g [.int j, .int k] with
    | some (.bl r) => Ev.ret (.v (.fr (.bl r)))
    | _ => Ev.fail : Ev OR) e = _
  cases g [.int j, .int k] with
  | none => rfl
  | some d => cases d <;> rfl
/-- one round of a comprehension that makes a dict -/
def dcVK (own : List Nat) (k : Key) : OR → Env → Rs (Option (Key × OR)) := fun y e => .ok (some (k, y)) (wipeE e own)
@[simp] theorem dcVK_app (own : List Nat) (k : Key) (y : OR) (e : Env) : dcVK own k y e = .ok (some (k, y)) (wipeE e own) := (rfl)
def dcKK (own : List Nat) (elt : Ev OR) : OR → Env → Rs (Option (Key × OR)) := fun x e => match keyOf x with
  | some k => (elt e).calm.bind (dcVK own k)
  | none => .fail
@[simp] theorem dcKK_app (own : List Nat) (elt : Ev OR) (x : OR) (e : Env) : dcKK own elt x e = match keyOf x with
  | some k => (elt e).calm.bind (dcVK own k)
  | none => .fail := (rfl)
@[simp] theorem keyOf_v (d : D) : keyOf (.v (.fr d)) = d.key := (rfl)
def dcTK (own : List Nat) (key elt : Ev OR) : Bool → Env → Rs (Option (Key × OR)) := fun b e => match b with
  | false => .ok none (wipeE e own)
  | true => (key e).calm.bind (dcKK own elt)
@[simp] theorem dcTK_app (own : List Nat) (key elt : Ev OR) (b : Bool) (e : Env) : dcTK own key elt b e = match b with
  | false => .ok none (wipeE e own)
  | true => (key e).calm.bind (dcKK own elt) := (rfl)
def dcOne (n : Nat) (own : List Nat) (tg : Tg) (t : Ev Bool) (key elt : Ev OR) (d : D) : Env → Rs (Option (Key × OR)) := fun e => match tg.bind (ioOf n own) (.fr d) (wipeE e own) with
  | none => .fail
  | some e1 => (t e1).calm.bind (dcTK own key elt)
@[simp] theorem dcOne_app (n : Nat) (own : List Nat) (tg : Tg) (t : Ev Bool) (key elt : Ev OR) (d : D) (e : Env) : dcOne n own tg t key elt d e = match tg.bind (ioOf n own) (.fr d) (wipeE e own) with
  | none => .fail
  | some e1 => (t e1).calm.bind (dcTK own key elt) := (rfl)
theorem dcGo_cons (n : Nat) (own : List Nat) (tg : Tg) (t : Ev Bool) (key elt : Ev OR) (d : D) (ds : List D) (acc : List (Key × O)) (e : Env) : dcGo n own tg t key elt (d :: ds) acc e = (dcOne n own tg t key elt d e).bind fun r e => match r with
    | none => dcGo n own tg t key elt ds acc e
    | some (k, .v o) => (match kput? acc k o with
      | some acc2 => if acc.length < sizeMax then dcGo n own tg t key elt ds acc2 e else .fail
      | none => .fail)
    | _ => .fail := by
  show (match tg.bind (ioOf n own) (.fr d) (wipeE e own) with | none => Rs.fail | some e1 => _) = _
  unfold dcOne
  cases tg.bind (ioOf n own) (.fr d) (wipeE e own) with
  | none => rfl
  | some e1 =>
    show (t e1).calm.bind _ = ((t e1).calm.bind _).bind _
    rw [bind_bind]
    congr 1
    funext b e2
    cases b with
    | false => rfl
    | true =>
      show (key e2).calm.bind _ = ((key e2).calm.bind _).bind _
      rw [bind_bind]
      congr 1
      funext x e3
      show (match keyOf x with | some k => _ | none => _) = (dcKK own elt x e3).bind _
      unfold dcKK
      cases keyOf x with
      | none => rfl
      | some k =>
        show (elt e3).calm.bind _ = ((elt e3).calm.bind _).bind _
        rw [bind_bind]
        congr 1
        funext y e4
        cases y <;> rfl
/-- all values frozen, other keys each time -/
theorem dc_pureA {α : Type} {n : Nat} {own : List Nat} {tg : Tg} {src : Ev (List D)} {t : Ev Bool} {key elt : Ev OR} {e e1 : Env} {xs : List α} (g : α → D) (k : α → Key) (v : α → D)
    (hs : src e = .ok (xs.map g) e1) (hz : own.all (frzAt e1) = true) (hl : e1.length ≤ n) (hn : xs.length ≤ sizeMax)
    (hstep : ∀ a ∈ xs, dcOne n own tg t key elt (g a) (wipeE e1 own) = .ok (some (k a, .v (.fr (v a)))) (wipeE e1 own)) :
    mDc n own tg src t key elt e = .ok (.v (.ok (xs.foldl (fun acc a => kput acc (k a) (.fr (v a))) []))) (backE e1 (wipeE (wipeE e1 own) own) own) := by
  have klen : ∀ (acc : List (Key × O)) (k : Key) (o : O), (kput acc k o).length ≤ acc.length + 1 := by
    intro acc k o
    unfold kput
    split <;> simp
  have main : ∀ (xs : List α) (acc : List (Key × O)), acc.length + xs.length ≤ sizeMax → (∀ a ∈ xs, dcOne n own tg t key elt (g a) (wipeE e1 own) = .ok (some (k a, .v (.fr (v a)))) (wipeE e1 own)) →
      dcGo n own tg t key elt (xs.map g) acc (wipeE e1 own) = .ok (xs.foldl (fun acc a => kput acc (k a) (.fr (v a))) acc) (wipeE e1 own) := by
    intro xs
    induction xs with
    | nil => intro acc _ _; rfl
    | cons a xs ih =>
      intro acc hn h
      rw [List.map_cons, dcGo_cons, h a (by simp), bind_ok]
      simp at hn
      show (if acc.length < sizeMax then dcGo n own tg t key elt (xs.map g) (kput acc (k a) (.fr (v a))) (wipeE e1 own) else .fail) = _
      rw [if_pos (by omega), ih _ (by have := klen acc (k a) (.fr (v a)); omega) fun b hb => h b (by simp [hb])]
      rfl
  show (src e).bind _ = _
  rw [hs, bind_ok, hz, show decide (e1.length ≤ n) = true from by simpa using hl]
  show (dcGo n own tg t key elt _ [] (wipeE e1 own)).bind _ = _
  rw [main xs [] (by simpa using hn) hstep]
  simp
/-! ### calls -/
theorem callN_succ (b : Nat → FT → List O → CR) (n f : Nat) (os : List O) : callN b (n + 1) f os = b f (callN b n) os := (rfl)
def fins (io : List Nat) (np : Nat) : Rs Fl → CR := fun r => match r with
  | .ok (.rt o) e => .ok o (outsOf io 0 np e)
  | .ok .nx e => .ok (.fr .non) (outsOf io 0 np e)
  | .exc x _ => .exc x
  | _ => .fail
@[simp] theorem fins_rt (io : List Nat) (np : Nat) (o : O) (e : Env) : fins io np (.ok (.rt o) e) = .ok o (outsOf io 0 np e) := (rfl)
@[simp] theorem fins_nx (io : List Nat) (np : Nat) (e : Env) : fins io np (.ok .nx e) = .ok (.fr .non) (outsOf io 0 np e) := (rfl)
@[simp] theorem runF_app (io : List Nat) (np n : Nat) (body : Sv) (os : List O) : runF io np n body os = if os.length = np then fins io np (body (os.map some ++ List.replicate (n - os.length) none)) else .fail := by
  unfold runF fins
  rfl
end Ev
end
section
/-! EvDict: dicts, orders, sums of plain data. -/
set_option linter.all false
namespace Ev
open PySem
section
variable {κ ι α β : Type} [DecidableEq κ] [DecidableEq ι]
theorem kget_map (f : ι → κ) (hf : ∀ a b, f a = f b → a = b) (g : α → β) (k : ι) : ∀ kv : List (ι × α), kget (kv.map fun p => (f p.1, g p.2)) (f k) = (kget kv k).map g
  | [] => rfl
  | (j, x) :: r => by
    show (if f j = f k then some (g x) else kget (r.map fun p => (f p.1, g p.2)) (f k)) = (if j = k then some x else kget r k).map g
    by_cases h : j = k
    · rw [if_pos h, if_pos (by rw [h])]; rfl
    · rw [if_neg h, if_neg (fun e => h (hf _ _ e)), kget_map f hf g k r]
theorem any_key (k : κ) (kv : List (κ × α)) : (kv.any fun p => decide (p.1 = k)) = true ↔ k ∈ kv.map Prod.fst := by
  simp only [List.any_eq_true, decide_eq_true_eq, List.mem_map]
theorem kput_map (f : ι → κ) (hf : ∀ a b, f a = f b → a = b) (g : α → β) (k : ι) (y : α) (kv : List (ι × α)) : kput (kv.map fun p => (f p.1, g p.2)) (f k) (g y) = (kput kv k y).map fun p => (f p.1, g p.2) := by
  have h1 : (((kv.map fun p => (f p.1, g p.2)).any fun p => decide (p.1 = f k)) = true) ↔ ((kv.any fun p => decide (p.1 = k)) = true) := by
    simp only [List.any_map, List.any_eq_true, Function.comp_apply, decide_eq_true_eq]
    exact ⟨fun ⟨x, h, e⟩ => ⟨x, h, hf _ _ e⟩, fun ⟨x, h, e⟩ => ⟨x, h, by rw [e]⟩⟩
  unfold kput
  by_cases h : (kv.any fun p => decide (p.1 = k)) = true
  · rw [if_pos h, if_pos (h1.mpr h), List.map_map, List.map_map]
    apply List.map_congr_left
    intro p _
    simp only [Function.comp_apply]
    by_cases e : p.1 = k
    · rw [if_pos e, if_pos (by rw [e])]
    · rw [if_neg e, if_neg (fun z => e (hf _ _ z))]
  · rw [if_neg h, if_neg (fun z => h (h1.mp z)), List.map_append]
    rfl
theorem kput_keys (k : κ) (y : α) (kv : List (κ × α)) : (kput kv k y).map Prod.fst = if k ∈ kv.map Prod.fst then kv.map Prod.fst else kv.map Prod.fst ++ [k] := by
  unfold kput
  by_cases h : (kv.any fun p => decide (p.1 = k)) = true
  · rw [if_pos h, if_pos ((any_key k kv).mp h), List.map_map]
    apply List.map_congr_left
    intro p _
    simp only [Function.comp_apply]
    by_cases e : p.1 = k <;> simp [e]
  · rw [if_neg h, if_neg (fun z => h ((any_key k kv).mpr z)), List.map_append]
    rfl
theorem kput_nodup {k : κ} {y : α} {kv : List (κ × α)} (h : (kv.map Prod.fst).Nodup) : ((kput kv k y).map Prod.fst).Nodup := by
  rw [kput_keys]
  split
  · exact h
  · rename_i hk
    rw [List.nodup_append]
    refine ⟨h, by simp, fun a ha b hb => ?_⟩
    simp at hb
    subst hb
    exact fun e => hk (e ▸ ha)
theorem kget_none {k : κ} {kv : List (κ × α)} : kget kv k = none ↔ k ∉ kv.map Prod.fst := by
  induction kv with
  | nil => simp [kget]
  | cons p r ih =>
    obtain ⟨j, x⟩ := p
    simp only [kget, List.map_cons, List.mem_cons, not_or]
    by_cases h : j = k
    · simp [h]
    · rw [if_neg h, ih]
      exact ⟨fun z => ⟨fun e => h e.symm, z⟩, fun z => z.2⟩
theorem kget_app (k : κ) (a b : List (κ × α)) : kget (a ++ b) k = (kget a k).or (kget b k) := by
  induction a with
  | nil => simp [kget]
  | cons p r ih =>
    obtain ⟨j, x⟩ := p
    simp only [List.cons_append, kget]
    by_cases h : j = k <;> simp [h, ih]
theorem kget_kput (k j : κ) (y : α) (kv : List (κ × α)) : kget (kput kv k y) j = if k = j then some y else kget kv j := by
  unfold kput
  by_cases h : (kv.any fun p => decide (p.1 = k)) = true
  · rw [if_pos h]
    replace h := (any_key k kv).mp h
    induction kv with
    | nil => simp at h
    | cons p r ih =>
      obtain ⟨i, x⟩ := p
      simp only [List.map_cons, List.mem_cons] at h
      by_cases e : i = k
      · subst e
        simp only [List.map_cons, if_true, kget]
        by_cases e2 : i = j
        · simp [e2]
        · simp only [e2, if_false]
          by_cases hr : i ∈ r.map Prod.fst
          · rw [ih hr, if_neg e2]
          · have : (r.map fun p => if p.1 = i then (p.1, y) else p) = r := by
              have h2 : r.map (fun p => if p.1 = i then (p.1, y) else p) = r.map id := by
                apply List.map_congr_left
                intro p hp
                rw [if_neg]
                · rfl
                · intro e3
                  exact hr (e3 ▸ List.mem_map_of_mem hp)
              rw [h2, List.map_id]
            rw [this]
      · have h2 : k ∈ r.map Prod.fst := by
          rcases h with h | h
          · exact absurd h.symm e
          · exact h
        simp only [List.map_cons, e, if_false, kget]
        by_cases e2 : i = j
        · subst e2
          rw [if_pos rfl, if_pos rfl, if_neg (fun z => e z.symm)]
        · rw [if_neg e2, if_neg e2, ih h2]
  · rw [if_neg h, kget_app]
    have h2 := kget_none.mpr (fun z => h ((any_key k kv).mpr z))
    simp only [kget]
    by_cases e : k = j
    · subst e; simp [h2]
    · simp [e]
theorem kget_mem {k : κ} {x : α} {kv : List (κ × α)} (h : kget kv k = some x) : (k, x) ∈ kv := by
  induction kv with
  | nil => cases h
  | cons p r ih =>
    obtain ⟨j, y⟩ := p
    simp only [kget] at h
    by_cases e : j = k
    · rw [if_pos e] at h; cases h; subst e; simp
    · rw [if_neg e] at h; simp [ih h]
theorem kget_of_mem {k : κ} {x : α} {kv : List (κ × α)} (hn : (kv.map Prod.fst).Nodup) (h : (k, x) ∈ kv) : kget kv k = some x := by
  induction kv with
  | nil => cases h
  | cons p r ih =>
    obtain ⟨j, y⟩ := p
    simp only [List.map_cons, List.nodup_cons] at hn
    simp only [kget]
    rcases List.mem_cons.mp h with e | h
    · cases e; simp
    · rw [if_neg, ih hn.2 h]
      intro e
      subst e
      exact hn.1 (List.mem_map_of_mem (f := Prod.fst) h)
theorem frk_map (f : ι → κ) (g : α → D) (kv : List (ι × α)) : frk (kv.map fun p => (f p.1, O.fr (g p.2))) = some (kv.map fun p => (f p.1, g p.2)) := by
  induction kv with
  | nil => rfl
  | cons p r ih => simp [ih]
theorem thawk_map (f : ι → Key) (g : α → O) (kv : List (ι × α)) : O.thawk (kv.map fun p => (f p.1, g p.2)) = kv.map fun p => (f p.1, (g p.2).thaw) := by
  induction kv with
  | nil => rfl
  | cons p r ih => simp [ih]
theorem thawt_map (f : ι → List Key) (g : α → O) (kv : List (ι × α)) : O.thawt (kv.map fun p => (f p.1, g p.2)) = kv.map fun p => (f p.1, (g p.2).thaw) := by
  induction kv with
  | nil => rfl
  | cons p r ih => simp [ih]
theorem vals_map {κ ι : Type} (f : ι → κ) (kv : List (ι × Int)) : vals? (kv.map fun p => (f p.1, D.int p.2)) = some (kv.map Prod.snd) := by
  induction kv with
  | nil => rfl
  | cons p r ih => simp [vals?, ih]
end
theorem snoc_ind {α : Type} {P : List α → Prop} (h0 : P []) (h1 : ∀ a x, P a → P (a ++ [x])) (l : List α) : P l := by
  have h : ∀ r : List α, P r.reverse := fun r => by
    induction r with
    | nil => exact h0
    | cons x r ih => rw [List.reverse_cons]; exact h1 _ _ ih
  have := h l.reverse
  rwa [List.reverse_reverse] at this
/-! ### greatest, least -/
theorem maxI_is : ∀ (is : List Int) (i : Int), maxI is i ∈ i :: is ∧ ∀ x ∈ i :: is, x ≤ maxI is i
  | [], i => by simp [maxI]
  | j :: is, i => by
    unfold maxI
    generalize hm : (if i < j then j else i) = m
    have h := maxI_is is m
    refine ⟨?_, fun x hx => ?_⟩
    · rcases List.mem_cons.mp h.1 with e | e
      · rw [e, ← hm]; split <;> simp
      · simp [e]
    · have h0 := h.2 _ List.mem_cons_self
      rcases List.mem_cons.mp hx with e | e
      · subst e; split at hm <;> omega
      · rcases List.mem_cons.mp e with e | e
        · subst e; split at hm <;> omega
        · exact h.2 x (by simp [e])
theorem minI_is : ∀ (is : List Int) (i : Int), minI is i ∈ i :: is ∧ ∀ x ∈ i :: is, minI is i ≤ x
  | [], i => by simp [minI]
  | j :: is, i => by
    unfold minI
    generalize hm : (if j < i then j else i) = m
    have h := minI_is is m
    refine ⟨?_, fun x hx => ?_⟩
    · rcases List.mem_cons.mp h.1 with e | e
      · rw [e, ← hm]; split <;> simp
      · simp [e]
    · have h0 := h.2 _ List.mem_cons_self
      rcases List.mem_cons.mp hx with e | e
      · subst e; split at hm <;> omega
      · rcases List.mem_cons.mp e with e | e
        · subst e; split at hm <;> omega
        · exact h.2 x (by simp [e])
theorem maxI_ext {is js : List Int} {i j : Int} (h : ∀ x, x ∈ i :: is ↔ x ∈ j :: js) : maxI is i = maxI js j := by
  have a := maxI_is is i
  have b := maxI_is js j
  have := a.2 _ ((h _).mpr b.1)
  have := b.2 _ ((h _).mp a.1)
  omega
theorem ints_map {α : Type} (f : α → Int) (xs : List α) : ints? (xs.map fun x => D.int (f x)) = some (xs.map f) := by
  induction xs with
  | nil => rfl
  | cons x xs ih => simp [ints?, ih]
theorem ints_map' (xs : List Int) : ints? (xs.map D.int) = some xs := by
  induction xs with
  | nil => rfl
  | cons x xs ih => simp [ints?, ih]
theorem ltD_int (a b : Int) : ltD (.int a) (.int b) = decide (a < b) := PySem.W.dataLt_int a b
theorem alikeB_of {ds : List D} (h1 : D.lays ds = true) (h2 : D.deps ds ≤ 60) (h3 : ∀ x ∈ ds, x.isNon = false ∧ ∀ y ∈ ds, PySem.W.alike x.py y.py = true) : alikeB ds = true := by
  unfold alikeB
  rw [h1, decide_eq_true h2, Bool.true_and, Bool.true_and, Bool.or_eq_true]
  refine .inr (List.all_eq_true.mpr ?_)
  intro x hx
  rw [(h3 x hx).1, Bool.not_false, Bool.true_and, List.all_eq_true]
  exact (h3 x hx).2
theorem lays_of {ds : List D} (h : ∀ x ∈ ds, x.lay = true) : D.lays ds = true := by
  induction ds with
  | nil => rfl
  | cons d ds ih => rw [D.lays, h d (by simp), ih fun x hx => h x (by simp [hx])]; rfl
theorem deps_of {n : Nat} {ds : List D} (h : ∀ x ∈ ds, x.dep ≤ n) : D.deps ds ≤ n := by
  induction ds with
  | nil => exact Nat.zero_le _
  | cons d ds ih =>
    have h1 := h d (by simp)
    have h2 := ih fun x hx => h x (by simp [hx])
    rw [D.deps]
    omega
theorem alikeB_ints (ns : List Int) : alikeB (ns.map .int) = true := alikeB_of (lays_of (by simp [D.lay])) (deps_of (by simp [D.dep])) (by
  intro x hx
  obtain ⟨i, _, rfl⟩ := List.mem_map.mp hx
  refine ⟨rfl, fun y hy => ?_⟩
  obtain ⟨j, _, rfl⟩ := List.mem_map.mp hy
  rfl)
theorem minF_ints : ∀ (is : List Int) (i : Int), minF (.int i) (is.map .int) = .int (minI is i)
  | [], i => rfl
  | j :: is, i => by
    have := minF_ints is (if j < i then j else i)
    unfold minF at this ⊢
    rw [List.map_cons, List.foldl_cons, ltD_int, minI, ← this]
    by_cases h : j < i <;> simp [h]
theorem maxF_ints : ∀ (is : List Int) (i : Int), maxF (.int i) (is.map .int) = .int (maxI is i)
  | [], i => rfl
  | j :: is, i => by
    have := maxF_ints is (if i < j then j else i)
    unfold maxF at this ⊢
    rw [List.map_cons, List.foldl_cons, ltD_int, maxI, ← this]
    by_cases h : i < j <;> simp [h]
theorem fMinL_ints (i : Int) (is : List Int) : fMinL [.lst ((i :: is).map .int)] = some (.fr (.int (minI is i))) := by
  have h := alikeB_ints (i :: is)
  rw [List.map_cons] at h ⊢
  show (if alikeB (.int i :: is.map .int) = true then _ else _) = _
  rw [if_pos h, minF_ints]
theorem fMaxL_ints (i : Int) (is : List Int) : fMaxL [.lst ((i :: is).map .int)] = some (.fr (.int (maxI is i))) := by
  have h := alikeB_ints (i :: is)
  rw [List.map_cons] at h ⊢
  show (if alikeB (.int i :: is.map .int) = true then _ else _) = _
  rw [if_pos h, maxF_ints]
/-- pairs of numbers -/
def pD (p : Int × Int) : D := .tup [.int p.1, .int p.2]
theorem alikeB_pairs (ns : List (Int × Int)) : alikeB (ns.map pD) = true := alikeB_of (lays_of (fun x hx => by obtain ⟨i, _, rfl⟩ := List.mem_map.mp hx; rfl)) (deps_of (fun x hx => by obtain ⟨i, _, rfl⟩ := List.mem_map.mp hx; simp [pD, D.dep, D.deps])) (by
  intro x hx
  obtain ⟨i, _, rfl⟩ := List.mem_map.mp hx
  refine ⟨rfl, fun y hy => ?_⟩
  obtain ⟨j, _, rfl⟩ := List.mem_map.mp hy
  rfl)
theorem minF_mem' (d : D) (ds : List D) : minF d ds ∈ d :: ds := by
  unfold minF
  induction ds generalizing d with
  | nil => exact List.mem_cons_self
  | cons x xs ih =>
    rw [List.foldl_cons]
    split
    · exact List.mem_cons_of_mem _ (ih x)
    · rcases List.mem_cons.mp (ih d) with e | h
      · rw [e]; exact List.mem_cons_self
      · exact List.mem_cons_of_mem _ (List.mem_cons_of_mem _ h)
theorem fMinL_pairs (r : Int × Int) (rs : List (Int × Int)) : ∃ p ∈ r :: rs, minF (pD r) (rs.map pD) = pD p ∧ fMinL [.lst ((r :: rs).map pD)] = some (.fr (pD p)) := by
  have h := alikeB_pairs (r :: rs)
  have m := minF_mem' (pD r) (rs.map pD)
  rw [← List.map_cons] at m
  obtain ⟨p, hp, e⟩ := List.mem_map.mp m
  refine ⟨p, hp, e.symm, ?_⟩
  rw [List.map_cons] at h ⊢
  show (if alikeB (pD r :: rs.map pD) = true then _ else _) = _
  rw [if_pos h, e]
/-! ### sums -/
theorem fSum_map {α : Type} (f : α → Int) (xs : List α) : fSum [.lst (xs.map fun x => D.int (f x))] = some (.int (xs.map f).sum) := by
  simp [fSum, ints_map]
theorem fCount_ints (ns : List Int) (i : Int) : fCount (.lst (ns.map .int)) [.int i] = some (.fr (.int (ns.count i : Nat))) := by
  simp [fCount, ints_map']
/-! ### equal to itself -/
mutual
theorem eqv_refl : ∀ d : D, d.lay = true → d.eqv d = true
  | .non, _ => rfl
  | .bl b, _ => by simp [D.eqv]
  | .int i, _ => by simp [D.eqv]
  | .str s, _ => by simp [D.eqv]
  | .tup xs, h => by rw [D.lay] at h; rw [D.eqv]; exact eqvs_refl xs h
  | .lst xs, h => by rw [D.lay] at h; rw [D.eqv]; exact eqvs_refl xs h
  | .dk _, h => by rw [D.lay] at h; cases h
  | .dt _, h => by rw [D.lay] at h; cases h
theorem eqvs_refl : ∀ ds : List D, D.lays ds = true → D.eqvs ds ds = true
  | [], _ => rfl
  | d :: ds, h => by
    rw [D.lays, Bool.and_eq_true] at h
    rw [D.eqvs, eqv_refl d h.1, eqvs_refl ds h.2]; rfl
end
theorem eqO_refl {d : D} (h : d.lay = true) (h2 : d.dep ≤ 64) : eqO d d = some true := by
  cases d with
  | int i => simp [eqO]
  | str s => simp [eqO]
  | non => simp [eqO, h, D.dep, D.eqv]
  | bl b => simp [eqO, h, D.dep, D.eqv]
  | tup xs => simp [eqO, h, h2, eqv_refl _ h]
  | lst xs => simp [eqO, h, h2, eqv_refl _ h]
  | dk _ => cases h
  | dt _ => cases h
theorem fEq_refl {d : D} (h : d.lay = true) (h2 : d.dep ≤ 64) : fEq [d, d] = some (.bl true) := by simp [fEq, eqO_refl h h2]
theorem fNe_refl {d : D} (h : d.lay = true) (h2 : d.dep ≤ 64) : fNe [d, d] = some (.bl false) := by simp [fNe, eqO_refl h h2]
/-! ### a loop as a fold -/
theorem for_fold {α σ : Type} {io : List Nat} {tg : Tg} {body : Sv} (g : α → D) (E : σ → Env → Prop) (st : σ → α → σ) :
    ∀ (xs : List α), (∀ a ∈ xs, ∀ s e, E s e → ∃ f e', forOne io tg body (g a) e = .ok f e' ∧ (f = .nx ∨ f = .ct) ∧ E (st s a) e') →
    ∀ s e, E s e → ∃ e', forGo io tg body (xs.map g) e = .ok .nx e' ∧ E (xs.foldl st s) e'
  | [], _, s, e, h => ⟨e, rfl, h⟩
  | a :: xs, hs, s, e, h => by
    obtain ⟨f, e', q, z, w⟩ := hs a (by simp) s e h
    rw [List.map_cons, forGo_cons, q, bind_ok]
    have k := for_fold g E st xs (fun b hb => hs b (by simp [hb])) (st s a) e' w
    rcases z with rfl | rfl
    · exact k
    · exact k
theorem foldl_app {α β : Type} (p : α → Bool) (f : α → β) : ∀ (xs : List α) (acc : List β), xs.foldl (fun acc a => if p a then acc ++ [f a] else acc) acc = acc ++ (xs.filter p).map f
  | [], acc => by simp
  | x :: xs, acc => by
    rw [List.foldl_cons, foldl_app p f xs, List.filter_cons]
    cases h : p x <;> simp
theorem foldl_app' {α β : Type} (f : α → List β) : ∀ (xs : List α) (acc : List β), xs.foldl (fun acc a => acc ++ f a) acc = acc ++ xs.flatMap f
  | [], acc => by simp
  | x :: xs, acc => by
    rw [List.foldl_cons, foldl_app' f xs]
    simp
theorem fm_if {α β : Type} (p : α → Bool) (f : α → β) : ∀ l : List α, (l.filter p).map f = l.filterMap fun x => if p x then some (f x) else none
  | [] => rfl
  | x :: l => by
    rw [List.filter_cons, List.filterMap_cons]
    cases h : p x <;> simp [fm_if p f l]
/-- a loop by what it has gone through -/
theorem for_pre {α : Type} {io : List Nat} {tg : Tg} {body : Sv} (g : α → D) (E : List α → Env → Prop) (xs : List α)
    (hs : ∀ a x b, xs = a ++ x :: b → ∀ e, E a e → ∃ f e', forOne io tg body (g x) e = .ok f e' ∧ (f = .nx ∨ f = .ct) ∧ E (a ++ [x]) e') (e : Env) (h0 : E [] e) :
    ∃ e', forGo io tg body (xs.map g) e = .ok .nx e' ∧ E xs e' := by
  have h : ∀ (b a : List α) (e : Env), xs = a ++ b → E a e → ∃ e', forGo io tg body (b.map g) e = .ok .nx e' ∧ E xs e' := by
    intro b
    induction b with
    | nil =>
      intro a e hx ha
      rw [List.append_nil] at hx
      exact ⟨e, rfl, hx ▸ ha⟩
    | cons x b ih =>
      intro a e hx ha
      obtain ⟨f, e', q, z, w⟩ := hs a x b hx e ha
      obtain ⟨e2, q2, w2⟩ := ih (a ++ [x]) e' (by simp [hx]) w
      refine ⟨e2, ?_, w2⟩
      rw [List.map_cons, forGo_cons, q, bind_ok]
      rcases z with rfl | rfl
      · exact q2
      · exact q2
  exact h xs [] e rfl h0
/-- .. that may return -/
theorem for_pre_rt {α : Type} {io : List Nat} {tg : Tg} {body : Sv} (g : α → D) (E : List α → Env → Prop) (R : O → Env → Prop) (xs : List α)
    (hs : ∀ a x b, xs = a ++ x :: b → ∀ e, E a e → ∃ f e', forOne io tg body (g x) e = .ok f e' ∧ (((f = .nx ∨ f = .ct) ∧ E (a ++ [x]) e') ∨ ∃ o, f = .rt o ∧ R o e')) (e : Env) (h0 : E [] e) :
    ∃ f e', forGo io tg body (xs.map g) e = .ok f e' ∧ ((f = .nx ∧ E xs e') ∨ ∃ o, f = .rt o ∧ R o e') := by
  have h : ∀ (b a : List α) (e : Env), xs = a ++ b → E a e → ∃ f e', forGo io tg body (b.map g) e = .ok f e' ∧ ((f = .nx ∧ E xs e') ∨ ∃ o, f = .rt o ∧ R o e') := by
    intro b
    induction b with
    | nil =>
      intro a e hx ha
      rw [List.append_nil] at hx
      exact ⟨.nx, e, rfl, .inl ⟨rfl, hx ▸ ha⟩⟩
    | cons x b ih =>
      intro a e hx ha
      obtain ⟨f, e', q, z⟩ := hs a x b hx e ha
      rw [List.map_cons, forGo_cons, q, bind_ok]
      rcases z with ⟨z | z, w⟩ | ⟨o, z, w⟩ <;> subst z
      · exact ih (a ++ [x]) e' (by simp [hx]) w
      · exact ih (a ++ [x]) e' (by simp [hx]) w
      · exact ⟨.rt o, e', rfl, .inr ⟨o, rfl, w⟩⟩
  exact h xs [] e rfl h0
/-- a loop over numbers one behind another -/
theorem for_rng {io : List Nat} {tg : Tg} {body : Sv} (i : Int) (N : Nat) (E : Nat → Env → Prop)
    (hs : ∀ n, n < N → ∀ e, E n e → ∃ f e', forOne io tg body (.int (i + (n : Int))) e = .ok f e' ∧ (f = .nx ∨ f = .ct) ∧ E (n + 1) e') (e : Env) (h0 : E 0 e) :
    ∃ e', forGo io tg body ((List.range N).map fun n : Nat => D.int (i + (n : Int))) e = .ok .nx e' ∧ E N e' := by
  obtain ⟨e', q, w⟩ := for_pre (io := io) (tg := tg) (body := body) (fun n : Nat => D.int (i + (n : Int))) (fun a e => E a.length e) (List.range N) (by
    intro a x b hab e he
    have hl := congrArg List.length hab
    simp at hl
    have h := congrArg (fun l => l[a.length]?) hab
    simp at h
    rw [List.getElem?_eq_getElem (by simp; omega)] at h
    have hx : x = a.length := by simpa using h.symm
    subst hx
    obtain ⟨f, e', q, z, w⟩ := hs a.length (by omega) e he
    exact ⟨f, e', q, z, by simpa using w⟩) e h0
  exact ⟨e', q, by simpa using w⟩
end Ev
end
section
/-! EvLaw: the helpers that the laws' texts have in common (plain). -/
set_option linter.all false
namespace Ev
open PySem
/-! ### the source of draws -/
/-- so many draws are still free -/
def Bx (m : Nat) (o : O) : Prop := ∃ a b c : Int, o = .ol [.fr (.int a), .fr (.int b), .fr (.int c)] ∧ 0 ≤ a ∧ 0 ≤ b ∧ b < 2 ^ 62 ∧ 0 ≤ c ∧ c + m ≤ 2 ^ 62
theorem Bx.mono {m n : Nat} {o : O} (h : Bx m o) (l : n ≤ m) : Bx n o := by
  obtain ⟨a, b, c, e, h1, h2, h3, h4, h5⟩ := h
  exact ⟨a, b, c, e, h1, h2, h3, h4, by omega⟩
def takeT : Sv := (sBlk [(sIf (tV (mRd fGt [(mSub (mV 0) (mC (.int (0)))), (mC (.int 0))]))
  (sBlk [(sAsg [0] (.nm 2) (mOp fMod [(mOp fInt [(mSub (mV 0) (mC (.int (0))))]), (mV 1)])),
  (sSetI (mV 0) (mC (.int (0))) (mOp fDiv [(mSub (mV 0) (mC (.int (0)))), (mV 1)])),
  (sRet (mV 2))])
  sNil),
  (sSetI (mV 0) (mC (.int (2))) (mOp fAdd [(mSub (mV 0) (mC (.int (2)))), (mC (.int 1))])),
  (sAsg [0] (.nm 3) (mOp fMod [(mOp fInt [(mOp fMul [(mOp fAdd [(mSub (mV 0) (mC (.int (1)))), (mOp fMul [(mC (.int 48271)), (mSub (mV 0) (mC (.int (2))))])]), (mOp fAdd [(mC (.int 39373)), (mSub (mV 0) (mC (.int (2))))])])]), (mC (.int 2147483647))])),
  (sAsg [0] (.nm 4) (mOp fAdd [(mOp fMod [(mOp fInt [(mV 3)]), (mC (.int 40009))]), (mC (.int 7))])),
  (sAsg [0] (.nm 5) (mOp fMod [(mOp fInt [(mOp fMul [(mOp fAdd [(mOp fAdd [(mV 3), (mSub (mV 0) (mC (.int (2))))]), (mOp fDiv [(mSub (mV 0) (mC (.int (1)))), (mC (.int 1000003))])]), (mV 4)])]), (mC (.int 2147483629))])),
  (sRet (mOp fMod [(mOp fInt [(mOp fDiv [(mOp fMod [(mOp fInt [(mOp fAdd [(mOp fMul [(mV 5), (mC (.int 48271))]), (mV 3)])]), (mC (.int 2147483587))]), (mC (.int 64))])]), (mV 1)]))])
theorem mulOk_l {i j : Int} (h1 : -2 ^ 64 < i) (h2 : i < 2 ^ 64) : mulOk i j = true := by
  have : big1 i = true := by unfold big1; rw [decide_eq_true h1, decide_eq_true h2]; rfl
  unfold mulOk
  rw [this]; rfl
theorem mulOk_r {i j : Int} (h1 : -2 ^ 64 < j) (h2 : j < 2 ^ 64) : mulOk i j = true := by
  have : big1 j = true := by unfold big1; rw [decide_eq_true h1, decide_eq_true h2]; rfl
  unfold mulOk
  rw [this, Bool.or_true]; rfl
theorem divOk_of {j : Int} (h1 : 0 < j) (h2 : j < 2 ^ 200) : divOk j = true := by
  unfold divOk big2
  have : j.natAbs < 2 ^ 200 := by omega
  have h3 : (2 : Nat) ^ 200 < 2 ^ 8000 := Nat.pow_lt_pow_right (by decide) (by decide)
  simp only [h1, decide_true, Bool.true_and, decide_eq_true_eq]
  exact Nat.lt_trans this h3
theorem take_run {m : Nat} {b : O} {top : Int} (h : Bx (m + 1) b) (ht : 0 < top) (ht2 : top < 2 ^ 200) :
    ∃ r b', runF [0] 2 6 takeT [b, .fr (.int top)] = .ok (.fr (.int r)) [some b', none] ∧ 0 ≤ r ∧ r < top ∧ Bx m b' := by
  obtain ⟨x, y, z, rfl, h1, h2, h3, h4, h5⟩ := h
  have hd := divOk_of ht ht2
  by_cases hx : 0 < x
  · refine ⟨x % top, .ol [.fr (.int (x / top)), .fr (.int y), .fr (.int z)], ?_, Int.emod_nonneg _ (by omega), Int.emod_lt_of_pos _ ht, x / top, y, z, rfl, Int.ediv_nonneg h1 (by omega), h2, h3, h4, by omega⟩
    simp [takeT, hx, ht, hd]
  · have m1 : mulOk 48271 (z + 1) = true := mulOk_l (by decide) (by decide)
    have m2 : mulOk (y + 48271 * (z + 1)) (39373 + (z + 1)) = true := mulOk_r (by omega) (by omega)
    have d1 : divOk 1000003 = true := divOk_of (by decide) (by decide)
    have d2 : divOk 64 = true := divOk_of (by decide) (by decide)
    have m3 : ∀ i j : Int, mulOk i (j % 40009 + 7) = true := fun i j => mulOk_r (by omega) (by omega)
    have m4 : ∀ i : Int, mulOk i 48271 = true := fun i => mulOk_r (by decide) (by decide)
    refine ⟨((((((y + 48271 * (z + 1)) * (39373 + (z + 1))) % 2147483647 + (z + 1) + y / 1000003) * ((((y + 48271 * (z + 1)) * (39373 + (z + 1))) % 2147483647) % 40009 + 7)) % 2147483629 * 48271 + ((y + 48271 * (z + 1)) * (39373 + (z + 1))) % 2147483647) % 2147483587 / 64) % top, .ol [.fr (.int x), .fr (.int y), .fr (.int (z + 1))], ?_, Int.emod_nonneg _ (by omega), Int.emod_lt_of_pos _ ht, x, y, z + 1, rfl, h1, h2, h3, by omega, by omega⟩
    simp [takeT, hx, m1, m2, d1, d2, m3, m4, ht]

theorem take_run' {m : Nat} {xs : List O} {top : Int} (h : Bx (m + 1) (.ol xs)) (ht : 0 < top) (ht2 : top < 2 ^ 200) :
    ∃ r ys, runF [0] 2 6 takeT [.ol xs, .fr (.int top)] = .ok (.fr (.int r)) [some (.ol ys), none] ∧ 0 ≤ r ∧ r < top ∧ Bx m (.ol ys) := by
  obtain ⟨r, b', q, h1, h2, h3⟩ := take_run h ht ht2
  obtain ⟨a, b, c, rfl, _⟩ := id h3
  exact ⟨r, _, q, h1, h2, h3⟩
/-- what a draw does -/
def TakeOk (c : FT) (j : Nat) : Prop := ∀ (m : Nat) (xs : List O) (top : Int), Bx (m + 1) (.ol xs) → 0 < top → top < 2 ^ 200 → ∃ r ys, c j [.ol xs, .fr (.int top)] = .ok (.fr (.int r)) [some (.ol ys), none] ∧ 0 ≤ r ∧ r < top ∧ Bx m (.ol ys)
theorem takeOk {B : Nat → FT → List O → CR} {j : Nat} (hB : ∀ c, B j c = runF [0] 2 6 takeT) (n : Nat) : TakeOk (callN B (n + 1)) j := by
  intro m xs top h1 h2 h3
  rw [callN_succ, hB]
  exact take_run' h1 h2 h3
/-! ### the script's first numbers -/
def cellsT : Sv := (sBlk [(sAsg [] (.nm 2) (mOr (mOp fList [(mOp fSlice [(mV 0), (mC .non), (mInt (mV 1))])]) (mLst [(mC (.int 0))]))),
  (sFor [] (.tp [(.nm 3), (.nm 4)]) (iEnum (mOp fSlice [(mV 0), (mInt (mV 1)), (mInt (mC (.int 63)))]))
  (sBlk [(sAsg [] (.nm 5) (mOp fMod [(mOp fInt [(mV 3)]), (mV 1)])),
  (sSetI (mV 2) (mV 5) (mOp fAdd [(mSub (mV 2) (mV 5)), (mOp fMul [(mV 4), (mOp fAdd [(mV 3), (mC (.int 2))])])]))])),
  (sRet (mMv 2))])
theorem enumD_mem : ∀ (n : Nat) (ds : List D) (x : D), x ∈ enumD n ds → ∃ i d, n ≤ i ∧ i < n + ds.length ∧ d ∈ ds ∧ x = .tup [.int (i : Nat), d]
  | n, [], x, h => by simp [enumD] at h
  | n, d :: ds, x, h => by
    rw [enumD] at h
    rcases List.mem_cons.mp h with e | h
    · exact ⟨n, d, Nat.le_refl _, by simp, by simp, e⟩
    · obtain ⟨i, u, h1, h2, h3, h4⟩ := enumD_mem (n + 1) ds x h
      exact ⟨i, u, by omega, by simp; omega, by simp [h3], h4⟩
theorem enumD_nil (n : Nat) : enumD n [] = [] := rfl
theorem mem_cut {α : Type} {xs : List α} {lo hi : Option Int} {x : α} (h : x ∈ cutL xs lo hi) : x ∈ xs := List.mem_of_mem_drop (List.mem_of_mem_take h)
theorem cut_nil {α : Type} (lo hi : Option Int) : cutL ([] : List α) lo hi = [] := by simp [cutL]
/-- lists of numbers -/
def fInts (ns : List Int) : List O := ns.map fun i => .fr (.int i)
theorem sIx_nat (n d k : Nat) : sIx n d (some (k : Int)) = min k n := by
  show (if (k : Int) < 0 then ((k : Int) + (n : Int)).toNat else min (k : Int).toNat n) = _
  rw [if_neg (by omega)]
  rfl
theorem sIx_none (n d : Nat) : sIx n d none = d := rfl
theorem cells_run {ns : List Int} {k : Nat} (hl : ns.length ≤ 63) (h0 : 0 < k) (h1 : k < 2 ^ 60) :
    ∃ ms : List Int, runF [] 2 6 cellsT [.fr (.lst (ns.map .int)), .fr (.int (k : Nat))] = .ok (.ol (fInts ms)) [none, none] ∧ 0 < ms.length ∧ ms.length ≤ k := by
  have hmm : ∀ xs : List Int, xs.map (O.fr ∘ fun x => D.int x) = xs.map fun i => O.fr (D.int i) := fun _ => rfl
  have e63 : (63 : Int) = ((63 : Nat) : Int) := rfl
  have h0i : (0 : Int) < (k : Int) := by omega
  have hcut : ∀ lo hi, cutL (ns.map D.int) lo hi = (cutL ns lo hi).map D.int := fun lo hi => by simp [cutL, List.map_drop, List.map_take]
  have main : ∀ (as bs : List Int), 0 < as.length → as.length ≤ k → (bs ≠ [] → as.length = k) → bs.length ≤ 63 → ∃ (ms : List Int) (x y z : Option O), forGo [] (.tp [(.nm 3), (.nm 4)]) (sBlk [(sAsg [] (.nm 5) (mOp fMod [(mOp fInt [(mV 3)]), (mV 1)])),
      (sSetI (mV 2) (mV 5) (mOp fAdd [(mSub (mV 2) (mV 5)), (mOp fMul [(mV 4), (mOp fAdd [(mV 3), (mC (.int 2))])])]))]) (enumD 0 (bs.map .int)) [some (.fr (.lst (ns.map .int))), some (.fr (.int (k : Nat))), some (.ol (fInts as)), none, none, none]
      = .ok .nx [some (.fr (.lst (ns.map .int))), some (.fr (.int (k : Nat))), some (.ol (fInts ms)), x, y, z] ∧ 0 < ms.length ∧ ms.length ≤ k := by
    intro as bs ha hk hb hbl
    obtain ⟨e', q, ms, x, y, z, rfl, g1, g2⟩ := for_inv (io := []) (tg := .tp [(.nm 3), (.nm 4)]) (body := sBlk [(sAsg [] (.nm 5) (mOp fMod [(mOp fInt [(mV 3)]), (mV 1)])),
      (sSetI (mV 2) (mV 5) (mOp fAdd [(mSub (mV 2) (mV 5)), (mOp fMul [(mV 4), (mOp fAdd [(mV 3), (mC (.int 2))])])]))])
      (fun r e => ∃ (ms : List Int) (x y z : Option O), e = [some (.fr (.lst (ns.map .int))), some (.fr (.int (k : Nat))), some (.ol (fInts ms)), x, y, z] ∧ ms.length = as.length ∧ ∀ d ∈ r, d ∈ enumD 0 (bs.map .int))
      (by
        rintro d r e ⟨ms, x, y, z, rfl, h1, h2⟩
        obtain ⟨i, u, g1, g2, g3, rfl⟩ := enumD_mem _ _ _ (h2 d (by simp))
        obtain ⟨v, hv, rfl⟩ := List.mem_map.mp g3
        have hb' := hb (by rintro rfl; simp at hv)
        have q1 := Int.emod_nonneg (i : Int) (show (k : Int) ≠ 0 by omega)
        have q2 := Int.emod_lt_of_pos (i : Int) h0i
        obtain ⟨j, hj⟩ := Int.eq_ofNat_of_zero_le q1
        have hj2 : j < ms.length := by omega
        have hix : ixN ms.length (j : Int) = some j := ixN_nat _ _ hj2
        have hml : mulOk v ((i : Int) + 2) = true := mulOk_r (by omega) (by simp at g2; omega)
        have hat : atI (fInts ms) (j : Int) = some (.fr (.int ms[j])) := by rw [atI_nat _ _ (by simpa [fInts] using hj2)]; simp [fInts]
        have hset : (fInts ms).set j (.fr (.int (ms[j] + v * ((i : Int) + 2)))) = fInts (ms.set j (ms[j] + v * ((i : Int) + 2))) := by simp [fInts, List.map_set]
        have hlen : (fInts ms).length = ms.length := by simp [fInts]
        refine ⟨.nx, [some (.fr (.lst (ns.map .int))), some (.fr (.int (k : Nat))), some (.ol (fInts (ms.set j (ms[j] + v * ((i : Int) + 2))))), some (.fr (.int i)), some (.fr (.int v)), some (.fr (.int j))], ?_, .inl rfl, ⟨_, _, _, _, rfl, by simpa using h1, fun d hd => h2 d (by simp [hd])⟩⟩
        simp [h0, hj, hat, hml, hlen, hix, hset])
      (enumD 0 (bs.map .int)) _ ⟨as, none, none, none, rfl, rfl, fun d h => h⟩
    exact ⟨ms, x, y, z, q, by omega, by omega⟩
  by_cases hn : (cutL ns none (some k)) = []
  · obtain ⟨ms, x, y, z, q, g⟩ := main [0] (cutL ns (some k) (some 63)) (by simp) (by simp; omega) (by
      intro hne
      exfalso
      have : ns = [] := by
        have := congrArg List.length hn
        simp only [cutL, List.length_take, List.length_drop, sIx_nat, sIx_none, List.length_nil] at this
        exact List.eq_nil_of_length_eq_zero (by omega)
      subst this
      exact hne (cut_nil _ _)) (by simp only [cutL, List.length_take, List.length_drop]; omega)
    refine ⟨ms, ?_, g⟩
    have q' := q
    simp [fInts] at q'
    simp [cellsT, fSlice, hcut, hn, hmm, q', fInts]
  · obtain ⟨ms, x, y, z, q, g⟩ := main (cutL ns none (some k)) (cutL ns (some k) (some 63)) (List.length_pos_iff.mpr hn) (by simp only [cutL, List.length_take, List.length_drop, sIx_nat, sIx_none]; omega) (by
      intro hne
      have : ¬ ns.length ≤ k := by
        intro h
        apply hne
        apply List.eq_nil_of_length_eq_zero
        simp only [cutL, List.length_take, List.length_drop, sIx_nat, sIx_none]
        omega
      simp only [cutL, List.length_take, List.length_drop, sIx_nat, sIx_none]
      omega) (by simp only [cutL, List.length_take, List.length_drop]; omega)
    refine ⟨ms, ?_, g⟩
    have hne : (cutL ns none (some (k : Int))).isEmpty = false := by simpa using hn
    have q' := q
    simp [fInts] at q'
    simp [cellsT, fSlice, hcut, hne, hmm, q', fInts]

/-! ### a box of draws -/
def boxT (p : Int) : Sv := (sBlk [(sAsg [] (.nm 2) (mIf (tV (mRd fLt [(mV 1), (mRd fLen [(mV 0)])])) (mSub (mV 0) (mV 1)) (mC (.int 0)))),
  (sRet (mLst [(mOp fMul [(mOp fAbs [(mV 2)]), (mOp fInt [(mRd fGe [(mOp fAbs [(mV 2)]), (mOp fPow [(mC (.int 10)), (mC (.int 18))])])])]), (mOp fAdd [(mOp fAdd [(mOp fMod [(mOp fInt [(mV 2)]), (mC (.int 2305843009213693951))]), (mOp fMul [(mC (.int 39373)), (mV 1)])]), (mC (.int p))]), (mC (.int 0))]))])
theorem box_run {p : Int} {ms : List Int} {k : Nat} (h0 : 0 ≤ p) (h1 : p < 2 ^ 40) (hk : k < ms.length) (hk2 : k < 64) :
    ∃ b, runF [] 2 3 (boxT p) [.fr (.lst (ms.map .int)), .fr (.int k)] = .ok b [none, none] ∧ Bx (2 ^ 61) b := by
  have hat : atI (ms.map D.int) (k : Int) = some (.int ms[k]) := by rw [atI_nat _ _ (by simpa using hk)]; simp
  have hp : fPow [.int 10, .int 18] = some (.fr (.int (10 ^ 18))) := powOk_of (by decide)
  have m1 : mulOk 39373 (k : Int) = true := mulOk_l (by decide) (by decide)
  have m2 : ∀ (i : Int) (b : Bool), mulOk i (if b = true then 1 else 0) = true := fun i b => mulOk_r (by split <;> decide) (by split <;> decide)
  have q1 := Int.emod_nonneg ms[k] (show (2305843009213693951 : Int) ≠ 0 by decide)
  have q2 := Int.emod_lt_of_pos ms[k] (show (0 : Int) < 2305843009213693951 by decide)
  by_cases hc : (10 ^ 18 : Int) ≤ (if ms[k] < 0 then -ms[k] else ms[k])
  · refine ⟨.ol [.fr (.int ((if ms[k] < 0 then -ms[k] else ms[k]) * 1)), .fr (.int (ms[k] % 2305843009213693951 + 39373 * (k : Int) + p)), .fr (.int 0)], ?_, _, _, _, rfl, ?_, ?_, ?_, ?_, ?_⟩
    · have hc' := hc
      have m3 : mulOk (if ms[k] < 0 then -ms[k] else ms[k]) 1 = true := mulOk_r (by decide) (by decide)
      simp at hc' m3
      simp [boxT, hk, hat, hp, m1, hc', m3]
    · split <;> omega
    · omega
    · omega
    · omega
    · decide
  · refine ⟨.ol [.fr (.int ((if ms[k] < 0 then -ms[k] else ms[k]) * 0)), .fr (.int (ms[k] % 2305843009213693951 + 39373 * (k : Int) + p)), .fr (.int 0)], ?_, _, _, _, rfl, ?_, ?_, ?_, ?_, ?_⟩
    · have hc' := hc
      have m3 : mulOk (if ms[k] < 0 then -ms[k] else ms[k]) 0 = true := mulOk_r (by decide) (by decide)
      simp only [Int.reducePow] at hc'
      simp [boxT, hk, hat, hp, m1, hc', m3]
    · simp
    · omega
    · omega
    · omega
    · decide
/-! ### one of some -/
def ofT (c : FT) (j : Nat) : Sv := (sBlk [(sRet (mSub (mV 1) (mCall c j [(mV 0), (mRd fLen [(mV 1)])])))])
theorem of_run {c : FT} {j : Nat} {m : Nat} {b : O} {xs : List D} (hc : ∀ (top : Int), 0 < top → top < 2 ^ 200 → ∃ r b', c j [b, .fr (.int top)] = .ok (.fr (.int r)) [some b', none] ∧ 0 ≤ r ∧ r < top ∧ Bx m b')
    (hb : Bx (m + 1) b) (h0 : 0 < xs.length) (h1 : xs.length < 2 ^ 60) :
    ∃ (k : Nat) (h : k < xs.length) (b' : O), Bx m b' ∧ runF [0] 2 2 (ofT c j) [b, .fr (.lst xs)] = .ok (.fr xs[k]) [some b', none] ∧ runF [0] 2 2 (ofT c j) [b, .fr (.tup xs)] = .ok (.fr xs[k]) [some b', none] := by
  obtain ⟨r, b', q, g1, g2, g3⟩ := hc xs.length (by omega) (by omega)
  obtain ⟨k, rfl⟩ := Int.eq_ofNat_of_zero_le g1
  have hk : k < xs.length := by omega
  have hat : atI xs (k : Int) = some xs[k] := atI_nat _ _ hk
  obtain ⟨x, y, z, rfl, _⟩ := hb
  refine ⟨k, hk, b', g3, ?_, ?_⟩
  · simp [ofT, q, hat]
  · simp [ofT, q, hat]
/-! ### the same kinds and values -/
mutual
def D.fit : D → Bool
  | .lst xs => decide (xs.length ≤ 10000000) && D.fits xs
  | .tup xs => decide (xs.length ≤ 10000000) && D.fits xs
  | .str s => strOkB s
  | .dk _ => false
  | .dt _ => false
  | _ => true
def D.fits : List D → Bool
  | [] => true
  | x :: xs => x.fit && D.fits xs
end
def sameT (c : FT) (j : Nat) : Sv := (sBlk [(sIf (tTru (mRd (fIsI [.list, .tuple]) [(mV 1)]))
  (sBlk [(sIf (tOr (tV (mRd fNe [(mRd (fIsI [.list]) [(mV 0)]), (mRd (fIsI [.list]) [(mV 1)])])) (tV (mRd fNe [(mRd (fIsI [.tuple]) [(mV 0)]), (mRd (fIsI [.tuple]) [(mV 1)])])))
  (sBlk [(sRet (mC (.bl false)))])
  sNil),
  (sRet (mAnd (mRd fEq [(mRd fLen [(mV 0)]), (mRd fLen [(mV 1)])]) (mRd fAll [(mComp 5 [2, 3] (.tp [(.nm 2), (.nm 3)]) (iZip [(mV 0), (mV 1)]) (.ret true) (mCall c j [(mV 2), (mV 3)]))])))])
  sNil),
  (sIf (tTru (mRd (fIsI [.dict]) [(mV 1)]))
  sNever
  sNil),
  (sIf (tOr (tV (mRd fIsN [(mV 1)])) (tTru (mRd (fIsI [.bool, .str]) [(mV 1)])))
  (sBlk [(sRet (mAnd (mRd fEq [(mV 0), (mV 1)]) (mAnd (mRd fEq [(mRd (fIsI [.bool]) [(mV 0)]), (mRd (fIsI [.bool]) [(mV 1)])]) (mRd fEq [(mRd fIsN [(mV 0)]), (mRd fIsN [(mV 1)])]))))])
  sNil),
  (sRet (mAnd (mRd (fIsI [.int]) [(mV 0)]) (mAnd (mRd fNot [(mRd (fIsI [.bool]) [(mV 0)])]) (mRd fEq [(mV 0), (mV 1)]))))])
theorem bls_map {α : Type} (xs : List α) (f : α → Bool) : bls? (xs.map fun x => D.bl (f x)) = some (xs.map f) := by
  induction xs with
  | nil => rfl
  | cons x xs ih => simp [bls?, ih]
theorem fAll_map {α : Type} (xs : List α) (f : α → Bool) : fAll [.lst (xs.map fun x => D.bl (f x))] = some (.bl (xs.all f)) := by
  simp only [fAll, bls_map, Option.map_some]
  congr 2
  simp [List.all_map]
theorem zipD_self : ∀ xs : List D, zipD xs xs = xs.map fun x => .tup [x, x]
  | [] => rfl
  | x :: xs => by rw [zipD, zipD_self xs]; rfl
theorem fits_mem : ∀ {xs : List D} {x : D}, D.fits xs = true → x ∈ xs → x.fit = true
  | y :: ys, x, h, hm => by
    rw [D.fits, Bool.and_eq_true] at h
    rcases List.mem_cons.mp hm with e | hm
    · rw [e]; exact h.1
    · exact fits_mem h.2 hm
theorem deps_mem : ∀ {xs : List D} {x : D}, x ∈ xs → x.dep ≤ D.deps xs
  | y :: ys, x, hm => by
    rw [D.deps]
    rcases List.mem_cons.mp hm with e | hm
    · rw [e]; omega
    · have := deps_mem hm; omega
theorem same_seq {c : FT} {j : Nat} {xs : List D} (h : ∀ x ∈ xs, c j [.fr x, .fr x] = .ok (.fr (.bl true)) [none, none]) (hl : xs.length ≤ 10000000) (src : Ev (List D)) (e : Env) (d d' : D)
    (hs : src [some (.fr d), some (.fr d'), none, none, none] = .ok (xs.map fun x => .tup [x, x]) [some (.fr d), some (.fr d'), none, none, none]) :
    mComp 5 [2, 3] (.tp [(.nm 2), (.nm 3)]) src (.ret true) (mCall c j [(mV 2), (mV 3)]) [some (.fr d), some (.fr d'), none, none, none] = .ok (.v (.ol (xs.map fun x => .fr (.bl true)))) [some (.fr d), some (.fr d'), none, none, none] := by
  have := comp_map (n := 5) (own := [2, 3]) (tg := .tp [(.nm 2), (.nm 3)]) (src := src) (t := .ret true) (elt := mCall c j [(mV 2), (mV 3)]) (fun _ => .fr (.bl true)) hs (by simp) (by simp) (by simp [sizeMax]; omega) (by
    intro x hx
    obtain ⟨y, hy, rfl⟩ := List.mem_map.mp hx
    simp [ioOf, h y hy])
  rw [this]
  simp
theorem same_run {B : Nat → FT → List O → CR} {j : Nat} (hB : ∀ c, B j c = runF [] 2 5 (sameT c j)) : ∀ (n : Nat) (d : D), d.fit = true → d.dep < n → callN B n j [.fr d, .fr d] = .ok (.fr (.bl true)) [none, none]
  | 0, d, _, h => absurd h (Nat.not_lt_zero _)
  | n + 1, d, hf, hd => by
    rw [callN_succ, hB]
    cases d with
    | non => simp [sameT, fEq, eqO, D.lay, D.eqv, D.dep]
    | bl b => simp [sameT]
    | int i => simp [sameT]
    | str s =>
      have : fEq [.str s, .str s] = some (.bl true) := by simp [fEq, eqO]
      simp [sameT, this]
    | dk _ => simp [D.fit] at hf
    | dt _ => simp [D.fit] at hf
    | tup xs =>
      simp only [D.fit, Bool.and_eq_true, decide_eq_true_eq] at hf
      rw [D.dep] at hd
      have := same_seq (c := callN B n) (j := j) (xs := xs) (fun x hx => same_run hB n x (fits_mem hf.2 hx) (by have := deps_mem hx; omega)) hf.1 (iZip [(mV 0), (mV 1)]) [] (.tup xs) (.tup xs) (by simp [zipD_self])
      have ha := fAll_map xs (fun _ => true)
      simp [sameT, this, ha]
    | lst xs =>
      simp only [D.fit, Bool.and_eq_true, decide_eq_true_eq] at hf
      rw [D.dep] at hd
      have := same_seq (c := callN B n) (j := j) (xs := xs) (fun x hx => same_run hB n x (fits_mem hf.2 hx) (by have := deps_mem hx; omega)) hf.1 (iZip [(mV 0), (mV 1)]) [] (.lst xs) (.lst xs) (by simp [zipD_self])
      have ha := fAll_map xs (fun _ => true)
      simp [sameT, this, ha]

/-! ### lists in the place of tuples -/
mutual
def listsD : D → D
  | .lst xs => .lst (listsDs xs)
  | .tup xs => .lst (listsDs xs)
  | d => d
def listsDs : List D → List D
  | [] => []
  | x :: xs => listsD x :: listsDs xs
end
theorem listsDs_map : ∀ xs : List D, listsDs xs = xs.map listsD
  | [] => rfl
  | x :: xs => by rw [listsDs, listsDs_map xs]; rfl
def listsT (c : FT) (j : Nat) : Sv := (sBlk [(sRet (mIf (tTru (mRd (fIsI [.list, .tuple]) [(mV 0)])) (mComp 2 [1] (.nm 1) (iSeq (mV 0)) (.ret true) (mZ (mCall c j [(mV 1)]))) (mV 0)))])
theorem lists_seq {c : FT} {j : Nat} {xs : List D} (h : ∀ x ∈ xs, ∃ o, c j [.fr x] = .ok o [none] ∧ o.thaw = listsD x) (hl : xs.length ≤ 10000000) (d : D) (hd : d.items = some xs) :
    ∃ os, mComp 2 [1] (.nm 1) (iSeq (mV 0)) (.ret true) (mZ (mCall c j [(mV 1)])) [some (.fr d), none] = .ok (.v (.ol os)) [some (.fr d), none] ∧ O.thaws os = listsDs xs := by
  have := comp_map (n := 2) (own := [1]) (tg := .nm 1) (src := iSeq (mV 0)) (t := .ret true) (elt := mZ (mCall c j [(mV 1)])) (e := [some (.fr d), none]) (e1 := [some (.fr d), none]) (ds := xs) (fun x => .fr (listsD x)) (by simp [hd]) (by simp) (by simp) (by simp [sizeMax]; omega) (by
    intro x hx
    obtain ⟨o, ho, ht⟩ := h x hx
    simp [ioOf, ho, ht])
  refine ⟨xs.map fun x => .fr (listsD x), ?_, ?_⟩
  · rw [this]
    simp
  · rw [thaws_mapf, listsDs_map]
    rfl
theorem lists_run {B : Nat → FT → List O → CR} {j : Nat} (hB : ∀ c, B j c = runF [] 1 2 (listsT c j)) : ∀ (n : Nat) (d : D), d.fit = true → d.dep < n → ∃ o, callN B n j [.fr d] = .ok o [none] ∧ o.thaw = listsD d
  | 0, d, _, h => absurd h (Nat.not_lt_zero _)
  | n + 1, d, hf, hd => by
    rw [callN_succ, hB]
    cases d with
    | non => exact ⟨.fr .non, by simp [listsT], rfl⟩
    | bl b => exact ⟨.fr (.bl b), by simp [listsT], rfl⟩
    | int i => exact ⟨.fr (.int i), by simp [listsT], rfl⟩
    | str s => exact ⟨.fr (.str s), by simp [listsT], rfl⟩
    | dk _ => simp [D.fit] at hf
    | dt _ => simp [D.fit] at hf
    | tup xs =>
      simp only [D.fit, Bool.and_eq_true, decide_eq_true_eq] at hf
      rw [D.dep] at hd
      obtain ⟨os, q, w⟩ := lists_seq (c := callN B n) (j := j) (xs := xs) (fun x hx => lists_run hB n x (fits_mem hf.2 hx) (by have := deps_mem hx; omega)) hf.1 (.tup xs) rfl
      exact ⟨.ol os, by simp [listsT, q], by rw [thaw_ol, w]; rfl⟩
    | lst xs =>
      simp only [D.fit, Bool.and_eq_true, decide_eq_true_eq] at hf
      rw [D.dep] at hd
      obtain ⟨os, q, w⟩ := lists_seq (c := callN B n) (j := j) (xs := xs) (fun x hx => lists_run hB n x (fits_mem hf.2 hx) (by have := deps_mem hx; omega)) hf.1 (.lst xs) rfl
      exact ⟨.ol os, by simp [listsT, q], by rw [thaw_ol, w]; rfl⟩
/-! ### fit data -/
mutual
theorem fit_lay : ∀ d : D, d.fit = true → d.lay = true
  | .non, _ => rfl
  | .bl _, _ => rfl
  | .int _, _ => rfl
  | .str s, h => h
  | .tup xs, h => by
    simp only [D.fit, Bool.and_eq_true] at h
    rw [D.lay]
    exact fits_lays xs h.2
  | .lst xs, h => by
    simp only [D.fit, Bool.and_eq_true] at h
    rw [D.lay]
    exact fits_lays xs h.2
  | .dk _, h => by cases h
  | .dt _, h => by cases h
theorem fits_lays : ∀ ds : List D, D.fits ds = true → D.lays ds = true
  | [], _ => rfl
  | d :: ds, h => by
    rw [D.fits, Bool.and_eq_true] at h
    rw [D.lays, fit_lay d h.1, fits_lays ds h.2]; rfl
end
theorem fits_of {ds : List D} (h : ∀ x ∈ ds, x.fit = true) : D.fits ds = true := by
  induction ds with
  | nil => rfl
  | cons d ds ih => rw [D.fits, h d (by simp), ih fun x hx => h x (by simp [hx])]; rfl
theorem fit_lst {ds : List D} (h : ds.length ≤ 10000000) (h2 : ∀ x ∈ ds, x.fit = true) : (D.lst ds).fit = true := by
  rw [D.fit, decide_eq_true h, fits_of h2]; rfl
theorem fit_tup {ds : List D} (h : ds.length ≤ 10000000) (h2 : ∀ x ∈ ds, x.fit = true) : (D.tup ds).fit = true := by
  rw [D.fit, decide_eq_true h, fits_of h2]; rfl
end Ev
end
section
/-! EvTold: how often the most frequent one of some numbers is there (plain). -/
set_option linter.all false
set_option maxRecDepth 100000
namespace Ev
open PySem
theorem small_of {i : Int} (h1 : 0 ≤ i) (h2 : i < 2 ^ 40) : smallI i = true := by
  unfold smallI
  simp
  omega
/-! ### how often the most frequent one is there -/
def counts (vs : List Int) : List Int := vs.map fun v => (vs.count v : Int)
def mostL : List Int → Int
  | i :: is => maxI is i
  | [] => 0
def most (vs : List Int) : Int := mostL (counts vs)
def cntD (a : List Int) : List (Int × Int) := a.foldl (fun kv v => kput kv v ((kget kv v).getD 0 + 1)) []
theorem cntD_snoc (a : List Int) (v : Int) : cntD (a ++ [v]) = kput (cntD a) v ((kget (cntD a) v).getD 0 + 1) := by simp [cntD]
theorem cntD_spec (a : List Int) : ((cntD a).map Prod.fst).Nodup ∧ ∀ v, kget (cntD a) v = if v ∈ a then some ((a.count v : Nat) : Int) else none := by
  induction a using snoc_ind with
  | h0 => simp [cntD, kget]
  | h1 a v ih =>
    rw [cntD_snoc]
    refine ⟨kput_nodup ih.1, fun u => ?_⟩
    rw [kget_kput, ih.2 v, ih.2 u]
    by_cases h : v = u
    · subst h
      by_cases hv : v ∈ a
      · simp [hv]
      · simp [hv, List.count_eq_zero.mpr hv]
    · have h' : ¬ u = v := fun e => h e.symm
      simp [h, h', List.count_cons]
theorem cntD_len (a : List Int) : (cntD a).length ≤ a.length := by
  induction a using snoc_ind with
  | h0 => simp [cntD]
  | h1 a v ih =>
    rw [cntD_snoc]
    have := congrArg List.length (kput_keys v ((kget (cntD a) v).getD 0 + 1) (cntD a))
    rw [List.length_map] at this
    rw [this]
    split <;> simp <;> omega
theorem cntD_vals (a : List Int) (x : Int) : x ∈ (cntD a).map Prod.snd ↔ x ∈ counts a := by
  have s := cntD_spec a
  simp only [List.mem_map, counts]
  constructor
  · rintro ⟨⟨k, y⟩, h, rfl⟩
    have := kget_of_mem s.1 h
    rw [s.2] at this
    split at this
    · rename_i hk
      cases this
      exact ⟨k, hk, rfl⟩
    · cases this
  · rintro ⟨v, hv, rfl⟩
    have := s.2 v
    rw [if_pos hv] at this
    exact ⟨_, kget_mem this, rfl⟩
def cntO (kv : List (Int × Int)) : O := .ok (kv.map fun p => (Sum.inl p.1, .fr (.int p.2)))
theorem inl_inj (a b : Int) (h : (Sum.inl a : Key) = Sum.inl b) : a = b := by cases h; rfl
theorem most_eq {kv : List Int} {a : List Int} (ha : a ≠ []) (h : ∀ x, x ∈ kv ↔ x ∈ counts a) : ∃ i is, kv = i :: is ∧ maxI is i = most a := by
  cases a with
  | nil => exact absurd rfl ha
  | cons v vs =>
    cases kv with
    | nil =>
      have := (h ((v :: vs).count v : Nat)).mpr (by simp [counts])
      cases this
    | cons i is =>
      refine ⟨i, is, rfl, ?_⟩
      unfold most
      cases e : counts (v :: vs) with
      | nil => simp [counts] at e
      | cons j js =>
        rw [e] at h
        exact maxI_ext h
def glT : Sv := (sBlk [(sAsg [] (.nm 1) mDk),
  (sFor [] (.nm 2) (iSeq (mV 0))
  (sBlk [(sSetI (mV 1) (mV 2) (mOp fAdd [(mDm D.isDict fGet2 (mV 1) [(mV 2), (mC (.int 0))]), (mC (.int 1))]))])),
  (sRet (mDm D.isDict fMaxV (mV 1) []))])
theorem gl_run {vs : List Int} (h0 : vs ≠ []) (hl : vs.length ≤ 1000000) :
    runF [] 1 3 glT [.fr (.lst (vs.map .int))] = .ok (.fr (.int (most vs))) [none] := by
  have loop := for_inv (io := []) (tg := .nm 2) (body := sBlk [(sSetI (mV 1) (mV 2) (mOp fAdd [(mDm D.isDict fGet2 (mV 1) [(mV 2), (mC (.int 0))]), (mC (.int 1))]))])
    (fun r e => ∃ (a b : List Int) (x : Option O), vs = a ++ b ∧ r = b.map .int ∧ e = [some (.fr (.lst (vs.map .int))), some (cntO (cntD a)), x])
    (by
      rintro d r e ⟨a, b, x, hv, hr, rfl⟩
      cases b with
      | nil => simp at hr
      | cons v b =>
        simp at hr
        obtain ⟨rfl, rfl⟩ := hr
        refine ⟨.nx, [some (.fr (.lst (vs.map .int))), some (cntO (cntD (a ++ [v]))), some (.fr (.int v))], ?_, .inl rfl, a ++ [v], b, _, by simp [hv], rfl, rfl⟩
        have hlen : (cntD a).length < sizeMax := by
          have := cntD_len a
          have := congrArg List.length hv
          simp at this
          simp [sizeMax]
          omega
        have q1 := kget_map (Sum.inl : Int → Key) inl_inj D.int v (cntD a)
        have q2 := kput_map (Sum.inl : Int → Key) inl_inj (fun i => O.fr (D.int i)) v ((kget (cntD a) v).getD 0 + 1) (cntD a)
        have q3 := frk_map (Sum.inl : Int → Key) D.int (cntD a)
        have q4 := thawk_map (Sum.inl : Int → Key) (fun i => O.fr (D.int i)) (cntD a)
        have q5 : (Option.map D.int (kget (cntD a) v)).getD (D.int 0) = D.int ((kget (cntD a) v).getD 0) := by cases kget (cntD a) v <;> rfl
        simp only [thaw_fr] at q4
        rw [cntD_snoc]
        simp [cntO, q3, q4, fGet2, D.get, q1, q5, hlen, q2])
    (vs.map .int) [some (.fr (.lst (vs.map .int))), some (cntO (cntD [])), none] ⟨[], vs, none, rfl, rfl, rfl⟩
  obtain ⟨e', q, a, b, x, e1, e2, rfl⟩ := loop
  have e3 : b = [] := by simpa using e2.symm
  subst e3
  simp at e1
  subst e1
  obtain ⟨i, is, e4, e5⟩ := most_eq h0 (cntD_vals vs)
  have q3 := frk_map (Sum.inl : Int → Key) D.int (cntD vs)
  have q4 := thawk_map (Sum.inl : Int → Key) (fun i => O.fr (D.int i)) (cntD vs)
  simp only [thaw_fr] at q4
  have q5 := vals_map (Sum.inl : Int → Key) (cntD vs)
  rw [e4] at q5
  have q' := q
  simp [cntO, cntD] at q'
  simp [glT, q']
  simp [cntD] at q3 q4 q5
  simp [q3, q4, fMaxV, q5, e5]
def llT : Sv := (sBlk [(sRet (mOp fMaxL [(mComp 2 [1] (.nm 1) (iSeq (mV 0)) (.ret true) (mDm D.isLst fCount (mV 0) [(mV 1)]))]))])
theorem ll_run {vs : List Int} (h0 : vs ≠ []) (hl : vs.length ≤ 1000000) :
    runF [] 1 2 llT [.fr (.lst (vs.map .int))] = .ok (.fr (.int (most vs))) [none] := by
  have q := comp_mapA (n := 2) (own := [1]) (tg := .nm 1) (src := iSeq (mV 0)) (t := .ret true) (elt := mDm D.isLst fCount (mV 0) [(mV 1)]) (e := [some (.fr (.lst (vs.map .int))), none]) (e1 := [some (.fr (.lst (vs.map .int))), none])
    (xs := vs) D.int (fun v => .fr (.int (vs.count v : Nat))) (by simp) (by simp) (by simp) (by simp [sizeMax]; omega) (by
    intro v hv
    simp [ioOf, fCount_ints])
  obtain ⟨i, is, e1, e2⟩ := most_eq (kv := counts vs) h0 (fun _ => Iff.rfl)
  have e3 := fMaxL_ints i is
  rw [← e1] at e3
  simp [counts, Function.comp_def] at e3
  simp at q
  simp [llT, q, e3, e2]
end Ev
end
section
set_option Elab.async false
set_option linter.all false
set_option maxRecDepth 100000
namespace Lw
open PySem Ev
-- greatest_left(values): 0 values, 1 counts, 2 value
def sv_0 (c : FT) : Sv := (sBlk [(sAsg [] (.nm 1) mDk),
  (sFor [] (.nm 2) (iSeq (mV 0))
  (sBlk [(sSetI (mV 1) (mV 2) (mOp fAdd [(mDm D.isDict fGet2 (mV 1) [(mV 2), (mC (.int 0))]), (mC (.int 1))]))])),
  (sRet (mDm D.isDict fMaxV (mV 1) []))])
-- fits_two(one, other, number): 0 one, 1 other, 2 number
def sv_1 (c : FT) : Sv := (sBlk [(sIf (tOr (tV (mRd fNe [(mOp fMod [(mSub (mV 0) (mC (.int (0)))), (mV 2)]), (mC (.int 0))])) (tV (mRd fNe [(mOp fMod [(mSub (mV 1) (mC (.int (0)))), (mV 2)]), (mC (.int 0))])))
  (sBlk [(sRet (mC (.bl false)))])
  sNil),
  (sRet (mRd fEq [(mOp fDiv [(mSub (mV 0) (mC (.int (1)))), (mOp fDiv [(mSub (mV 0) (mC (.int (0)))), (mV 2)])]), (mOp fDiv [(mSub (mV 1) (mC (.int (1)))), (mOp fDiv [(mSub (mV 1) (mC (.int (0)))), (mV 2)])])]))])
-- out_of_two(one, other, number, sent, more): 0 one, 1 other, 2 number, 3 sent, 4 more, 5 below, 6 under, 7 past
def sv_2 (c : FT) : Sv := (sBlk [(sPar [] [5, 6] [(mOp fDiv [(mSub (mV 0) (mC (.int (0)))), (mV 2)]), (mOp fDiv [(mSub (mV 1) (mC (.int (0)))), (mV 2)])]),
  (sAsg [] (.nm 7) (mOp fDiv [(mSub (mV 0) (mC (.int (1)))), (mV 5)])),
  (sRet (mOp fDiv [(mOp fAdd [(mOp fAdd [(mV 7), (mOp fDiv [(mOp fAdd [(mOp fMod [(mSub (mV 0) (mC (.int (1)))), (mV 5)]), (mV 3)]), (mV 5)])]), (mOp fDiv [(mOp fAdd [(mOp fMod [(mSub (mV 1) (mC (.int (1)))), (mV 6)]), (mV 4)]), (mV 6)])]), (mV 2)]))])
-- mets_left(one, other, seen): 0 one, 1 other, 2 seen, 3 found, 4 sent, 5 more, 6 out, 7 number
def sv_3 (c : FT) : Sv := (sBlk [(sAsg [] (.nm 3) (mComp 8 [7] (.nm 7) (iRng2 [(mC (.int 1)), (mOp fAdd [(mOp fMin2 [(mSub (mV 0) (mC (.int (0)))), (mSub (mV 1) (mC (.int (0))))]), (mC (.int 1))])]) (tTru (mCall c 1 [(mV 0), (mV 1), (mV 7)])) (mV 7))),
  (sFor [] (.tp [(.nm 4), (.nm 5), (.nm 6)]) (iSeq (mV 2))
  (sBlk [(sAsg [] (.nm 3) (mComp 8 [7] (.nm 7) (iSeq (mMv 3)) (tV (mRd fEq [(mCall c 2 [(mV 0), (mV 1), (mV 7), (mV 4), (mV 5)]), (mV 6)])) (mV 7)))])),
  (sRet (mMv 3))])
-- ask_for(one, other, numbers): 0 one, 1 other, 2 numbers, 3 rows, 4 sent, 5 more, 6 values, 7 number
def sv_4 (c : FT) : Sv := (sBlk [(sIf (tV (mRd fLt [(mRd fLen [(mV 2)]), (mC (.int 2))]))
  (sBlk [(sRet (mC .non))])
  sNil),
  (sAsg [] (.nm 3) (mLst [])),
  (sFor [] (.nm 4) (iRng2 [(mC (.int 1)), (mOp fAdd [(mSub (mV 0) (mC (.int (0)))), (mC (.int 1))])])
  (sBlk [(sFor [] (.nm 5) (iRng2 [(mC (.int 1)), (mOp fAdd [(mSub (mV 1) (mC (.int (0)))), (mC (.int 1))])])
  (sBlk [(sAsg [] (.nm 6) (mZ (mComp 8 [7] (.nm 7) (iSeq (mV 2)) (.ret true) (mCall c 2 [(mV 0), (mV 1), (mV 7), (mV 4), (mV 5)])))),
  (sEx (mMt fAppend (mV 3) [(mTup [(mCall c 0 [(mV 6)]), (mOp fAdd [(mV 4), (mV 5)]), (mTup [(mV 4), (mV 5)])])]))]))])),
  (sRet (mSub (mOp fMinL [(mV 3)]) (mC (.int (2)))))])
-- met_ask(one, other, seen): 0 one, 1 other, 2 seen
def sv_5 (c : FT) : Sv := (sBlk [(sRet (mCall c 4 [(mV 0), (mV 1), (mZ (mCall c 3 [(mV 0), (mV 1), (mV 2)]))]))])
-- _law_box(_law_script, _law_k): 0 _law_script, 1 _law_k, 2 _law_cell
def sv_6 (c : FT) : Sv := (sBlk [(sAsg [] (.nm 2) (mIf (tV (mRd fLt [(mV 1), (mRd fLen [(mV 0)])])) (mSub (mV 0) (mV 1)) (mC (.int 0)))),
  (sRet (mLst [(mOp fMul [(mOp fAbs [(mV 2)]), (mOp fInt [(mRd fGe [(mOp fAbs [(mV 2)]), (mOp fPow [(mC (.int 10)), (mC (.int 18))])])])]), (mOp fAdd [(mOp fAdd [(mOp fMod [(mOp fInt [(mV 2)]), (mC (.int 2305843009213693951))]), (mOp fMul [(mC (.int 39373)), (mV 1)])]), (mC (.int 2082))]), (mC (.int 0))]))])
-- _law_take(_law_box_here, _law_top_so): 0 _law_box_here, 1 _law_top_so, 2 _law_digit_so, 3 _law_once, 4 _law_far, 5 _law_twice
def sv_7 (c : FT) : Sv := (sBlk [(sIf (tV (mRd fGt [(mSub (mV 0) (mC (.int (0)))), (mC (.int 0))]))
  (sBlk [(sAsg [0] (.nm 2) (mOp fMod [(mOp fInt [(mSub (mV 0) (mC (.int (0))))]), (mV 1)])),
  (sSetI (mV 0) (mC (.int (0))) (mOp fDiv [(mSub (mV 0) (mC (.int (0)))), (mV 1)])),
  (sRet (mV 2))])
  sNil),
  (sSetI (mV 0) (mC (.int (2))) (mOp fAdd [(mSub (mV 0) (mC (.int (2)))), (mC (.int 1))])),
  (sAsg [0] (.nm 3) (mOp fMod [(mOp fInt [(mOp fMul [(mOp fAdd [(mSub (mV 0) (mC (.int (1)))), (mOp fMul [(mC (.int 48271)), (mSub (mV 0) (mC (.int (2))))])]), (mOp fAdd [(mC (.int 39373)), (mSub (mV 0) (mC (.int (2))))])])]), (mC (.int 2147483647))])),
  (sAsg [0] (.nm 4) (mOp fAdd [(mOp fMod [(mOp fInt [(mV 3)]), (mC (.int 40009))]), (mC (.int 7))])),
  (sAsg [0] (.nm 5) (mOp fMod [(mOp fInt [(mOp fMul [(mOp fAdd [(mOp fAdd [(mV 3), (mSub (mV 0) (mC (.int (2))))]), (mOp fDiv [(mSub (mV 0) (mC (.int (1)))), (mC (.int 1000003))])]), (mV 4)])]), (mC (.int 2147483629))])),
  (sRet (mOp fMod [(mOp fInt [(mOp fDiv [(mOp fMod [(mOp fInt [(mOp fAdd [(mOp fMul [(mV 5), (mC (.int 48271))]), (mV 3)])]), (mC (.int 2147483587))]), (mC (.int 64))])]), (mV 1)]))])
-- _law_cells(_law_script, _law_most): 0 _law_script, 1 _law_most, 2 _law_cells_here, 3 _law_k, 4 _law_cell, 5 _law_at_so
def sv_8 (c : FT) : Sv := (sBlk [(sAsg [] (.nm 2) (mOr (mOp fList [(mOp fSlice [(mV 0), (mC .non), (mInt (mV 1))])]) (mLst [(mC (.int 0))]))),
  (sFor [] (.tp [(.nm 3), (.nm 4)]) (iEnum (mOp fSlice [(mV 0), (mInt (mV 1)), (mInt (mC (.int 63)))]))
  (sBlk [(sAsg [] (.nm 5) (mOp fMod [(mOp fInt [(mV 3)]), (mV 1)])),
  (sSetI (mV 2) (mV 5) (mOp fAdd [(mSub (mV 2) (mV 5)), (mOp fMul [(mV 4), (mOp fAdd [(mV 3), (mC (.int 2))])])]))])),
  (sRet (mMv 2))])
-- _law_of(_law_box_here, _law_some): 0 _law_box_here, 1 _law_some
def sv_9 (c : FT) : Sv := (sBlk [(sRet (mSub (mV 1) (mCall c 7 [(mV 0), (mRd fLen [(mV 1)])])))])
-- _law_pick(_law_box_here, _law_pool, _law_size_so): 0 _law_box_here, 1 _law_pool, 2 _law_size_so, 3 _law_rest, 4 _law_some, 5 _law_turn
def sv_10 (c : FT) : Sv := (sBlk [(sPar [0] [3, 4] [(mOp fList [(mV 1)]), (mLst [])]),
  (sFor [0] (.nm 5) (iRng1 (mOp fMin2 [(mV 2), (mRd fLen [(mV 3)])]))
  (sBlk [(sEx (mMt fAppend (mV 4) [(mZ (mMt fPopAt (mV 3) [(mCall c 7 [(mV 0), (mRd fLen [(mV 3)])])]))]))])),
  (sRet (mMv 4))])
-- _law_lists(_law_matter): 0 _law_matter, 1 _law_bit
def sv_11 (c : FT) : Sv := (sBlk [(sRet (mIf (tTru (mRd (fIsI [.list, .tuple]) [(mV 0)])) (mComp 2 [1] (.nm 1) (iSeq (mV 0)) (.ret true) (mZ (mCall c 11 [(mV 1)]))) (mV 0)))])
-- _law_same(_law_got, _law_due): 0 _law_got, 1 _law_due, 2 _law_mine, 3 _law_its, 4 _law_own
def sv_12 (c : FT) : Sv := (sBlk [(sIf (tTru (mRd (fIsI [.list, .tuple]) [(mV 1)]))
  (sBlk [(sIf (tOr (tV (mRd fNe [(mRd (fIsI [.list]) [(mV 0)]), (mRd (fIsI [.list]) [(mV 1)])])) (tV (mRd fNe [(mRd (fIsI [.tuple]) [(mV 0)]), (mRd (fIsI [.tuple]) [(mV 1)])])))
  (sBlk [(sRet (mC (.bl false)))])
  sNil),
  (sRet (mAnd (mRd fEq [(mRd fLen [(mV 0)]), (mRd fLen [(mV 1)])]) (mRd fAll [(mComp 5 [2, 3] (.tp [(.nm 2), (.nm 3)]) (iZip [(mV 0), (mV 1)]) (.ret true) (mCall c 12 [(mV 2), (mV 3)]))])))])
  sNil),
  (sIf (tTru (mRd (fIsI [.dict]) [(mV 1)]))
  sNever
  sNil),
  (sIf (tOr (tV (mRd fIsN [(mV 1)])) (tTru (mRd (fIsI [.bool, .str]) [(mV 1)])))
  (sBlk [(sRet (mAnd (mRd fEq [(mV 0), (mV 1)]) (mAnd (mRd fEq [(mRd (fIsI [.bool]) [(mV 0)]), (mRd (fIsI [.bool]) [(mV 1)])]) (mRd fEq [(mRd fIsN [(mV 0)]), (mRd fIsN [(mV 1)])]))))])
  sNil),
  (sRet (mAnd (mRd (fIsI [.int]) [(mV 0)]) (mAnd (mRd fNot [(mRd (fIsI [.bool]) [(mV 0)])]) (mRd fEq [(mV 0), (mV 1)]))))])
-- _law_out(_law_plan, _law_table): 0 _law_plan, 1 _law_table, 2 _law_found, 3 _law_limb_here
def sv_13 (c : FT) : Sv := (sBlk [(sAsg [] (.nm 2) (mSub (mV 0) (mC (.int (0))))),
  (sFor [] (.nm 3) (iSeq (mSub (mV 0) (mC (.int (1)))))
  (sBlk [(sAsg [] (.nm 2) (mOp fAdd [(mV 2), (mCall c 14 [(mV 3), (mV 1)])]))])),
  (sRet (mV 2))])
-- _law_passed(_law_limb_here, _law_table): 0 _law_limb_here, 1 _law_table, 2 _law_sum_so, 3 _law_own
def sv_14 (c : FT) : Sv := (sBlk [(sIf (tTru (mRd (fIsI [.str]) [(mV 0)]))
  (sBlk [(sRet (mDm D.isDict fGet2 (mV 1) [(mV 0), (mC (.int 0))]))])
  sNil),
  (sAsg [] (.nm 2) (mSub (mV 0) (mC (.int (1))))),
  (sFor [] (.nm 3) (iSeq (mSub (mV 0) (mC (.int (2)))))
  (sBlk [(sAsg [] (.nm 2) (mOp fAdd [(mV 2), (mCall c 14 [(mV 3), (mV 1)])]))])),
  (sRet (mOp fSub [(mOp fDiv [(mV 2), (mSub (mV 0) (mC (.int (0))))]), (mOp fDiv [(mSub (mV 0) (mC (.int (1)))), (mSub (mV 0) (mC (.int (0))))])]))])
-- _law_left(_law_answers_so): 0 _law_answers_so, 1 _law_own
def sv_15 (c : FT) : Sv := (sBlk [(sRet (mOp fMaxL [(mComp 2 [1] (.nm 1) (iSeq (mV 0)) (.ret true) (mDm D.isLst fCount (mV 0) [(mV 1)]))]))])
-- _law_limb(_law_tag, _law_high, _law_own): 0 _law_tag, 1 _law_high, 2 _law_own
def sv_16 (c : FT) : Sv := (sBlk [(sRet (mIf (tV (mRd fEq [(mV 1), (mC (.int 1))])) (mV 0) (mTup [(mV 1), (mV 2), (mTup [(mV 0)])])))])
-- _law_joint(_law_pair_so, _law_far_so, _law_size_so): 0 _law_pair_so, 1 _law_far_so, 2 _law_size_so, 3 _law_low, 4 _law_wide, 5 _law_rest_so, 6 _law_own, 7 _law_its, 8 _law_limbs
def sv_17 (c : FT) : Sv := (sBlk [(sIf (tOr (tV (mRd fNe [(mOp fMod [(mOp fInt [(mSub (mV 0) (mC (.int (0))))]), (mV 2)]), (mC (.int 0))])) (tV (mRd fNe [(mOp fMod [(mOp fInt [(mSub (mV 1) (mC (.int (0))))]), (mV 2)]), (mC (.int 0))])))
  (sBlk [(sRet (mC .non))])
  sNil),
  (sPar [] [3, 4] [(mOp fDiv [(mSub (mV 0) (mC (.int (0)))), (mV 2)]), (mOp fDiv [(mSub (mV 1) (mC (.int (0)))), (mV 2)])]),
  (sFor [] (.nm 5) (iRng1 (mV 2))
  (sBlk [(sPar [] [6, 7] [(mOp fSub [(mSub (mV 0) (mC (.int (1)))), (mOp fMul [(mV 3), (mV 5)])]), (mOp fSub [(mSub (mV 1) (mC (.int (1)))), (mOp fMul [(mV 4), (mV 5)])])]),
  (sIf (tAnd (tV (mChn fLe fLt (mC (.int 0)) (mV 6) (mV 3))) (tV (mChn fLe fLt (mC (.int 0)) (mV 7) (mV 4))))
  (sBlk [(sAsg [] (.nm 8) (mTup [(mCall c 16 [(mC (.str "a")), (mV 3), (mV 6)]), (mCall c 16 [(mC (.str "b")), (mV 4), (mV 7)])])),
  (sRet (mIf (tV (mRd fEq [(mV 2), (mC (.int 1))])) (mTup [(mC (.int 0)), (mV 8)]) (mTup [(mC (.int 0)), (mTup [(mTup [(mV 2), (mV 5), (mV 8)])])])))])
  sNil)])),
  (sRet (mC .non))])
-- _law_fitting(_law_pair_so, _law_far_so, _law_rows): 0 _law_pair_so, 1 _law_far_so, 2 _law_rows, 3 _law_found, 4 _law_size_so, 5 _law_plan, 6 _law_row
def sv_18 (c : FT) : Sv := (sBlk [(sAsg [] (.nm 3) (mLst [])),
  (sFor [] (.nm 4) (iRng2 [(mC (.int 1)), (mOp fAdd [(mSub (mV 0) (mC (.int (0)))), (mC (.int 1))])])
  (sBlk [(sAsg [] (.nm 5) (mCall c 17 [(mV 0), (mV 1), (mV 4)])),
  (sIf (tV (mRd fNotN [(mV 5)]))
  (sBlk [(sIf (tTru (mRd fAll [(mComp 7 [6] (.nm 6) (iSeq (mV 2)) (.ret true) (mRd fEq [(mCall c 13 [(mV 5), (mZ (mDsp [.inr "a", .inr "b"] [(mSub (mV 6) (mC (.int (0)))), (mSub (mV 6) (mC (.int (1))))]))]), (mSub (mV 6) (mC (.int (2))))]))]))
  (sBlk [(sEx (mMt fAppend (mV 3) [(mV 4)]))])
  sNil)])
  sNil)])),
  (sRet (mMv 3))])
-- _law_ask(_law_pair_so, _law_far_so, _law_left_so): 0 _law_pair_so, 1 _law_far_so, 2 _law_left_so, 3 _law_plans, 4 _law_found, 5 _law_k, 6 _law_j, 7 _law_size_so, 8 _law_plan
def sv_19 (c : FT) : Sv := (sBlk [(sIf (tV (mRd fLt [(mRd fLen [(mV 2)]), (mC (.int 2))]))
  (sBlk [(sRet (mC .non))])
  sNil),
  (sPar [] [3, 4] [(mZ (mComp 9 [7] (.nm 7) (iSeq (mV 2)) (.ret true) (mCall c 17 [(mV 0), (mV 1), (mV 7)]))), (mLst [])]),
  (sFor [] (.nm 5) (iRng2 [(mC (.int 1)), (mOp fAdd [(mSub (mV 0) (mC (.int (0)))), (mC (.int 1))])])
  (sBlk [(sFor [] (.nm 6) (iRng2 [(mC (.int 1)), (mOp fAdd [(mSub (mV 1) (mC (.int (0)))), (mC (.int 1))])])
  (sBlk [(sEx (mMt fAppend (mV 4) [(mTup [(mCall c 15 [(mZ (mComp 9 [8] (.nm 8) (iSeq (mV 3)) (.ret true) (mZ (mCall c 13 [(mV 8), (mZ (mDsp [.inr "a", .inr "b"] [(mV 5), (mV 6)]))]))))]), (mOp fAdd [(mV 5), (mV 6)]), (mTup [(mV 5), (mV 6)])])]))]))])),
  (sRet (mSub (mOp fMinL [(mV 4)]) (mC (.int (2)))))])
-- _law_by_hand_right(): 0 _law_got, 1 _law_due, 2 _law_told
def sv_20 (c : FT) : Sv := (sBlk [(sAsg [] (.nm 0) (mLst [(mZ (mCall c 3 [(mTup [(mC (.int 6)), (mC (.int 0))]), (mTup [(mC (.int 2)), (mC (.int 0))]), (mTup [])])), (mZ (mCall c 3 [(mTup [(mC (.int 6)), (mC (.int 3))]), (mTup [(mC (.int 2)), (mC (.int 0))]), (mTup [])])), (mZ (mCall c 5 [(mTup [(mC (.int 6)), (mC (.int 0))]), (mTup [(mC (.int 2)), (mC (.int 0))]), (mTup [])]))])),
  (sAsg [] (.nm 1) (mZ (mLst [(mZ (mLst [(mC (.int 1)), (mC (.int 2))])), (mZ (mLst [(mC (.int 1))])), (mTup [(mC (.int 3)), (mC (.int 1))])]))),
  (sAsg [] (.nm 0) (mOp fAdd [(mV 0), (mLst [(mZ (mCall c 3 [(mTup [(mC (.int 6)), (mC (.int 0))]), (mTup [(mC (.int 2)), (mC (.int 0))]), (mTup [(mTup [(mC (.int 3)), (mC (.int 1)), (mC (.int 1))])])])), (mZ (mCall c 5 [(mTup [(mC (.int 6)), (mC (.int 3))]), (mTup [(mC (.int 2)), (mC (.int 0))]), (mTup [])]))])])),
  (sAsg [] (.nm 1) (mZ (mOp fAdd [(mV 1), (mLst [(mZ (mLst [(mC (.int 2))])), (mC .non)])]))),
  (sAsg [] (.nm 0) (mOp fAdd [(mV 0), (mLst [(mZ (mCall c 3 [(mTup [(mC (.int 1)), (mC (.int 0))]), (mTup [(mC (.int 1)), (mC (.int 0))]), (mTup [])])), (mZ (mCall c 3 [(mTup [(mC (.int 4)), (mC (.int 1))]), (mTup [(mC (.int 4)), (mC (.int 1))]), (mTup [])])), (mZ (mCall c 3 [(mTup [(mC (.int 4)), (mC (.int 1))]), (mTup [(mC (.int 4)), (mC (.int 2))]), (mTup [])]))])])),
  (sAsg [] (.nm 1) (mZ (mOp fAdd [(mV 1), (mLst [(mZ (mLst [(mC (.int 1))])), (mZ (mLst [(mC (.int 1)), (mC (.int 2)), (mC (.int 4))])), (mZ (mLst [(mC (.int 1))]))])]))),
  (sAsg [] (.nm 0) (mOp fAdd [(mV 0), (mLst [(mZ (mCall c 3 [(mTup [(mC (.int 4)), (mC (.int 3))]), (mTup [(mC (.int 4)), (mC (.int 2))]), (mTup [])])), (mZ (mCall c 3 [(mTup [(mC (.int 12)), (mC (.int 7))]), (mTup [(mC (.int 18)), (mC (.int 10))]), (mTup [])])), (mZ (mCall c 3 [(mTup [(mC (.int 5)), (mC (.int 0))]), (mTup [(mC (.int 7)), (mC (.int 0))]), (mTup [])]))])])),
  (sAsg [] (.nm 1) (mZ (mOp fAdd [(mV 1), (mLst [(mZ (mLst [(mC (.int 1)), (mC (.int 2))])), (mZ (mLst [(mC (.int 1)), (mC (.int 2)), (mC (.int 3)), (mC (.int 6))])), (mZ (mLst [(mC (.int 1))]))])]))),
  (sAsg [] (.nm 0) (mOp fAdd [(mV 0), (mLst [(mZ (mCall c 3 [(mTup [(mC (.int 4)), (mC (.int 1))]), (mTup [(mC (.int 4)), (mC (.int 1))]), (mTup [(mTup [(mC (.int 1)), (mC (.int 1)), (mC (.int 0))])])])), (mZ (mCall c 3 [(mTup [(mC (.int 4)), (mC (.int 1))]), (mTup [(mC (.int 4)), (mC (.int 1))]), (mTup [(mTup [(mC (.int 1)), (mC (.int 2)), (mC (.int 0))])])]))])])),
  (sEx (mMt fAppend (mV 0) [(mZ (mCall c 5 [(mTup [(mC (.int 4)), (mC (.int 1))]), (mTup [(mC (.int 4)), (mC (.int 1))]), (mTup [])]))])),
  (sAsg [] (.nm 1) (mZ (mOp fAdd [(mV 1), (mLst [(mZ (mLst [(mC (.int 1)), (mC (.int 4))])), (mZ (mLst [(mC (.int 1))])), (mTup [(mC (.int 1)), (mC (.int 1))])])]))),
  (sAsg [] (.nm 0) (mOp fAdd [(mV 0), (mLst [(mZ (mCall c 3 [(mTup [(mC (.int 4)), (mC (.int 1))]), (mTup [(mC (.int 4)), (mC (.int 1))]), (mTup [(mTup [(mC (.int 1)), (mC (.int 1)), (mC (.int 7))])])])), (mZ (mCall c 5 [(mTup [(mC (.int 4)), (mC (.int 1))]), (mTup [(mC (.int 4)), (mC (.int 1))]), (mTup [(mTup [(mC (.int 1)), (mC (.int 1)), (mC (.int 7))])])]))])])),
  (sAsg [] (.nm 1) (mZ (mOp fAdd [(mV 1), (mLst [(mZ (mLst [])), (mC .non)])]))),
  (sAsg [] (.nm 0) (mOp fAdd [(mV 0), (mLst [(mZ (mCallP c 3 [2, 0, 1] [(mZ (mLst [(mC (.int 24)), (mC (.int 0))])), (mZ (mLst [])), (mZ (mLst [(mC (.int 24)), (mC (.int 0))]))])), (mZ (mCall c 3 [(mTup [(mC (.int 24)), (mC (.int 0))]), (mTup [(mC (.int 24)), (mC (.int 0))]), (mTup [(mTup [(mC (.int 12)), (mC (.int 12)), (mC (.int 1))])])]))])])),
  (sEx (mMt fAppend (mV 0) [(mZ (mCallP c 5 [2, 1, 0] [(mZ (mLst [(mZ (mLst [(mC (.int 12)), (mC (.int 12)), (mC (.int 1))]))])), (mTup [(mC (.int 24)), (mC (.int 0))]), (mTup [(mC (.int 24)), (mC (.int 0))])]))])),
  (sAsg [] (.nm 1) (mZ (mOp fAdd [(mV 1), (mLst [(mZ (mLst [(mC (.int 1)), (mC (.int 2)), (mC (.int 3)), (mC (.int 4)), (mC (.int 6)), (mC (.int 8)), (mC (.int 12)), (mC (.int 24))])), (mZ (mLst [(mC (.int 2)), (mC (.int 4)), (mC (.int 6)), (mC (.int 8)), (mC (.int 12)), (mC (.int 24))])), (mTup [(mC (.int 4)), (mC (.int 20))])])]))),
  (sAsg [] (.nm 2) (mCall c 3 [(mTup [(mC (.int 2)), (mC (.int 0))]), (mTup [(mC (.int 2)), (mC (.int 0))]), (mTup [])])),
  (sEx (mMt fAppend (mV 2) [(mC (.int 5))])),
  (sRet (mCall c 12 [(mZ (mOp fAdd [(mV 0), (mLst [(mZ (mCall c 3 [(mTup [(mC (.int 2)), (mC (.int 0))]), (mTup [(mC (.int 2)), (mC (.int 0))]), (mTup [])]))])])), (mZ (mOp fAdd [(mV 1), (mLst [(mZ (mLst [(mC (.int 1)), (mC (.int 2))]))])]))]))])
-- _law_case_right(_law_box_here): 0 _law_box_here, 1 _law_size_so, 2 _law_pair_so, 3 _law_far_so, 4 _law_rest_so, 5 _law_low, 6 _law_wide, 7 _law_plan, 8 _law_rows, 9 _law_turn, 10 _law_k, 11 _law_j, 12 _law_left_so, 13 _law_soft, 14 _law_due, 15 _law_got
def sv_21 (c : FT) : Sv := (sBlk [(sAsg [0] (.nm 1) (mZ (mCall c 9 [(mV 0), (mZ (mLst [(mC (.int 1)), (mC (.int 1)), (mC (.int 2)), (mC (.int 2)), (mC (.int 3)), (mC (.int 4)), (mC (.int 6))]))]))),
  (sPar [0] [2, 3] [(mZ (mOp fMul [(mV 1), (mOp fAdd [(mC (.int 1)), (mCall c 7 [(mV 0), (mOp fDiv [(mC (.int 12)), (mV 1)])])])])), (mZ (mOp fMul [(mV 1), (mOp fAdd [(mC (.int 1)), (mCall c 7 [(mV 0), (mOp fDiv [(mC (.int 12)), (mV 1)])])])]))]),
  (sAsg [0] (.nm 4) (mZ (mCall c 7 [(mV 0), (mV 1)]))),
  (sPar [0] [5, 6] [(mOp fDiv [(mV 2), (mV 1)]), (mOp fDiv [(mV 3), (mV 1)])]),
  (sAsg [0] (.nm 2) (mTup [(mV 2), (mOp fAdd [(mOp fMul [(mV 4), (mV 5)]), (mCall c 7 [(mV 0), (mV 5)])])])),
  (sAsg [0] (.nm 3) (mTup [(mV 3), (mOp fAdd [(mOp fMul [(mV 4), (mV 6)]), (mCall c 7 [(mV 0), (mV 6)])])])),
  (sPar [0] [7, 8] [(mCall c 17 [(mV 2), (mV 3), (mV 1)]), (mLst [])]),
  (sFor [0] (.nm 9) (iRng1 (mCall c 7 [(mV 0), (mC (.int 3))]))
  (sBlk [(sPar [0] [10, 11] [(mZ (mCall c 7 [(mV 0), (mC (.int 14))])), (mZ (mCall c 7 [(mV 0), (mC (.int 14))]))]),
  (sEx (mMt fAppend (mV 8) [(mTup [(mV 10), (mV 11), (mOp fAdd [(mCall c 13 [(mV 7), (mZ (mDsp [.inr "a", .inr "b"] [(mV 10), (mV 11)]))]), (mOp fInt [(mRd fEq [(mCall c 7 [(mV 0), (mC (.int 8))]), (mC (.int 0))])])])])]))])),
  (sPar [0] [12, 13] [(mZ (mCall c 18 [(mV 2), (mV 3), (mFz 8)])), (mZ (mCall c 11 [(mFz 8)]))]),
  (sAsg [0] (.nm 14) (mZ (mLst [(mV 12), (mZ (mCall c 19 [(mV 2), (mV 3), (mV 12)]))]))),
  (sAsg [0] (.nm 15) (mZ (mLst [(mZ (mCall c 3 [(mV 2), (mV 3), (mOp fTuple [(mV 8)])])), (mZ (mCall c 5 [(mV 2), (mV 3), (mOp fTuple [(mV 8)])]))]))),
  (sIf (tNot (tTru (mCall c 12 [(mV 15), (mV 14)])))
  (sBlk [(sRet (mC (.bl false)))])
  sNil),
  (sAsg [0] (.nm 15) (mZ (mLst [(mZ (mCallP c 3 [2, 1, 0] [(mV 13), (mZ (mOp fList [(mV 3)])), (mZ (mOp fList [(mV 2)]))])), (mZ (mCall c 5 [(mZ (mOp fList [(mV 2)])), (mZ (mOp fList [(mV 3)])), (mV 13)]))]))),
  (sRet (mAnd (mCall c 12 [(mV 15), (mV 14)]) (mRd fEq [(mV 13), (mCall c 11 [(mFz 8)])])))])
-- _law_right(_law_box_here): 0 _law_box_here, 1 _law_turn
def sv_22 (c : FT) : Sv := (sBlk [(sRet (mAnd (mCall c 20 []) (mRd fAll [(mComp 2 [1] (.nm 1) (iRng1 (mC (.int 3))) (.ret true) (mCall c 21 [(mV 0)]))])))])
-- law(_law_script): 0 _law_script, 1 _law_cells_here, 2 _law_k
def sv_23 (c : FT) : Sv := (sBlk [(sAsg [] (.nm 1) (mZ (mCall c 8 [(mV 0), (mC (.int 3))]))),
  (sRet (mRd fAll [(mComp 3 [2] (.nm 2) (iRng1 (mRd fLen [(mV 1)])) (.ret true) (mCall c 22 [(mCall c 6 [(mV 1), (mV 2)])]))]))])
def bodies : Nat → FT → List O → CR
  | 0, c => runF [] 1 3 (sv_0 c)
  | 1, c => runF [] 3 3 (sv_1 c)
  | 2, c => runF [] 5 8 (sv_2 c)
  | 3, c => runF [] 3 8 (sv_3 c)
  | 4, c => runF [] 3 8 (sv_4 c)
  | 5, c => runF [] 3 3 (sv_5 c)
  | 6, c => runF [] 2 3 (sv_6 c)
  | 7, c => runF [0] 2 6 (sv_7 c)
  | 8, c => runF [] 2 6 (sv_8 c)
  | 9, c => runF [0] 2 2 (sv_9 c)
  | 10, c => runF [0] 3 6 (sv_10 c)
  | 11, c => runF [] 1 2 (sv_11 c)
  | 12, c => runF [] 2 5 (sv_12 c)
  | 13, c => runF [] 2 4 (sv_13 c)
  | 14, c => runF [] 2 4 (sv_14 c)
  | 15, c => runF [] 1 2 (sv_15 c)
  | 16, c => runF [] 3 3 (sv_16 c)
  | 17, c => runF [] 3 9 (sv_17 c)
  | 18, c => runF [] 3 7 (sv_18 c)
  | 19, c => runF [] 3 9 (sv_19 c)
  | 20, c => runF [] 0 3 (sv_20 c)
  | 21, c => runF [0] 1 16 (sv_21 c)
  | 22, c => runF [0] 1 2 (sv_22 c)
  | 23, c => runF [] 1 3 (sv_23 c)
  | _, _ => fun _ => .fail
theorem bd_0 (c : FT) : bodies 0 c = runF [] 1 3 (sv_0 c) := rfl
theorem bd_1 (c : FT) : bodies 1 c = runF [] 3 3 (sv_1 c) := rfl
theorem bd_2 (c : FT) : bodies 2 c = runF [] 5 8 (sv_2 c) := rfl
theorem bd_3 (c : FT) : bodies 3 c = runF [] 3 8 (sv_3 c) := rfl
theorem bd_4 (c : FT) : bodies 4 c = runF [] 3 8 (sv_4 c) := rfl
theorem bd_5 (c : FT) : bodies 5 c = runF [] 3 3 (sv_5 c) := rfl
theorem bd_6 (c : FT) : bodies 6 c = runF [] 2 3 (sv_6 c) := rfl
theorem bd_7 (c : FT) : bodies 7 c = runF [0] 2 6 (sv_7 c) := rfl
theorem bd_8 (c : FT) : bodies 8 c = runF [] 2 6 (sv_8 c) := rfl
theorem bd_9 (c : FT) : bodies 9 c = runF [0] 2 2 (sv_9 c) := rfl
theorem bd_10 (c : FT) : bodies 10 c = runF [0] 3 6 (sv_10 c) := rfl
theorem bd_11 (c : FT) : bodies 11 c = runF [] 1 2 (sv_11 c) := rfl
theorem bd_12 (c : FT) : bodies 12 c = runF [] 2 5 (sv_12 c) := rfl
theorem bd_13 (c : FT) : bodies 13 c = runF [] 2 4 (sv_13 c) := rfl
theorem bd_14 (c : FT) : bodies 14 c = runF [] 2 4 (sv_14 c) := rfl
theorem bd_15 (c : FT) : bodies 15 c = runF [] 1 2 (sv_15 c) := rfl
theorem bd_16 (c : FT) : bodies 16 c = runF [] 3 3 (sv_16 c) := rfl
theorem bd_17 (c : FT) : bodies 17 c = runF [] 3 9 (sv_17 c) := rfl
theorem bd_18 (c : FT) : bodies 18 c = runF [] 3 7 (sv_18 c) := rfl
theorem bd_19 (c : FT) : bodies 19 c = runF [] 3 9 (sv_19 c) := rfl
theorem bd_20 (c : FT) : bodies 20 c = runF [] 0 3 (sv_20 c) := rfl
theorem bd_21 (c : FT) : bodies 21 c = runF [0] 1 16 (sv_21 c) := rfl
theorem bd_22 (c : FT) : bodies 22 c = runF [0] 1 2 (sv_22 c) := rfl
theorem bd_23 (c : FT) : bodies 23 c = runF [] 1 3 (sv_23 c) := rfl
end Lw
end
section
set_option Elab.async false
set_option linter.all false
set_option maxRecDepth 100000
set_option maxHeartbeats 0
namespace Lw
open PySem Ev
/-! ### numbers -/
theorem quo_pos {e n : Int} (hn : 0 < n) (h : n ≤ e) : 0 < e / n := by
  have := Int.le_ediv_of_mul_le hn (show 1 * n ≤ e by omega)
  omega
theorem quo_le {e n : Int} (h : 0 ≤ e) : e / n ≤ e := Int.ediv_le_self n h
theorem floor_uniq {c b r : Int} (hb : 0 < b) (h1 : 0 ≤ c - b * r) (h2 : c - b * r < b) : r = c / b := by
  have e := Int.ediv_emod_unique hb (a := c) (r := c - b * r) (q := r)
  exact (e.mpr ⟨by omega, h1, h2⟩).1.symm
theorem floor_emod {c b : Int} : c - b * (c / b) = c % b := by
  have h3 := Int.emod_add_mul_ediv c b
  omega
theorem floor_lo {c b : Int} (hb : 0 < b) : 0 ≤ c - b * (c / b) ∧ c - b * (c / b) < b := by
  rw [floor_emod]
  exact ⟨Int.emod_nonneg c (by omega), Int.emod_lt_of_pos c hb⟩
theorem quo_lt {c e n : Int} (hn : 0 < n) (h : n ≤ e) (hd : e % n = 0) (hc : c < e) : c / (e / n) < n := by
  have hb := quo_pos hn h
  have h3 := Int.emod_add_mul_ediv e n
  rw [Int.ediv_lt_iff_lt_mul hb]
  rw [hd] at h3
  omega
theorem filter_rng (q : Nat → Bool) : ∀ {M N : Nat}, M ≤ N → (∀ i, M ≤ i → i < N → q i = false) → (List.range N).filter q = (List.range M).filter q
  | M, 0, h, _ => by
    have : M = 0 := by omega
    subst this; rfl
  | M, N + 1, h, hq => by
    by_cases e : M = N + 1
    · rw [e]
    · rw [List.range_succ, List.filter_append, filter_rng q (show M ≤ N by omega) fun i h1 h2 => hq i h1 (by omega)]
      simp [hq N (by omega) (by omega)]
/-- two sources' chains -/
structure Two where
  e1 : Int
  c1 : Int
  e2 : Int
  c2 : Int
  h1 : 0 < e1
  h1' : e1 ≤ 1000
  h2 : 0 ≤ c1
  h3 : c1 < e1
  h4 : 0 < e2
  h4' : e2 ≤ 1000
  h5 : 0 ≤ c2
  h6 : c2 < e2
def IsP (x : D) (a b : Int) : Prop := (O.fr x).item (.int 0) = some (.int a) ∧ (O.fr x).item (.int 1) = some (.int b)
def fits (t : Two) (n : Int) : Bool := t.e1 % n == 0 && t.e2 % n == 0 && t.c1 / (t.e1 / n) == t.c2 / (t.e2 / n)
def outT (t : Two) (n k j : Int) : Int := (t.c1 / (t.e1 / n) + (t.c1 % (t.e1 / n) + k) / (t.e1 / n) + (t.c2 % (t.e2 / n) + j) / (t.e2 / n)) / n
def OkN (t : Two) (n : Int) : Prop := 0 < n ∧ n ≤ t.e1 ∧ n ≤ t.e2
theorem divs {t : Two} {n : Int} (h : OkN t n) : divOk n = true ∧ divOk (t.e1 / n) = true ∧ divOk (t.e2 / n) = true ∧ 0 < t.e1 / n ∧ 0 < t.e2 / n := by
  obtain ⟨h0, h1, h2⟩ := h
  have a := quo_pos h0 h1
  have b := quo_pos h0 h2
  have a' := quo_le (n := n) (show 0 ≤ t.e1 by have := t.h1; omega)
  have b' := quo_le (n := n) (show 0 ≤ t.e2 by have := t.h4; omega)
  have := t.h1'
  have := t.h4'
  exact ⟨divOk_of h0 (by omega), divOk_of a (by omega), divOk_of b (by omega), a, b⟩
theorem fits_ok {t : Two} {n : Int} (h0 : 0 < n) (h : fits t n = true) : OkN t n := by
  unfold fits at h
  simp only [Bool.and_eq_true, beq_iff_eq] at h
  have a := Int.le_of_dvd t.h1 (Int.dvd_of_emod_eq_zero h.1.1)
  have b := Int.le_of_dvd t.h4 (Int.dvd_of_emod_eq_zero h.1.2)
  exact ⟨h0, a, b⟩
theorem fits_run {c : FT} {t : Two} {x y : D} (hx : IsP x t.e1 t.c1) (hy : IsP y t.e2 t.c2) {n : Int} (h : OkN t n) :
    runF [] 3 3 (sv_1 c) [.fr x, .fr y, .fr (.int n)] = .ok (.fr (.bl (fits t n))) [none, none, none] := by
  obtain ⟨hx0, hx1⟩ := hx
  obtain ⟨hy0, hy1⟩ := hy
  obtain ⟨d0, d1, d2, _, _⟩ := divs h
  have hn := h.1
  by_cases a : t.e1 % n = 0
  · by_cases b : t.e2 % n = 0
    · simp [sv_1, hx0, hx1, hy0, hy1, hn, d0, d1, d2, a, b, fits]
    · simp [sv_1, hx0, hx1, hy0, hy1, hn, a, b, fits]
  · simp [sv_1, hx0, hx1, hy0, hy1, hn, a, fits]
theorem out_run {c : FT} {t : Two} {x y : D} (hx : IsP x t.e1 t.c1) (hy : IsP y t.e2 t.c2) {n : Int} (h : OkN t n) (k j : Int) :
    runF [] 5 8 (sv_2 c) [.fr x, .fr y, .fr (.int n), .fr (.int k), .fr (.int j)] = .ok (.fr (.int (outT t n k j))) [none, none, none, none, none] := by
  obtain ⟨hx0, hx1⟩ := hx
  obtain ⟨hy0, hy1⟩ := hy
  obtain ⟨d0, d1, d2, p1, p2⟩ := divs h
  simp [sv_2, hx0, hx1, hy0, hy1, d0, d1, d2, p1, p2, outT]
abbrev Tr := Int × Int × Int
def trD (q : Tr) : D := .tup [.int q.1, .int q.2.1, .int q.2.2]
def okR (t : Two) (rows : List Tr) (n : Int) : Bool := rows.all fun q => outT t n q.1 q.2.1 == q.2.2
def mets (t : Two) (rows : List Tr) : List Int := (((List.range (min t.e1 t.e2).toNat).map fun i : Nat => 1 + (i : Int)).filter (fits t)).filter (okR t rows)
def R3 (seen : D) (g : Tr → D) (rows : List Tr) : Prop := seen.items = some (rows.map g) ∧ ∀ q, (g q).items = some [.int q.1, .int q.2.1, .int q.2.2]
theorem mets_mem {t : Two} {rows : List Tr} {n : Int} (h : n ∈ mets t rows) : OkN t n ∧ fits t n = true := by
  unfold mets at h
  obtain ⟨h1, _⟩ := List.mem_filter.mp h
  obtain ⟨h2, h3⟩ := List.mem_filter.mp h1
  obtain ⟨i, hi, rfl⟩ := List.mem_map.mp h2
  exact ⟨fits_ok (by omega) h3, h3⟩
theorem mets_len (t : Two) (rows : List Tr) : (mets t rows).length ≤ 1000 := by
  unfold mets
  refine Nat.le_trans (List.length_filter_le _ _) (Nat.le_trans (List.length_filter_le _ _) ?_)
  have := t.h1'
  simp
  omega
theorem mets_run {c : FT} {t : Two} {x y seen : D} {g : Tr → D} {rows : List Tr} (hx : IsP x t.e1 t.c1) (hy : IsP y t.e2 t.c2) (hR : R3 seen g rows)
    (hc1 : ∀ n, OkN t n → c 1 [.fr x, .fr y, .fr (.int n)] = .ok (.fr (.bl (fits t n))) [none, none, none])
    (hc2 : ∀ n k j, OkN t n → c 2 [.fr x, .fr y, .fr (.int n), .fr (.int k), .fr (.int j)] = .ok (.fr (.int (outT t n k j))) [none, none, none, none, none]) :
    runF [] 3 8 (sv_3 c) [.fr x, .fr y, .fr seen] = .ok (.ol (fInts (mets t rows))) [none, none, none] := by
  obtain ⟨hx0, hx1⟩ := hx
  obtain ⟨hy0, hy1⟩ := hy
  obtain ⟨hs, hg⟩ := hR
  have := t.h1
  have := t.h1'
  have := t.h4
  have := t.h4'
  have hmin : (if t.e2 < t.e1 then t.e2 else t.e1) = min t.e1 t.e2 := by split <;> omega
  have s1 : smallI 1 = true := by decide
  have s2 : smallI (min t.e1 t.e2 + 1) = true := small_of (by omega) (by omega)
  have s3 := range_D 1 (min t.e1 t.e2).toNat (min t.e1 t.e2 + 1) (by omega)
  have comp := comp_pureA (n := 8) (own := [7]) (tg := .nm 7) (src := iRng2 [(mC (.int 1)), (mOp fAdd [(mOp fMin2 [(mSub (mV 0) (mC (.int (0)))), (mSub (mV 1) (mC (.int (0))))]), (mC (.int 1))])]) (t := tTru (mCall c 1 [(mV 0), (mV 1), (mV 7)])) (elt := mV 7)
    (e := [some (.fr x), some (.fr y), some (.fr seen), none, none, none, none, none]) (e1 := [some (.fr x), some (.fr y), some (.fr seen), none, none, none, none, none])
    (xs := List.range (min t.e1 t.e2).toNat) (fun i : Nat => .int (1 + (i : Int))) (fun i : Nat => if fits t (1 + (i : Int)) then some (.fr (.int (1 + (i : Int)))) else none)
    (by simp [hx0, hy0, hmin, s1, s2, s3]) (by simp) (by simp) (by simp [sizeMax]; omega)
    (by
      intro i hi
      simp at hi
      have hc := hc1 (1 + (i : Int)) ⟨by omega, by omega, by omega⟩
      cases hf : fits t (1 + (i : Int)) <;> simp [ioOf, hc, hf])
  have h0 : (List.range (min t.e1 t.e2).toNat).filterMap (fun i : Nat => if fits t (1 + (i : Int)) then some (O.fr (.int (1 + (i : Int)))) else none) = fInts (mets t []) := by
    rw [← fm_if (fun i : Nat => fits t (1 + (i : Int))) (fun i : Nat => O.fr (.int (1 + (i : Int))))]
    simp [mets, fInts, okR, List.filter_map, Function.comp_def]
  rw [h0] at comp
  obtain ⟨e', q, a, b, z, rfl⟩ := for_pre (io := []) (tg := .tp [(.nm 4), (.nm 5), (.nm 6)]) (body := sBlk [(sAsg [] (.nm 3) (mComp 8 [7] (.nm 7) (iSeq (mMv 3)) (tV (mRd fEq [(mCall c 2 [(mV 0), (mV 1), (mV 7), (mV 4), (mV 5)]), (mV 6)])) (mV 7)))]) g
    (fun a e => ∃ u v w, e = [some (.fr x), some (.fr y), some (.fr seen), some (.ol (fInts (mets t a))), u, v, w, none]) rows
    (by
      rintro a q b hab e ⟨u, v, w, rfl⟩
      refine ⟨.nx, [some (.fr x), some (.fr y), some (.fr seen), some (.ol (fInts (mets t (a ++ [q])))), some (.fr (.int q.1)), some (.fr (.int q.2.1)), some (.fr (.int q.2.2)), none], ?_, .inl rfl, _, _, _, rfl⟩
      have k := comp_pureA (n := 8) (own := [7]) (tg := .nm 7) (src := iSeq (mMv 3)) (t := tV (mRd fEq [(mCall c 2 [(mV 0), (mV 1), (mV 7), (mV 4), (mV 5)]), (mV 6)])) (elt := mV 7)
        (e := [some (.fr x), some (.fr y), some (.fr seen), some (.ol (fInts (mets t a))), some (.fr (.int q.1)), some (.fr (.int q.2.1)), some (.fr (.int q.2.2)), none]) (e1 := [some (.fr x), some (.fr y), some (.fr seen), none, some (.fr (.int q.1)), some (.fr (.int q.2.1)), some (.fr (.int q.2.2)), none])
        (xs := mets t a) D.int (fun n => if outT t n q.1 q.2.1 == q.2.2 then some (.fr (.int n)) else none) (by simp [fInts]) (by simp) (by simp) (by have := mets_len t a; simp [sizeMax]; omega)
        (by
          intro n hn
          have hc := hc2 n q.1 q.2.1 (mets_mem hn).1
          cases hf : outT t n q.1 q.2.1 == q.2.2 <;> simp [ioOf, hc, hf])
      have h1 : (mets t a).filterMap (fun n => if outT t n q.1 q.2.1 == q.2.2 then some (O.fr (.int n)) else none) = fInts (mets t (a ++ [q])) := by
        rw [← fm_if (fun n => outT t n q.1 q.2.1 == q.2.2) (fun n => O.fr (.int n))]
        unfold mets fInts
        rw [show okR t (a ++ [q]) = fun n => (outT t n q.1 q.2.1 == q.2.2) && okR t a n by funext n; simp [okR, Bool.and_comm], ← List.filter_filter]
      rw [h1] at k
      simp [hg, k])
    [some (.fr x), some (.fr y), some (.fr seen), some (.ol (fInts (mets t []))), none, none, none, none] ⟨none, none, none, rfl⟩
  simp [sv_3, comp, hs, q]
/-! ### what to ask -/
abbrev Ro := Int × Int × Int × Int
def roD (r : Ro) : D := .tup [.int r.1, .int r.2.1, .tup [.int r.2.2.1, .int r.2.2.2]]
def ro (t : Two) (L : List Int) (k j : Int) : Ro := (most (L.map fun n => outT t n k j), k + j, k, j)
def rows1 (t : Two) (L : List Int) (k : Int) (m : Nat) : List Ro := (List.range m).map fun j : Nat => ro t L k (1 + (j : Int))
def rows2 (t : Two) (L : List Int) (m : Nat) : List Ro := (List.range m).flatMap fun i : Nat => rows1 t L (1 + (i : Int)) t.e2.toNat
theorem rows1_succ (t : Two) (L : List Int) (k : Int) (m : Nat) : rows1 t L k (m + 1) = rows1 t L k m ++ [ro t L k (1 + (m : Int))] := by simp [rows1, List.range_succ]
theorem rows2_succ (t : Two) (L : List Int) (m : Nat) : rows2 t L (m + 1) = rows2 t L m ++ rows1 t L (1 + (m : Int)) t.e2.toNat := by simp [rows2, List.range_succ]
theorem rows1_len (t : Two) (L : List Int) (k : Int) (m : Nat) : (rows1 t L k m).length = m := by simp [rows1]
theorem rows2_len (t : Two) (L : List Int) (m : Nat) : (rows2 t L m).length = m * t.e2.toNat := by
  induction m with
  | zero => simp [rows2]
  | succ m ih => rw [rows2_succ, List.length_append, ih, rows1_len, Nat.add_mul]; omega
def rosO (l : List Ro) : O := .ol (l.map fun r => .fr (roD r))
theorem alikeB_ros (ns : List Ro) : alikeB (ns.map roD) = true := alikeB_of (lays_of (fun x hx => by obtain ⟨i, _, rfl⟩ := List.mem_map.mp hx; rfl)) (deps_of (fun x hx => by obtain ⟨i, _, rfl⟩ := List.mem_map.mp hx; simp [roD, D.dep, D.deps])) (by
  intro x hx
  obtain ⟨i, _, rfl⟩ := List.mem_map.mp hx
  refine ⟨rfl, fun y hy => ?_⟩
  obtain ⟨j, _, rfl⟩ := List.mem_map.mp hy
  rfl)
theorem fMinL_ros (r : Ro) (rs : List Ro) : ∃ p ∈ r :: rs, minF (roD r) (rs.map roD) = roD p ∧ fMinL [.lst ((r :: rs).map roD)] = some (.fr (roD p)) := by
  have h := alikeB_ros (r :: rs)
  have m := minF_mem' (roD r) (rs.map roD)
  rw [← List.map_cons] at m
  obtain ⟨p, hp, e⟩ := List.mem_map.mp m
  refine ⟨p, hp, e.symm, ?_⟩
  rw [List.map_cons] at h ⊢
  show (if alikeB (roD r :: rs.map roD) = true then _ else _) = _
  rw [if_pos h, e]
def askT (t : Two) (L : List Int) : D := if L.length < 2 then .non else match rows2 t L t.e1.toNat with
  | [] => .non
  | r :: rs => match minF (roD r) (rs.map roD) with
    | .tup [_, _, d] => d
    | _ => .non
theorem rows_cons (t : Two) (L : List Int) : ∃ r rs, rows2 t L t.e1.toNat = r :: rs := by
  cases e : rows2 t L t.e1.toNat with
  | nil =>
    have e0 := rows2_len t L t.e1.toNat
    rw [e, List.length_nil] at e0
    have := t.h1
    have := t.h4
    exact absurd e0.symm (Nat.pos_iff_ne_zero.mp (Nat.mul_pos (by omega) (by omega)))
  | cons r rs => exact ⟨r, rs, rfl⟩
/-- the two loops, whatever is asked in them -/
theorem ask_loops {t : Two} {L : List Int} (a b : Nat) (src2 : Ev (List D)) (body : Sv) (E : List Ro → Option O → Option O → Option O → Ev.Env)
    (h_bind : ∀ rows u v w k, (Tg.nm a).bind [] (.fr (.int k)) (E rows u v w) = some (E rows (some (.fr (.int k))) v w))
    (h_src : ∀ rows u v w, src2 (E rows u v w) = .ok ((List.range t.e2.toNat).map fun n : Nat => D.int (1 + (n : Int))) (E rows u v w))
    (h_in : ∀ (rows : List Ro) (k j : Nat) (v w : Option O), rows.length < sizeMax → ∃ w', forOne [] (.nm b) body (.int (1 + (j : Int))) (E rows (some (.fr (.int (1 + (k : Int))))) v w) = .ok .nx (E (rows ++ [ro t L (1 + (k : Int)) (1 + (j : Int))]) (some (.fr (.int (1 + (k : Int))))) (some (.fr (.int (1 + (j : Int))))) w'))
    (u v w : Option O) :
    ∃ u' v' w', forGo [] (.nm a) (sBlk [sFor [] (.nm b) src2 body]) ((List.range t.e1.toNat).map fun n : Nat => D.int (1 + (n : Int))) (E [] u v w) = .ok .nx (E (rows2 t L t.e1.toNat) u' v' w') := by
  have l1 := t.h1'
  have l2 := t.h4'
  obtain ⟨e', q, u', v', w', rfl⟩ := for_rng (io := []) (tg := .nm a) (body := sBlk [sFor [] (.nm b) src2 body]) 1 t.e1.toNat (fun n e => ∃ u v w, e = E (rows2 t L n) u v w)
    (by
      rintro n hn e ⟨u, v, w, rfl⟩
      obtain ⟨e', q, v', w', rfl⟩ := for_rng (io := []) (tg := .nm b) (body := body) 1 t.e2.toNat (fun m e => ∃ v w, e = E (rows2 t L n ++ rows1 t L (1 + (n : Int)) m) (some (.fr (.int (1 + (n : Int))))) v w)
        (by
          rintro m hm e ⟨v, w, rfl⟩
          have hl : (rows2 t L n ++ rows1 t L (1 + (n : Int)) m).length < sizeMax := by
            rw [List.length_append, rows2_len, rows1_len]
            have h1 : n * t.e2.toNat ≤ 1000 * 1000 := Nat.mul_le_mul (by omega) (by omega)
            simp [sizeMax]
            omega
          obtain ⟨w', q⟩ := h_in _ n m v w hl
          exact ⟨.nx, _, q, .inl rfl, some (.fr (.int (1 + (m : Int)))), w', by rw [rows1_succ, List.append_assoc]⟩)
        (E (rows2 t L n) (some (.fr (.int (1 + (n : Int))))) v w) ⟨v, w, by simp [rows1]⟩
      refine ⟨.nx, E (rows2 t L (n + 1)) (some (.fr (.int (1 + (n : Int))))) v' w', ?_, .inl rfl, _, _, _, rfl⟩
      simp only [forOne_app, h_bind, sBlk_one, sFor_app, h_src, bind_ok, q]
      rw [rows2_succ])
    (E [] u v w) ⟨u, v, w, by simp [rows2]⟩
  exact ⟨u', v', w', q⟩
theorem ask_run {c : FT} {t : Two} {x y : D} {L : List Int} (hx : IsP x t.e1 t.c1) (hy : IsP y t.e2 t.c2) (hL : ∀ n ∈ L, OkN t n) (hl : L.length ≤ 1000)
    (hc0 : ∀ vs : List Int, vs ≠ [] → vs.length ≤ 1000000 → c 0 [.fr (.lst (vs.map .int))] = .ok (.fr (.int (most vs))) [none])
    (hc2 : ∀ n k j, OkN t n → c 2 [.fr x, .fr y, .fr (.int n), .fr (.int k), .fr (.int j)] = .ok (.fr (.int (outT t n k j))) [none, none, none, none, none]) :
    runF [] 3 8 (sv_4 c) [.fr x, .fr y, .fr (.lst (L.map .int))] = .ok (.fr (askT t L)) [none, none, none] := by
  obtain ⟨hx0, hx1⟩ := hx
  obtain ⟨hy0, hy1⟩ := hy
  by_cases h2 : L.length < 2
  · have h2' : (L.length : Int) < 2 := by omega
    simp [sv_4, askT, h2, h2']
  · have h2' : ¬ (L.length : Int) < 2 := by omega
    have hne : L ≠ [] := by rintro rfl; simp at h2
    have b1 := t.h1
    have b2 := t.h1'
    have b3 := t.h4
    have b4 := t.h4'
    have s1 : smallI 1 = true := by decide
    have s2 : smallI (t.e1 + 1) = true := small_of (by omega) (by omega)
    have s2' : smallI (t.e2 + 1) = true := small_of (by omega) (by omega)
    have s3 := range_D 1 t.e1.toNat (t.e1 + 1) (by omega)
    have s3' := range_D 1 t.e2.toNat (t.e2 + 1) (by omega)
    obtain ⟨u, v, w, q⟩ := ask_loops (t := t) (L := L) 4 5 (iRng2 [(mC (.int 1)), (mOp fAdd [(mSub (mV 1) (mC (.int (0)))), (mC (.int 1))])]) (sBlk [(sAsg [] (.nm 6) (mZ (mComp 8 [7] (.nm 7) (iSeq (mV 2)) (.ret true) (mCall c 2 [(mV 0), (mV 1), (mV 7), (mV 4), (mV 5)])))),
      (sEx (mMt fAppend (mV 3) [(mTup [(mCall c 0 [(mV 6)]), (mOp fAdd [(mV 4), (mV 5)]), (mTup [(mV 4), (mV 5)])])]))])
      (fun rows u v w => [some (.fr x), some (.fr y), some (.fr (.lst (L.map .int))), some (rosO rows), u, v, w, none])
      (by intros; simp) (by intros; simp [hy0, s1, s2', s3'])
      (by
        intro rows k j v w hlen
        refine ⟨some (.fr (.lst ((L.map fun n => outT t n (1 + (k : Int)) (1 + (j : Int))).map .int))), ?_⟩
        have kc := comp_mapA (n := 8) (own := [7]) (tg := .nm 7) (src := iSeq (mV 2)) (t := .ret true) (elt := mCall c 2 [(mV 0), (mV 1), (mV 7), (mV 4), (mV 5)])
          (e := [some (.fr x), some (.fr y), some (.fr (.lst (L.map .int))), some (rosO rows), some (.fr (.int (1 + (k : Int)))), some (.fr (.int (1 + (j : Int)))), w, none]) (e1 := [some (.fr x), some (.fr y), some (.fr (.lst (L.map .int))), some (rosO rows), some (.fr (.int (1 + (k : Int)))), some (.fr (.int (1 + (j : Int)))), w, none])
          (xs := L) D.int (fun n => .fr (.int (outT t n (1 + (k : Int)) (1 + (j : Int))))) (by simp) (by simp) (by simp) (by simp [sizeMax]; omega)
          (by
            intro n hn
            have := hc2 n (1 + (k : Int)) (1 + (j : Int)) (hL n hn)
            simp [ioOf, this])
        have k0 := hc0 (L.map fun n => outT t n (1 + (k : Int)) (1 + (j : Int))) (by simpa using hne) (by simp; omega)
        simp [Function.comp_def] at k0
        simp only [rosO] at kc
        simp [rosO, kc, Function.comp_def, k0, hlen]
        simp [ro, roD])
      none none none
    obtain ⟨r, rs, e⟩ := rows_cons t L
    obtain ⟨p, hp, e1, e2⟩ := fMinL_ros r rs
    have e4 : (match roD p with | .tup [_, _, d] => d | _ => .non) = .tup [.int p.2.2.1, .int p.2.2.2] := rfl
    have e5 : (O.fr (roD p)).item (.int 2) = some (.tup [.int p.2.2.1, .int p.2.2.2]) := rfl
    have q' := q
    rw [e] at q'
    simp [rosO] at q'
    simp at e2
    simp [sv_4, h2', hx0, s1, s2, s3, q', e2, e5, askT, h2, e, e1, e4]
/-! ### the law's own trees -/
def limbD (s : Str) (h o : Int) : D := if h = 1 then .str s else .tup [.int h, .int o, .tup [.str s]]
def limbsD (t : Two) (n : Int) : D := .tup [limbD "a" (t.e1 / n) (t.c1 - t.e1 / n * (t.c1 / (t.e1 / n))), limbD "b" (t.e2 / n) (t.c2 - t.e2 / n * (t.c1 / (t.e1 / n)))]
def planD (t : Two) (n : Int) : D := if n = 1 then .tup [.int 0, limbsD t n] else .tup [.int 0, .tup [.tup [.int n, .int (t.c1 / (t.e1 / n)), limbsD t n]]]
def jointD (t : Two) (n : Int) : D := if fits t n then planD t n else .non
theorem limb_run {c : FT} (s : Str) (h o : Int) : runF [] 3 3 (sv_16 c) [.fr (.str s), .fr (.int h), .fr (.int o)] = .ok (.fr (limbD s h o)) [none, none, none] := by
  by_cases e : h = 1 <;> simp [sv_16, limbD, e]
theorem joint_run {c : FT} {t : Two} {x y : D} (hx : IsP x t.e1 t.c1) (hy : IsP y t.e2 t.c2) {n : Int} (hn : 0 < n) (hn1 : n ≤ t.e1)
    (hc : ∀ s h o, c 16 [.fr (.str s), .fr (.int h), .fr (.int o)] = .ok (.fr (limbD s h o)) [none, none, none]) :
    runF [] 3 9 (sv_17 c) [.fr x, .fr y, .fr (.int n)] = .ok (.fr (jointD t n)) [none, none, none] := by
  obtain ⟨hx0, hx1⟩ := hx
  obtain ⟨hy0, hy1⟩ := hy
  by_cases a : t.e1 % n = 0
  · by_cases b : t.e2 % n = 0
    · have hn2 : n ≤ t.e2 := Int.le_of_dvd t.h4 (Int.dvd_of_emod_eq_zero b)
      have d := divs (t := t) (n := n) ⟨hn, hn1, hn2⟩
      obtain ⟨d0, d1, d2, p1, p2⟩ := d
      have b2 := t.h1'
      have b4 := t.h4'
      have s1 : smallI n = true := small_of (by omega) (by omega)
      have s2 := range_D 0 n.toNat n (by omega)
      have ql := quo_le (n := n) (show 0 ≤ t.e1 by omega)
      have ql2 := quo_le (n := n) (show 0 ≤ t.e2 by omega)
      have hqlt := quo_lt hn hn1 a t.h3
      have hfits : fits t n = (t.c1 / (t.e1 / n) == t.c2 / (t.e2 / n)) := by simp [fits, a, b]
      have hplan : planD t n = if n = 1 then .tup [.int 0, .tup [limbD "a" (t.e1 / n) (t.c1 - t.e1 / n * (t.c1 / (t.e1 / n))), limbD "b" (t.e2 / n) (t.c2 - t.e2 / n * (t.c1 / (t.e1 / n)))]] else .tup [.int 0, .tup [.tup [.int n, .int (t.c1 / (t.e1 / n)), .tup [limbD "a" (t.e1 / n) (t.c1 - t.e1 / n * (t.c1 / (t.e1 / n))), limbD "b" (t.e2 / n) (t.c2 - t.e2 / n * (t.c1 / (t.e1 / n)))]]]] := rfl
      generalize hPl : planD t n = Pl at hplan
      generalize hFt : fits t n = Ft at hfits
      have hjd : jointD t n = if Ft then Pl else .non := by rw [jointD, hFt, hPl]
      have hB0 := t.h2
      generalize hB : t.e1 / n = B at *
      generalize hU : t.e2 / n = U at *
      have m1 : ∀ i, mulOk B i = true := fun i => mulOk_l (by omega) (by omega)
      have m2 : ∀ i, mulOk U i = true := fun i => mulOk_l (by omega) (by omega)
      obtain ⟨f, e', q, z⟩ := for_pre_rt (io := []) (tg := .nm 5) (body := sBlk [(sPar [] [6, 7] [(mOp fSub [(mSub (mV 0) (mC (.int (1)))), (mOp fMul [(mV 3), (mV 5)])]), (mOp fSub [(mSub (mV 1) (mC (.int (1)))), (mOp fMul [(mV 4), (mV 5)])])]),
        (sIf (tAnd (tV (mChn fLe fLt (mC (.int 0)) (mV 6) (mV 3))) (tV (mChn fLe fLt (mC (.int 0)) (mV 7) (mV 4))))
        (sBlk [(sAsg [] (.nm 8) (mTup [(mCall c 16 [(mC (.str "a")), (mV 3), (mV 6)]), (mCall c 16 [(mC (.str "b")), (mV 4), (mV 7)])])),
        (sRet (mIf (tV (mRd fEq [(mV 2), (mC (.int 1))])) (mTup [(mC (.int 0)), (mV 8)]) (mTup [(mC (.int 0)), (mTup [(mTup [(mV 2), (mV 5), (mV 8)])])])))])
        sNil)]) (fun r : Nat => D.int (0 + (r : Int)))
        (fun a e => (∀ r ∈ a, ¬ ((r : Int) = t.c1 / B ∧ (r : Int) = t.c2 / U)) ∧ ∃ u v w, e = [some (.fr x), some (.fr y), some (.fr (.int n)), some (.fr (.int B)), some (.fr (.int U)), u, v, w, none])
        (fun o e => o = .fr Pl ∧ Ft = true ∧ ∃ u v w k, e = [some (.fr x), some (.fr y), some (.fr (.int n)), some (.fr (.int B)), some (.fr (.int U)), u, v, w, k]) (List.range n.toNat)
        (by
          rintro l r l2 hl e ⟨hno, u, v, w, rfl⟩
          have f1 := floor_uniq (c := t.c1) (r := (r : Int)) p1
          have f2 := floor_uniq (c := t.c2) (r := (r : Int)) p2
          have f1' := floor_lo (c := t.c1) p1
          have f2' := floor_lo (c := t.c2) p2
          by_cases hr : (r : Int) = t.c1 / B ∧ (r : Int) = t.c2 / U
          · rw [← hr.1] at f1' hplan hfits
            rw [← hr.2] at f2' hfits
            generalize hi : t.c1 - B * (r : Int) = i at *
            generalize hj : t.c2 - U * (r : Int) = j at *
            refine ⟨.rt (.fr Pl), [some (.fr x), some (.fr y), some (.fr (.int n)), some (.fr (.int B)), some (.fr (.int U)), some (.fr (.int r)), some (.fr (.int i)), some (.fr (.int j)), some (.fr (.tup [limbD "a" B i, limbD "b" U j]))], ?_, .inr ⟨_, rfl, rfl, by simpa using hfits, _, _, _, _, rfl⟩⟩
            by_cases e1 : n = 1
            · simp [hx1, hy1, m1, m2, hi, hj, f1', f2', hc, e1, hplan]
            · simp [hx1, hy1, m1, m2, hi, hj, f1', f2', hc, e1, hplan]
          · generalize hi : t.c1 - B * (r : Int) = i at *
            generalize hj : t.c2 - U * (r : Int) = j at *
            refine ⟨.nx, [some (.fr x), some (.fr y), some (.fr (.int n)), some (.fr (.int B)), some (.fr (.int U)), some (.fr (.int r)), some (.fr (.int i)), some (.fr (.int j)), none], ?_, .inl ⟨.inl rfl, ?_, _, _, _, rfl⟩⟩
            · by_cases g1 : 0 ≤ i
              · by_cases g2 : i < B
                · by_cases g3 : 0 ≤ j
                  · have g4 : ¬ j < U := fun g4 => hr ⟨f1 g1 g2, f2 g3 g4⟩
                    simp [hx1, hy1, m1, m2, hi, hj, g1, g2, g3, g4]
                  · simp [hx1, hy1, m1, m2, hi, hj, g1, g2, g3]
                · simp [hx1, hy1, m1, m2, hi, hj, g1, g2]
              · simp [hx1, hy1, m1, m2, hi, hj, g1]
            · intro r' hr'
              rcases List.mem_append.mp hr' with h | h
              · exact hno r' h
              · simp at h
                subst h
                exact hr)
        [some (.fr x), some (.fr y), some (.fr (.int n)), some (.fr (.int B)), some (.fr (.int U)), none, none, none, none] ⟨fun r h => (nomatch h), none, none, none, rfl⟩
      rcases z with ⟨rfl, hno, u, v, w, rfl⟩ | ⟨o, rfl, rfl, hf, u, v, w, k, rfl⟩
      · have hf : Ft = false := by
          cases hf : Ft with
          | false => rfl
          | true =>
            exfalso
            rw [hf] at hfits
            have hfits' : t.c1 / B = t.c2 / U := by simpa using hfits.symm
            have h0 : 0 ≤ t.c1 / B := Int.ediv_nonneg t.h2 (by omega)
            obtain ⟨r, hr⟩ := Int.eq_ofNat_of_zero_le h0
            exact hno r (by simp; omega) ⟨hr.symm, by omega⟩
        simp only [Int.zero_add] at q s2
        simp [sv_17, hx0, hy0, hn, a, b, d0, hB, hU, s1, s2, q, hjd, hf]
      · simp only [Int.zero_add] at q s2
        simp [sv_17, hx0, hy0, hn, a, b, d0, hB, hU, s1, s2, q, hjd, hf]
    · simp [sv_17, hx0, hy0, hn, a, b, jointD, fits]
  · simp [sv_17, hx0, hn, a, jointD, fits]
/-! ### what comes out of the law's own trees -/
def tabD (k j : Int) : D := .dk [(.inr "a", .int k), (.inr "b", .int j)]
def valS (s : Str) (k j : Int) : Int := if s = "a" then k else j
theorem get_tab {s : Str} (hs : s = "a" ∨ s = "b") (k j : Int) : fGet2 (tabD k j) [.str s, .int 0] = some (.fr (.int (valS s k j))) := by
  rcases hs with rfl | rfl
  · rfl
  · rfl
/-- a limb lets by -/
theorem passed_limb {c : FT} {s : Str} (hs : s = "a" ∨ s = "b") {h o : Int} (h0 : 0 < h) (h1 : h ≤ 1000) (ho : 0 ≤ o) (ho2 : o < h) (k j : Int)
    (hc : c 14 [.fr (.str s), .fr (tabD k j)] = .ok (.fr (.int (valS s k j))) [none, none]) :
    runF [] 2 4 (sv_14 c) [.fr (limbD s h o), .fr (tabD k j)] = .ok (.fr (.int ((o + valS s k j) / h))) [none, none] := by
  have g := get_tab hs k j
  have ht : (tabD k j).isDict = true := rfl
  by_cases e : h = 1
  · have e2 : o = 0 := by omega
    subst e e2
    simp [sv_14, limbD, g, ht]
  · have hd : divOk h = true := divOk_of h0 (by omega)
    have hz : o / h = 0 := Int.ediv_eq_zero_of_lt ho ho2
    simp [sv_14, limbD, e, forGo_cons, hc, hd, hz]
theorem passed_str {c : FT} {s : Str} (hs : s = "a" ∨ s = "b") (k j : Int) :
    runF [] 2 4 (sv_14 c) [.fr (.str s), .fr (tabD k j)] = .ok (.fr (.int (valS s k j))) [none, none] := by
  have g := get_tab hs k j
  have ht : (tabD k j).isDict = true := rfl
  simp [sv_14, g, ht]
theorem passed_node {c : FT} {l1 l2 : D} {n r a b : Int} (k j : Int) (h0 : 0 < n) (h1 : n ≤ 1000) (hr : 0 ≤ r) (hr2 : r < n)
    (hc1 : c 14 [.fr l1, .fr (tabD k j)] = .ok (.fr (.int a)) [none, none]) (hc2 : c 14 [.fr l2, .fr (tabD k j)] = .ok (.fr (.int b)) [none, none]) :
    runF [] 2 4 (sv_14 c) [.fr (.tup [.int n, .int r, .tup [l1, l2]]), .fr (tabD k j)] = .ok (.fr (.int ((r + a + b) / n))) [none, none] := by
  have hd : divOk n = true := divOk_of h0 (by omega)
  have hz : r / n = 0 := Int.ediv_eq_zero_of_lt hr hr2
  simp [sv_14, forGo_cons, hc1, hc2, hd, hz]
theorem plan_run {c : FT} {t : Two} {n : Int} (hn : 0 < n) (hf : fits t n = true) (k j : Int)
    (hc : ∀ (s : Str), s = "a" ∨ s = "b" → ∀ h o : Int, 0 < h → h ≤ 1000 → 0 ≤ o → o < h → c 14 [.fr (limbD s h o), .fr (tabD k j)] = .ok (.fr (.int ((o + valS s k j) / h))) [none, none])
    (hn2 : ∀ (l1 l2 : D) (n r a b : Int), 0 < n → n ≤ 1000 → 0 ≤ r → r < n → (∃ (s : Str) (h o : Int), (s = "a" ∨ s = "b") ∧ 0 < h ∧ h ≤ 1000 ∧ 0 ≤ o ∧ o < h ∧ l1 = limbD s h o ∧ a = (o + valS s k j) / h) → (∃ (s : Str) (h o : Int), (s = "a" ∨ s = "b") ∧ 0 < h ∧ h ≤ 1000 ∧ 0 ≤ o ∧ o < h ∧ l2 = limbD s h o ∧ b = (o + valS s k j) / h) →
      c 14 [.fr (.tup [.int n, .int r, .tup [l1, l2]]), .fr (tabD k j)] = .ok (.fr (.int ((r + a + b) / n))) [none, none]) :
    runF [] 2 4 (sv_13 c) [.fr (planD t n), .fr (tabD k j)] = .ok (.fr (.int (outT t n k j))) [none, none] := by
  have ok := fits_ok hn hf
  obtain ⟨d0, d1, d2, p1, p2⟩ := divs ok
  have hf' := hf
  unfold fits at hf'
  simp only [Bool.and_eq_true, beq_iff_eq] at hf'
  obtain ⟨⟨a, b⟩, hq⟩ := hf'
  have ok1 := ok.2.1
  have hlt := quo_lt hn ok.2.1 a t.h3
  have h0 : 0 ≤ t.c1 / (t.e1 / n) := Int.ediv_nonneg t.h2 (by omega)
  have b1 := t.h1
  have b3 := t.h4
  have b2 := t.h1'
  have b4 := t.h4'
  have ql := quo_le (n := n) (show 0 ≤ t.e1 by omega)
  have ql2 := quo_le (n := n) (show 0 ≤ t.e2 by omega)
  have f1 := floor_emod (c := t.c1) (b := t.e1 / n)
  have f2 := floor_emod (c := t.c2) (b := t.e2 / n)
  rw [← hq] at f2
  have g1 := Int.emod_nonneg t.c1 (show t.e1 / n ≠ 0 by omega)
  have g2 := Int.emod_lt_of_pos t.c1 p1
  have g3 := Int.emod_nonneg t.c2 (show t.e2 / n ≠ 0 by omega)
  have g4 := Int.emod_lt_of_pos t.c2 p2
  have ca := hc "a" (.inl rfl) (t.e1 / n) (t.c1 % (t.e1 / n)) p1 (by omega) g1 g2
  have cb := hc "b" (.inr rfl) (t.e2 / n) (t.c2 % (t.e2 / n)) p2 (by omega) g3 g4
  have va : valS "a" k j = k := rfl
  have vb : valS "b" k j = j := rfl
  rw [va] at ca
  rw [vb] at cb
  have hlim : limbsD t n = .tup [limbD "a" (t.e1 / n) (t.c1 % (t.e1 / n)), limbD "b" (t.e2 / n) (t.c2 % (t.e2 / n))] := by unfold limbsD; rw [f1, f2]
  have hou : outT t n k j = (t.c1 / (t.e1 / n) + (t.c1 % (t.e1 / n) + k) / (t.e1 / n) + (t.c2 % (t.e2 / n) + j) / (t.e2 / n)) / n := rfl
  by_cases e : n = 1
  · have hz : t.c1 / (t.e1 / n) = 0 := by omega
    have hpl : planD t n = .tup [.int 0, .tup [limbD "a" (t.e1 / n) (t.c1 % (t.e1 / n)), limbD "b" (t.e2 / n) (t.c2 % (t.e2 / n))]] := by unfold planD; rw [if_pos e, hlim]
    rw [hpl, hou, hz]
    clear hpl hou hz hlim hf hc hn2 f1 f2 hq hlt h0
    subst e
    simp only [Int.ediv_one] at ca cb
    simp [sv_13, forGo_cons, ca, cb]
  · have hpl : planD t n = .tup [.int 0, .tup [.tup [.int n, .int (t.c1 / (t.e1 / n)), .tup [limbD "a" (t.e1 / n) (t.c1 % (t.e1 / n)), limbD "b" (t.e2 / n) (t.c2 % (t.e2 / n))]]]] := by unfold planD; rw [if_neg e, hlim]
    have cn := hn2 (limbD "a" (t.e1 / n) (t.c1 % (t.e1 / n))) (limbD "b" (t.e2 / n) (t.c2 % (t.e2 / n))) n (t.c1 / (t.e1 / n)) _ _ hn (by omega) h0 hlt ⟨"a", _, _, .inl rfl, p1, by omega, g1, g2, rfl, rfl⟩ ⟨"b", _, _, .inr rfl, p2, by omega, g3, g4, rfl, rfl⟩
    rw [va, vb, ← hou] at cn
    rw [hpl]
    simp [sv_13, forGo_cons, cn]
/-! ### the law's own answers -/
theorem plan_tup (t : Two) (n : Int) : (planD t n).isNon = false := by unfold planD; split <;> rfl
def fitL (t : Two) (rows : List Tr) (m : Nat) : List Int := ((List.range m).map fun i : Nat => 1 + (i : Int)).filter fun n => fits t n && okR t rows n
theorem fitL_succ (t : Two) (rows : List Tr) (m : Nat) : fitL t rows (m + 1) = fitL t rows m ++ if fits t (1 + (m : Int)) && okR t rows (1 + (m : Int)) then [1 + (m : Int)] else [] := by
  simp only [fitL, List.range_succ, List.map_append, List.filter_append, List.map_cons, List.map_nil, List.filter_cons, List.filter_nil]
theorem fitL_all (t : Two) (rows : List Tr) : fitL t rows t.e1.toNat = mets t rows := by
  unfold fitL mets
  rw [List.filter_filter, List.filter_map, List.filter_map]
  have : (fun n => okR t rows n && fits t n) = fun n => fits t n && okR t rows n := by funext n; exact Bool.and_comm _ _
  rw [this, filter_rng (M := (min t.e1 t.e2).toNat) (N := t.e1.toNat) _ (by omega) ?_]
  intro i h1 h2
  have b1 := t.h4
  show (fits t (1 + (i : Int)) && okR t rows (1 + (i : Int))) = false
  cases hf : fits t (1 + (i : Int)) with
  | false => rfl
  | true =>
    have := (fits_ok (by omega) hf).2.2
    omega
theorem fitL_len (t : Two) (rows : List Tr) (m : Nat) : (fitL t rows m).length ≤ m := by
  unfold fitL
  refine Nat.le_trans (List.length_filter_le _ _) ?_
  simp
theorem trD_item (q : Tr) : (O.fr (trD q)).item (.int 0) = some (.int q.1) ∧ (O.fr (trD q)).item (.int 1) = some (.int q.2.1) ∧ (O.fr (trD q)).item (.int 2) = some (.int q.2.2) := ⟨rfl, rfl, rfl⟩
theorem fit_run {c : FT} {t : Two} {x y : D} {rows : List Tr} (hx : IsP x t.e1 t.c1) (hrl : rows.length ≤ 1000)
    (h17 : ∀ n : Int, 0 < n → n ≤ t.e1 → c 17 [.fr x, .fr y, .fr (.int n)] = .ok (.fr (jointD t n)) [none, none, none])
    (h13 : ∀ n k j : Int, 0 < n → fits t n = true → c 13 [.fr (planD t n), .fr (tabD k j)] = .ok (.fr (.int (outT t n k j))) [none, none]) :
    runF [] 3 7 (sv_18 c) [.fr x, .fr y, .fr (.lst (rows.map trD))] = .ok (.ol (fInts (mets t rows))) [none, none, none] := by
  obtain ⟨hx0, hx1⟩ := hx
  have b1 := t.h1
  have b2 := t.h1'
  have s1 : smallI 1 = true := by decide
  have s2 : smallI (t.e1 + 1) = true := small_of (by omega) (by omega)
  have s3 := range_D 1 t.e1.toNat (t.e1 + 1) (by omega)
  obtain ⟨e', q, u, v, rfl⟩ := for_rng (io := []) (tg := .nm 4) (body := sBlk [(sAsg [] (.nm 5) (mCall c 17 [(mV 0), (mV 1), (mV 4)])),
    (sIf (tV (mRd fNotN [(mV 5)]))
    (sBlk [(sIf (tTru (mRd fAll [(mComp 7 [6] (.nm 6) (iSeq (mV 2)) (.ret true) (mRd fEq [(mCall c 13 [(mV 5), (mZ (mDsp [.inr "a", .inr "b"] [(mSub (mV 6) (mC (.int (0)))), (mSub (mV 6) (mC (.int (1))))]))]), (mSub (mV 6) (mC (.int (2))))]))]))
    (sBlk [(sEx (mMt fAppend (mV 3) [(mV 4)]))])
    sNil)])
    sNil)]) 1 t.e1.toNat (fun m e => ∃ u v, e = [some (.fr x), some (.fr y), some (.fr (.lst (rows.map trD))), some (.ol (fInts (fitL t rows m))), u, v, none])
    (by
      rintro m hm e ⟨u, v, rfl⟩
      have hj := h17 (1 + (m : Int)) (by omega) (by omega)
      refine ⟨.nx, [some (.fr x), some (.fr y), some (.fr (.lst (rows.map trD))), some (.ol (fInts (fitL t rows (m + 1)))), some (.fr (.int (1 + (m : Int)))), some (.fr (jointD t (1 + (m : Int)))), none], ?_, .inl rfl, _, _, rfl⟩
      rw [fitL_succ]
      cases hf : fits t (1 + (m : Int)) with
      | false =>
        have hjd : jointD t (1 + (m : Int)) = .non := by unfold jointD; rw [hf]; rfl
        simp [hj, hjd]
      | true =>
        have hjd : jointD t (1 + (m : Int)) = planD t (1 + (m : Int)) := by unfold jointD; rw [hf]; rfl
        have hpn := plan_tup t (1 + (m : Int))
        have kc := comp_mapA (n := 7) (own := [6]) (tg := .nm 6) (src := iSeq (mV 2)) (t := .ret true) (elt := mRd fEq [(mCall c 13 [(mV 5), (mZ (mDsp [.inr "a", .inr "b"] [(mSub (mV 6) (mC (.int (0)))), (mSub (mV 6) (mC (.int (1))))]))]), (mSub (mV 6) (mC (.int (2))))])
          (e := [some (.fr x), some (.fr y), some (.fr (.lst (rows.map trD))), some (.ol (fInts (fitL t rows m))), some (.fr (.int (1 + (m : Int)))), some (.fr (planD t (1 + (m : Int)))), none]) (e1 := [some (.fr x), some (.fr y), some (.fr (.lst (rows.map trD))), some (.ol (fInts (fitL t rows m))), some (.fr (.int (1 + (m : Int)))), some (.fr (planD t (1 + (m : Int)))), none])
          (xs := rows) trD (fun q => .fr (.bl (outT t (1 + (m : Int)) q.1 q.2.1 == q.2.2))) (by simp) (by simp) (by simp) (by simp [sizeMax]; omega)
          (by
            intro q hq
            obtain ⟨i0, i1, i2⟩ := trD_item q
            have h := h13 (1 + (m : Int)) q.1 q.2.1 (by omega) hf
            unfold tabD at h
            simp [ioOf, i0, i1, i2, h])
        have ka := fAll_map rows (fun q => outT t (1 + (m : Int)) q.1 q.2.1 == q.2.2)
        have hl : (fitL t rows m).length < sizeMax := by have := fitL_len t rows m; simp [sizeMax]; omega
        simp only [fInts] at kc
        cases ho : okR t rows (1 + (m : Int)) with
        | false =>
          have ho' := ho
          unfold okR at ho'
          rw [ho'] at ka
          simp at kc ka
          simp [hj, hjd, hpn, fInts, kc, ka]
        | true =>
          have ho' := ho
          unfold okR at ho'
          rw [ho'] at ka
          simp at kc ka
          simp [hj, hjd, hpn, fInts, kc, ka, hl])
    [some (.fr x), some (.fr y), some (.fr (.lst (rows.map trD))), some (.ol (fInts (fitL t rows 0))), none, none, none] ⟨none, none, rfl⟩
  have h0 : fInts (fitL t rows 0) = [] := rfl
  rw [h0, fitL_all] at q
  simp [sv_18, hx0, s1, s2, s3, q]
theorem lask_run {c : FT} {t : Two} {x y : D} {L : List Int} (hx : IsP x t.e1 t.c1) (hy : IsP y t.e2 t.c2) (hL : ∀ n ∈ L, OkN t n ∧ fits t n = true) (hl : L.length ≤ 1000)
    (hc0 : ∀ vs : List Int, vs ≠ [] → vs.length ≤ 1000000 → c 15 [.fr (.lst (vs.map .int))] = .ok (.fr (.int (most vs))) [none])
    (h17 : ∀ n : Int, 0 < n → n ≤ t.e1 → c 17 [.fr x, .fr y, .fr (.int n)] = .ok (.fr (jointD t n)) [none, none, none])
    (h13 : ∀ n k j : Int, 0 < n → fits t n = true → c 13 [.fr (planD t n), .fr (tabD k j)] = .ok (.fr (.int (outT t n k j))) [none, none]) :
    runF [] 3 9 (sv_19 c) [.fr x, .fr y, .fr (.lst (L.map .int))] = .ok (.fr (askT t L)) [none, none, none] := by
  obtain ⟨hx0, hx1⟩ := hx
  obtain ⟨hy0, hy1⟩ := hy
  by_cases h2 : L.length < 2
  · have h2' : (L.length : Int) < 2 := by omega
    simp [sv_19, askT, h2, h2']
  · have h2' : ¬ (L.length : Int) < 2 := by omega
    have hne : L ≠ [] := by rintro rfl; simp at h2
    have b1 := t.h1
    have b2 := t.h1'
    have b3 := t.h4
    have b4 := t.h4'
    have s1 : smallI 1 = true := by decide
    have s2 : smallI (t.e1 + 1) = true := small_of (by omega) (by omega)
    have s2' : smallI (t.e2 + 1) = true := small_of (by omega) (by omega)
    have s3 := range_D 1 t.e1.toNat (t.e1 + 1) (by omega)
    have s3' := range_D 1 t.e2.toNat (t.e2 + 1) (by omega)
    have kp := comp_mapA (n := 9) (own := [7]) (tg := .nm 7) (src := iSeq (mV 2)) (t := .ret true) (elt := mCall c 17 [(mV 0), (mV 1), (mV 7)])
      (e := [some (.fr x), some (.fr y), some (.fr (.lst (L.map .int))), none, none, none, none, none, none]) (e1 := [some (.fr x), some (.fr y), some (.fr (.lst (L.map .int))), none, none, none, none, none, none])
      (xs := L) D.int (fun n => .fr (planD t n)) (by simp) (by simp) (by simp) (by simp [sizeMax]; omega)
      (by
        intro n hn
        have o := hL n hn
        have := h17 n o.1.1 o.1.2.1
        have hjd : jointD t n = planD t n := by unfold jointD; rw [o.2]; rfl
        simp [ioOf, this, hjd])
    obtain ⟨u, v, w, q⟩ := ask_loops (t := t) (L := L) 5 6 (iRng2 [(mC (.int 1)), (mOp fAdd [(mSub (mV 1) (mC (.int (0)))), (mC (.int 1))])]) (sBlk [(sEx (mMt fAppend (mV 4) [(mTup [(mCall c 15 [(mZ (mComp 9 [8] (.nm 8) (iSeq (mV 3)) (.ret true) (mZ (mCall c 13 [(mV 8), (mZ (mDsp [.inr "a", .inr "b"] [(mV 5), (mV 6)]))]))))]), (mOp fAdd [(mV 5), (mV 6)]), (mTup [(mV 5), (mV 6)])])]))])
      (fun rows u v w => [some (.fr x), some (.fr y), some (.fr (.lst (L.map .int))), some (.fr (.lst (L.map (planD t)))), some (rosO rows), u, v, none, none])
      (by intros; simp) (by intros; simp [hy0, s1, s2', s3'])
      (by
        intro rows k j v w hlen
        refine ⟨none, ?_⟩
        have kc := comp_mapA (n := 9) (own := [8]) (tg := .nm 8) (src := iSeq (mV 3)) (t := .ret true) (elt := mZ (mCall c 13 [(mV 8), (mZ (mDsp [.inr "a", .inr "b"] [(mV 5), (mV 6)]))]))
          (e := [some (.fr x), some (.fr y), some (.fr (.lst (L.map .int))), some (.fr (.lst (L.map (planD t)))), some (rosO rows), some (.fr (.int (1 + (k : Int)))), some (.fr (.int (1 + (j : Int)))), none, none]) (e1 := [some (.fr x), some (.fr y), some (.fr (.lst (L.map .int))), some (.fr (.lst (L.map (planD t)))), some (rosO rows), some (.fr (.int (1 + (k : Int)))), some (.fr (.int (1 + (j : Int)))), none, none])
          (xs := L) (planD t) (fun n => .fr (.int (outT t n (1 + (k : Int)) (1 + (j : Int))))) (by simp) (by simp) (by simp) (by simp [sizeMax]; omega)
          (by
            intro n hn
            have o := hL n hn
            have h := h13 n (1 + (k : Int)) (1 + (j : Int)) o.1.1 o.2
            unfold tabD at h
            simp [ioOf, h])
        have k0 := hc0 (L.map fun n => outT t n (1 + (k : Int)) (1 + (j : Int))) (by simpa using hne) (by simp; omega)
        simp [Function.comp_def] at k0
        simp only [rosO] at kc
        simp [rosO, kc, Function.comp_def, k0, hlen]
        simp [ro, roD])
      none none none
    obtain ⟨r, rs, e⟩ := rows_cons t L
    obtain ⟨p, hp, e1, e2⟩ := fMinL_ros r rs
    have e4 : (match roD p with | .tup [_, _, d] => d | _ => .non) = .tup [.int p.2.2.1, .int p.2.2.2] := rfl
    have e5 : (O.fr (roD p)).item (.int 2) = some (.tup [.int p.2.2.1, .int p.2.2.2]) := rfl
    have q' := q
    rw [e] at q'
    simp [rosO] at q'
    simp at e2
    simp [sv_19, h2', kp, hx0, s1, s2, s3, q', e2, e5, askT, h2, e, e1, e4]
end Lw
end
section
set_option Elab.async false
set_option linter.all false
set_option maxRecDepth 100000
set_option maxHeartbeats 0
namespace Lw
open PySem Ev
structure Ok (c : FT) : Prop where
  pmets : ∀ (t : Two) (x y seen : D) (g : Tr → D) (rows : List Tr), IsP x t.e1 t.c1 → IsP y t.e2 t.c2 → R3 seen g rows → c 3 [.fr x, .fr y, .fr seen] = .ok (.ol (fInts (mets t rows))) [none, none, none]
  pask : ∀ (t : Two) (x y seen : D) (g : Tr → D) (rows : List Tr), IsP x t.e1 t.c1 → IsP y t.e2 t.c2 → R3 seen g rows → c 5 [.fr x, .fr y, .fr seen] = .ok (.fr (askT t (mets t rows))) [none, none, none]
  joint : ∀ (t : Two) (x y : D), IsP x t.e1 t.c1 → IsP y t.e2 t.c2 → ∀ n : Int, 0 < n → n ≤ t.e1 → c 17 [.fr x, .fr y, .fr (.int n)] = .ok (.fr (jointD t n)) [none, none, none]
  out : ∀ (t : Two) (n k j : Int), 0 < n → fits t n = true → c 13 [.fr (planD t n), .fr (tabD k j)] = .ok (.fr (.int (outT t n k j))) [none, none]
  fit : ∀ (t : Two) (x y : D) (rows : List Tr), IsP x t.e1 t.c1 → IsP y t.e2 t.c2 → rows.length ≤ 1000 → c 18 [.fr x, .fr y, .fr (.lst (rows.map trD))] = .ok (.ol (fInts (mets t rows))) [none, none, none]
  lask : ∀ (t : Two) (x y : D) (rows : List Tr), IsP x t.e1 t.c1 → IsP y t.e2 t.c2 → c 19 [.fr x, .fr y, .fr (.lst ((mets t rows).map .int))] = .ok (.fr (askT t (mets t rows))) [none, none, none]
  take : TakeOk c 7
  psome : ∀ (m : Nat) (b : List O) (xs : List D), Bx (m + 1) (.ol b) → 0 < xs.length → xs.length < 2 ^ 60 → ∃ (k : Nat) (h : k < xs.length) (ys : List O), Bx m (.ol ys) ∧ c 9 [.ol b, .fr (.lst xs)] = .ok (.fr xs[k]) [some (.ol ys), none]
  same : ∀ d : D, d.fit = true → d.dep < 10 → c 12 [.fr d, .fr d] = .ok (.fr (.bl true)) [none, none]
  lists : ∀ d : D, d.fit = true → d.dep < 10 → ∃ o, c 11 [.fr d] = .ok o [none] ∧ o.thaw = listsD d
def tlD (q : Tr) : D := .lst [.int q.1, .int q.2.1, .int q.2.2]
theorem askT_shape (t : Two) (L : List Int) : askT t L = .non ∨ ∃ a b, askT t L = .tup [.int a, .int b] := by
  unfold askT
  split
  · exact .inl rfl
  · split
    · exact .inl rfl
    · rename_i r rs e
      obtain ⟨p, _, h, _⟩ := fMinL_ros r rs
      rw [h]
      exact .inr ⟨_, _, rfl⟩
theorem due_fit (t : Two) (rows : List Tr) : (D.lst [.lst ((mets t rows).map .int), askT t (mets t rows)]).fit = true ∧ (D.lst [.lst ((mets t rows).map .int), askT t (mets t rows)]).dep < 10 := by
  have hl := mets_len t rows
  have h1 : (D.lst ((mets t rows).map .int)).fit = true := fit_lst (by simp; omega) (fun y hy => by obtain ⟨p, _, rfl⟩ := List.mem_map.mp hy; rfl)
  have h2 : D.deps ((mets t rows).map .int) ≤ 0 := deps_of (fun x hx => by obtain ⟨p, _, rfl⟩ := List.mem_map.mp hx; exact Nat.le_refl _)
  have h3 : (askT t (mets t rows)).fit = true ∧ (askT t (mets t rows)).dep ≤ 1 := by
    rcases askT_shape t (mets t rows) with e | ⟨a, b, e⟩
    · rw [e]; exact ⟨rfl, Nat.zero_le _⟩
    · rw [e]; exact ⟨rfl, Nat.le_refl _⟩
  constructor
  · refine fit_lst (by simp) (fun x hx => ?_)
    simp at hx
    rcases hx with rfl | rfl
    · exact h1
    · exact h3.1
  · have h4 := h3.2
    simp only [D.dep, D.deps]
    omega
theorem tail_facts {c : FT} (C : Ok c) (t : Two) (rows : List Tr) (hl : rows.length ≤ 1000) : ∃ o os d, c 11 [.fr (.lst (rows.map trD))] = .ok o [none] ∧ o.thaw = .lst (rows.map tlD) ∧
      c 18 [.fr (.tup [.int t.e1, .int t.c1]), .fr (.tup [.int t.e2, .int t.c2]), .fr (.lst (rows.map trD))] = .ok (.ol os) [none, none, none] ∧
      c 19 [.fr (.tup [.int t.e1, .int t.c1]), .fr (.tup [.int t.e2, .int t.c2]), .fr (.lst (O.thaws os))] = .ok (.fr d) [none, none, none] ∧
      c 3 [.fr (.tup [.int t.e1, .int t.c1]), .fr (.tup [.int t.e2, .int t.c2]), .fr (.tup (rows.map trD))] = .ok (.ol os) [none, none, none] ∧
      c 5 [.fr (.tup [.int t.e1, .int t.c1]), .fr (.tup [.int t.e2, .int t.c2]), .fr (.tup (rows.map trD))] = .ok (.fr d) [none, none, none] ∧
      c 3 [.fr (.lst [.int t.e1, .int t.c1]), .fr (.lst [.int t.e2, .int t.c2]), .fr (.lst (rows.map tlD))] = .ok (.ol os) [none, none, none] ∧
      c 5 [.fr (.lst [.int t.e1, .int t.c1]), .fr (.lst [.int t.e2, .int t.c2]), .fr (.lst (rows.map tlD))] = .ok (.fr d) [none, none, none] ∧
      c 12 [.fr (.lst [.lst (O.thaws os), d]), .fr (.lst [.lst (O.thaws os), d])] = .ok (.fr (.bl true)) [none, none] ∧ fEq [.lst (rows.map tlD), .lst (rows.map tlD)] = some (.bl true) := by
  have P1 : IsP (.tup [.int t.e1, .int t.c1]) t.e1 t.c1 := ⟨rfl, rfl⟩
  have P2 : IsP (.tup [.int t.e2, .int t.c2]) t.e2 t.c2 := ⟨rfl, rfl⟩
  have Q1 : IsP (.lst [.int t.e1, .int t.c1]) t.e1 t.c1 := ⟨rfl, rfl⟩
  have Q2 : IsP (.lst [.int t.e2, .int t.c2]) t.e2 t.c2 := ⟨rfl, rfl⟩
  have R1 : R3 (.tup (rows.map trD)) trD rows := ⟨rfl, fun q => rfl⟩
  have R2 : R3 (.lst (rows.map tlD)) tlD rows := ⟨rfl, fun q => rfl⟩
  obtain ⟨o, ho, ht⟩ := C.lists (.lst (rows.map trD)) (fit_lst (by simp; omega) (fun x hx => by obtain ⟨p, _, rfl⟩ := List.mem_map.mp hx; rfl)) (by
    have : D.deps (rows.map trD) ≤ 1 := deps_of (fun x hx => by obtain ⟨p, _, rfl⟩ := List.mem_map.mp hx; exact Nat.le_refl _)
    rw [D.dep]; omega)
  have hth : O.thaws (fInts (mets t rows)) = (mets t rows).map .int := by simp [fInts]
  refine ⟨o, fInts (mets t rows), askT t (mets t rows), ho, ?_, C.fit t _ _ rows P1 P2 hl, ?_, C.pmets t _ _ _ _ rows P1 P2 R1, C.pask t _ _ _ _ rows P1 P2 R1, C.pmets t _ _ _ _ rows Q1 Q2 R2, C.pask t _ _ _ _ rows Q1 Q2 R2, ?_, ?_⟩
  · rw [ht, listsD, listsDs_map, List.map_map]
    rfl
  · rw [hth]
    exact C.lask t _ _ rows P1 P2
  · rw [hth]
    exact C.same _ (due_fit t rows).1 (due_fit t rows).2
  · refine fEq_refl ?_ ?_
    · rw [D.lay]
      exact lays_of (fun x hx => by obtain ⟨p, _, rfl⟩ := List.mem_map.mp hx; rfl)
    · have : D.deps (rows.map tlD) ≤ 1 := deps_of (fun x hx => by obtain ⟨p, _, rfl⟩ := List.mem_map.mp hx; exact Nat.le_refl _)
      rw [D.dep]; omega
theorem case_run {c : FT} (C : Ok c) {xs : List O} {N : Nat} (hb : Bx (N + 20) (.ol xs)) :
    ∃ ys, runF [0] 1 16 (sv_21 c) [.ol xs] = .ok (.fr (.bl true)) [some (.ol ys)] ∧ Bx N (.ol ys) := by
  obtain ⟨k0, hk0, b0, hb, q0⟩ := C.psome (N + 19) xs [.int 1, .int 1, .int 2, .int 2, .int 3, .int 4, .int 6] hb (by decide) (by decide)
  obtain ⟨s, hs, hs1, hs2⟩ : ∃ s : Int, ([.int 1, .int 1, .int 2, .int 2, .int 3, .int 4, .int 6] : List D)[k0] = .int s ∧ 0 < s ∧ s ≤ 6 := by
    match k0, hk0 with
    | 0, _ => exact ⟨1, rfl, by decide, by decide⟩
    | 1, _ => exact ⟨1, rfl, by decide, by decide⟩
    | 2, _ => exact ⟨2, rfl, by decide, by decide⟩
    | 3, _ => exact ⟨2, rfl, by decide, by decide⟩
    | 4, _ => exact ⟨3, rfl, by decide, by decide⟩
    | 5, _ => exact ⟨4, rfl, by decide, by decide⟩
    | 6, _ => exact ⟨6, rfl, by decide, by decide⟩
  rw [hs] at q0
  have h12 : 0 < 12 / s := quo_pos hs1 (by omega)
  have h12' : (12 : Int) / s ≤ 12 := Int.ediv_le_self s (by decide)
  obtain ⟨ra, b1, q1, l1, u1, hb⟩ := C.take (N + 18) b0 (12 / s) hb h12 (by omega)
  obtain ⟨rb, b2, q2, l2, u2, hb⟩ := C.take (N + 17) b1 (12 / s) hb h12 (by omega)
  obtain ⟨rq, b3, q3, l3, u3, hb⟩ := C.take (N + 16) b2 s hb hs1 (by omega)
  obtain ⟨ta, b4, q4, l4, u4, hb⟩ := C.take (N + 15) b3 (1 + ra) hb (by omega) (by omega)
  obtain ⟨tb, b5, q5, l5, u5, hb⟩ := C.take (N + 14) b4 (1 + rb) hb (by omega) (by omega)
  obtain ⟨n3, b6, q6, l6, u6, hb⟩ := C.take (N + 13) b5 3 hb (by decide) (by decide)
  obtain ⟨n3, rfl⟩ := Int.eq_ofNat_of_zero_le l6
  have dA : s * (1 + ra) / s = 1 + ra := Int.mul_ediv_cancel_left _ (by omega)
  have dB : s * (1 + rb) / s = 1 + rb := Int.mul_ediv_cancel_left _ (by omega)
  have zA : s * (1 + ra) % s = 0 := Int.mul_emod_right _ _
  have zB : s * (1 + rb) % s = 0 := Int.mul_emod_right _ _
  have bA : s * (1 + ra) ≤ 6 * 12 := Int.mul_le_mul hs2 (by omega) (by omega) (by decide)
  have bB : s * (1 + rb) ≤ 6 * 12 := Int.mul_le_mul hs2 (by omega) (by omega) (by decide)
  have pA : 0 < s * (1 + ra) := Int.mul_pos hs1 (by omega)
  have pB : 0 < s * (1 + rb) := Int.mul_pos hs1 (by omega)
  have cA : rq * (1 + ra) ≤ (s - 1) * (1 + ra) := Int.mul_le_mul_of_nonneg_right (by omega) (by omega)
  have cB : rq * (1 + rb) ≤ (s - 1) * (1 + rb) := Int.mul_le_mul_of_nonneg_right (by omega) (by omega)
  have eA : (s - 1) * (1 + ra) = s * (1 + ra) - (1 + ra) := by rw [Int.sub_mul, Int.one_mul]
  have eB : (s - 1) * (1 + rb) = s * (1 + rb) - (1 + rb) := by rw [Int.sub_mul, Int.one_mul]
  have nA : 0 ≤ rq * (1 + ra) := Int.mul_nonneg l3 (by omega)
  have nB : 0 ≤ rq * (1 + rb) := Int.mul_nonneg l3 (by omega)
  have m1 : ∀ i, mulOk s i = true := fun i => mulOk_l (by omega) (by omega)
  have m2 : ∀ i, mulOk rq i = true := fun i => mulOk_l (by omega) (by omega)
  have ds : divOk s = true := divOk_of hs1 (by omega)
  let t : Two := ⟨s * (1 + ra), rq * (1 + ra) + ta, s * (1 + rb), rq * (1 + rb) + tb, pA, by omega, by omega, by omega, pB, by omega, by omega, by omega⟩
  have hft : fits t s = true := by
    have f1 : rq = (rq * (1 + ra) + ta) / (1 + ra) := floor_uniq (by omega) (by rw [Int.mul_comm]; omega) (by rw [Int.mul_comm (1 + ra)]; omega)
    have f2 : rq = (rq * (1 + rb) + tb) / (1 + rb) := floor_uniq (by omega) (by rw [Int.mul_comm]; omega) (by rw [Int.mul_comm (1 + rb)]; omega)
    show (s * (1 + ra) % s == 0 && s * (1 + rb) % s == 0 && (rq * (1 + ra) + ta) / (s * (1 + ra) / s) == (rq * (1 + rb) + tb) / (s * (1 + rb) / s)) = true
    rw [dA, dB, zA, zB, ← f1, ← f2]
    simp
  have hjo := C.joint t (.tup [.int t.e1, .int t.c1]) (.tup [.int t.e2, .int t.c2]) ⟨rfl, rfl⟩ ⟨rfl, rfl⟩ s hs1 (by show s ≤ s * (1 + ra); have : s * 1 ≤ s * (1 + ra) := Int.mul_le_mul_of_nonneg_left (by omega) (by omega); omega)
  rw [show jointD t s = planD t s by unfold jointD; rw [hft]; rfl] at hjo
  have hE1 : t.e1 = s * (1 + ra) := rfl
  have hC1 : t.c1 = rq * (1 + ra) + ta := rfl
  have hE2 : t.e2 = s * (1 + rb) := rfl
  have hC2 : t.c2 = rq * (1 + rb) + tb := rfl
  rw [← hE1] at dA
  rw [← hE2] at dB
  clear_value t
  obtain ⟨e', q, rows, ys, u, v, w, hrows, hbx, rfl⟩ := for_rng (io := [0]) (tg := .nm 9) (body := sBlk [(sPar [0] [10, 11] [(mZ (mCall c 7 [(mV 0), (mC (.int 14))])), (mZ (mCall c 7 [(mV 0), (mC (.int 14))]))]),
      (sEx (mMt fAppend (mV 8) [(mTup [(mV 10), (mV 11), (mOp fAdd [(mCall c 13 [(mV 7), (mZ (mDsp [.inr "a", .inr "b"] [(mV 10), (mV 11)]))]), (mOp fInt [(mRd fEq [(mCall c 7 [(mV 0), (mC (.int 8))]), (mC (.int 0))])])])])]))]) 0 n3
    (fun n e => ∃ (rows : List Tr) (ys : List O) (u v w : Option O), rows.length = n ∧ Bx (N + 13 - 3 * n) (.ol ys) ∧ e = [some (.ol ys), some (.fr (.int s)), some (.fr (.tup [.int t.e1, .int t.c1])), some (.fr (.tup [.int t.e2, .int t.c2])), some (.fr (.int rq)), some (.fr (.int (1 + ra))), some (.fr (.int (1 + rb))), some (.fr (planD t s)), some (.ol (rows.map fun q => .fr (trD q))), u, v, w, none, none, none, none])
    (by
      rintro n hn e ⟨rows, ys, u, v, w, hrows, hbx, rfl⟩
      obtain ⟨k, y1, g1, lk, uk, hy⟩ := C.take (N + 13 - 3 * n - 1) ys 14 (hbx.mono (by omega)) (by decide) (by decide)
      obtain ⟨j, y2, g2, lj, uj, hy⟩ := C.take (N + 13 - 3 * n - 2) y1 14 (hy.mono (by omega)) (by decide) (by decide)
      obtain ⟨r, y3, g3, lr, ur, hy⟩ := C.take (N + 13 - 3 * n - 3) y2 8 (hy.mono (by omega)) (by decide) (by decide)
      have ho := C.out t s k j hs1 hft
      unfold tabD at ho
      refine ⟨.nx, [some (.ol y3), some (.fr (.int s)), some (.fr (.tup [.int t.e1, .int t.c1])), some (.fr (.tup [.int t.e2, .int t.c2])), some (.fr (.int rq)), some (.fr (.int (1 + ra))), some (.fr (.int (1 + rb))), some (.fr (planD t s)), some (.ol ((rows ++ [(k, j, outT t s k j + if (r == 0) = true then 1 else 0)]).map fun q => .fr (trD q))), some (.fr (.int (0 + (n : Int)))), some (.fr (.int k)), some (.fr (.int j)), none, none, none, none], ?_, .inl rfl, _, y3, _, _, _, by simp [hrows], hy.mono (by omega), rfl⟩
      have hsz : n < sizeMax := by simp [sizeMax]; omega
      simp [g1, g2, g3, ho, hrows, hsz, trD])
    [some (.ol b6), some (.fr (.int s)), some (.fr (.tup [.int t.e1, .int t.c1])), some (.fr (.tup [.int t.e2, .int t.c2])), some (.fr (.int rq)), some (.fr (.int (1 + ra))), some (.fr (.int (1 + rb))), some (.fr (planD t s)), some (.ol []), none, none, none, none, none, none, none] ⟨[], b6, none, none, none, rfl, hb, rfl⟩
  obtain ⟨o, os, d, t1, t2, t3, t4, t5, t6, t7, t8, t9, t10⟩ := tail_facts C t rows (by omega)
  refine ⟨ys, ?_, hbx.mono (by omega)⟩
  have s3 : smallI (n3 : Int) = true := small_of (by omega) (by omega)
  have s4 := range_D 0 n3 (n3 : Int) (by omega)
  have d12 : divOk s = true := ds
  rw [hE1] at dA
  rw [hE2] at dB
  rw [hE1, hC1, hE2, hC2] at hjo q t3 t4 t5 t6 t7 t8
  simp only [Int.zero_add] at q s4
  simp [sv_21, q0, ds, q1, q2, m1, q3, dA, dB, m2, q4, q5, hjo, q6, s3, s4, q]
  simp [t1, t2, t3, t4, t5, t6, t7, t8, t9, t10]
end Lw
end
section
set_option Elab.async false
set_option linter.all false
set_option maxRecDepth 100000
set_option maxHeartbeats 0
namespace Lw
open PySem Ev
theorem v_0 : mets ⟨6, 0, 2, 0, by decide, by decide, by decide, by decide, by decide, by decide, by decide, by decide⟩ [] = [1, 2] := by kernel_rfl
theorem v_1 : mets ⟨6, 3, 2, 0, by decide, by decide, by decide, by decide, by decide, by decide, by decide, by decide⟩ [] = [1] := by kernel_rfl
theorem v_2 : askT ⟨6, 0, 2, 0, by decide, by decide, by decide, by decide, by decide, by decide, by decide, by decide⟩ (mets ⟨6, 0, 2, 0, by decide, by decide, by decide, by decide, by decide, by decide, by decide, by decide⟩ []) = .tup [.int 3, .int 1] := by kernel_rfl
theorem v_3 : mets ⟨6, 0, 2, 0, by decide, by decide, by decide, by decide, by decide, by decide, by decide, by decide⟩ [(3, 1, 1)] = [2] := by kernel_rfl
theorem v_4 : askT ⟨6, 3, 2, 0, by decide, by decide, by decide, by decide, by decide, by decide, by decide, by decide⟩ (mets ⟨6, 3, 2, 0, by decide, by decide, by decide, by decide, by decide, by decide, by decide, by decide⟩ []) = .non := by kernel_rfl
theorem v_5 : mets ⟨1, 0, 1, 0, by decide, by decide, by decide, by decide, by decide, by decide, by decide, by decide⟩ [] = [1] := by kernel_rfl
theorem v_6 : mets ⟨4, 1, 4, 1, by decide, by decide, by decide, by decide, by decide, by decide, by decide, by decide⟩ [] = [1, 2, 4] := by kernel_rfl
theorem v_7 : mets ⟨4, 1, 4, 2, by decide, by decide, by decide, by decide, by decide, by decide, by decide, by decide⟩ [] = [1] := by kernel_rfl
theorem v_8 : mets ⟨4, 3, 4, 2, by decide, by decide, by decide, by decide, by decide, by decide, by decide, by decide⟩ [] = [1, 2] := by kernel_rfl
theorem v_9 : mets ⟨12, 7, 18, 10, by decide, by decide, by decide, by decide, by decide, by decide, by decide, by decide⟩ [] = [1, 2, 3, 6] := by kernel_rfl
theorem v_10 : mets ⟨5, 0, 7, 0, by decide, by decide, by decide, by decide, by decide, by decide, by decide, by decide⟩ [] = [1] := by kernel_rfl
theorem v_11 : mets ⟨4, 1, 4, 1, by decide, by decide, by decide, by decide, by decide, by decide, by decide, by decide⟩ [(1, 1, 0)] = [1, 4] := by kernel_rfl
theorem v_12 : mets ⟨4, 1, 4, 1, by decide, by decide, by decide, by decide, by decide, by decide, by decide, by decide⟩ [(1, 2, 0)] = [1] := by kernel_rfl
theorem v_13 : askT ⟨4, 1, 4, 1, by decide, by decide, by decide, by decide, by decide, by decide, by decide, by decide⟩ (mets ⟨4, 1, 4, 1, by decide, by decide, by decide, by decide, by decide, by decide, by decide, by decide⟩ []) = .tup [.int 1, .int 1] := by kernel_rfl
theorem v_14 : mets ⟨4, 1, 4, 1, by decide, by decide, by decide, by decide, by decide, by decide, by decide, by decide⟩ [(1, 1, 7)] = [] := by kernel_rfl
theorem v_15 : askT ⟨4, 1, 4, 1, by decide, by decide, by decide, by decide, by decide, by decide, by decide, by decide⟩ (mets ⟨4, 1, 4, 1, by decide, by decide, by decide, by decide, by decide, by decide, by decide, by decide⟩ [(1, 1, 7)]) = .non := by kernel_rfl
theorem v_16 : mets ⟨24, 0, 24, 0, by decide, by decide, by decide, by decide, by decide, by decide, by decide, by decide⟩ [] = [1, 2, 3, 4, 6, 8, 12, 24] := by kernel_rfl
theorem v_17 : mets ⟨24, 0, 24, 0, by decide, by decide, by decide, by decide, by decide, by decide, by decide, by decide⟩ [(12, 12, 1)] = [2, 4, 6, 8, 12, 24] := by kernel_rfl
theorem v_18 : askT ⟨24, 0, 24, 0, by decide, by decide, by decide, by decide, by decide, by decide, by decide, by decide⟩ (mets ⟨24, 0, 24, 0, by decide, by decide, by decide, by decide, by decide, by decide, by decide, by decide⟩ [(12, 12, 1)]) = .tup [.int 4, .int 20] := by kernel_rfl
theorem v_19 : mets ⟨2, 0, 2, 0, by decide, by decide, by decide, by decide, by decide, by decide, by decide, by decide⟩ [] = [1, 2] := by kernel_rfl
theorem hand_core {c : FT} (C : Ok c) : runF [] 0 3 (sv_20 c) [] = .ok (.fr (.bl true)) [] := by
  have a0 : c 3 [.fr (.tup [.int 6, .int 0]), .fr (.tup [.int 2, .int 0]), .fr (.tup [])] = .ok (.ol [.fr (.int 1), .fr (.int 2)]) [none, none, none] := by
    have h := C.pmets ⟨6, 0, 2, 0, by decide, by decide, by decide, by decide, by decide, by decide, by decide, by decide⟩ (.tup [.int 6, .int 0]) (.tup [.int 2, .int 0]) (.tup []) trD [] ⟨rfl, rfl⟩ ⟨rfl, rfl⟩ ⟨rfl, fun _ => rfl⟩
    rw [v_0] at h
    exact h
  have a1 : c 3 [.fr (.tup [.int 6, .int 3]), .fr (.tup [.int 2, .int 0]), .fr (.tup [])] = .ok (.ol [.fr (.int 1)]) [none, none, none] := by
    have h := C.pmets ⟨6, 3, 2, 0, by decide, by decide, by decide, by decide, by decide, by decide, by decide, by decide⟩ (.tup [.int 6, .int 3]) (.tup [.int 2, .int 0]) (.tup []) trD [] ⟨rfl, rfl⟩ ⟨rfl, rfl⟩ ⟨rfl, fun _ => rfl⟩
    rw [v_1] at h
    exact h
  have a2 : c 5 [.fr (.tup [.int 6, .int 0]), .fr (.tup [.int 2, .int 0]), .fr (.tup [])] = .ok (.fr (.tup [.int 3, .int 1])) [none, none, none] := by
    have h := C.pask ⟨6, 0, 2, 0, by decide, by decide, by decide, by decide, by decide, by decide, by decide, by decide⟩ (.tup [.int 6, .int 0]) (.tup [.int 2, .int 0]) (.tup []) trD [] ⟨rfl, rfl⟩ ⟨rfl, rfl⟩ ⟨rfl, fun _ => rfl⟩
    rw [v_2] at h
    exact h
  have a3 : c 3 [.fr (.tup [.int 6, .int 0]), .fr (.tup [.int 2, .int 0]), .fr (.tup [.tup [.int 3, .int 1, .int 1]])] = .ok (.ol [.fr (.int 2)]) [none, none, none] := by
    have h := C.pmets ⟨6, 0, 2, 0, by decide, by decide, by decide, by decide, by decide, by decide, by decide, by decide⟩ (.tup [.int 6, .int 0]) (.tup [.int 2, .int 0]) (.tup [.tup [.int 3, .int 1, .int 1]]) trD [(3, 1, 1)] ⟨rfl, rfl⟩ ⟨rfl, rfl⟩ ⟨rfl, fun _ => rfl⟩
    rw [v_3] at h
    exact h
  have a4 : c 5 [.fr (.tup [.int 6, .int 3]), .fr (.tup [.int 2, .int 0]), .fr (.tup [])] = .ok (.fr (.non)) [none, none, none] := by
    have h := C.pask ⟨6, 3, 2, 0, by decide, by decide, by decide, by decide, by decide, by decide, by decide, by decide⟩ (.tup [.int 6, .int 3]) (.tup [.int 2, .int 0]) (.tup []) trD [] ⟨rfl, rfl⟩ ⟨rfl, rfl⟩ ⟨rfl, fun _ => rfl⟩
    rw [v_4] at h
    exact h
  have a5 : c 3 [.fr (.tup [.int 1, .int 0]), .fr (.tup [.int 1, .int 0]), .fr (.tup [])] = .ok (.ol [.fr (.int 1)]) [none, none, none] := by
    have h := C.pmets ⟨1, 0, 1, 0, by decide, by decide, by decide, by decide, by decide, by decide, by decide, by decide⟩ (.tup [.int 1, .int 0]) (.tup [.int 1, .int 0]) (.tup []) trD [] ⟨rfl, rfl⟩ ⟨rfl, rfl⟩ ⟨rfl, fun _ => rfl⟩
    rw [v_5] at h
    exact h
  have a6 : c 3 [.fr (.tup [.int 4, .int 1]), .fr (.tup [.int 4, .int 1]), .fr (.tup [])] = .ok (.ol [.fr (.int 1), .fr (.int 2), .fr (.int 4)]) [none, none, none] := by
    have h := C.pmets ⟨4, 1, 4, 1, by decide, by decide, by decide, by decide, by decide, by decide, by decide, by decide⟩ (.tup [.int 4, .int 1]) (.tup [.int 4, .int 1]) (.tup []) trD [] ⟨rfl, rfl⟩ ⟨rfl, rfl⟩ ⟨rfl, fun _ => rfl⟩
    rw [v_6] at h
    exact h
  have a7 : c 3 [.fr (.tup [.int 4, .int 1]), .fr (.tup [.int 4, .int 2]), .fr (.tup [])] = .ok (.ol [.fr (.int 1)]) [none, none, none] := by
    have h := C.pmets ⟨4, 1, 4, 2, by decide, by decide, by decide, by decide, by decide, by decide, by decide, by decide⟩ (.tup [.int 4, .int 1]) (.tup [.int 4, .int 2]) (.tup []) trD [] ⟨rfl, rfl⟩ ⟨rfl, rfl⟩ ⟨rfl, fun _ => rfl⟩
    rw [v_7] at h
    exact h
  have a8 : c 3 [.fr (.tup [.int 4, .int 3]), .fr (.tup [.int 4, .int 2]), .fr (.tup [])] = .ok (.ol [.fr (.int 1), .fr (.int 2)]) [none, none, none] := by
    have h := C.pmets ⟨4, 3, 4, 2, by decide, by decide, by decide, by decide, by decide, by decide, by decide, by decide⟩ (.tup [.int 4, .int 3]) (.tup [.int 4, .int 2]) (.tup []) trD [] ⟨rfl, rfl⟩ ⟨rfl, rfl⟩ ⟨rfl, fun _ => rfl⟩
    rw [v_8] at h
    exact h
  have a9 : c 3 [.fr (.tup [.int 12, .int 7]), .fr (.tup [.int 18, .int 10]), .fr (.tup [])] = .ok (.ol [.fr (.int 1), .fr (.int 2), .fr (.int 3), .fr (.int 6)]) [none, none, none] := by
    have h := C.pmets ⟨12, 7, 18, 10, by decide, by decide, by decide, by decide, by decide, by decide, by decide, by decide⟩ (.tup [.int 12, .int 7]) (.tup [.int 18, .int 10]) (.tup []) trD [] ⟨rfl, rfl⟩ ⟨rfl, rfl⟩ ⟨rfl, fun _ => rfl⟩
    rw [v_9] at h
    exact h
  have a10 : c 3 [.fr (.tup [.int 5, .int 0]), .fr (.tup [.int 7, .int 0]), .fr (.tup [])] = .ok (.ol [.fr (.int 1)]) [none, none, none] := by
    have h := C.pmets ⟨5, 0, 7, 0, by decide, by decide, by decide, by decide, by decide, by decide, by decide, by decide⟩ (.tup [.int 5, .int 0]) (.tup [.int 7, .int 0]) (.tup []) trD [] ⟨rfl, rfl⟩ ⟨rfl, rfl⟩ ⟨rfl, fun _ => rfl⟩
    rw [v_10] at h
    exact h
  have a11 : c 3 [.fr (.tup [.int 4, .int 1]), .fr (.tup [.int 4, .int 1]), .fr (.tup [.tup [.int 1, .int 1, .int 0]])] = .ok (.ol [.fr (.int 1), .fr (.int 4)]) [none, none, none] := by
    have h := C.pmets ⟨4, 1, 4, 1, by decide, by decide, by decide, by decide, by decide, by decide, by decide, by decide⟩ (.tup [.int 4, .int 1]) (.tup [.int 4, .int 1]) (.tup [.tup [.int 1, .int 1, .int 0]]) trD [(1, 1, 0)] ⟨rfl, rfl⟩ ⟨rfl, rfl⟩ ⟨rfl, fun _ => rfl⟩
    rw [v_11] at h
    exact h
  have a12 : c 3 [.fr (.tup [.int 4, .int 1]), .fr (.tup [.int 4, .int 1]), .fr (.tup [.tup [.int 1, .int 2, .int 0]])] = .ok (.ol [.fr (.int 1)]) [none, none, none] := by
    have h := C.pmets ⟨4, 1, 4, 1, by decide, by decide, by decide, by decide, by decide, by decide, by decide, by decide⟩ (.tup [.int 4, .int 1]) (.tup [.int 4, .int 1]) (.tup [.tup [.int 1, .int 2, .int 0]]) trD [(1, 2, 0)] ⟨rfl, rfl⟩ ⟨rfl, rfl⟩ ⟨rfl, fun _ => rfl⟩
    rw [v_12] at h
    exact h
  have a13 : c 5 [.fr (.tup [.int 4, .int 1]), .fr (.tup [.int 4, .int 1]), .fr (.tup [])] = .ok (.fr (.tup [.int 1, .int 1])) [none, none, none] := by
    have h := C.pask ⟨4, 1, 4, 1, by decide, by decide, by decide, by decide, by decide, by decide, by decide, by decide⟩ (.tup [.int 4, .int 1]) (.tup [.int 4, .int 1]) (.tup []) trD [] ⟨rfl, rfl⟩ ⟨rfl, rfl⟩ ⟨rfl, fun _ => rfl⟩
    rw [v_13] at h
    exact h
  have a14 : c 3 [.fr (.tup [.int 4, .int 1]), .fr (.tup [.int 4, .int 1]), .fr (.tup [.tup [.int 1, .int 1, .int 7]])] = .ok (.ol []) [none, none, none] := by
    have h := C.pmets ⟨4, 1, 4, 1, by decide, by decide, by decide, by decide, by decide, by decide, by decide, by decide⟩ (.tup [.int 4, .int 1]) (.tup [.int 4, .int 1]) (.tup [.tup [.int 1, .int 1, .int 7]]) trD [(1, 1, 7)] ⟨rfl, rfl⟩ ⟨rfl, rfl⟩ ⟨rfl, fun _ => rfl⟩
    rw [v_14] at h
    exact h
  have a15 : c 5 [.fr (.tup [.int 4, .int 1]), .fr (.tup [.int 4, .int 1]), .fr (.tup [.tup [.int 1, .int 1, .int 7]])] = .ok (.fr (.non)) [none, none, none] := by
    have h := C.pask ⟨4, 1, 4, 1, by decide, by decide, by decide, by decide, by decide, by decide, by decide, by decide⟩ (.tup [.int 4, .int 1]) (.tup [.int 4, .int 1]) (.tup [.tup [.int 1, .int 1, .int 7]]) trD [(1, 1, 7)] ⟨rfl, rfl⟩ ⟨rfl, rfl⟩ ⟨rfl, fun _ => rfl⟩
    rw [v_15] at h
    exact h
  have a16 : c 3 [.fr (.lst [.int 24, .int 0]), .fr (.lst [.int 24, .int 0]), .fr (.lst [])] = .ok (.ol [.fr (.int 1), .fr (.int 2), .fr (.int 3), .fr (.int 4), .fr (.int 6), .fr (.int 8), .fr (.int 12), .fr (.int 24)]) [none, none, none] := by
    have h := C.pmets ⟨24, 0, 24, 0, by decide, by decide, by decide, by decide, by decide, by decide, by decide, by decide⟩ (.lst [.int 24, .int 0]) (.lst [.int 24, .int 0]) (.lst []) tlD [] ⟨rfl, rfl⟩ ⟨rfl, rfl⟩ ⟨rfl, fun _ => rfl⟩
    rw [v_16] at h
    exact h
  have a17 : c 3 [.fr (.tup [.int 24, .int 0]), .fr (.tup [.int 24, .int 0]), .fr (.tup [.tup [.int 12, .int 12, .int 1]])] = .ok (.ol [.fr (.int 2), .fr (.int 4), .fr (.int 6), .fr (.int 8), .fr (.int 12), .fr (.int 24)]) [none, none, none] := by
    have h := C.pmets ⟨24, 0, 24, 0, by decide, by decide, by decide, by decide, by decide, by decide, by decide, by decide⟩ (.tup [.int 24, .int 0]) (.tup [.int 24, .int 0]) (.tup [.tup [.int 12, .int 12, .int 1]]) trD [(12, 12, 1)] ⟨rfl, rfl⟩ ⟨rfl, rfl⟩ ⟨rfl, fun _ => rfl⟩
    rw [v_17] at h
    exact h
  have a18 : c 5 [.fr (.tup [.int 24, .int 0]), .fr (.tup [.int 24, .int 0]), .fr (.lst [.lst [.int 12, .int 12, .int 1]])] = .ok (.fr (.tup [.int 4, .int 20])) [none, none, none] := by
    have h := C.pask ⟨24, 0, 24, 0, by decide, by decide, by decide, by decide, by decide, by decide, by decide, by decide⟩ (.tup [.int 24, .int 0]) (.tup [.int 24, .int 0]) (.lst [.lst [.int 12, .int 12, .int 1]]) tlD [(12, 12, 1)] ⟨rfl, rfl⟩ ⟨rfl, rfl⟩ ⟨rfl, fun _ => rfl⟩
    rw [v_18] at h
    exact h
  have a19 : c 3 [.fr (.tup [.int 2, .int 0]), .fr (.tup [.int 2, .int 0]), .fr (.tup [])] = .ok (.ol [.fr (.int 1), .fr (.int 2)]) [none, none, none] := by
    have h := C.pmets ⟨2, 0, 2, 0, by decide, by decide, by decide, by decide, by decide, by decide, by decide, by decide⟩ (.tup [.int 2, .int 0]) (.tup [.int 2, .int 0]) (.tup []) trD [] ⟨rfl, rfl⟩ ⟨rfl, rfl⟩ ⟨rfl, fun _ => rfl⟩
    rw [v_19] at h
    exact h
  have as := C.same (.lst [.lst [.int 1, .int 2], .lst [.int 1], .tup [.int 3, .int 1], .lst [.int 2], .non, .lst [.int 1], .lst [.int 1, .int 2, .int 4], .lst [.int 1], .lst [.int 1, .int 2], .lst [.int 1, .int 2, .int 3, .int 6], .lst [.int 1], .lst [.int 1, .int 4], .lst [.int 1], .tup [.int 1, .int 1], .lst [], .non, .lst [.int 1, .int 2, .int 3, .int 4, .int 6, .int 8, .int 12, .int 24], .lst [.int 2, .int 4, .int 6, .int 8, .int 12, .int 24], .tup [.int 4, .int 20], .lst [.int 1, .int 2]]) (by decide) (by decide)
  have e1 : sizeMax = 16777216 := rfl
  simp [sv_20, fAdd, a0, a1, a2, a3, a4, a5, a6, a7, a8, a9, a10, a11, a12, a13, a14, a15, a16, a17, a18, a19, as, e1]
end Lw
end
section
set_option Elab.async false
set_option linter.all false
set_option maxRecDepth 100000
set_option maxHeartbeats 0
namespace Lw
open PySem Ev
theorem str_ok (m : Nat) {s : Str} (hs : s = "a" ∨ s = "b") (k j : Int) : callN bodies (m + 1) 14 [.fr (.str s), .fr (tabD k j)] = .ok (.fr (.int (valS s k j))) [none, none] := by
  rw [callN_succ, bd_14]
  exact passed_str hs k j
theorem limb_ok (m : Nat) {s : Str} (hs : s = "a" ∨ s = "b") {h o : Int} (h0 : 0 < h) (h1 : h ≤ 1000) (ho : 0 ≤ o) (ho2 : o < h) (k j : Int) : callN bodies (m + 2) 14 [.fr (limbD s h o), .fr (tabD k j)] = .ok (.fr (.int ((o + valS s k j) / h))) [none, none] := by
  rw [callN_succ, bd_14]
  exact passed_limb hs h0 h1 ho ho2 k j (str_ok m hs k j)
theorem node_ok (m : Nat) {l1 l2 : D} {n r a b : Int} (k j : Int) (h0 : 0 < n) (h1 : n ≤ 1000) (hr : 0 ≤ r) (hr2 : r < n)
    (hc1 : callN bodies (m + 2) 14 [.fr l1, .fr (tabD k j)] = .ok (.fr (.int a)) [none, none]) (hc2 : callN bodies (m + 2) 14 [.fr l2, .fr (tabD k j)] = .ok (.fr (.int b)) [none, none]) :
    callN bodies (m + 3) 14 [.fr (.tup [.int n, .int r, .tup [l1, l2]]), .fr (tabD k j)] = .ok (.fr (.int ((r + a + b) / n))) [none, none] := by
  rw [callN_succ, bd_14]
  exact passed_node k j h0 h1 hr hr2 hc1 hc2
theorem out_ok (m : Nat) (t : Two) (n k j : Int) (hn : 0 < n) (hf : fits t n = true) : callN bodies (m + 4) 13 [.fr (planD t n), .fr (tabD k j)] = .ok (.fr (.int (outT t n k j))) [none, none] := by
  rw [callN_succ, bd_13]
  refine plan_run hn hf k j (fun s hs h o h0 h1 h2 h3 => limb_ok (m + 1) hs h0 h1 h2 h3 k j) (fun l1 l2 n r a b h0 h1 h2 h3 ha hb => ?_)
  obtain ⟨s1, p1, o1, e1, e2, e3, e4, e5, rfl, rfl⟩ := ha
  obtain ⟨s2, p2, o2, f1, f2, f3, f4, f5, rfl, rfl⟩ := hb
  exact node_ok m k j h0 h1 h2 h3 (limb_ok m e1 e2 e3 e4 e5 k j) (limb_ok m f1 f2 f3 f4 f5 k j)
theorem joint_ok (m : Nat) (t : Two) (x y : D) (hx : IsP x t.e1 t.c1) (hy : IsP y t.e2 t.c2) (n : Int) (h0 : 0 < n) (h1 : n ≤ t.e1) : callN bodies (m + 2) 17 [.fr x, .fr y, .fr (.int n)] = .ok (.fr (jointD t n)) [none, none, none] := by
  rw [callN_succ, bd_17]
  exact joint_run hx hy h0 h1 fun s h o => by rw [callN_succ, bd_16]; exact limb_run s h o
theorem mets_ok (m : Nat) (t : Two) (x y seen : D) (g : Tr → D) (rows : List Tr) (hx : IsP x t.e1 t.c1) (hy : IsP y t.e2 t.c2) (hR : R3 seen g rows) : callN bodies (m + 2) 3 [.fr x, .fr y, .fr seen] = .ok (.ol (fInts (mets t rows))) [none, none, none] := by
  rw [callN_succ, bd_3]
  exact mets_run hx hy hR (fun n h => by rw [callN_succ, bd_1]; exact fits_run hx hy h) (fun n k j h => by rw [callN_succ, bd_2]; exact out_run hx hy h k j)
theorem pask_ok (m : Nat) (t : Two) (x y : D) (L : List Int) (hx : IsP x t.e1 t.c1) (hy : IsP y t.e2 t.c2) (hL : ∀ n ∈ L, OkN t n) (hl : L.length ≤ 1000) : callN bodies (m + 2) 4 [.fr x, .fr y, .fr (.lst (L.map .int))] = .ok (.fr (askT t L)) [none, none, none] := by
  rw [callN_succ, bd_4]
  exact ask_run hx hy hL hl (fun vs h1 h2 => by rw [callN_succ, bd_0]; exact gl_run h1 h2) (fun n k j h => by rw [callN_succ, bd_2]; exact out_run hx hy h k j)
theorem met_ok (m : Nat) (t : Two) (x y seen : D) (g : Tr → D) (rows : List Tr) (hx : IsP x t.e1 t.c1) (hy : IsP y t.e2 t.c2) (hR : R3 seen g rows) : callN bodies (m + 3) 5 [.fr x, .fr y, .fr seen] = .ok (.fr (askT t (mets t rows))) [none, none, none] := by
  have h1 := mets_ok m t x y seen g rows hx hy hR
  have h2 := pask_ok m t x y (mets t rows) hx hy (fun n h => (mets_mem h).1) (mets_len t rows)
  rw [callN_succ, bd_5]
  generalize callN bodies (m + 2) = c at *
  have hth : O.thaws (fInts (mets t rows)) = (mets t rows).map .int := by simp [fInts]
  simp [sv_5, h1, hth, h2]
theorem bodies_ok (n : Nat) : Ok (callN bodies (n + 12)) where
  pmets t x y seen g rows hx hy hR := mets_ok (n + 10) t x y seen g rows hx hy hR
  pask t x y seen g rows hx hy hR := met_ok (n + 9) t x y seen g rows hx hy hR
  joint t x y hx hy m h0 h1 := joint_ok (n + 10) t x y hx hy m h0 h1
  out t m k j h0 h1 := out_ok (n + 8) t m k j h0 h1
  fit t x y rows hx hy hl := by
    rw [callN_succ, bd_18]
    exact fit_run hx hl (fun m h0 h1 => joint_ok (n + 9) t x y hx hy m h0 h1) (fun m k j h0 h1 => out_ok (n + 7) t m k j h0 h1)
  lask t x y rows hx hy := by
    rw [callN_succ, bd_19]
    exact lask_run hx hy (fun m h => mets_mem h) (mets_len t rows) (fun vs h1 h2 => by rw [callN_succ, bd_15]; exact ll_run h1 h2) (fun m h0 h1 => joint_ok (n + 9) t x y hx hy m h0 h1) (fun m k j h0 h1 => out_ok (n + 7) t m k j h0 h1)
  take := takeOk (fun _ => rfl) _
  psome m b xs hb h0 h1 := by
    obtain ⟨k, h, b', hb', q, _⟩ := of_run (c := callN bodies (n + 11)) (j := 7) (m := m) (b := .ol b) (xs := xs) (fun top h2 h3 => by
      obtain ⟨r, ys, q, l, u, hy⟩ := takeOk (B := bodies) (j := 7) (fun _ => rfl) (n + 10) m b top hb h2 h3
      exact ⟨r, _, q, l, u, hy⟩) hb h0 h1
    obtain ⟨x, y, z, rfl, _⟩ := id hb'
    exact ⟨k, h, _, hb', by rw [callN_succ, bd_9]; exact q⟩
  same d h1 h2 := same_run (fun _ => rfl) _ d h1 (by omega)
  lists d h1 h2 := lists_run (fun _ => rfl) _ d h1 (by omega)
theorem hand : callN bodies 29 20 [] = .ok (.fr (.bl true)) [] := by
  have hC := bodies_ok 16
  simp only [Nat.reduceAdd] at hC
  rw [callN_succ, bd_20]
  exact hand_core hC
theorem right_core {c : FT} (h13 : c 20 [] = .ok (.fr (.bl true)) []) (h14 : ∀ xs N, Bx (N + 20) (.ol xs) → ∃ ys, c 21 [.ol xs] = .ok (.fr (.bl true)) [some (.ol ys)] ∧ Bx N (.ol ys)) {xs : List O} (hb : Bx 60 (.ol xs)) :
    ∃ u, runF [0] 1 2 (sv_22 c) [.ol xs] = .ok (.fr (.bl true)) [u] := by
  obtain ⟨y0, a0, hb⟩ := h14 _ 40 hb
  obtain ⟨y1, a1, hb⟩ := h14 _ 20 hb
  obtain ⟨y2, a2, hb⟩ := h14 _ 0 hb
  refine ⟨some (.ol y2), ?_⟩
  have e : rangeD 0 3 = [.int 0, .int 1, .int 2] := rfl
  have k : mComp 2 [1] (.nm 1) (iRng1 (mC (.int 3))) (.ret true) (mCall c 21 [(mV 0)]) [some (.ol xs), none] = .ok (.v (.ol [.fr (.bl true), .fr (.bl true), .fr (.bl true)])) [some (.ol y2), none] := by
    have s3 : smallI 3 = true := by decide
    simp [mComp, s3, e, compGo_cons, ioOf, a0, a1, a2, compGo, sizeMax]
  simp [sv_22, h13, k, fAll, bls?]
theorem law_core {c : FT} {ns ms : List Int} (h1 : ms.length ≤ 3) (hc5 : c 8 [.fr (.lst (ns.map .int)), .fr (.int 3)] = .ok (.ol (fInts ms)) [none, none])
    (hbx : ∀ i, i < ms.length → ∃ b, c 6 [.fr (.lst (ms.map .int)), .fr (.int (i : Nat))] = .ok (.ol b) [none, none] ∧ ∃ u, c 22 [.ol b] = .ok (.fr (.bl true)) [u]) :
    runF [] 1 3 (sv_23 c) [.fr (.lst (ns.map .int))] = .ok (.fr (.bl true)) [none] := by
  have hth : O.thaws (fInts ms) = ms.map .int := by simp [fInts]
  have s3 : smallI (ms.length : Int) = true := small_of (by omega) (by omega)
  have s4 := range_D 0 ms.length (ms.length : Int) (by omega)
  have k := comp_mapA (n := 3) (own := [2]) (tg := .nm 2) (src := iRng1 (mRd fLen [(mV 1)])) (t := .ret true) (elt := mCall c 22 [(mCall c 6 [(mV 1), (mV 2)])])
    (e := [some (.fr (.lst (ns.map .int))), some (.fr (.lst (ms.map .int))), none]) (e1 := [some (.fr (.lst (ns.map .int))), some (.fr (.lst (ms.map .int))), none])
    (xs := List.range ms.length) (fun i : Nat => .int (0 + (i : Int))) (fun _ => .fr (.bl true)) (by simp [s3, s4]) (by simp) (by simp) (by simp [sizeMax]; omega)
    (by
      intro i hi
      simp at hi
      obtain ⟨b, q3, u, q15⟩ := hbx i hi
      simp [ioOf, q3, q15])
  have ka := fAll_map (List.range ms.length) (fun _ => true)
  simp [sv_23, hc5, hth, k]
  simp [ka]
theorem right_run {xs : List O} (hb : Bx 60 (.ol xs)) : ∃ u, callN bodies 30 22 [.ol xs] = .ok (.fr (.bl true)) [u] := by
  have hC := bodies_ok 16
  simp only [Nat.reduceAdd] at hC
  rw [callN_succ, bd_22]
  exact right_core hand (fun xs N hb => by rw [callN_succ, bd_21]; exact case_run hC hb) hb
theorem law_true (ns : List Int) (h : ns.length ≤ 63) : callN bodies (30 + 1) 23 [.fr (.lst (ns.map .int))] = .ok (.fr (.bl true)) [none] := by
  obtain ⟨ms, q, h0, h1⟩ := cells_run (ns := ns) (k := 3) h (by decide) (by decide)
  rw [callN_succ, bd_23]
  refine law_core h1 (by rw [callN_succ, bd_8]; exact q) fun i hi => ?_
  obtain ⟨b, q3, hb⟩ := box_run (p := 2082) (ms := ms) (k := i) (by decide) (by decide) hi (by omega)
  obtain ⟨x, y, z, rfl, _⟩ := id hb
  exact ⟨_, by rw [callN_succ, bd_6]; exact q3, right_run (hb.mono (by decide))⟩
end Lw
end
set_option Elab.async false
set_option linter.all false
set_option maxRecDepth 100000
set_option maxHeartbeats 0
namespace Lw
open PySem PySem.Spec PyProof.Rows L2 Ev
abbrev top (i : Nat) : Stmt := PySem.Challenge.pw_everynth_k71_numbers_met_and_what_to_ask.main.body.getD i (.Pass ⟨0, 0, 0, 0⟩)
structure Glo (mg : Str → Option Value) : Prop where
  g_abs : mg "abs" = none
  g_all : mg "all" = none
  g_bool : mg "bool" = none
  g_dict : mg "dict" = none
  g_enumerate : mg "enumerate" = none
  g_int : mg "int" = none
  g_isinstance : mg "isinstance" = none
  g_len : mg "len" = none
  g_list : mg "list" = none
  g_max : mg "max" = none
  g_min : mg "min" = none
  g_range : mg "range" = none
  g_str : mg "str" = none
  g_tuple : mg "tuple" = none
  g_zip : mg "zip" = none
abbrev N_0 : List Str := ["values", "counts", "value"]
abbrev ps_0 : List Str := ["values"]
theorem sc_0 : FnScope N_0 ps_0 (defScope (top 1)) := C8.fnScope_by (by decide +kernel)
theorem nd_0 : N_0.Nodup := sc_0.nd
theorem bind_0 : Bnd "greatest_left" (top 1) ps_0 := fun _ _ _ _ _ _ us hl => match us, hl with | [_], _ => rfl
abbrev N_1 : List Str := ["one", "other", "number"]
abbrev ps_1 : List Str := ["one", "other", "number"]
theorem sc_1 : FnScope N_1 ps_1 (defScope (top 2)) := C8.fnScope_by (by decide +kernel)
theorem nd_1 : N_1.Nodup := sc_1.nd
theorem bind_1 : Bnd "fits_two" (top 2) ps_1 := fun _ _ _ _ _ _ us hl => match us, hl with | [_, _, _], _ => rfl
abbrev N_2 : List Str := ["one", "other", "number", "sent", "more", "below", "under", "past"]
abbrev ps_2 : List Str := ["one", "other", "number", "sent", "more"]
theorem sc_2 : FnScope N_2 ps_2 (defScope (top 3)) := C8.fnScope_by (by decide +kernel)
theorem nd_2 : N_2.Nodup := sc_2.nd
theorem bind_2 : Bnd "out_of_two" (top 3) ps_2 := fun _ _ _ _ _ _ us hl => match us, hl with | [_, _, _, _, _], _ => rfl
abbrev N_3 : List Str := ["one", "other", "seen", "found", "sent", "more", "out", "number"]
abbrev ps_3 : List Str := ["one", "other", "seen"]
theorem sc_3 : FnScope N_3 ps_3 (defScope (top 4)) := C8.fnScope_by (by decide +kernel)
theorem nd_3 : N_3.Nodup := sc_3.nd
theorem bind_3 : Bnd "mets_left" (top 4) ps_3 := fun _ _ _ _ _ _ us hl => match us, hl with | [_, _, _], _ => rfl
abbrev N_4 : List Str := ["one", "other", "numbers", "rows", "sent", "more", "values", "number"]
abbrev ps_4 : List Str := ["one", "other", "numbers"]
theorem sc_4 : FnScope N_4 ps_4 (defScope (top 5)) := C8.fnScope_by (by decide +kernel)
theorem nd_4 : N_4.Nodup := sc_4.nd
theorem bind_4 : Bnd "ask_for" (top 5) ps_4 := fun _ _ _ _ _ _ us hl => match us, hl with | [_, _, _], _ => rfl
abbrev N_5 : List Str := ["one", "other", "seen"]
abbrev ps_5 : List Str := ["one", "other", "seen"]
theorem sc_5 : FnScope N_5 ps_5 (defScope (top 6)) := C8.fnScope_by (by decide +kernel)
theorem nd_5 : N_5.Nodup := sc_5.nd
theorem bind_5 : Bnd "met_ask" (top 6) ps_5 := fun _ _ _ _ _ _ us hl => match us, hl with | [_, _, _], _ => rfl
abbrev N_6 : List Str := ["_law_script", "_law_k", "_law_cell"]
abbrev ps_6 : List Str := ["_law_script", "_law_k"]
theorem sc_6 : FnScope N_6 ps_6 (defScope (top 8)) := C8.fnScope_by (by decide +kernel)
theorem nd_6 : N_6.Nodup := sc_6.nd
theorem bind_6 : Bnd "_law_box" (top 8) ps_6 := fun _ _ _ _ _ _ us hl => match us, hl with | [_, _], _ => rfl
abbrev N_7 : List Str := ["_law_box_here", "_law_top_so", "_law_digit_so", "_law_once", "_law_far", "_law_twice"]
abbrev ps_7 : List Str := ["_law_box_here", "_law_top_so"]
theorem sc_7 : FnScope N_7 ps_7 (defScope (top 9)) := C8.fnScope_by (by decide +kernel)
theorem nd_7 : N_7.Nodup := sc_7.nd
theorem bind_7 : Bnd "_law_take" (top 9) ps_7 := fun _ _ _ _ _ _ us hl => match us, hl with | [_, _], _ => rfl
abbrev N_8 : List Str := ["_law_script", "_law_most", "_law_cells_here", "_law_k", "_law_cell", "_law_at_so"]
abbrev ps_8 : List Str := ["_law_script", "_law_most"]
theorem sc_8 : FnScope N_8 ps_8 (defScope (top 10)) := C8.fnScope_by (by decide +kernel)
theorem nd_8 : N_8.Nodup := sc_8.nd
theorem bind_8 : Bnd "_law_cells" (top 10) ps_8 := fun _ _ _ _ _ _ us hl => match us, hl with | [_, _], _ => rfl
abbrev N_9 : List Str := ["_law_box_here", "_law_some"]
abbrev ps_9 : List Str := ["_law_box_here", "_law_some"]
theorem sc_9 : FnScope N_9 ps_9 (defScope (top 11)) := C8.fnScope_by (by decide +kernel)
theorem nd_9 : N_9.Nodup := sc_9.nd
theorem bind_9 : Bnd "_law_of" (top 11) ps_9 := fun _ _ _ _ _ _ us hl => match us, hl with | [_, _], _ => rfl
abbrev N_10 : List Str := ["_law_box_here", "_law_pool", "_law_size_so", "_law_rest", "_law_some", "_law_turn"]
abbrev ps_10 : List Str := ["_law_box_here", "_law_pool", "_law_size_so"]
theorem sc_10 : FnScope N_10 ps_10 (defScope (top 12)) := C8.fnScope_by (by decide +kernel)
theorem nd_10 : N_10.Nodup := sc_10.nd
theorem bind_10 : Bnd "_law_pick" (top 12) ps_10 := fun _ _ _ _ _ _ us hl => match us, hl with | [_, _, _], _ => rfl
abbrev N_11 : List Str := ["_law_matter", "_law_bit"]
abbrev ps_11 : List Str := ["_law_matter"]
theorem sc_11 : FnScope N_11 ps_11 (defScope (top 13)) := C8.fnScope_by (by decide +kernel)
theorem nd_11 : N_11.Nodup := sc_11.nd
theorem bind_11 : Bnd "_law_lists" (top 13) ps_11 := fun _ _ _ _ _ _ us hl => match us, hl with | [_], _ => rfl
abbrev N_12 : List Str := ["_law_got", "_law_due", "_law_mine", "_law_its", "_law_own"]
abbrev ps_12 : List Str := ["_law_got", "_law_due"]
theorem sc_12 : FnScope N_12 ps_12 (defScope (top 14)) := C8.fnScope_by (by decide +kernel)
theorem nd_12 : N_12.Nodup := sc_12.nd
theorem bind_12 : Bnd "_law_same" (top 14) ps_12 := fun _ _ _ _ _ _ us hl => match us, hl with | [_, _], _ => rfl
abbrev N_13 : List Str := ["_law_plan", "_law_table", "_law_found", "_law_limb_here"]
abbrev ps_13 : List Str := ["_law_plan", "_law_table"]
theorem sc_13 : FnScope N_13 ps_13 (defScope (top 15)) := C8.fnScope_by (by decide +kernel)
theorem nd_13 : N_13.Nodup := sc_13.nd
theorem bind_13 : Bnd "_law_out" (top 15) ps_13 := fun _ _ _ _ _ _ us hl => match us, hl with | [_, _], _ => rfl
abbrev N_14 : List Str := ["_law_limb_here", "_law_table", "_law_sum_so", "_law_own"]
abbrev ps_14 : List Str := ["_law_limb_here", "_law_table"]
theorem sc_14 : FnScope N_14 ps_14 (defScope (top 16)) := C8.fnScope_by (by decide +kernel)
theorem nd_14 : N_14.Nodup := sc_14.nd
theorem bind_14 : Bnd "_law_passed" (top 16) ps_14 := fun _ _ _ _ _ _ us hl => match us, hl with | [_, _], _ => rfl
abbrev N_15 : List Str := ["_law_answers_so", "_law_own"]
abbrev ps_15 : List Str := ["_law_answers_so"]
theorem sc_15 : FnScope N_15 ps_15 (defScope (top 17)) := C8.fnScope_by (by decide +kernel)
theorem nd_15 : N_15.Nodup := sc_15.nd
theorem bind_15 : Bnd "_law_left" (top 17) ps_15 := fun _ _ _ _ _ _ us hl => match us, hl with | [_], _ => rfl
abbrev N_16 : List Str := ["_law_tag", "_law_high", "_law_own"]
abbrev ps_16 : List Str := ["_law_tag", "_law_high", "_law_own"]
theorem sc_16 : FnScope N_16 ps_16 (defScope (top 18)) := C8.fnScope_by (by decide +kernel)
theorem nd_16 : N_16.Nodup := sc_16.nd
theorem bind_16 : Bnd "_law_limb" (top 18) ps_16 := fun _ _ _ _ _ _ us hl => match us, hl with | [_, _, _], _ => rfl
abbrev N_17 : List Str := ["_law_pair_so", "_law_far_so", "_law_size_so", "_law_low", "_law_wide", "_law_rest_so", "_law_own", "_law_its", "_law_limbs"]
abbrev ps_17 : List Str := ["_law_pair_so", "_law_far_so", "_law_size_so"]
theorem sc_17 : FnScope N_17 ps_17 (defScope (top 19)) := C8.fnScope_by (by decide +kernel)
theorem nd_17 : N_17.Nodup := sc_17.nd
theorem bind_17 : Bnd "_law_joint" (top 19) ps_17 := fun _ _ _ _ _ _ us hl => match us, hl with | [_, _, _], _ => rfl
abbrev N_18 : List Str := ["_law_pair_so", "_law_far_so", "_law_rows", "_law_found", "_law_size_so", "_law_plan", "_law_row"]
abbrev ps_18 : List Str := ["_law_pair_so", "_law_far_so", "_law_rows"]
theorem sc_18 : FnScope N_18 ps_18 (defScope (top 20)) := C8.fnScope_by (by decide +kernel)
theorem nd_18 : N_18.Nodup := sc_18.nd
theorem bind_18 : Bnd "_law_fitting" (top 20) ps_18 := fun _ _ _ _ _ _ us hl => match us, hl with | [_, _, _], _ => rfl
abbrev N_19 : List Str := ["_law_pair_so", "_law_far_so", "_law_left_so", "_law_plans", "_law_found", "_law_k", "_law_j", "_law_size_so", "_law_plan"]
abbrev ps_19 : List Str := ["_law_pair_so", "_law_far_so", "_law_left_so"]
theorem sc_19 : FnScope N_19 ps_19 (defScope (top 21)) := C8.fnScope_by (by decide +kernel)
theorem nd_19 : N_19.Nodup := sc_19.nd
theorem bind_19 : Bnd "_law_ask" (top 21) ps_19 := fun _ _ _ _ _ _ us hl => match us, hl with | [_, _, _], _ => rfl
abbrev N_20 : List Str := ["_law_got", "_law_due", "_law_told"]
abbrev ps_20 : List Str := []
theorem sc_20 : FnScope N_20 ps_20 (defScope (top 22)) := C8.fnScope_by (by decide +kernel)
theorem nd_20 : N_20.Nodup := sc_20.nd
theorem bind_20 : Bnd "_law_by_hand_right" (top 22) ps_20 := fun _ _ _ _ _ _ us hl => match us, hl with | [], _ => rfl
abbrev N_21 : List Str := ["_law_box_here", "_law_size_so", "_law_pair_so", "_law_far_so", "_law_rest_so", "_law_low", "_law_wide", "_law_plan", "_law_rows", "_law_turn", "_law_k", "_law_j", "_law_left_so", "_law_soft", "_law_due", "_law_got"]
abbrev ps_21 : List Str := ["_law_box_here"]
theorem sc_21 : FnScope N_21 ps_21 (defScope (top 23)) := C8.fnScope_by (by decide +kernel)
theorem nd_21 : N_21.Nodup := sc_21.nd
theorem bind_21 : Bnd "_law_case_right" (top 23) ps_21 := fun _ _ _ _ _ _ us hl => match us, hl with | [_], _ => rfl
abbrev N_22 : List Str := ["_law_box_here", "_law_turn"]
abbrev ps_22 : List Str := ["_law_box_here"]
theorem sc_22 : FnScope N_22 ps_22 (defScope (top 24)) := C8.fnScope_by (by decide +kernel)
theorem nd_22 : N_22.Nodup := sc_22.nd
theorem bind_22 : Bnd "_law_right" (top 24) ps_22 := fun _ _ _ _ _ _ us hl => match us, hl with | [_], _ => rfl
abbrev N_23 : List Str := ["_law_script", "_law_cells_here", "_law_k"]
abbrev ps_23 : List Str := ["_law_script"]
theorem sc_23 : FnScope N_23 ps_23 (defScope (top 25)) := C8.fnScope_by (by decide +kernel)
theorem nd_23 : N_23.Nodup := sc_23.nd
theorem bind_23 : Bnd "law" (top 25) ps_23 := fun _ _ _ _ _ _ us hl => match us, hl with | [_], _ => rfl
theorem bindk_3_1_2_0 : BndK "mets_left" (top 4) ps_3 ["other", "seen", "one"] [2, 0, 1] := fun _ _ _ _ _ _ ws hl => match ws, hl with | [_, _, _], _ => rfl
theorem bindk_3_2_1_0 : BndK "mets_left" (top 4) ps_3 ["seen", "other", "one"] [2, 1, 0] := fun _ _ _ _ _ _ ws hl => match ws, hl with | [_, _, _], _ => rfl
theorem bindk_5_2_1_0 : BndK "met_ask" (top 6) ps_5 ["seen", "other", "one"] [2, 1, 0] := fun _ _ _ _ _ _ ws hl => match ws, hl with | [_, _, _], _ => rfl
structure Calls (P : Program) (w : World) (K : PySem.W.Frag) (mg : Str → Option Value) (base : Heap) (k : Nat) (c : FT) : Prop where
  c0 : Cal P w K mg base k "greatest_left" (top 1) [] ps_0 (c 0)
  c1 : Cal P w K mg base k "fits_two" (top 2) [] ps_1 (c 1)
  c2 : Cal P w K mg base k "out_of_two" (top 3) [] ps_2 (c 2)
  c3 : Cal P w K mg base k "mets_left" (top 4) [] ps_3 (c 3)
  c4 : Cal P w K mg base k "ask_for" (top 5) [] ps_4 (c 4)
  c5 : Cal P w K mg base k "met_ask" (top 6) [] ps_5 (c 5)
  c6 : Cal P w K mg base k "_law_box" (top 8) [] ps_6 (c 6)
  c7 : Cal P w K mg base k "_law_take" (top 9) [] ps_7 (c 7)
  c8 : Cal P w K mg base k "_law_cells" (top 10) [] ps_8 (c 8)
  c9 : Cal P w K mg base k "_law_of" (top 11) [] ps_9 (c 9)
  c10 : Cal P w K mg base k "_law_pick" (top 12) [] ps_10 (c 10)
  c11 : Cal P w K mg base k "_law_lists" (top 13) [] ps_11 (c 11)
  c12 : Cal P w K mg base k "_law_same" (top 14) [] ps_12 (c 12)
  c13 : Cal P w K mg base k "_law_out" (top 15) [] ps_13 (c 13)
  c14 : Cal P w K mg base k "_law_passed" (top 16) [] ps_14 (c 14)
  c15 : Cal P w K mg base k "_law_left" (top 17) [] ps_15 (c 15)
  c16 : Cal P w K mg base k "_law_limb" (top 18) [] ps_16 (c 16)
  c17 : Cal P w K mg base k "_law_joint" (top 19) [] ps_17 (c 17)
  c18 : Cal P w K mg base k "_law_fitting" (top 20) [] ps_18 (c 18)
  c19 : Cal P w K mg base k "_law_ask" (top 21) [] ps_19 (c 19)
  c20 : Cal P w K mg base k "_law_by_hand_right" (top 22) [] ps_20 (c 20)
  c21 : Cal P w K mg base k "_law_case_right" (top 23) [] ps_21 (c 21)
  c22 : Cal P w K mg base k "_law_right" (top 24) [] ps_22 (c 22)
  c23 : Cal P w K mg base k "law" (top 25) [] ps_23 (c 23)
section
variable {P : Program} {w : World} {K : PySem.W.Frag} {mg : Str → Option Value} {base : Heap} {k : Nat} {c : FT}
theorem body_0 (G : Glo mg) (C : Calls P w K mg base k c) (f : Addr) (cdv : Value) (A : Around) (outer : List PySem.Env) (s : Shared) (H : Hp) (E : XK) (hr : Room k (A.deeper (envOfC "greatest_left" (defScope (top 1)) s.heap.objs.size f cdv))) :
    PSs (cxOf CX0 P w K mg base N_0 "greatest_left" (defScope (top 1)) f cdv A outer s H E).nox (defBody (top 1)) (tSv K XF [] (sv_0 c)) := by
  have hu := hr.units
  have hu1 := room1 hr
  exact (ss_cons (s_set 1 nd_0 e_dk (by kernel_rfl) (.inl (by kernel_rfl)) rfl (.inl rfl))
  (ss_cons (s_for PassesOwn.never rfl (i_seq (e_var 0 (by kernel_rfl) (.inl (by kernel_rfl)) (by kernel_rfl) (by kernel_rfl))) (g_name 2 nd_0 (by kernel_rfl) (.inl (by kernel_rfl)) (.inr (by kernel_rfl)))
  (ss_one (s_setIS hu1 (e_bin o_add (e_get2 hu1 (e_var 1 (by kernel_rfl) (.inl (by kernel_rfl)) (by kernel_rfl) (by kernel_rfl)) (e_var 2 (by kernel_rfl) (.inl (by kernel_rfl)) (by kernel_rfl) (by kernel_rfl)) e_int ⟨rfl, rfl, rfl, rfl⟩) e_int) (e_var 1 (by kernel_rfl) (.inl (by kernel_rfl)) (by kernel_rfl) (by kernel_rfl)) (s_var 2 (by kernel_rfl) (.inl (by kernel_rfl)) (by kernel_rfl) (by kernel_rfl)))))
  (ss_one (s_ret (e_maxV rfl (gl_of (by kernel_rfl)) G.g_max (e_var 1 (by kernel_rfl) (.inl (by kernel_rfl)) (by kernel_rfl) (by kernel_rfl)))))))
theorem body_1 (G : Glo mg) (C : Calls P w K mg base k c) (f : Addr) (cdv : Value) (A : Around) (outer : List PySem.Env) (s : Shared) (H : Hp) (E : XK) (hr : Room k (A.deeper (envOfC "fits_two" (defScope (top 2)) s.heap.objs.size f cdv))) :
    PSs (cxOf CX0 P w K mg base N_1 "fits_two" (defScope (top 2)) f cdv A outer s H E).nox (defBody (top 2)) (tSv K XF [] (sv_1 c)) := by
  have hu := hr.units
  have hu1 := room1 hr
  exact (ss_cons (s_if (L2.PW.pt (t_or (t_cmp (c_ne hu) (e_bin o_mod (e_subS (e_var 0 (by kernel_rfl) (.inl (by kernel_rfl)) (by kernel_rfl) (by kernel_rfl)) s_int) (e_var 2 (by kernel_rfl) (.inl (by kernel_rfl)) (by kernel_rfl) (by kernel_rfl))) e_int) (t_or1 (t_cmp (c_ne hu) (e_bin o_mod (e_subS (e_var 1 (by kernel_rfl) (.inl (by kernel_rfl)) (by kernel_rfl) (by kernel_rfl)) s_int) (e_var 2 (by kernel_rfl) (.inl (by kernel_rfl)) (by kernel_rfl) (by kernel_rfl))) e_int))))
  (ss_one (s_ret e_bl))
  ss_nil)
  (ss_one (s_ret (e_cmp (c_eq hu) (e_bin o_div (e_subS (e_var 0 (by kernel_rfl) (.inl (by kernel_rfl)) (by kernel_rfl) (by kernel_rfl)) s_int) (e_bin o_div (e_subS (e_var 0 (by kernel_rfl) (.inl (by kernel_rfl)) (by kernel_rfl) (by kernel_rfl)) s_int) (e_var 2 (by kernel_rfl) (.inl (by kernel_rfl)) (by kernel_rfl) (by kernel_rfl)))) (e_bin o_div (e_subS (e_var 1 (by kernel_rfl) (.inl (by kernel_rfl)) (by kernel_rfl) (by kernel_rfl)) s_int) (e_bin o_div (e_subS (e_var 1 (by kernel_rfl) (.inl (by kernel_rfl)) (by kernel_rfl) (by kernel_rfl)) s_int) (e_var 2 (by kernel_rfl) (.inl (by kernel_rfl)) (by kernel_rfl) (by kernel_rfl))))))))
theorem body_2 (G : Glo mg) (C : Calls P w K mg base k c) (f : Addr) (cdv : Value) (A : Around) (outer : List PySem.Env) (s : Shared) (H : Hp) (E : XK) (hr : Room k (A.deeper (envOfC "out_of_two" (defScope (top 3)) s.heap.objs.size f cdv))) :
    PSs (cxOf CX0 P w K mg base N_2 "out_of_two" (defScope (top 3)) f cdv A outer s H E).nox (defBody (top 3)) (tSv K XF [] (sv_2 c)) := by
  have hu := hr.units
  have hu1 := room1 hr
  exact (ss_cons (s_par2 5 6 rfl nd_2 (a2 (e_bin o_div (e_subS (e_var 0 (by kernel_rfl) (.inl (by kernel_rfl)) (by kernel_rfl) (by kernel_rfl)) s_int) (e_var 2 (by kernel_rfl) (.inl (by kernel_rfl)) (by kernel_rfl) (by kernel_rfl))) (a1 (e_bin o_div (e_subS (e_var 1 (by kernel_rfl) (.inl (by kernel_rfl)) (by kernel_rfl) (by kernel_rfl)) s_int) (e_var 2 (by kernel_rfl) (.inl (by kernel_rfl)) (by kernel_rfl) (by kernel_rfl))))) (by kernel_rfl) (by kernel_rfl) (by decide) (by kernel_rfl) (by kernel_rfl) (by kernel_rfl))
  (ss_cons (s_set 7 nd_2 (e_bin o_div (e_subS (e_var 0 (by kernel_rfl) (.inl (by kernel_rfl)) (by kernel_rfl) (by kernel_rfl)) s_int) (e_var 5 (by kernel_rfl) (.inl (by kernel_rfl)) (by kernel_rfl) (by kernel_rfl))) (by kernel_rfl) (.inl (by kernel_rfl)) rfl (.inl rfl))
  (ss_one (s_ret (e_bin o_div (e_bin o_add (e_bin o_add (e_var 7 (by kernel_rfl) (.inl (by kernel_rfl)) (by kernel_rfl) (by kernel_rfl)) (e_bin o_div (e_bin o_add (e_bin o_mod (e_subS (e_var 0 (by kernel_rfl) (.inl (by kernel_rfl)) (by kernel_rfl) (by kernel_rfl)) s_int) (e_var 5 (by kernel_rfl) (.inl (by kernel_rfl)) (by kernel_rfl) (by kernel_rfl))) (e_var 3 (by kernel_rfl) (.inl (by kernel_rfl)) (by kernel_rfl) (by kernel_rfl))) (e_var 5 (by kernel_rfl) (.inl (by kernel_rfl)) (by kernel_rfl) (by kernel_rfl)))) (e_bin o_div (e_bin o_add (e_bin o_mod (e_subS (e_var 1 (by kernel_rfl) (.inl (by kernel_rfl)) (by kernel_rfl) (by kernel_rfl)) s_int) (e_var 6 (by kernel_rfl) (.inl (by kernel_rfl)) (by kernel_rfl) (by kernel_rfl))) (e_var 4 (by kernel_rfl) (.inl (by kernel_rfl)) (by kernel_rfl) (by kernel_rfl))) (e_var 6 (by kernel_rfl) (.inl (by kernel_rfl)) (by kernel_rfl) (by kernel_rfl)))) (e_var 2 (by kernel_rfl) (.inl (by kernel_rfl)) (by kernel_rfl) (by kernel_rfl)))))))
theorem body_3 (G : Glo mg) (C : Calls P w K mg base k c) (f : Addr) (cdv : Value) (A : Around) (outer : List PySem.Env) (s : Shared) (H : Hp) (E : XK) (hr : Room k (A.deeper (envOfC "mets_left" (defScope (top 4)) s.heap.objs.size f cdv))) :
    PSs (cxOf CX0 P w K mg base N_3 "mets_left" (defScope (top 4)) f cdv A outer s H E).nox (defBody (top 4)) (tSv K XF [] (sv_3 c)) := by
  have hu := hr.units
  have hu1 := room1 hr
  exact (ss_cons (s_setLc 3 rfl nd_3 (own := [("number", 7)]) (blkOk_by (by kernel_rfl)) (i_rng2 (gl_of (by kernel_rfl)) G.g_range (a2 e_int (a1 (e_bin o_add (e_callB (b_min2 rfl) (gl_of (by kernel_rfl)) G.g_min boot_min (a2 (e_subS (e_var 0 (by kernel_rfl) (.inr (.inl (by kernel_rfl))) (by kernel_rfl) (by kernel_rfl)) s_int) (a1 (e_subS (e_var 1 (by kernel_rfl) (.inr (.inl (by kernel_rfl))) (by kernel_rfl) (by kernel_rfl)) s_int)))) e_int)))) (fun _ _ _ _ _ => (g_name 7 nd_3 (by kernel_rfl) (.inl (by kernel_rfl)) (.inr (by kernel_rfl)))) (fun _ _ _ _ _ => (ts_one (t_tru (e_c C.c1 bind_1 hr (gl_of (by kernel_rfl)) (a2 (e_var 0 (by kernel_rfl) (.inr (.inl (by kernel_rfl))) (by kernel_rfl) (by kernel_rfl)) (a2 (e_var 1 (by kernel_rfl) (.inr (.inl (by kernel_rfl))) (by kernel_rfl) (by kernel_rfl)) (a1 (e_var 7 (by kernel_rfl) (.inl (by kernel_rfl)) (by kernel_rfl) (by kernel_rfl))))))))) (fun _ _ _ _ _ => (e_var 7 (by kernel_rfl) (.inl (by kernel_rfl)) (by kernel_rfl) (by kernel_rfl))) (L2.sw_true (by kernel_rfl) (by kernel_rfl) (by kernel_rfl) (by kernel_rfl)) (by kernel_rfl) (by kernel_rfl))
  (ss_cons (s_for PassesOwn.never rfl (i_seq (e_var 2 (by kernel_rfl) (.inl (by kernel_rfl)) (by kernel_rfl) (by kernel_rfl))) (g_tp rfl (gs_cons (g_name 4 nd_3 (by kernel_rfl) (.inr (by kernel_rfl)) (.inl (by kernel_rfl))) (gs_cons (g_name 5 nd_3 (by kernel_rfl) (.inr (by kernel_rfl)) (.inl (by kernel_rfl))) (gs_cons (g_name 6 nd_3 (by kernel_rfl) (.inr (by kernel_rfl)) (.inl (by kernel_rfl))) gs_nil))) rfl)
  (ss_one (s_setLc 3 rfl nd_3 (own := [("number", 7)]) (blkOk_by (by kernel_rfl)) (i_seq (e_mv 3 (by kernel_rfl) (.inl (by kernel_rfl)) (by kernel_rfl) (by kernel_rfl))) (fun _ _ _ _ _ => (g_name 7 nd_3 (by kernel_rfl) (.inl (by kernel_rfl)) (.inr (by kernel_rfl)))) (fun _ _ _ _ _ => (ts_one (t_cmp (c_eq hu) (e_c C.c2 bind_2 hr (gl_of (by kernel_rfl)) (a2 (e_var 0 (by kernel_rfl) (.inr (.inl (by kernel_rfl))) (by kernel_rfl) (by kernel_rfl)) (a2 (e_var 1 (by kernel_rfl) (.inr (.inl (by kernel_rfl))) (by kernel_rfl) (by kernel_rfl)) (a2 (e_var 7 (by kernel_rfl) (.inl (by kernel_rfl)) (by kernel_rfl) (by kernel_rfl)) (a2 (e_var 4 (by kernel_rfl) (.inr (.inl (by kernel_rfl))) (by kernel_rfl) (by kernel_rfl)) (a1 (e_var 5 (by kernel_rfl) (.inr (.inl (by kernel_rfl))) (by kernel_rfl) (by kernel_rfl)))))))) (e_var 6 (by kernel_rfl) (.inr (.inl (by kernel_rfl))) (by kernel_rfl) (by kernel_rfl))))) (fun _ _ _ _ _ => (e_var 7 (by kernel_rfl) (.inl (by kernel_rfl)) (by kernel_rfl) (by kernel_rfl))) (L2.sw_true (by kernel_rfl) (by kernel_rfl) (by kernel_rfl) (by kernel_rfl)) (by kernel_rfl) (by kernel_rfl))))
  (ss_one (s_ret (e_mv 3 (by kernel_rfl) (.inl (by kernel_rfl)) (by kernel_rfl) (by kernel_rfl))))))
theorem body_4 (G : Glo mg) (C : Calls P w K mg base k c) (f : Addr) (cdv : Value) (A : Around) (outer : List PySem.Env) (s : Shared) (H : Hp) (E : XK) (hr : Room k (A.deeper (envOfC "ask_for" (defScope (top 5)) s.heap.objs.size f cdv))) :
    PSs (cxOf CX0 P w K mg base N_4 "ask_for" (defScope (top 5)) f cdv A outer s H E).nox (defBody (top 5)) (tSv K XF [] (sv_4 c)) := by
  have hu := hr.units
  have hu1 := room1 hr
  exact (ss_cons (s_if (t_cmp c_lt (e_callBR b_len (gl_of (by kernel_rfl)) G.g_len boot_len (a1 (e_var 2 (by kernel_rfl) (.inl (by kernel_rfl)) (by kernel_rfl) (by kernel_rfl)))) e_int)
  (ss_one (s_ret e_non))
  ss_nil)
  (ss_cons (s_set 3 nd_4 (e_lst a0) (by kernel_rfl) (.inl (by kernel_rfl)) rfl (.inl rfl))
  (ss_cons (s_for PassesOwn.never rfl (i_rng2 (gl_of (by kernel_rfl)) G.g_range (a2 e_int (a1 (e_bin o_add (e_subS (e_var 0 (by kernel_rfl) (.inr (.inl (by kernel_rfl))) (by kernel_rfl) (by kernel_rfl)) s_int) e_int)))) (g_name 4 nd_4 (by kernel_rfl) (.inr (by kernel_rfl)) (.inl (by kernel_rfl)))
  (ss_one (s_for PassesOwn.never rfl (i_rng2 (gl_of (by kernel_rfl)) G.g_range (a2 e_int (a1 (e_bin o_add (e_subS (e_var 1 (by kernel_rfl) (.inr (.inl (by kernel_rfl))) (by kernel_rfl) (by kernel_rfl)) s_int) e_int)))) (g_name 5 nd_4 (by kernel_rfl) (.inr (by kernel_rfl)) (.inl (by kernel_rfl)))
  (ss_cons (s_setLcZ 6 rfl nd_4 (own := [("number", 7)]) (blkOk_by (by kernel_rfl)) (i_seq (e_var 2 (by kernel_rfl) (.inl (by kernel_rfl)) (by kernel_rfl) (by kernel_rfl))) (fun _ _ _ _ _ => (g_name 7 nd_4 (by kernel_rfl) (.inl (by kernel_rfl)) (.inr (by kernel_rfl)))) (fun _ _ _ _ _ => ts_nil) (fun _ _ _ _ _ => (e_c C.c2 bind_2 hr (gl_of (by kernel_rfl)) (a2 (e_var 0 (by kernel_rfl) (.inr (.inl (by kernel_rfl))) (by kernel_rfl) (by kernel_rfl)) (a2 (e_var 1 (by kernel_rfl) (.inr (.inl (by kernel_rfl))) (by kernel_rfl) (by kernel_rfl)) (a2 (e_var 7 (by kernel_rfl) (.inl (by kernel_rfl)) (by kernel_rfl) (by kernel_rfl)) (a2 (e_var 4 (by kernel_rfl) (.inr (.inl (by kernel_rfl))) (by kernel_rfl) (by kernel_rfl)) (a1 (e_var 5 (by kernel_rfl) (.inr (.inl (by kernel_rfl))) (by kernel_rfl) (by kernel_rfl))))))))) (L2.sw_true (by kernel_rfl) (by kernel_rfl) (by kernel_rfl) (by kernel_rfl)) (by kernel_rfl) (by kernel_rfl))
  (ss_one (s_ex (e_append mV_rooty (e_var 3 (by kernel_rfl) (.inl (by kernel_rfl)) (by kernel_rfl) (by kernel_rfl)) (a1 (e_tup (a2 (e_c C.c0 bind_0 hr (gl_of (by kernel_rfl)) (a1 (e_var 6 (by kernel_rfl) (.inl (by kernel_rfl)) (by kernel_rfl) (by kernel_rfl)))) (a2 (e_bin o_add (e_var 4 (by kernel_rfl) (.inr (.inl (by kernel_rfl))) (by kernel_rfl) (by kernel_rfl)) (e_var 5 (by kernel_rfl) (.inr (.inl (by kernel_rfl))) (by kernel_rfl) (by kernel_rfl))) (a1 (e_tup (a2 (e_var 4 (by kernel_rfl) (.inr (.inl (by kernel_rfl))) (by kernel_rfl) (by kernel_rfl)) (a1 (e_var 5 (by kernel_rfl) (.inr (.inl (by kernel_rfl))) (by kernel_rfl) (by kernel_rfl)))))))))))))))))
  (ss_one (s_ret (e_subS (e_callB (b_min rfl hu) (gl_of (by kernel_rfl)) G.g_min boot_min (a1 (e_var 3 (by kernel_rfl) (.inl (by kernel_rfl)) (by kernel_rfl) (by kernel_rfl)))) s_int))))))
theorem body_5 (G : Glo mg) (C : Calls P w K mg base k c) (f : Addr) (cdv : Value) (A : Around) (outer : List PySem.Env) (s : Shared) (H : Hp) (E : XK) (hr : Room k (A.deeper (envOfC "met_ask" (defScope (top 6)) s.heap.objs.size f cdv))) :
    PSs (cxOf CX0 P w K mg base N_5 "met_ask" (defScope (top 6)) f cdv A outer s H E).nox (defBody (top 6)) (tSv K XF [] (sv_5 c)) := by
  have hu := hr.units
  have hu1 := room1 hr
  exact (ss_one (s_ret (e_c C.c4 bind_4 hr (gl_of (by kernel_rfl)) (a2 (e_var 0 (by kernel_rfl) (.inl (by kernel_rfl)) (by kernel_rfl) (by kernel_rfl)) (a2 (e_var 1 (by kernel_rfl) (.inl (by kernel_rfl)) (by kernel_rfl) (by kernel_rfl)) (a1 (e_z (e_c C.c3 bind_3 hr (gl_of (by kernel_rfl)) (a2 (e_var 0 (by kernel_rfl) (.inl (by kernel_rfl)) (by kernel_rfl) (by kernel_rfl)) (a2 (e_var 1 (by kernel_rfl) (.inl (by kernel_rfl)) (by kernel_rfl) (by kernel_rfl)) (a1 (e_var 2 (by kernel_rfl) (.inl (by kernel_rfl)) (by kernel_rfl) (by kernel_rfl)))))))))))))
theorem body_6 (G : Glo mg) (C : Calls P w K mg base k c) (f : Addr) (cdv : Value) (A : Around) (outer : List PySem.Env) (s : Shared) (H : Hp) (E : XK) (hr : Room k (A.deeper (envOfC "_law_box" (defScope (top 8)) s.heap.objs.size f cdv))) :
    PSs (cxOf CX0 P w K mg base N_6 "_law_box" (defScope (top 8)) f cdv A outer s H E).nox (defBody (top 8)) (tSv K XF [] (sv_6 c)) := by
  have hu := hr.units
  have hu1 := room1 hr
  exact (ss_cons (s_set 2 nd_6 (e_if (t_cmp c_lt (e_var 1 (by kernel_rfl) (.inl (by kernel_rfl)) (by kernel_rfl) (by kernel_rfl)) (e_callBR b_len (gl_of (by kernel_rfl)) G.g_len boot_len (a1 (e_var 0 (by kernel_rfl) (.inl (by kernel_rfl)) (by kernel_rfl) (by kernel_rfl))))) (e_subS (e_var 0 (by kernel_rfl) (.inl (by kernel_rfl)) (by kernel_rfl) (by kernel_rfl)) (s_var 1 (by kernel_rfl) (.inl (by kernel_rfl)) (by kernel_rfl) (by kernel_rfl))) e_int) (by kernel_rfl) (.inl (by kernel_rfl)) rfl (.inl rfl))
  (ss_one (s_ret (e_lst (a2 (e_bin o_mul (e_callB b_abs (gl_of (by kernel_rfl)) G.g_abs boot_abs (a1 (e_var 2 (by kernel_rfl) (.inl (by kernel_rfl)) (by kernel_rfl) (by kernel_rfl)))) (e_callTy b_int (gl_of (by kernel_rfl)) G.g_int boot_int (a1 (e_cmp c_ge (e_callB b_abs (gl_of (by kernel_rfl)) G.g_abs boot_abs (a1 (e_var 2 (by kernel_rfl) (.inl (by kernel_rfl)) (by kernel_rfl) (by kernel_rfl)))) (e_bin o_pow e_int e_int))))) (a2 (e_bin o_add (e_bin o_add (e_bin o_mod (e_callTy b_int (gl_of (by kernel_rfl)) G.g_int boot_int (a1 (e_var 2 (by kernel_rfl) (.inl (by kernel_rfl)) (by kernel_rfl) (by kernel_rfl)))) e_int) (e_bin o_mul e_int (e_var 1 (by kernel_rfl) (.inl (by kernel_rfl)) (by kernel_rfl) (by kernel_rfl)))) e_int) (a1 e_int)))))))
theorem body_7 (G : Glo mg) (C : Calls P w K mg base k c) (f : Addr) (cdv : Value) (A : Around) (outer : List PySem.Env) (s : Shared) (H : Hp) (E : XK) (hr : Room k (A.deeper (envOfC "_law_take" (defScope (top 9)) s.heap.objs.size f cdv))) :
    PSs (cxOf CX0 P w K mg base N_7 "_law_take" (defScope (top 9)) f cdv A outer s H E).nox (defBody (top 9)) (tSv K XF [0] (sv_7 c)) := by
  have hu := hr.units
  have hu1 := room1 hr
  exact (ss_cons (s_if (t_cmp c_gt (e_subS (e_var 0 (by kernel_rfl) (.inl (by kernel_rfl)) (by kernel_rfl) (by kernel_rfl)) s_int) e_int)
  (ss_cons (s_set 2 nd_7 (e_bin o_mod (e_callTy b_int (gl_of (by kernel_rfl)) G.g_int boot_int (a1 (e_subS (e_var 0 (by kernel_rfl) (.inl (by kernel_rfl)) (by kernel_rfl) (by kernel_rfl)) s_int))) (e_var 1 (by kernel_rfl) (.inl (by kernel_rfl)) (by kernel_rfl) (by kernel_rfl))) (by kernel_rfl) (.inl (by kernel_rfl)) rfl (.inl rfl))
  (ss_cons (s_setIS hu1 (e_bin o_div (e_subS (e_var 0 (by kernel_rfl) (.inl (by kernel_rfl)) (by kernel_rfl) (by kernel_rfl)) s_int) (e_var 1 (by kernel_rfl) (.inl (by kernel_rfl)) (by kernel_rfl) (by kernel_rfl))) (e_var 0 (by kernel_rfl) (.inl (by kernel_rfl)) (by kernel_rfl) (by kernel_rfl)) s_int)
  (ss_one (s_ret (e_var 2 (by kernel_rfl) (.inl (by kernel_rfl)) (by kernel_rfl) (by kernel_rfl))))))
  ss_nil)
  (ss_cons (s_setIS hu1 (e_bin o_add (e_subS (e_var 0 (by kernel_rfl) (.inl (by kernel_rfl)) (by kernel_rfl) (by kernel_rfl)) s_int) e_int) (e_var 0 (by kernel_rfl) (.inl (by kernel_rfl)) (by kernel_rfl) (by kernel_rfl)) s_int)
  (ss_cons (s_set 3 nd_7 (e_bin o_mod (e_callTy b_int (gl_of (by kernel_rfl)) G.g_int boot_int (a1 (e_bin o_mul (e_bin o_add (e_subS (e_var 0 (by kernel_rfl) (.inl (by kernel_rfl)) (by kernel_rfl) (by kernel_rfl)) s_int) (e_bin o_mul e_int (e_subS (e_var 0 (by kernel_rfl) (.inl (by kernel_rfl)) (by kernel_rfl) (by kernel_rfl)) s_int))) (e_bin o_add e_int (e_subS (e_var 0 (by kernel_rfl) (.inl (by kernel_rfl)) (by kernel_rfl) (by kernel_rfl)) s_int))))) e_int) (by kernel_rfl) (.inl (by kernel_rfl)) rfl (.inl rfl))
  (ss_cons (s_set 4 nd_7 (e_bin o_add (e_bin o_mod (e_callTy b_int (gl_of (by kernel_rfl)) G.g_int boot_int (a1 (e_var 3 (by kernel_rfl) (.inl (by kernel_rfl)) (by kernel_rfl) (by kernel_rfl)))) e_int) e_int) (by kernel_rfl) (.inl (by kernel_rfl)) rfl (.inl rfl))
  (ss_cons (s_set 5 nd_7 (e_bin o_mod (e_callTy b_int (gl_of (by kernel_rfl)) G.g_int boot_int (a1 (e_bin o_mul (e_bin o_add (e_bin o_add (e_var 3 (by kernel_rfl) (.inl (by kernel_rfl)) (by kernel_rfl) (by kernel_rfl)) (e_subS (e_var 0 (by kernel_rfl) (.inl (by kernel_rfl)) (by kernel_rfl) (by kernel_rfl)) s_int)) (e_bin o_div (e_subS (e_var 0 (by kernel_rfl) (.inl (by kernel_rfl)) (by kernel_rfl) (by kernel_rfl)) s_int) e_int)) (e_var 4 (by kernel_rfl) (.inl (by kernel_rfl)) (by kernel_rfl) (by kernel_rfl))))) e_int) (by kernel_rfl) (.inl (by kernel_rfl)) rfl (.inl rfl))
  (ss_one (s_ret (e_bin o_mod (e_callTy b_int (gl_of (by kernel_rfl)) G.g_int boot_int (a1 (e_bin o_div (e_bin o_mod (e_callTy b_int (gl_of (by kernel_rfl)) G.g_int boot_int (a1 (e_bin o_add (e_bin o_mul (e_var 5 (by kernel_rfl) (.inl (by kernel_rfl)) (by kernel_rfl) (by kernel_rfl)) e_int) (e_var 3 (by kernel_rfl) (.inl (by kernel_rfl)) (by kernel_rfl) (by kernel_rfl))))) e_int) e_int))) (e_var 1 (by kernel_rfl) (.inl (by kernel_rfl)) (by kernel_rfl) (by kernel_rfl))))))))))
theorem body_8 (G : Glo mg) (C : Calls P w K mg base k c) (f : Addr) (cdv : Value) (A : Around) (outer : List PySem.Env) (s : Shared) (H : Hp) (E : XK) (hr : Room k (A.deeper (envOfC "_law_cells" (defScope (top 10)) s.heap.objs.size f cdv))) :
    PSs (cxOf CX0 P w K mg base N_8 "_law_cells" (defScope (top 10)) f cdv A outer s H E).nox (defBody (top 10)) (tSv K XF [] (sv_8 c)) := by
  have hu := hr.units
  have hu1 := room1 hr
  exact (ss_cons (s_set 2 nd_8 (e_or (e_callTy b_list (gl_of (by kernel_rfl)) G.g_list boot_list (a1 (e_slice (e_var 0 (by kernel_rfl) (.inl (by kernel_rfl)) (by kernel_rfl) (by kernel_rfl)) o_none (o_some (e_var 1 (by kernel_rfl) (.inl (by kernel_rfl)) (by kernel_rfl) (by kernel_rfl)))))) (e_one (e_lst (a1 e_int)))) (by kernel_rfl) (.inl (by kernel_rfl)) rfl (.inl rfl))
  (ss_cons (s_for PassesOwn.never rfl (i_enum (gl_of (by kernel_rfl)) G.g_enumerate (e_slice (e_var 0 (by kernel_rfl) (.inl (by kernel_rfl)) (by kernel_rfl) (by kernel_rfl)) (o_some (e_var 1 (by kernel_rfl) (.inl (by kernel_rfl)) (by kernel_rfl) (by kernel_rfl))) (o_some e_int))) (g_tp rfl (gs_cons (g_name 3 nd_8 (by kernel_rfl) (.inl (by kernel_rfl)) (.inr (by kernel_rfl))) (gs_cons (g_name 4 nd_8 (by kernel_rfl) (.inl (by kernel_rfl)) (.inr (by kernel_rfl))) gs_nil)) rfl)
  (ss_cons (s_set 5 nd_8 (e_bin o_mod (e_callTy b_int (gl_of (by kernel_rfl)) G.g_int boot_int (a1 (e_var 3 (by kernel_rfl) (.inl (by kernel_rfl)) (by kernel_rfl) (by kernel_rfl)))) (e_var 1 (by kernel_rfl) (.inl (by kernel_rfl)) (by kernel_rfl) (by kernel_rfl))) (by kernel_rfl) (.inl (by kernel_rfl)) rfl (.inl rfl))
  (ss_one (s_setIS hu1 (e_bin o_add (e_subS (e_var 2 (by kernel_rfl) (.inl (by kernel_rfl)) (by kernel_rfl) (by kernel_rfl)) (s_var 5 (by kernel_rfl) (.inl (by kernel_rfl)) (by kernel_rfl) (by kernel_rfl))) (e_bin o_mul (e_var 4 (by kernel_rfl) (.inl (by kernel_rfl)) (by kernel_rfl) (by kernel_rfl)) (e_bin o_add (e_var 3 (by kernel_rfl) (.inl (by kernel_rfl)) (by kernel_rfl) (by kernel_rfl)) e_int))) (e_var 2 (by kernel_rfl) (.inl (by kernel_rfl)) (by kernel_rfl) (by kernel_rfl)) (s_var 5 (by kernel_rfl) (.inl (by kernel_rfl)) (by kernel_rfl) (by kernel_rfl))))))
  (ss_one (s_ret (e_mv 2 (by kernel_rfl) (.inl (by kernel_rfl)) (by kernel_rfl) (by kernel_rfl))))))
theorem body_9 (G : Glo mg) (C : Calls P w K mg base k c) (f : Addr) (cdv : Value) (A : Around) (outer : List PySem.Env) (s : Shared) (H : Hp) (E : XK) (hr : Room k (A.deeper (envOfC "_law_of" (defScope (top 11)) s.heap.objs.size f cdv))) :
    PSs (cxOf CX0 P w K mg base N_9 "_law_of" (defScope (top 11)) f cdv A outer s H E).nox (defBody (top 11)) (tSv K XF [0] (sv_9 c)) := by
  have hu := hr.units
  have hu1 := room1 hr
  exact (ss_one (s_ret (e_sub mV_rooty (e_var 1 (by kernel_rfl) (.inl (by kernel_rfl)) (by kernel_rfl) (by kernel_rfl)) (e_c C.c7 bind_7 hr (gl_of (by kernel_rfl)) (a2 (e_var 0 (by kernel_rfl) (.inl (by kernel_rfl)) (by kernel_rfl) (by kernel_rfl)) (a1 (e_callBR b_len (gl_of (by kernel_rfl)) G.g_len boot_len (a1 (e_var 1 (by kernel_rfl) (.inl (by kernel_rfl)) (by kernel_rfl) (by kernel_rfl))))))))))
theorem body_10 (G : Glo mg) (C : Calls P w K mg base k c) (f : Addr) (cdv : Value) (A : Around) (outer : List PySem.Env) (s : Shared) (H : Hp) (E : XK) (hr : Room k (A.deeper (envOfC "_law_pick" (defScope (top 12)) s.heap.objs.size f cdv))) :
    PSs (cxOf CX0 P w K mg base N_10 "_law_pick" (defScope (top 12)) f cdv A outer s H E).nox (defBody (top 12)) (tSv K XF [0] (sv_10 c)) := by
  have hu := hr.units
  have hu1 := room1 hr
  exact (ss_cons (s_par2 3 4 rfl nd_10 (a2 (e_callTy b_list (gl_of (by kernel_rfl)) G.g_list boot_list (a1 (e_var 1 (by kernel_rfl) (.inl (by kernel_rfl)) (by kernel_rfl) (by kernel_rfl)))) (a1 (e_lst a0))) (by kernel_rfl) (by kernel_rfl) (by decide) (by kernel_rfl) (by kernel_rfl) (by kernel_rfl))
  (ss_cons (s_for PassesOwn.never rfl (i_rng1 (gl_of (by kernel_rfl)) G.g_range (e_callB (b_min2 rfl) (gl_of (by kernel_rfl)) G.g_min boot_min (a2 (e_var 2 (by kernel_rfl) (.inl (by kernel_rfl)) (by kernel_rfl) (by kernel_rfl)) (a1 (e_callBR b_len (gl_of (by kernel_rfl)) G.g_len boot_len (a1 (e_var 3 (by kernel_rfl) (.inl (by kernel_rfl)) (by kernel_rfl) (by kernel_rfl)))))))) (g_name 5 nd_10 (by kernel_rfl) (.inl (by kernel_rfl)) (.inr (by kernel_rfl)))
  (ss_one (s_ex (e_append mV_rooty (e_var 4 (by kernel_rfl) (.inl (by kernel_rfl)) (by kernel_rfl) (by kernel_rfl)) (a1 (e_z (e_popAt mV_rooty (e_var 3 (by kernel_rfl) (.inl (by kernel_rfl)) (by kernel_rfl) (by kernel_rfl)) (a1 (e_c C.c7 bind_7 hr (gl_of (by kernel_rfl)) (a2 (e_var 0 (by kernel_rfl) (.inl (by kernel_rfl)) (by kernel_rfl) (by kernel_rfl)) (a1 (e_callBR b_len (gl_of (by kernel_rfl)) G.g_len boot_len (a1 (e_var 3 (by kernel_rfl) (.inl (by kernel_rfl)) (by kernel_rfl) (by kernel_rfl)))))))))))))))
  (ss_one (s_ret (e_mv 4 (by kernel_rfl) (.inl (by kernel_rfl)) (by kernel_rfl) (by kernel_rfl))))))
theorem body_11 (G : Glo mg) (C : Calls P w K mg base k c) (f : Addr) (cdv : Value) (A : Around) (outer : List PySem.Env) (s : Shared) (H : Hp) (E : XK) (hr : Room k (A.deeper (envOfC "_law_lists" (defScope (top 13)) s.heap.objs.size f cdv))) :
    PSs (cxOf CX0 P w K mg base N_11 "_law_lists" (defScope (top 13)) f cdv A outer s H E).nox (defBody (top 13)) (tSv K XF [] (sv_11 c)) := by
  have hu := hr.units
  have hu1 := room1 hr
  exact (ss_one (s_ret (e_if (t_tru (e_isiT (gl_of (by kernel_rfl)) G.g_isinstance boot_isinstance (e_var 0 (by kernel_rfl) (.inl (by kernel_rfl)) (by kernel_rfl) (by kernel_rfl)) (a_ty2 (tyn (t := .list) (gl_of (by kernel_rfl)) G.g_list boot_list) (a_ty1 (tyn (t := .tuple) (gl_of (by kernel_rfl)) G.g_tuple boot_tuple))))) (e_comp rfl nd_11 (own := [("_law_bit", 1)]) (blkOk_by (by kernel_rfl)) (i_seq (e_var 0 (by kernel_rfl) (.inl (by kernel_rfl)) (by kernel_rfl) (by kernel_rfl))) (fun _ _ _ _ _ => (g_name 1 nd_11 (by kernel_rfl) (.inl (by kernel_rfl)) (.inr (by kernel_rfl)))) (fun _ _ _ _ _ => ts_nil) (fun _ _ _ _ _ => (e_z (e_c C.c11 bind_11 hr (gl_of (by kernel_rfl)) (a1 (e_var 1 (by kernel_rfl) (.inl (by kernel_rfl)) (by kernel_rfl) (by kernel_rfl))))))) (e_var 0 (by kernel_rfl) (.inl (by kernel_rfl)) (by kernel_rfl) (by kernel_rfl)))))
theorem body_12 (G : Glo mg) (C : Calls P w K mg base k c) (f : Addr) (cdv : Value) (A : Around) (outer : List PySem.Env) (s : Shared) (H : Hp) (E : XK) (hr : Room k (A.deeper (envOfC "_law_same" (defScope (top 14)) s.heap.objs.size f cdv))) :
    PSs (cxOf CX0 P w K mg base N_12 "_law_same" (defScope (top 14)) f cdv A outer s H E).nox (defBody (top 14)) (tSv K XF [] (sv_12 c)) := by
  have hu := hr.units
  have hu1 := room1 hr
  exact (ss_cons (s_if (t_tru (e_isiT (gl_of (by kernel_rfl)) G.g_isinstance boot_isinstance (e_var 1 (by kernel_rfl) (.inr (.inl (by kernel_rfl))) (by kernel_rfl) (by kernel_rfl)) (a_ty2 (tyn (t := .list) (gl_of (by kernel_rfl)) G.g_list boot_list) (a_ty1 (tyn (t := .tuple) (gl_of (by kernel_rfl)) G.g_tuple boot_tuple)))))
  (ss_cons (s_if (L2.PW.pt (t_or (t_cmp (c_ne hu) (e_isi (gl_of (by kernel_rfl)) G.g_isinstance boot_isinstance (e_var 0 (by kernel_rfl) (.inr (.inl (by kernel_rfl))) (by kernel_rfl) (by kernel_rfl)) (tyn (t := .list) (gl_of (by kernel_rfl)) G.g_list boot_list)) (e_isi (gl_of (by kernel_rfl)) G.g_isinstance boot_isinstance (e_var 1 (by kernel_rfl) (.inr (.inl (by kernel_rfl))) (by kernel_rfl) (by kernel_rfl)) (tyn (t := .list) (gl_of (by kernel_rfl)) G.g_list boot_list))) (t_or1 (t_cmp (c_ne hu) (e_isi (gl_of (by kernel_rfl)) G.g_isinstance boot_isinstance (e_var 0 (by kernel_rfl) (.inr (.inl (by kernel_rfl))) (by kernel_rfl) (by kernel_rfl)) (tyn (t := .tuple) (gl_of (by kernel_rfl)) G.g_tuple boot_tuple)) (e_isi (gl_of (by kernel_rfl)) G.g_isinstance boot_isinstance (e_var 1 (by kernel_rfl) (.inr (.inl (by kernel_rfl))) (by kernel_rfl) (by kernel_rfl)) (tyn (t := .tuple) (gl_of (by kernel_rfl)) G.g_tuple boot_tuple))))))
  (ss_one (s_ret e_bl))
  ss_nil)
  (ss_one (s_ret (e_and (e_cmp (c_eq hu) (e_callBR b_len (gl_of (by kernel_rfl)) G.g_len boot_len (a1 (e_var 0 (by kernel_rfl) (.inr (.inl (by kernel_rfl))) (by kernel_rfl) (by kernel_rfl)))) (e_callBR b_len (gl_of (by kernel_rfl)) G.g_len boot_len (a1 (e_var 1 (by kernel_rfl) (.inr (.inl (by kernel_rfl))) (by kernel_rfl) (by kernel_rfl))))) (e_one (e_callBR (b_all rfl) (gl_of (by kernel_rfl)) G.g_all boot_all (a1 (e_comp rfl nd_12 (own := [("_law_mine", 2), ("_law_its", 3)]) (blkOk_by (by kernel_rfl)) (i_zip (gl_of (by kernel_rfl)) G.g_zip (a2 (e_var 0 (by kernel_rfl) (.inr (.inl (by kernel_rfl))) (by kernel_rfl) (by kernel_rfl)) (a1 (e_var 1 (by kernel_rfl) (.inr (.inl (by kernel_rfl))) (by kernel_rfl) (by kernel_rfl))))) (fun _ _ _ _ _ => (g_tp rfl (gs_cons (g_name 2 nd_12 (by kernel_rfl) (.inl (by kernel_rfl)) (.inr (by kernel_rfl))) (gs_cons (g_name 3 nd_12 (by kernel_rfl) (.inl (by kernel_rfl)) (.inr (by kernel_rfl))) gs_nil)) rfl)) (fun _ _ _ _ _ => ts_nil) (fun _ _ _ _ _ => (e_c C.c12 bind_12 hr (gl_of (by kernel_rfl)) (a2 (e_var 2 (by kernel_rfl) (.inl (by kernel_rfl)) (by kernel_rfl) (by kernel_rfl)) (a1 (e_var 3 (by kernel_rfl) (.inl (by kernel_rfl)) (by kernel_rfl) (by kernel_rfl))))))))))))))
  ss_nil)
  (ss_cons (s_if (t_tru (e_isi (gl_of (by kernel_rfl)) G.g_isinstance boot_isinstance (e_var 1 (by kernel_rfl) (.inr (.inl (by kernel_rfl))) (by kernel_rfl) (by kernel_rfl)) (tyn (t := .dict) (gl_of (by kernel_rfl)) G.g_dict boot_dict)))
  ss_never
  ss_nil)
  (ss_cons (s_if (L2.PW.pt (t_or (t_isN (e_var 1 (by kernel_rfl) (.inr (.inl (by kernel_rfl))) (by kernel_rfl) (by kernel_rfl))) (t_or1 (t_tru (e_isiT (gl_of (by kernel_rfl)) G.g_isinstance boot_isinstance (e_var 1 (by kernel_rfl) (.inr (.inl (by kernel_rfl))) (by kernel_rfl) (by kernel_rfl)) (a_ty2 (tyn (t := .bool) (gl_of (by kernel_rfl)) G.g_bool boot_bool) (a_ty1 (tyn (t := .str) (gl_of (by kernel_rfl)) G.g_str boot_str))))))))
  (ss_one (s_ret (e_and (e_cmp (c_eq hu) (e_var 0 (by kernel_rfl) (.inr (.inl (by kernel_rfl))) (by kernel_rfl) (by kernel_rfl)) (e_var 1 (by kernel_rfl) (.inr (.inl (by kernel_rfl))) (by kernel_rfl) (by kernel_rfl))) (e_and (e_cmp (c_eq hu) (e_isi (gl_of (by kernel_rfl)) G.g_isinstance boot_isinstance (e_var 0 (by kernel_rfl) (.inr (.inl (by kernel_rfl))) (by kernel_rfl) (by kernel_rfl)) (tyn (t := .bool) (gl_of (by kernel_rfl)) G.g_bool boot_bool)) (e_isi (gl_of (by kernel_rfl)) G.g_isinstance boot_isinstance (e_var 1 (by kernel_rfl) (.inr (.inl (by kernel_rfl))) (by kernel_rfl) (by kernel_rfl)) (tyn (t := .bool) (gl_of (by kernel_rfl)) G.g_bool boot_bool))) (e_one (e_cmp (c_eq hu) (e_isN (e_var 0 (by kernel_rfl) (.inr (.inl (by kernel_rfl))) (by kernel_rfl) (by kernel_rfl))) (e_isN (e_var 1 (by kernel_rfl) (.inr (.inl (by kernel_rfl))) (by kernel_rfl) (by kernel_rfl)))))))))
  ss_nil)
  (ss_one (s_ret (e_and (e_isi (gl_of (by kernel_rfl)) G.g_isinstance boot_isinstance (e_var 0 (by kernel_rfl) (.inr (.inl (by kernel_rfl))) (by kernel_rfl) (by kernel_rfl)) (tyn (t := .int) (gl_of (by kernel_rfl)) G.g_int boot_int)) (e_and (e_not (e_isi (gl_of (by kernel_rfl)) G.g_isinstance boot_isinstance (e_var 0 (by kernel_rfl) (.inr (.inl (by kernel_rfl))) (by kernel_rfl) (by kernel_rfl)) (tyn (t := .bool) (gl_of (by kernel_rfl)) G.g_bool boot_bool))) (e_one (e_cmp (c_eq hu) (e_var 0 (by kernel_rfl) (.inr (.inl (by kernel_rfl))) (by kernel_rfl) (by kernel_rfl)) (e_var 1 (by kernel_rfl) (.inr (.inl (by kernel_rfl))) (by kernel_rfl) (by kernel_rfl)))))))))))
theorem body_13 (G : Glo mg) (C : Calls P w K mg base k c) (f : Addr) (cdv : Value) (A : Around) (outer : List PySem.Env) (s : Shared) (H : Hp) (E : XK) (hr : Room k (A.deeper (envOfC "_law_out" (defScope (top 15)) s.heap.objs.size f cdv))) :
    PSs (cxOf CX0 P w K mg base N_13 "_law_out" (defScope (top 15)) f cdv A outer s H E).nox (defBody (top 15)) (tSv K XF [] (sv_13 c)) := by
  have hu := hr.units
  have hu1 := room1 hr
  exact (ss_cons (s_set 2 nd_13 (e_subS (e_var 0 (by kernel_rfl) (.inl (by kernel_rfl)) (by kernel_rfl) (by kernel_rfl)) s_int) (by kernel_rfl) (.inl (by kernel_rfl)) rfl (.inl rfl))
  (ss_cons (s_for PassesOwn.never rfl (i_seq (e_subS (e_var 0 (by kernel_rfl) (.inl (by kernel_rfl)) (by kernel_rfl) (by kernel_rfl)) s_int)) (g_name 3 nd_13 (by kernel_rfl) (.inl (by kernel_rfl)) (.inr (by kernel_rfl)))
  (ss_one (s_set 2 nd_13 (e_bin o_add (e_var 2 (by kernel_rfl) (.inl (by kernel_rfl)) (by kernel_rfl) (by kernel_rfl)) (e_c C.c14 bind_14 hr (gl_of (by kernel_rfl)) (a2 (e_var 3 (by kernel_rfl) (.inl (by kernel_rfl)) (by kernel_rfl) (by kernel_rfl)) (a1 (e_var 1 (by kernel_rfl) (.inl (by kernel_rfl)) (by kernel_rfl) (by kernel_rfl)))))) (by kernel_rfl) (.inl (by kernel_rfl)) rfl (.inl rfl))))
  (ss_one (s_ret (e_var 2 (by kernel_rfl) (.inl (by kernel_rfl)) (by kernel_rfl) (by kernel_rfl))))))
theorem body_14 (G : Glo mg) (C : Calls P w K mg base k c) (f : Addr) (cdv : Value) (A : Around) (outer : List PySem.Env) (s : Shared) (H : Hp) (E : XK) (hr : Room k (A.deeper (envOfC "_law_passed" (defScope (top 16)) s.heap.objs.size f cdv))) :
    PSs (cxOf CX0 P w K mg base N_14 "_law_passed" (defScope (top 16)) f cdv A outer s H E).nox (defBody (top 16)) (tSv K XF [] (sv_14 c)) := by
  have hu := hr.units
  have hu1 := room1 hr
  exact (ss_cons (s_if (t_tru (e_isi (gl_of (by kernel_rfl)) G.g_isinstance boot_isinstance (e_var 0 (by kernel_rfl) (.inl (by kernel_rfl)) (by kernel_rfl) (by kernel_rfl)) (tyn (t := .str) (gl_of (by kernel_rfl)) G.g_str boot_str)))
  (ss_one (s_ret (e_get2 hu1 (e_var 1 (by kernel_rfl) (.inl (by kernel_rfl)) (by kernel_rfl) (by kernel_rfl)) (e_var 0 (by kernel_rfl) (.inl (by kernel_rfl)) (by kernel_rfl) (by kernel_rfl)) e_int ⟨rfl, rfl, rfl, rfl⟩)))
  ss_nil)
  (ss_cons (s_set 2 nd_14 (e_subS (e_var 0 (by kernel_rfl) (.inl (by kernel_rfl)) (by kernel_rfl) (by kernel_rfl)) s_int) (by kernel_rfl) (.inl (by kernel_rfl)) rfl (.inl rfl))
  (ss_cons (s_for PassesOwn.never rfl (i_seq (e_subS (e_var 0 (by kernel_rfl) (.inl (by kernel_rfl)) (by kernel_rfl) (by kernel_rfl)) s_int)) (g_name 3 nd_14 (by kernel_rfl) (.inl (by kernel_rfl)) (.inr (by kernel_rfl)))
  (ss_one (s_set 2 nd_14 (e_bin o_add (e_var 2 (by kernel_rfl) (.inl (by kernel_rfl)) (by kernel_rfl) (by kernel_rfl)) (e_c C.c14 bind_14 hr (gl_of (by kernel_rfl)) (a2 (e_var 3 (by kernel_rfl) (.inl (by kernel_rfl)) (by kernel_rfl) (by kernel_rfl)) (a1 (e_var 1 (by kernel_rfl) (.inl (by kernel_rfl)) (by kernel_rfl) (by kernel_rfl)))))) (by kernel_rfl) (.inl (by kernel_rfl)) rfl (.inl rfl))))
  (ss_one (s_ret (e_bin o_sub (e_bin o_div (e_var 2 (by kernel_rfl) (.inl (by kernel_rfl)) (by kernel_rfl) (by kernel_rfl)) (e_subS (e_var 0 (by kernel_rfl) (.inl (by kernel_rfl)) (by kernel_rfl) (by kernel_rfl)) s_int)) (e_bin o_div (e_subS (e_var 0 (by kernel_rfl) (.inl (by kernel_rfl)) (by kernel_rfl) (by kernel_rfl)) s_int) (e_subS (e_var 0 (by kernel_rfl) (.inl (by kernel_rfl)) (by kernel_rfl) (by kernel_rfl)) s_int))))))))
theorem body_15 (G : Glo mg) (C : Calls P w K mg base k c) (f : Addr) (cdv : Value) (A : Around) (outer : List PySem.Env) (s : Shared) (H : Hp) (E : XK) (hr : Room k (A.deeper (envOfC "_law_left" (defScope (top 17)) s.heap.objs.size f cdv))) :
    PSs (cxOf CX0 P w K mg base N_15 "_law_left" (defScope (top 17)) f cdv A outer s H E).nox (defBody (top 17)) (tSv K XF [] (sv_15 c)) := by
  have hu := hr.units
  have hu1 := room1 hr
  exact (ss_one (s_ret (e_callB (b_max rfl hu) (gl_of (by kernel_rfl)) G.g_max boot_max (a1 (e_comp rfl nd_15 (own := [("_law_own", 1)]) (blkOk_by (by kernel_rfl)) (i_seq (e_var 0 (by kernel_rfl) (.inr (.inl (by kernel_rfl))) (by kernel_rfl) (by kernel_rfl))) (fun _ _ _ _ _ => (g_name 1 nd_15 (by kernel_rfl) (.inl (by kernel_rfl)) (.inr (by kernel_rfl)))) (fun _ _ _ _ _ => ts_nil) (fun _ _ _ _ _ => (e_count (e_var 0 (by kernel_rfl) (.inr (.inl (by kernel_rfl))) (by kernel_rfl) (by kernel_rfl)) (e_var 1 (by kernel_rfl) (.inl (by kernel_rfl)) (by kernel_rfl) (by kernel_rfl)))))))))
theorem body_16 (G : Glo mg) (C : Calls P w K mg base k c) (f : Addr) (cdv : Value) (A : Around) (outer : List PySem.Env) (s : Shared) (H : Hp) (E : XK) (hr : Room k (A.deeper (envOfC "_law_limb" (defScope (top 18)) s.heap.objs.size f cdv))) :
    PSs (cxOf CX0 P w K mg base N_16 "_law_limb" (defScope (top 18)) f cdv A outer s H E).nox (defBody (top 18)) (tSv K XF [] (sv_16 c)) := by
  have hu := hr.units
  have hu1 := room1 hr
  exact (ss_one (s_ret (e_if (t_cmp (c_eq hu) (e_var 1 (by kernel_rfl) (.inl (by kernel_rfl)) (by kernel_rfl) (by kernel_rfl)) e_int) (e_var 0 (by kernel_rfl) (.inl (by kernel_rfl)) (by kernel_rfl) (by kernel_rfl)) (e_tup (a2 (e_var 1 (by kernel_rfl) (.inl (by kernel_rfl)) (by kernel_rfl) (by kernel_rfl)) (a2 (e_var 2 (by kernel_rfl) (.inl (by kernel_rfl)) (by kernel_rfl) (by kernel_rfl)) (a1 (e_tup (a1 (e_var 0 (by kernel_rfl) (.inl (by kernel_rfl)) (by kernel_rfl) (by kernel_rfl)))))))))))
theorem body_17 (G : Glo mg) (C : Calls P w K mg base k c) (f : Addr) (cdv : Value) (A : Around) (outer : List PySem.Env) (s : Shared) (H : Hp) (E : XK) (hr : Room k (A.deeper (envOfC "_law_joint" (defScope (top 19)) s.heap.objs.size f cdv))) :
    PSs (cxOf CX0 P w K mg base N_17 "_law_joint" (defScope (top 19)) f cdv A outer s H E).nox (defBody (top 19)) (tSv K XF [] (sv_17 c)) := by
  have hu := hr.units
  have hu1 := room1 hr
  exact (ss_cons (s_if (L2.PW.pt (t_or (t_cmp (c_ne hu) (e_bin o_mod (e_callTy b_int (gl_of (by kernel_rfl)) G.g_int boot_int (a1 (e_subS (e_var 0 (by kernel_rfl) (.inl (by kernel_rfl)) (by kernel_rfl) (by kernel_rfl)) s_int))) (e_var 2 (by kernel_rfl) (.inl (by kernel_rfl)) (by kernel_rfl) (by kernel_rfl))) e_int) (t_or1 (t_cmp (c_ne hu) (e_bin o_mod (e_callTy b_int (gl_of (by kernel_rfl)) G.g_int boot_int (a1 (e_subS (e_var 1 (by kernel_rfl) (.inl (by kernel_rfl)) (by kernel_rfl) (by kernel_rfl)) s_int))) (e_var 2 (by kernel_rfl) (.inl (by kernel_rfl)) (by kernel_rfl) (by kernel_rfl))) e_int))))
  (ss_one (s_ret e_non))
  ss_nil)
  (ss_cons (s_par2 3 4 rfl nd_17 (a2 (e_bin o_div (e_subS (e_var 0 (by kernel_rfl) (.inl (by kernel_rfl)) (by kernel_rfl) (by kernel_rfl)) s_int) (e_var 2 (by kernel_rfl) (.inl (by kernel_rfl)) (by kernel_rfl) (by kernel_rfl))) (a1 (e_bin o_div (e_subS (e_var 1 (by kernel_rfl) (.inl (by kernel_rfl)) (by kernel_rfl) (by kernel_rfl)) s_int) (e_var 2 (by kernel_rfl) (.inl (by kernel_rfl)) (by kernel_rfl) (by kernel_rfl))))) (by kernel_rfl) (by kernel_rfl) (by decide) (by kernel_rfl) (by kernel_rfl) (by kernel_rfl))
  (ss_cons (s_for PassesOwn.never rfl (i_rng1 (gl_of (by kernel_rfl)) G.g_range (e_var 2 (by kernel_rfl) (.inl (by kernel_rfl)) (by kernel_rfl) (by kernel_rfl))) (g_name 5 nd_17 (by kernel_rfl) (.inl (by kernel_rfl)) (.inr (by kernel_rfl)))
  (ss_cons (s_par2 6 7 rfl nd_17 (a2 (e_bin o_sub (e_subS (e_var 0 (by kernel_rfl) (.inl (by kernel_rfl)) (by kernel_rfl) (by kernel_rfl)) s_int) (e_bin o_mul (e_var 3 (by kernel_rfl) (.inl (by kernel_rfl)) (by kernel_rfl) (by kernel_rfl)) (e_var 5 (by kernel_rfl) (.inl (by kernel_rfl)) (by kernel_rfl) (by kernel_rfl)))) (a1 (e_bin o_sub (e_subS (e_var 1 (by kernel_rfl) (.inl (by kernel_rfl)) (by kernel_rfl) (by kernel_rfl)) s_int) (e_bin o_mul (e_var 4 (by kernel_rfl) (.inl (by kernel_rfl)) (by kernel_rfl) (by kernel_rfl)) (e_var 5 (by kernel_rfl) (.inl (by kernel_rfl)) (by kernel_rfl) (by kernel_rfl)))))) (by kernel_rfl) (by kernel_rfl) (by decide) (by kernel_rfl) (by kernel_rfl) (by kernel_rfl))
  (ss_one (s_if (L2.PW.pt (t_and (t_chn c_le c_lt e_int (e_var 6 (by kernel_rfl) (.inl (by kernel_rfl)) (by kernel_rfl) (by kernel_rfl)) (e_var 3 (by kernel_rfl) (.inl (by kernel_rfl)) (by kernel_rfl) (by kernel_rfl))) (t_and1 (t_chn c_le c_lt e_int (e_var 7 (by kernel_rfl) (.inl (by kernel_rfl)) (by kernel_rfl) (by kernel_rfl)) (e_var 4 (by kernel_rfl) (.inl (by kernel_rfl)) (by kernel_rfl) (by kernel_rfl))))))
  (ss_cons (s_set 8 nd_17 (e_tup (a2 (e_c C.c16 bind_16 hr (gl_of (by kernel_rfl)) (a2 e_str (a2 (e_var 3 (by kernel_rfl) (.inl (by kernel_rfl)) (by kernel_rfl) (by kernel_rfl)) (a1 (e_var 6 (by kernel_rfl) (.inl (by kernel_rfl)) (by kernel_rfl) (by kernel_rfl)))))) (a1 (e_c C.c16 bind_16 hr (gl_of (by kernel_rfl)) (a2 e_str (a2 (e_var 4 (by kernel_rfl) (.inl (by kernel_rfl)) (by kernel_rfl) (by kernel_rfl)) (a1 (e_var 7 (by kernel_rfl) (.inl (by kernel_rfl)) (by kernel_rfl) (by kernel_rfl))))))))) (by kernel_rfl) (.inl (by kernel_rfl)) rfl (.inl rfl))
  (ss_one (s_ret (e_if (t_cmp (c_eq hu) (e_var 2 (by kernel_rfl) (.inl (by kernel_rfl)) (by kernel_rfl) (by kernel_rfl)) e_int) (e_tup (a2 e_int (a1 (e_var 8 (by kernel_rfl) (.inl (by kernel_rfl)) (by kernel_rfl) (by kernel_rfl))))) (e_tup (a2 e_int (a1 (e_tup (a1 (e_tup (a2 (e_var 2 (by kernel_rfl) (.inl (by kernel_rfl)) (by kernel_rfl) (by kernel_rfl)) (a2 (e_var 5 (by kernel_rfl) (.inl (by kernel_rfl)) (by kernel_rfl) (by kernel_rfl)) (a1 (e_var 8 (by kernel_rfl) (.inl (by kernel_rfl)) (by kernel_rfl) (by kernel_rfl)))))))))))))))
  ss_nil))))
  (ss_one (s_ret e_non)))))
theorem body_18 (G : Glo mg) (C : Calls P w K mg base k c) (f : Addr) (cdv : Value) (A : Around) (outer : List PySem.Env) (s : Shared) (H : Hp) (E : XK) (hr : Room k (A.deeper (envOfC "_law_fitting" (defScope (top 20)) s.heap.objs.size f cdv))) :
    PSs (cxOf CX0 P w K mg base N_18 "_law_fitting" (defScope (top 20)) f cdv A outer s H E).nox (defBody (top 20)) (tSv K XF [] (sv_18 c)) := by
  have hu := hr.units
  have hu1 := room1 hr
  exact (ss_cons (s_set 3 nd_18 (e_lst a0) (by kernel_rfl) (.inl (by kernel_rfl)) rfl (.inl rfl))
  (ss_cons (s_for PassesOwn.never rfl (i_rng2 (gl_of (by kernel_rfl)) G.g_range (a2 e_int (a1 (e_bin o_add (e_subS (e_var 0 (by kernel_rfl) (.inl (by kernel_rfl)) (by kernel_rfl) (by kernel_rfl)) s_int) e_int)))) (g_name 4 nd_18 (by kernel_rfl) (.inl (by kernel_rfl)) (.inr (by kernel_rfl)))
  (ss_cons (s_set 5 nd_18 (e_c C.c17 bind_17 hr (gl_of (by kernel_rfl)) (a2 (e_var 0 (by kernel_rfl) (.inl (by kernel_rfl)) (by kernel_rfl) (by kernel_rfl)) (a2 (e_var 1 (by kernel_rfl) (.inl (by kernel_rfl)) (by kernel_rfl) (by kernel_rfl)) (a1 (e_var 4 (by kernel_rfl) (.inl (by kernel_rfl)) (by kernel_rfl) (by kernel_rfl)))))) (by kernel_rfl) (.inr (by kernel_rfl)) rfl (.inl rfl))
  (ss_one (s_if (t_notN (e_var 5 (by kernel_rfl) (.inr (.inl (by kernel_rfl))) (by kernel_rfl) (by kernel_rfl)))
  (ss_one (s_if (t_tru (e_callBR (b_all rfl) (gl_of (by kernel_rfl)) G.g_all boot_all (a1 (e_comp rfl nd_18 (own := [("_law_row", 6)]) (blkOk_by (by kernel_rfl)) (i_seq (e_var 2 (by kernel_rfl) (.inl (by kernel_rfl)) (by kernel_rfl) (by kernel_rfl))) (fun _ _ _ _ _ => (g_name 6 nd_18 (by kernel_rfl) (.inl (by kernel_rfl)) (.inr (by kernel_rfl)))) (fun _ _ _ _ _ => ts_nil) (fun _ _ _ _ _ => (e_cmp (c_eq hu) (e_c C.c13 bind_13 hr (gl_of (by kernel_rfl)) (a2 (e_var 5 (by kernel_rfl) (.inr (.inl (by kernel_rfl))) (by kernel_rfl) (by kernel_rfl)) (a1 (e_z (e_dsp (pk_str (e_subS (e_var 6 (by kernel_rfl) (.inl (by kernel_rfl)) (by kernel_rfl) (by kernel_rfl)) s_int) (pk_str (e_subS (e_var 6 (by kernel_rfl) (.inl (by kernel_rfl)) (by kernel_rfl) (by kernel_rfl)) s_int) pk_nil))))))) (e_subS (e_var 6 (by kernel_rfl) (.inl (by kernel_rfl)) (by kernel_rfl) (by kernel_rfl)) s_int)))))))
  (ss_one (s_ex (e_append mV_rooty (e_var 3 (by kernel_rfl) (.inl (by kernel_rfl)) (by kernel_rfl) (by kernel_rfl)) (a1 (e_var 4 (by kernel_rfl) (.inl (by kernel_rfl)) (by kernel_rfl) (by kernel_rfl))))))
  ss_nil))
  ss_nil))))
  (ss_one (s_ret (e_mv 3 (by kernel_rfl) (.inl (by kernel_rfl)) (by kernel_rfl) (by kernel_rfl))))))
theorem body_19 (G : Glo mg) (C : Calls P w K mg base k c) (f : Addr) (cdv : Value) (A : Around) (outer : List PySem.Env) (s : Shared) (H : Hp) (E : XK) (hr : Room k (A.deeper (envOfC "_law_ask" (defScope (top 21)) s.heap.objs.size f cdv))) :
    PSs (cxOf CX0 P w K mg base N_19 "_law_ask" (defScope (top 21)) f cdv A outer s H E).nox (defBody (top 21)) (tSv K XF [] (sv_19 c)) := by
  have hu := hr.units
  have hu1 := room1 hr
  exact (ss_cons (s_if (t_cmp c_lt (e_callBR b_len (gl_of (by kernel_rfl)) G.g_len boot_len (a1 (e_var 2 (by kernel_rfl) (.inl (by kernel_rfl)) (by kernel_rfl) (by kernel_rfl)))) e_int)
  (ss_one (s_ret e_non))
  ss_nil)
  (ss_cons (s_par2 3 4 rfl nd_19 (a2 (e_z (e_comp rfl nd_19 (own := [("_law_size_so", 7)]) (blkOk_by (by kernel_rfl)) (i_seq (e_var 2 (by kernel_rfl) (.inl (by kernel_rfl)) (by kernel_rfl) (by kernel_rfl))) (fun _ _ _ _ _ => (g_name 7 nd_19 (by kernel_rfl) (.inl (by kernel_rfl)) (.inr (by kernel_rfl)))) (fun _ _ _ _ _ => ts_nil) (fun _ _ _ _ _ => (e_c C.c17 bind_17 hr (gl_of (by kernel_rfl)) (a2 (e_var 0 (by kernel_rfl) (.inr (.inl (by kernel_rfl))) (by kernel_rfl) (by kernel_rfl)) (a2 (e_var 1 (by kernel_rfl) (.inr (.inl (by kernel_rfl))) (by kernel_rfl) (by kernel_rfl)) (a1 (e_var 7 (by kernel_rfl) (.inl (by kernel_rfl)) (by kernel_rfl) (by kernel_rfl))))))))) (a1 (e_lst a0))) (by kernel_rfl) (by kernel_rfl) (by decide) (by kernel_rfl) (by kernel_rfl) (by kernel_rfl))
  (ss_cons (s_for PassesOwn.never rfl (i_rng2 (gl_of (by kernel_rfl)) G.g_range (a2 e_int (a1 (e_bin o_add (e_subS (e_var 0 (by kernel_rfl) (.inr (.inl (by kernel_rfl))) (by kernel_rfl) (by kernel_rfl)) s_int) e_int)))) (g_name 5 nd_19 (by kernel_rfl) (.inr (by kernel_rfl)) (.inl (by kernel_rfl)))
  (ss_one (s_for PassesOwn.never rfl (i_rng2 (gl_of (by kernel_rfl)) G.g_range (a2 e_int (a1 (e_bin o_add (e_subS (e_var 1 (by kernel_rfl) (.inr (.inl (by kernel_rfl))) (by kernel_rfl) (by kernel_rfl)) s_int) e_int)))) (g_name 6 nd_19 (by kernel_rfl) (.inr (by kernel_rfl)) (.inl (by kernel_rfl)))
  (ss_one (s_ex (e_append mV_rooty (e_var 4 (by kernel_rfl) (.inl (by kernel_rfl)) (by kernel_rfl) (by kernel_rfl)) (a1 (e_tup (a2 (e_c C.c15 bind_15 hr (gl_of (by kernel_rfl)) (a1 (e_z (e_comp rfl nd_19 (own := [("_law_plan", 8)]) (blkOk_by (by kernel_rfl)) (i_seq (e_var 3 (by kernel_rfl) (.inl (by kernel_rfl)) (by kernel_rfl) (by kernel_rfl))) (fun _ _ _ _ _ => (g_name 8 nd_19 (by kernel_rfl) (.inl (by kernel_rfl)) (.inr (by kernel_rfl)))) (fun _ _ _ _ _ => ts_nil) (fun _ _ _ _ _ => (e_z (e_c C.c13 bind_13 hr (gl_of (by kernel_rfl)) (a2 (e_var 8 (by kernel_rfl) (.inl (by kernel_rfl)) (by kernel_rfl) (by kernel_rfl)) (a1 (e_z (e_dsp (pk_str (e_var 5 (by kernel_rfl) (.inr (.inl (by kernel_rfl))) (by kernel_rfl) (by kernel_rfl)) (pk_str (e_var 6 (by kernel_rfl) (.inr (.inl (by kernel_rfl))) (by kernel_rfl) (by kernel_rfl)) pk_nil))))))))))))) (a2 (e_bin o_add (e_var 5 (by kernel_rfl) (.inr (.inl (by kernel_rfl))) (by kernel_rfl) (by kernel_rfl)) (e_var 6 (by kernel_rfl) (.inr (.inl (by kernel_rfl))) (by kernel_rfl) (by kernel_rfl))) (a1 (e_tup (a2 (e_var 5 (by kernel_rfl) (.inr (.inl (by kernel_rfl))) (by kernel_rfl) (by kernel_rfl)) (a1 (e_var 6 (by kernel_rfl) (.inr (.inl (by kernel_rfl))) (by kernel_rfl) (by kernel_rfl))))))))))))))))
  (ss_one (s_ret (e_subS (e_callB (b_min rfl hu) (gl_of (by kernel_rfl)) G.g_min boot_min (a1 (e_var 4 (by kernel_rfl) (.inl (by kernel_rfl)) (by kernel_rfl) (by kernel_rfl)))) s_int))))))
theorem body_20 (G : Glo mg) (C : Calls P w K mg base k c) (f : Addr) (cdv : Value) (A : Around) (outer : List PySem.Env) (s : Shared) (H : Hp) (E : XK) (hr : Room k (A.deeper (envOfC "_law_by_hand_right" (defScope (top 22)) s.heap.objs.size f cdv))) :
    PSs (cxOf CX0 P w K mg base N_20 "_law_by_hand_right" (defScope (top 22)) f cdv A outer s H E).nox (defBody (top 22)) (tSv K XF [] (sv_20 c)) := by
  have hu := hr.units
  have hu1 := room1 hr
  exact (ss_cons (s_set 0 nd_20 (e_lst (a2 (e_z (e_c C.c3 bind_3 hr (gl_of (by kernel_rfl)) (a2 (e_tup (a2 e_int (a1 e_int))) (a2 (e_tup (a2 e_int (a1 e_int))) (a1 (e_tup a0)))))) (a2 (e_z (e_c C.c3 bind_3 hr (gl_of (by kernel_rfl)) (a2 (e_tup (a2 e_int (a1 e_int))) (a2 (e_tup (a2 e_int (a1 e_int))) (a1 (e_tup a0)))))) (a1 (e_z (e_c C.c5 bind_5 hr (gl_of (by kernel_rfl)) (a2 (e_tup (a2 e_int (a1 e_int))) (a2 (e_tup (a2 e_int (a1 e_int))) (a1 (e_tup a0)))))))))) (by kernel_rfl) (.inl (by kernel_rfl)) rfl (.inl rfl))
  (ss_cons (s_set 1 nd_20 (e_z (e_lst (a2 (e_z (e_lst (a2 e_int (a1 e_int)))) (a2 (e_z (e_lst (a1 e_int))) (a1 (e_tup (a2 e_int (a1 e_int)))))))) (by kernel_rfl) (.inl (by kernel_rfl)) rfl (.inl rfl))
  (ss_cons (s_set 0 nd_20 (e_bin o_add (e_var 0 (by kernel_rfl) (.inl (by kernel_rfl)) (by kernel_rfl) (by kernel_rfl)) (e_lst (a2 (e_z (e_c C.c3 bind_3 hr (gl_of (by kernel_rfl)) (a2 (e_tup (a2 e_int (a1 e_int))) (a2 (e_tup (a2 e_int (a1 e_int))) (a1 (e_tup (a1 (e_tup (a2 e_int (a2 e_int (a1 e_int))))))))))) (a1 (e_z (e_c C.c5 bind_5 hr (gl_of (by kernel_rfl)) (a2 (e_tup (a2 e_int (a1 e_int))) (a2 (e_tup (a2 e_int (a1 e_int))) (a1 (e_tup a0)))))))))) (by kernel_rfl) (.inl (by kernel_rfl)) rfl (.inl rfl))
  (ss_cons (s_set 1 nd_20 (e_z (e_bin o_add (e_var 1 (by kernel_rfl) (.inl (by kernel_rfl)) (by kernel_rfl) (by kernel_rfl)) (e_lst (a2 (e_z (e_lst (a1 e_int))) (a1 e_non))))) (by kernel_rfl) (.inl (by kernel_rfl)) rfl (.inl rfl))
  (ss_cons (s_set 0 nd_20 (e_bin o_add (e_var 0 (by kernel_rfl) (.inl (by kernel_rfl)) (by kernel_rfl) (by kernel_rfl)) (e_lst (a2 (e_z (e_c C.c3 bind_3 hr (gl_of (by kernel_rfl)) (a2 (e_tup (a2 e_int (a1 e_int))) (a2 (e_tup (a2 e_int (a1 e_int))) (a1 (e_tup a0)))))) (a2 (e_z (e_c C.c3 bind_3 hr (gl_of (by kernel_rfl)) (a2 (e_tup (a2 e_int (a1 e_int))) (a2 (e_tup (a2 e_int (a1 e_int))) (a1 (e_tup a0)))))) (a1 (e_z (e_c C.c3 bind_3 hr (gl_of (by kernel_rfl)) (a2 (e_tup (a2 e_int (a1 e_int))) (a2 (e_tup (a2 e_int (a1 e_int))) (a1 (e_tup a0))))))))))) (by kernel_rfl) (.inl (by kernel_rfl)) rfl (.inl rfl))
  (ss_cons (s_set 1 nd_20 (e_z (e_bin o_add (e_var 1 (by kernel_rfl) (.inl (by kernel_rfl)) (by kernel_rfl) (by kernel_rfl)) (e_lst (a2 (e_z (e_lst (a1 e_int))) (a2 (e_z (e_lst (a2 e_int (a2 e_int (a1 e_int))))) (a1 (e_z (e_lst (a1 e_int))))))))) (by kernel_rfl) (.inl (by kernel_rfl)) rfl (.inl rfl))
  (ss_cons (s_set 0 nd_20 (e_bin o_add (e_var 0 (by kernel_rfl) (.inl (by kernel_rfl)) (by kernel_rfl) (by kernel_rfl)) (e_lst (a2 (e_z (e_c C.c3 bind_3 hr (gl_of (by kernel_rfl)) (a2 (e_tup (a2 e_int (a1 e_int))) (a2 (e_tup (a2 e_int (a1 e_int))) (a1 (e_tup a0)))))) (a2 (e_z (e_c C.c3 bind_3 hr (gl_of (by kernel_rfl)) (a2 (e_tup (a2 e_int (a1 e_int))) (a2 (e_tup (a2 e_int (a1 e_int))) (a1 (e_tup a0)))))) (a1 (e_z (e_c C.c3 bind_3 hr (gl_of (by kernel_rfl)) (a2 (e_tup (a2 e_int (a1 e_int))) (a2 (e_tup (a2 e_int (a1 e_int))) (a1 (e_tup a0))))))))))) (by kernel_rfl) (.inl (by kernel_rfl)) rfl (.inl rfl))
  (ss_cons (s_set 1 nd_20 (e_z (e_bin o_add (e_var 1 (by kernel_rfl) (.inl (by kernel_rfl)) (by kernel_rfl) (by kernel_rfl)) (e_lst (a2 (e_z (e_lst (a2 e_int (a1 e_int)))) (a2 (e_z (e_lst (a2 e_int (a2 e_int (a2 e_int (a1 e_int)))))) (a1 (e_z (e_lst (a1 e_int))))))))) (by kernel_rfl) (.inl (by kernel_rfl)) rfl (.inl rfl))
  (ss_cons (s_set 0 nd_20 (e_bin o_add (e_var 0 (by kernel_rfl) (.inl (by kernel_rfl)) (by kernel_rfl) (by kernel_rfl)) (e_lst (a2 (e_z (e_c C.c3 bind_3 hr (gl_of (by kernel_rfl)) (a2 (e_tup (a2 e_int (a1 e_int))) (a2 (e_tup (a2 e_int (a1 e_int))) (a1 (e_tup (a1 (e_tup (a2 e_int (a2 e_int (a1 e_int))))))))))) (a1 (e_z (e_c C.c3 bind_3 hr (gl_of (by kernel_rfl)) (a2 (e_tup (a2 e_int (a1 e_int))) (a2 (e_tup (a2 e_int (a1 e_int))) (a1 (e_tup (a1 (e_tup (a2 e_int (a2 e_int (a1 e_int))))))))))))))) (by kernel_rfl) (.inl (by kernel_rfl)) rfl (.inl rfl))
  (ss_cons (s_ex (e_append mV_rooty (e_var 0 (by kernel_rfl) (.inl (by kernel_rfl)) (by kernel_rfl) (by kernel_rfl)) (a1 (e_z (e_c C.c5 bind_5 hr (gl_of (by kernel_rfl)) (a2 (e_tup (a2 e_int (a1 e_int))) (a2 (e_tup (a2 e_int (a1 e_int))) (a1 (e_tup a0)))))))))
  (ss_cons (s_set 1 nd_20 (e_z (e_bin o_add (e_var 1 (by kernel_rfl) (.inl (by kernel_rfl)) (by kernel_rfl) (by kernel_rfl)) (e_lst (a2 (e_z (e_lst (a2 e_int (a1 e_int)))) (a2 (e_z (e_lst (a1 e_int))) (a1 (e_tup (a2 e_int (a1 e_int))))))))) (by kernel_rfl) (.inl (by kernel_rfl)) rfl (.inl rfl))
  (ss_cons (s_set 0 nd_20 (e_bin o_add (e_var 0 (by kernel_rfl) (.inl (by kernel_rfl)) (by kernel_rfl) (by kernel_rfl)) (e_lst (a2 (e_z (e_c C.c3 bind_3 hr (gl_of (by kernel_rfl)) (a2 (e_tup (a2 e_int (a1 e_int))) (a2 (e_tup (a2 e_int (a1 e_int))) (a1 (e_tup (a1 (e_tup (a2 e_int (a2 e_int (a1 e_int))))))))))) (a1 (e_z (e_c C.c5 bind_5 hr (gl_of (by kernel_rfl)) (a2 (e_tup (a2 e_int (a1 e_int))) (a2 (e_tup (a2 e_int (a1 e_int))) (a1 (e_tup (a1 (e_tup (a2 e_int (a2 e_int (a1 e_int))))))))))))))) (by kernel_rfl) (.inl (by kernel_rfl)) rfl (.inl rfl))
  (ss_cons (s_set 1 nd_20 (e_z (e_bin o_add (e_var 1 (by kernel_rfl) (.inl (by kernel_rfl)) (by kernel_rfl) (by kernel_rfl)) (e_lst (a2 (e_z (e_lst a0)) (a1 e_non))))) (by kernel_rfl) (.inl (by kernel_rfl)) rfl (.inl rfl))
  (ss_cons (s_set 0 nd_20 (e_bin o_add (e_var 0 (by kernel_rfl) (.inl (by kernel_rfl)) (by kernel_rfl) (by kernel_rfl)) (e_lst (a2 (e_z (e_ck C.c3 bindk_3_1_2_0 hr (gl_of (by kernel_rfl)) (k2 (e_z (e_lst (a2 e_int (a1 e_int)))) (k2 (e_z (e_lst a0)) (k1 (e_z (e_lst (a2 e_int (a1 e_int))))))))) (a1 (e_z (e_c C.c3 bind_3 hr (gl_of (by kernel_rfl)) (a2 (e_tup (a2 e_int (a1 e_int))) (a2 (e_tup (a2 e_int (a1 e_int))) (a1 (e_tup (a1 (e_tup (a2 e_int (a2 e_int (a1 e_int))))))))))))))) (by kernel_rfl) (.inl (by kernel_rfl)) rfl (.inl rfl))
  (ss_cons (s_ex (e_append mV_rooty (e_var 0 (by kernel_rfl) (.inl (by kernel_rfl)) (by kernel_rfl) (by kernel_rfl)) (a1 (e_z (e_ck C.c5 bindk_5_2_1_0 hr (gl_of (by kernel_rfl)) (k2 (e_z (e_lst (a1 (e_z (e_lst (a2 e_int (a2 e_int (a1 e_int)))))))) (k2 (e_tup (a2 e_int (a1 e_int))) (k1 (e_tup (a2 e_int (a1 e_int)))))))))))
  (ss_cons (s_set 1 nd_20 (e_z (e_bin o_add (e_var 1 (by kernel_rfl) (.inl (by kernel_rfl)) (by kernel_rfl) (by kernel_rfl)) (e_lst (a2 (e_z (e_lst (a2 e_int (a2 e_int (a2 e_int (a2 e_int (a2 e_int (a2 e_int (a2 e_int (a1 e_int)))))))))) (a2 (e_z (e_lst (a2 e_int (a2 e_int (a2 e_int (a2 e_int (a2 e_int (a1 e_int)))))))) (a1 (e_tup (a2 e_int (a1 e_int))))))))) (by kernel_rfl) (.inl (by kernel_rfl)) rfl (.inl rfl))
  (ss_cons (s_set 2 nd_20 (e_c C.c3 bind_3 hr (gl_of (by kernel_rfl)) (a2 (e_tup (a2 e_int (a1 e_int))) (a2 (e_tup (a2 e_int (a1 e_int))) (a1 (e_tup a0))))) (by kernel_rfl) (.inl (by kernel_rfl)) rfl (.inl rfl))
  (ss_cons (s_ex (e_append mV_rooty (e_var 2 (by kernel_rfl) (.inl (by kernel_rfl)) (by kernel_rfl) (by kernel_rfl)) (a1 e_int)))
  (ss_one (s_ret (e_c C.c12 bind_12 hr (gl_of (by kernel_rfl)) (a2 (e_z (e_bin o_add (e_var 0 (by kernel_rfl) (.inl (by kernel_rfl)) (by kernel_rfl) (by kernel_rfl)) (e_lst (a1 (e_z (e_c C.c3 bind_3 hr (gl_of (by kernel_rfl)) (a2 (e_tup (a2 e_int (a1 e_int))) (a2 (e_tup (a2 e_int (a1 e_int))) (a1 (e_tup a0)))))))))) (a1 (e_z (e_bin o_add (e_var 1 (by kernel_rfl) (.inl (by kernel_rfl)) (by kernel_rfl) (by kernel_rfl)) (e_lst (a1 (e_z (e_lst (a2 e_int (a1 e_int)))))))))))))))))))))))))))))))
theorem body_21 (G : Glo mg) (C : Calls P w K mg base k c) (f : Addr) (cdv : Value) (A : Around) (outer : List PySem.Env) (s : Shared) (H : Hp) (E : XK) (hr : Room k (A.deeper (envOfC "_law_case_right" (defScope (top 23)) s.heap.objs.size f cdv))) :
    PSs (cxOf CX0 P w K mg base N_21 "_law_case_right" (defScope (top 23)) f cdv A outer s H E).nox (defBody (top 23)) (tSv K XF [0] (sv_21 c)) := by
  have hu := hr.units
  have hu1 := room1 hr
  exact (ss_cons (s_set 1 nd_21 (e_z (e_c C.c9 bind_9 hr (gl_of (by kernel_rfl)) (a2 (e_var 0 (by kernel_rfl) (.inl (by kernel_rfl)) (by kernel_rfl) (by kernel_rfl)) (a1 (e_z (e_lst (a2 e_int (a2 e_int (a2 e_int (a2 e_int (a2 e_int (a2 e_int (a1 e_int))))))))))))) (by kernel_rfl) (.inl (by kernel_rfl)) rfl (.inl rfl))
  (ss_cons (s_par2 2 3 rfl nd_21 (a2 (e_z (e_bin o_mul (e_var 1 (by kernel_rfl) (.inl (by kernel_rfl)) (by kernel_rfl) (by kernel_rfl)) (e_bin o_add e_int (e_c C.c7 bind_7 hr (gl_of (by kernel_rfl)) (a2 (e_var 0 (by kernel_rfl) (.inl (by kernel_rfl)) (by kernel_rfl) (by kernel_rfl)) (a1 (e_bin o_div e_int (e_var 1 (by kernel_rfl) (.inl (by kernel_rfl)) (by kernel_rfl) (by kernel_rfl))))))))) (a1 (e_z (e_bin o_mul (e_var 1 (by kernel_rfl) (.inl (by kernel_rfl)) (by kernel_rfl) (by kernel_rfl)) (e_bin o_add e_int (e_c C.c7 bind_7 hr (gl_of (by kernel_rfl)) (a2 (e_var 0 (by kernel_rfl) (.inl (by kernel_rfl)) (by kernel_rfl) (by kernel_rfl)) (a1 (e_bin o_div e_int (e_var 1 (by kernel_rfl) (.inl (by kernel_rfl)) (by kernel_rfl) (by kernel_rfl))))))))))) (by kernel_rfl) (by kernel_rfl) (by decide) (by kernel_rfl) (by kernel_rfl) (by kernel_rfl))
  (ss_cons (s_set 4 nd_21 (e_z (e_c C.c7 bind_7 hr (gl_of (by kernel_rfl)) (a2 (e_var 0 (by kernel_rfl) (.inl (by kernel_rfl)) (by kernel_rfl) (by kernel_rfl)) (a1 (e_var 1 (by kernel_rfl) (.inl (by kernel_rfl)) (by kernel_rfl) (by kernel_rfl)))))) (by kernel_rfl) (.inl (by kernel_rfl)) rfl (.inl rfl))
  (ss_cons (s_par2 5 6 rfl nd_21 (a2 (e_bin o_div (e_var 2 (by kernel_rfl) (.inl (by kernel_rfl)) (by kernel_rfl) (by kernel_rfl)) (e_var 1 (by kernel_rfl) (.inl (by kernel_rfl)) (by kernel_rfl) (by kernel_rfl))) (a1 (e_bin o_div (e_var 3 (by kernel_rfl) (.inl (by kernel_rfl)) (by kernel_rfl) (by kernel_rfl)) (e_var 1 (by kernel_rfl) (.inl (by kernel_rfl)) (by kernel_rfl) (by kernel_rfl))))) (by kernel_rfl) (by kernel_rfl) (by decide) (by kernel_rfl) (by kernel_rfl) (by kernel_rfl))
  (ss_cons (s_set 2 nd_21 (e_tup (a2 (e_var 2 (by kernel_rfl) (.inl (by kernel_rfl)) (by kernel_rfl) (by kernel_rfl)) (a1 (e_bin o_add (e_bin o_mul (e_var 4 (by kernel_rfl) (.inl (by kernel_rfl)) (by kernel_rfl) (by kernel_rfl)) (e_var 5 (by kernel_rfl) (.inl (by kernel_rfl)) (by kernel_rfl) (by kernel_rfl))) (e_c C.c7 bind_7 hr (gl_of (by kernel_rfl)) (a2 (e_var 0 (by kernel_rfl) (.inl (by kernel_rfl)) (by kernel_rfl) (by kernel_rfl)) (a1 (e_var 5 (by kernel_rfl) (.inl (by kernel_rfl)) (by kernel_rfl) (by kernel_rfl))))))))) (by kernel_rfl) (.inl (by kernel_rfl)) rfl (.inl rfl))
  (ss_cons (s_set 3 nd_21 (e_tup (a2 (e_var 3 (by kernel_rfl) (.inl (by kernel_rfl)) (by kernel_rfl) (by kernel_rfl)) (a1 (e_bin o_add (e_bin o_mul (e_var 4 (by kernel_rfl) (.inl (by kernel_rfl)) (by kernel_rfl) (by kernel_rfl)) (e_var 6 (by kernel_rfl) (.inl (by kernel_rfl)) (by kernel_rfl) (by kernel_rfl))) (e_c C.c7 bind_7 hr (gl_of (by kernel_rfl)) (a2 (e_var 0 (by kernel_rfl) (.inl (by kernel_rfl)) (by kernel_rfl) (by kernel_rfl)) (a1 (e_var 6 (by kernel_rfl) (.inl (by kernel_rfl)) (by kernel_rfl) (by kernel_rfl))))))))) (by kernel_rfl) (.inl (by kernel_rfl)) rfl (.inl rfl))
  (ss_cons (s_par2 7 8 rfl nd_21 (a2 (e_c C.c17 bind_17 hr (gl_of (by kernel_rfl)) (a2 (e_var 2 (by kernel_rfl) (.inl (by kernel_rfl)) (by kernel_rfl) (by kernel_rfl)) (a2 (e_var 3 (by kernel_rfl) (.inl (by kernel_rfl)) (by kernel_rfl) (by kernel_rfl)) (a1 (e_var 1 (by kernel_rfl) (.inl (by kernel_rfl)) (by kernel_rfl) (by kernel_rfl)))))) (a1 (e_lst a0))) (by kernel_rfl) (by kernel_rfl) (by decide) (by kernel_rfl) (by kernel_rfl) (by kernel_rfl))
  (ss_cons (s_for PassesOwn.never rfl (i_rng1 (gl_of (by kernel_rfl)) G.g_range (e_c C.c7 bind_7 hr (gl_of (by kernel_rfl)) (a2 (e_var 0 (by kernel_rfl) (.inl (by kernel_rfl)) (by kernel_rfl) (by kernel_rfl)) (a1 e_int)))) (g_name 9 nd_21 (by kernel_rfl) (.inl (by kernel_rfl)) (.inr (by kernel_rfl)))
  (ss_cons (s_par2 10 11 rfl nd_21 (a2 (e_z (e_c C.c7 bind_7 hr (gl_of (by kernel_rfl)) (a2 (e_var 0 (by kernel_rfl) (.inl (by kernel_rfl)) (by kernel_rfl) (by kernel_rfl)) (a1 e_int)))) (a1 (e_z (e_c C.c7 bind_7 hr (gl_of (by kernel_rfl)) (a2 (e_var 0 (by kernel_rfl) (.inl (by kernel_rfl)) (by kernel_rfl) (by kernel_rfl)) (a1 e_int)))))) (by kernel_rfl) (by kernel_rfl) (by decide) (by kernel_rfl) (by kernel_rfl) (by kernel_rfl))
  (ss_one (s_ex (e_append mV_rooty (e_var 8 (by kernel_rfl) (.inl (by kernel_rfl)) (by kernel_rfl) (by kernel_rfl)) (a1 (e_tup (a2 (e_var 10 (by kernel_rfl) (.inl (by kernel_rfl)) (by kernel_rfl) (by kernel_rfl)) (a2 (e_var 11 (by kernel_rfl) (.inl (by kernel_rfl)) (by kernel_rfl) (by kernel_rfl)) (a1 (e_bin o_add (e_c C.c13 bind_13 hr (gl_of (by kernel_rfl)) (a2 (e_var 7 (by kernel_rfl) (.inl (by kernel_rfl)) (by kernel_rfl) (by kernel_rfl)) (a1 (e_z (e_dsp (pk_str (e_var 10 (by kernel_rfl) (.inl (by kernel_rfl)) (by kernel_rfl) (by kernel_rfl)) (pk_str (e_var 11 (by kernel_rfl) (.inl (by kernel_rfl)) (by kernel_rfl) (by kernel_rfl)) pk_nil))))))) (e_callTy b_int (gl_of (by kernel_rfl)) G.g_int boot_int (a1 (e_cmp (c_eq hu) (e_c C.c7 bind_7 hr (gl_of (by kernel_rfl)) (a2 (e_var 0 (by kernel_rfl) (.inl (by kernel_rfl)) (by kernel_rfl) (by kernel_rfl)) (a1 e_int))) e_int))))))))))))))
  (ss_cons (s_par2 12 13 rfl nd_21 (a2 (e_z (e_c C.c18 bind_18 hr (gl_of (by kernel_rfl)) (a2 (e_var 2 (by kernel_rfl) (.inl (by kernel_rfl)) (by kernel_rfl) (by kernel_rfl)) (a2 (e_var 3 (by kernel_rfl) (.inl (by kernel_rfl)) (by kernel_rfl) (by kernel_rfl)) (a1 (e_fz 8 (by kernel_rfl) (.inl (by kernel_rfl)) (by kernel_rfl) (by kernel_rfl))))))) (a1 (e_z (e_c C.c11 bind_11 hr (gl_of (by kernel_rfl)) (a1 (e_fz 8 (by kernel_rfl) (.inl (by kernel_rfl)) (by kernel_rfl) (by kernel_rfl))))))) (by kernel_rfl) (by kernel_rfl) (by decide) (by kernel_rfl) (by kernel_rfl) (by kernel_rfl))
  (ss_cons (s_set 14 nd_21 (e_z (e_lst (a2 (e_var 12 (by kernel_rfl) (.inl (by kernel_rfl)) (by kernel_rfl) (by kernel_rfl)) (a1 (e_z (e_c C.c19 bind_19 hr (gl_of (by kernel_rfl)) (a2 (e_var 2 (by kernel_rfl) (.inl (by kernel_rfl)) (by kernel_rfl) (by kernel_rfl)) (a2 (e_var 3 (by kernel_rfl) (.inl (by kernel_rfl)) (by kernel_rfl) (by kernel_rfl)) (a1 (e_var 12 (by kernel_rfl) (.inl (by kernel_rfl)) (by kernel_rfl) (by kernel_rfl))))))))))) (by kernel_rfl) (.inl (by kernel_rfl)) rfl (.inl rfl))
  (ss_cons (s_set 15 nd_21 (e_z (e_lst (a2 (e_z (e_c C.c3 bind_3 hr (gl_of (by kernel_rfl)) (a2 (e_var 2 (by kernel_rfl) (.inl (by kernel_rfl)) (by kernel_rfl) (by kernel_rfl)) (a2 (e_var 3 (by kernel_rfl) (.inl (by kernel_rfl)) (by kernel_rfl) (by kernel_rfl)) (a1 (e_callTy b_tuple (gl_of (by kernel_rfl)) G.g_tuple boot_tuple (a1 (e_var 8 (by kernel_rfl) (.inl (by kernel_rfl)) (by kernel_rfl) (by kernel_rfl))))))))) (a1 (e_z (e_c C.c5 bind_5 hr (gl_of (by kernel_rfl)) (a2 (e_var 2 (by kernel_rfl) (.inl (by kernel_rfl)) (by kernel_rfl) (by kernel_rfl)) (a2 (e_var 3 (by kernel_rfl) (.inl (by kernel_rfl)) (by kernel_rfl) (by kernel_rfl)) (a1 (e_callTy b_tuple (gl_of (by kernel_rfl)) G.g_tuple boot_tuple (a1 (e_var 8 (by kernel_rfl) (.inl (by kernel_rfl)) (by kernel_rfl) (by kernel_rfl))))))))))))) (by kernel_rfl) (.inl (by kernel_rfl)) rfl (.inl rfl))
  (ss_cons (s_if (t_not (t_tru (e_c C.c12 bind_12 hr (gl_of (by kernel_rfl)) (a2 (e_var 15 (by kernel_rfl) (.inl (by kernel_rfl)) (by kernel_rfl) (by kernel_rfl)) (a1 (e_var 14 (by kernel_rfl) (.inl (by kernel_rfl)) (by kernel_rfl) (by kernel_rfl)))))))
  (ss_one (s_ret e_bl))
  ss_nil)
  (ss_cons (s_set 15 nd_21 (e_z (e_lst (a2 (e_z (e_ck C.c3 bindk_3_2_1_0 hr (gl_of (by kernel_rfl)) (k2 (e_var 13 (by kernel_rfl) (.inl (by kernel_rfl)) (by kernel_rfl) (by kernel_rfl)) (k2 (e_z (e_callTy b_list (gl_of (by kernel_rfl)) G.g_list boot_list (a1 (e_var 3 (by kernel_rfl) (.inl (by kernel_rfl)) (by kernel_rfl) (by kernel_rfl))))) (k1 (e_z (e_callTy b_list (gl_of (by kernel_rfl)) G.g_list boot_list (a1 (e_var 2 (by kernel_rfl) (.inl (by kernel_rfl)) (by kernel_rfl) (by kernel_rfl)))))))))) (a1 (e_z (e_c C.c5 bind_5 hr (gl_of (by kernel_rfl)) (a2 (e_z (e_callTy b_list (gl_of (by kernel_rfl)) G.g_list boot_list (a1 (e_var 2 (by kernel_rfl) (.inl (by kernel_rfl)) (by kernel_rfl) (by kernel_rfl))))) (a2 (e_z (e_callTy b_list (gl_of (by kernel_rfl)) G.g_list boot_list (a1 (e_var 3 (by kernel_rfl) (.inl (by kernel_rfl)) (by kernel_rfl) (by kernel_rfl))))) (a1 (e_var 13 (by kernel_rfl) (.inl (by kernel_rfl)) (by kernel_rfl) (by kernel_rfl))))))))))) (by kernel_rfl) (.inl (by kernel_rfl)) rfl (.inl rfl))
  (ss_one (s_ret (e_and (e_c C.c12 bind_12 hr (gl_of (by kernel_rfl)) (a2 (e_var 15 (by kernel_rfl) (.inl (by kernel_rfl)) (by kernel_rfl) (by kernel_rfl)) (a1 (e_var 14 (by kernel_rfl) (.inl (by kernel_rfl)) (by kernel_rfl) (by kernel_rfl))))) (e_one (e_cmp (c_eq hu) (e_var 13 (by kernel_rfl) (.inl (by kernel_rfl)) (by kernel_rfl) (by kernel_rfl)) (e_c C.c11 bind_11 hr (gl_of (by kernel_rfl)) (a1 (e_fz 8 (by kernel_rfl) (.inl (by kernel_rfl)) (by kernel_rfl) (by kernel_rfl))))))))))))))))))))))
theorem body_22 (G : Glo mg) (C : Calls P w K mg base k c) (f : Addr) (cdv : Value) (A : Around) (outer : List PySem.Env) (s : Shared) (H : Hp) (E : XK) (hr : Room k (A.deeper (envOfC "_law_right" (defScope (top 24)) s.heap.objs.size f cdv))) :
    PSs (cxOf CX0 P w K mg base N_22 "_law_right" (defScope (top 24)) f cdv A outer s H E).nox (defBody (top 24)) (tSv K XF [0] (sv_22 c)) := by
  have hu := hr.units
  have hu1 := room1 hr
  exact (ss_one (s_ret (e_and (e_c0 C.c20 bind_20 hr (gl_of (by kernel_rfl))) (e_one (e_callBR (b_all rfl) (gl_of (by kernel_rfl)) G.g_all boot_all (a1 (e_comp rfl nd_22 (own := [("_law_turn", 1)]) (blkOk_by (by kernel_rfl)) (i_rng1 (gl_of (by kernel_rfl)) G.g_range e_int) (fun _ _ _ _ _ => (g_name 1 nd_22 (by kernel_rfl) (.inl (by kernel_rfl)) (.inr (by kernel_rfl)))) (fun _ _ _ _ _ => ts_nil) (fun _ _ _ _ _ => (e_c C.c21 bind_21 hr (gl_of (by kernel_rfl)) (a1 (e_var 0 (by kernel_rfl) (.inr (.inl (by kernel_rfl))) (by kernel_rfl) (by kernel_rfl))))))))))))
theorem body_23 (G : Glo mg) (C : Calls P w K mg base k c) (f : Addr) (cdv : Value) (A : Around) (outer : List PySem.Env) (s : Shared) (H : Hp) (E : XK) (hr : Room k (A.deeper (envOfC "law" (defScope (top 25)) s.heap.objs.size f cdv))) :
    PSs (cxOf CX0 P w K mg base N_23 "law" (defScope (top 25)) f cdv A outer s H E).nox (defBody (top 25)) (tSv K XF [] (sv_23 c)) := by
  have hu := hr.units
  have hu1 := room1 hr
  exact (ss_cons (s_set 1 nd_23 (e_z (e_c C.c8 bind_8 hr (gl_of (by kernel_rfl)) (a2 (e_var 0 (by kernel_rfl) (.inl (by kernel_rfl)) (by kernel_rfl) (by kernel_rfl)) (a1 e_int)))) (by kernel_rfl) (.inr (by kernel_rfl)) rfl (.inl rfl))
  (ss_one (s_ret (e_callBR (b_all rfl) (gl_of (by kernel_rfl)) G.g_all boot_all (a1 (e_comp rfl nd_23 (own := [("_law_k", 2)]) (blkOk_by (by kernel_rfl)) (i_rng1 (gl_of (by kernel_rfl)) G.g_range (e_callBR b_len (gl_of (by kernel_rfl)) G.g_len boot_len (a1 (e_var 1 (by kernel_rfl) (.inr (.inl (by kernel_rfl))) (by kernel_rfl) (by kernel_rfl))))) (fun _ _ _ _ _ => (g_name 2 nd_23 (by kernel_rfl) (.inl (by kernel_rfl)) (.inr (by kernel_rfl)))) (fun _ _ _ _ _ => ts_nil) (fun _ _ _ _ _ => (e_c C.c22 bind_22 hr (gl_of (by kernel_rfl)) (a1 (e_c C.c6 bind_6 hr (gl_of (by kernel_rfl)) (a2 (e_var 1 (by kernel_rfl) (.inr (.inl (by kernel_rfl))) (by kernel_rfl) (by kernel_rfl)) (a1 (e_var 2 (by kernel_rfl) (.inl (by kernel_rfl)) (by kernel_rfl) (by kernel_rfl))))))))))))))
end
structure Defs (K : PySem.W.Frag) (mg : Str → Option Value) : Prop where
  d0 : ∃ (f : Addr) (fd : FuncData), FunD K "greatest_left" "greatest_left" (defArgs (top 1)) (defBody (top 1)) (defScope (top 1)) [] [] f fd ∧ mg "greatest_left" = some (.ref f)
  d1 : ∃ (f : Addr) (fd : FuncData), FunD K "fits_two" "fits_two" (defArgs (top 2)) (defBody (top 2)) (defScope (top 2)) [] [] f fd ∧ mg "fits_two" = some (.ref f)
  d2 : ∃ (f : Addr) (fd : FuncData), FunD K "out_of_two" "out_of_two" (defArgs (top 3)) (defBody (top 3)) (defScope (top 3)) [] [] f fd ∧ mg "out_of_two" = some (.ref f)
  d3 : ∃ (f : Addr) (fd : FuncData), FunD K "mets_left" "mets_left" (defArgs (top 4)) (defBody (top 4)) (defScope (top 4)) [] [] f fd ∧ mg "mets_left" = some (.ref f)
  d4 : ∃ (f : Addr) (fd : FuncData), FunD K "ask_for" "ask_for" (defArgs (top 5)) (defBody (top 5)) (defScope (top 5)) [] [] f fd ∧ mg "ask_for" = some (.ref f)
  d5 : ∃ (f : Addr) (fd : FuncData), FunD K "met_ask" "met_ask" (defArgs (top 6)) (defBody (top 6)) (defScope (top 6)) [] [] f fd ∧ mg "met_ask" = some (.ref f)
  d6 : ∃ (f : Addr) (fd : FuncData), FunD K "_law_box" "_law_box" (defArgs (top 8)) (defBody (top 8)) (defScope (top 8)) [] [] f fd ∧ mg "_law_box" = some (.ref f)
  d7 : ∃ (f : Addr) (fd : FuncData), FunD K "_law_take" "_law_take" (defArgs (top 9)) (defBody (top 9)) (defScope (top 9)) [] [] f fd ∧ mg "_law_take" = some (.ref f)
  d8 : ∃ (f : Addr) (fd : FuncData), FunD K "_law_cells" "_law_cells" (defArgs (top 10)) (defBody (top 10)) (defScope (top 10)) [] [] f fd ∧ mg "_law_cells" = some (.ref f)
  d9 : ∃ (f : Addr) (fd : FuncData), FunD K "_law_of" "_law_of" (defArgs (top 11)) (defBody (top 11)) (defScope (top 11)) [] [] f fd ∧ mg "_law_of" = some (.ref f)
  d10 : ∃ (f : Addr) (fd : FuncData), FunD K "_law_pick" "_law_pick" (defArgs (top 12)) (defBody (top 12)) (defScope (top 12)) [] [] f fd ∧ mg "_law_pick" = some (.ref f)
  d11 : ∃ (f : Addr) (fd : FuncData), FunD K "_law_lists" "_law_lists" (defArgs (top 13)) (defBody (top 13)) (defScope (top 13)) [] [] f fd ∧ mg "_law_lists" = some (.ref f)
  d12 : ∃ (f : Addr) (fd : FuncData), FunD K "_law_same" "_law_same" (defArgs (top 14)) (defBody (top 14)) (defScope (top 14)) [] [] f fd ∧ mg "_law_same" = some (.ref f)
  d13 : ∃ (f : Addr) (fd : FuncData), FunD K "_law_out" "_law_out" (defArgs (top 15)) (defBody (top 15)) (defScope (top 15)) [] [] f fd ∧ mg "_law_out" = some (.ref f)
  d14 : ∃ (f : Addr) (fd : FuncData), FunD K "_law_passed" "_law_passed" (defArgs (top 16)) (defBody (top 16)) (defScope (top 16)) [] [] f fd ∧ mg "_law_passed" = some (.ref f)
  d15 : ∃ (f : Addr) (fd : FuncData), FunD K "_law_left" "_law_left" (defArgs (top 17)) (defBody (top 17)) (defScope (top 17)) [] [] f fd ∧ mg "_law_left" = some (.ref f)
  d16 : ∃ (f : Addr) (fd : FuncData), FunD K "_law_limb" "_law_limb" (defArgs (top 18)) (defBody (top 18)) (defScope (top 18)) [] [] f fd ∧ mg "_law_limb" = some (.ref f)
  d17 : ∃ (f : Addr) (fd : FuncData), FunD K "_law_joint" "_law_joint" (defArgs (top 19)) (defBody (top 19)) (defScope (top 19)) [] [] f fd ∧ mg "_law_joint" = some (.ref f)
  d18 : ∃ (f : Addr) (fd : FuncData), FunD K "_law_fitting" "_law_fitting" (defArgs (top 20)) (defBody (top 20)) (defScope (top 20)) [] [] f fd ∧ mg "_law_fitting" = some (.ref f)
  d19 : ∃ (f : Addr) (fd : FuncData), FunD K "_law_ask" "_law_ask" (defArgs (top 21)) (defBody (top 21)) (defScope (top 21)) [] [] f fd ∧ mg "_law_ask" = some (.ref f)
  d20 : ∃ (f : Addr) (fd : FuncData), FunD K "_law_by_hand_right" "_law_by_hand_right" (defArgs (top 22)) (defBody (top 22)) (defScope (top 22)) [] [] f fd ∧ mg "_law_by_hand_right" = some (.ref f)
  d21 : ∃ (f : Addr) (fd : FuncData), FunD K "_law_case_right" "_law_case_right" (defArgs (top 23)) (defBody (top 23)) (defScope (top 23)) [] [] f fd ∧ mg "_law_case_right" = some (.ref f)
  d22 : ∃ (f : Addr) (fd : FuncData), FunD K "_law_right" "_law_right" (defArgs (top 24)) (defBody (top 24)) (defScope (top 24)) [] [] f fd ∧ mg "_law_right" = some (.ref f)
  d23 : ∃ (f : Addr) (fd : FuncData), FunD K "law" "law" (defArgs (top 25)) (defBody (top 25)) (defScope (top 25)) [] [] f fd ∧ mg "law" = some (.ref f)
theorem calls {P : Program} {w : World} {K : PySem.W.Frag} {mg : Str → Option Value} {base : Heap} (G : Glo mg) (Df : Defs K mg) : ∀ k, Calls P w K mg base k (callN bodies k)
  | 0 => by
    refine ⟨?_, ?_, ?_, ?_, ?_, ?_, ?_, ?_, ?_, ?_, ?_, ?_, ?_, ?_, ?_, ?_, ?_, ?_, ?_, ?_, ?_, ?_, ?_, ?_⟩
    · obtain ⟨f, fd, F, hm⟩ := Df.d0; exact cal_zero F hm
    · obtain ⟨f, fd, F, hm⟩ := Df.d1; exact cal_zero F hm
    · obtain ⟨f, fd, F, hm⟩ := Df.d2; exact cal_zero F hm
    · obtain ⟨f, fd, F, hm⟩ := Df.d3; exact cal_zero F hm
    · obtain ⟨f, fd, F, hm⟩ := Df.d4; exact cal_zero F hm
    · obtain ⟨f, fd, F, hm⟩ := Df.d5; exact cal_zero F hm
    · obtain ⟨f, fd, F, hm⟩ := Df.d6; exact cal_zero F hm
    · obtain ⟨f, fd, F, hm⟩ := Df.d7; exact cal_zero F hm
    · obtain ⟨f, fd, F, hm⟩ := Df.d8; exact cal_zero F hm
    · obtain ⟨f, fd, F, hm⟩ := Df.d9; exact cal_zero F hm
    · obtain ⟨f, fd, F, hm⟩ := Df.d10; exact cal_zero F hm
    · obtain ⟨f, fd, F, hm⟩ := Df.d11; exact cal_zero F hm
    · obtain ⟨f, fd, F, hm⟩ := Df.d12; exact cal_zero F hm
    · obtain ⟨f, fd, F, hm⟩ := Df.d13; exact cal_zero F hm
    · obtain ⟨f, fd, F, hm⟩ := Df.d14; exact cal_zero F hm
    · obtain ⟨f, fd, F, hm⟩ := Df.d15; exact cal_zero F hm
    · obtain ⟨f, fd, F, hm⟩ := Df.d16; exact cal_zero F hm
    · obtain ⟨f, fd, F, hm⟩ := Df.d17; exact cal_zero F hm
    · obtain ⟨f, fd, F, hm⟩ := Df.d18; exact cal_zero F hm
    · obtain ⟨f, fd, F, hm⟩ := Df.d19; exact cal_zero F hm
    · obtain ⟨f, fd, F, hm⟩ := Df.d20; exact cal_zero F hm
    · obtain ⟨f, fd, F, hm⟩ := Df.d21; exact cal_zero F hm
    · obtain ⟨f, fd, F, hm⟩ := Df.d22; exact cal_zero F hm
    · obtain ⟨f, fd, F, hm⟩ := Df.d23; exact cal_zero F hm
  | k + 1 => by
    have C : Calls P w K mg base k (callN bodies k) := calls G Df k
    refine ⟨?_, ?_, ?_, ?_, ?_, ?_, ?_, ?_, ?_, ?_, ?_, ?_, ?_, ?_, ?_, ?_, ?_, ?_, ?_, ?_, ?_, ?_, ?_, ?_⟩
    · obtain ⟨f, fd, F, hm⟩ := Df.d0; exact cal_ev F hm sc_0 fun cdv A outer s H E hr => body_0 G C f cdv A outer s H E hr
    · obtain ⟨f, fd, F, hm⟩ := Df.d1; exact cal_ev F hm sc_1 fun cdv A outer s H E hr => body_1 G C f cdv A outer s H E hr
    · obtain ⟨f, fd, F, hm⟩ := Df.d2; exact cal_ev F hm sc_2 fun cdv A outer s H E hr => body_2 G C f cdv A outer s H E hr
    · obtain ⟨f, fd, F, hm⟩ := Df.d3; exact cal_ev F hm sc_3 fun cdv A outer s H E hr => body_3 G C f cdv A outer s H E hr
    · obtain ⟨f, fd, F, hm⟩ := Df.d4; exact cal_ev F hm sc_4 fun cdv A outer s H E hr => body_4 G C f cdv A outer s H E hr
    · obtain ⟨f, fd, F, hm⟩ := Df.d5; exact cal_ev F hm sc_5 fun cdv A outer s H E hr => body_5 G C f cdv A outer s H E hr
    · obtain ⟨f, fd, F, hm⟩ := Df.d6; exact cal_ev F hm sc_6 fun cdv A outer s H E hr => body_6 G C f cdv A outer s H E hr
    · obtain ⟨f, fd, F, hm⟩ := Df.d7; exact cal_ev F hm sc_7 fun cdv A outer s H E hr => body_7 G C f cdv A outer s H E hr
    · obtain ⟨f, fd, F, hm⟩ := Df.d8; exact cal_ev F hm sc_8 fun cdv A outer s H E hr => body_8 G C f cdv A outer s H E hr
    · obtain ⟨f, fd, F, hm⟩ := Df.d9; exact cal_ev F hm sc_9 fun cdv A outer s H E hr => body_9 G C f cdv A outer s H E hr
    · obtain ⟨f, fd, F, hm⟩ := Df.d10; exact cal_ev F hm sc_10 fun cdv A outer s H E hr => body_10 G C f cdv A outer s H E hr
    · obtain ⟨f, fd, F, hm⟩ := Df.d11; exact cal_ev F hm sc_11 fun cdv A outer s H E hr => body_11 G C f cdv A outer s H E hr
    · obtain ⟨f, fd, F, hm⟩ := Df.d12; exact cal_ev F hm sc_12 fun cdv A outer s H E hr => body_12 G C f cdv A outer s H E hr
    · obtain ⟨f, fd, F, hm⟩ := Df.d13; exact cal_ev F hm sc_13 fun cdv A outer s H E hr => body_13 G C f cdv A outer s H E hr
    · obtain ⟨f, fd, F, hm⟩ := Df.d14; exact cal_ev F hm sc_14 fun cdv A outer s H E hr => body_14 G C f cdv A outer s H E hr
    · obtain ⟨f, fd, F, hm⟩ := Df.d15; exact cal_ev F hm sc_15 fun cdv A outer s H E hr => body_15 G C f cdv A outer s H E hr
    · obtain ⟨f, fd, F, hm⟩ := Df.d16; exact cal_ev F hm sc_16 fun cdv A outer s H E hr => body_16 G C f cdv A outer s H E hr
    · obtain ⟨f, fd, F, hm⟩ := Df.d17; exact cal_ev F hm sc_17 fun cdv A outer s H E hr => body_17 G C f cdv A outer s H E hr
    · obtain ⟨f, fd, F, hm⟩ := Df.d18; exact cal_ev F hm sc_18 fun cdv A outer s H E hr => body_18 G C f cdv A outer s H E hr
    · obtain ⟨f, fd, F, hm⟩ := Df.d19; exact cal_ev F hm sc_19 fun cdv A outer s H E hr => body_19 G C f cdv A outer s H E hr
    · obtain ⟨f, fd, F, hm⟩ := Df.d20; exact cal_ev F hm sc_20 fun cdv A outer s H E hr => body_20 G C f cdv A outer s H E hr
    · obtain ⟨f, fd, F, hm⟩ := Df.d21; exact cal_ev F hm sc_21 fun cdv A outer s H E hr => body_21 G C f cdv A outer s H E hr
    · obtain ⟨f, fd, F, hm⟩ := Df.d22; exact cal_ev F hm sc_22 fun cdv A outer s H E hr => body_22 G C f cdv A outer s H E hr
    · obtain ⟨f, fd, F, hm⟩ := Df.d23; exact cal_ev F hm sc_23 fun cdv A outer s H E hr => body_23 G C f cdv A outer s H E hr
def dd_0 : He.DefD := ⟨("greatest_left", none), "greatest_left", "greatest_left", defArgs (top 1), defBody (top 1), defScope (top 1), [], []⟩
def dd_1 : He.DefD := ⟨("fits_two", none), "fits_two", "fits_two", defArgs (top 2), defBody (top 2), defScope (top 2), [], []⟩
def dd_2 : He.DefD := ⟨("out_of_two", none), "out_of_two", "out_of_two", defArgs (top 3), defBody (top 3), defScope (top 3), [], []⟩
def dd_3 : He.DefD := ⟨("mets_left", none), "mets_left", "mets_left", defArgs (top 4), defBody (top 4), defScope (top 4), [], []⟩
def dd_4 : He.DefD := ⟨("ask_for", none), "ask_for", "ask_for", defArgs (top 5), defBody (top 5), defScope (top 5), [], []⟩
def dd_5 : He.DefD := ⟨("met_ask", none), "met_ask", "met_ask", defArgs (top 6), defBody (top 6), defScope (top 6), [], []⟩
def dd_6 : He.DefD := ⟨("_law_box", none), "_law_box", "_law_box", defArgs (top 8), defBody (top 8), defScope (top 8), [], []⟩
def dd_7 : He.DefD := ⟨("_law_take", none), "_law_take", "_law_take", defArgs (top 9), defBody (top 9), defScope (top 9), [], []⟩
def dd_8 : He.DefD := ⟨("_law_cells", none), "_law_cells", "_law_cells", defArgs (top 10), defBody (top 10), defScope (top 10), [], []⟩
def dd_9 : He.DefD := ⟨("_law_of", none), "_law_of", "_law_of", defArgs (top 11), defBody (top 11), defScope (top 11), [], []⟩
def dd_10 : He.DefD := ⟨("_law_pick", none), "_law_pick", "_law_pick", defArgs (top 12), defBody (top 12), defScope (top 12), [], []⟩
def dd_11 : He.DefD := ⟨("_law_lists", none), "_law_lists", "_law_lists", defArgs (top 13), defBody (top 13), defScope (top 13), [], []⟩
def dd_12 : He.DefD := ⟨("_law_same", none), "_law_same", "_law_same", defArgs (top 14), defBody (top 14), defScope (top 14), [], []⟩
def dd_13 : He.DefD := ⟨("_law_out", none), "_law_out", "_law_out", defArgs (top 15), defBody (top 15), defScope (top 15), [], []⟩
def dd_14 : He.DefD := ⟨("_law_passed", none), "_law_passed", "_law_passed", defArgs (top 16), defBody (top 16), defScope (top 16), [], []⟩
def dd_15 : He.DefD := ⟨("_law_left", none), "_law_left", "_law_left", defArgs (top 17), defBody (top 17), defScope (top 17), [], []⟩
def dd_16 : He.DefD := ⟨("_law_limb", none), "_law_limb", "_law_limb", defArgs (top 18), defBody (top 18), defScope (top 18), [], []⟩
def dd_17 : He.DefD := ⟨("_law_joint", none), "_law_joint", "_law_joint", defArgs (top 19), defBody (top 19), defScope (top 19), [], []⟩
def dd_18 : He.DefD := ⟨("_law_fitting", none), "_law_fitting", "_law_fitting", defArgs (top 20), defBody (top 20), defScope (top 20), [], []⟩
def dd_19 : He.DefD := ⟨("_law_ask", none), "_law_ask", "_law_ask", defArgs (top 21), defBody (top 21), defScope (top 21), [], []⟩
def dd_20 : He.DefD := ⟨("_law_by_hand_right", none), "_law_by_hand_right", "_law_by_hand_right", defArgs (top 22), defBody (top 22), defScope (top 22), [], []⟩
def dd_21 : He.DefD := ⟨("_law_case_right", none), "_law_case_right", "_law_case_right", defArgs (top 23), defBody (top 23), defScope (top 23), [], []⟩
def dd_22 : He.DefD := ⟨("_law_right", none), "_law_right", "_law_right", defArgs (top 24), defBody (top 24), defScope (top 24), [], []⟩
def dd_23 : He.DefD := ⟨("law", none), "law", "law", defArgs (top 25), defBody (top 25), defScope (top 25), [], []⟩
def fnl : List He.DefD := [dd_0, dd_1, dd_2, dd_3, dd_4, dd_5, dd_6, dd_7, dd_8, dd_9, dd_10, dd_11, dd_12, dd_13, dd_14, dd_15, dd_16, dd_17, dd_18, dd_19, dd_20, dd_21, dd_22, dd_23]
def fal : List He.Fa := [.glo "greatest_left", .glo "fits_two", .glo "out_of_two", .glo "mets_left", .glo "ask_for", .glo "met_ask", .glo "_law_box", .glo "_law_take", .glo "_law_cells", .glo "_law_of", .glo "_law_pick", .glo "_law_lists", .glo "_law_same", .glo "_law_out", .glo "_law_passed", .glo "_law_left", .glo "_law_limb", .glo "_law_joint", .glo "_law_fitting", .glo "_law_ask", .glo "_law_by_hand_right", .glo "_law_case_right", .glo "_law_right", .glo "law", .free "abs", .free "all", .free "bool", .free "dict", .free "enumerate", .free "int", .free "isinstance", .free "len", .free "list", .free "max", .free "min", .free "range", .free "str", .free "tuple", .free "zip"]
abbrev tyR : PySem.W.OpenRow := PySem.W.OpenLaw.row PySem.Challenge.rw_everynth_k71_numbers_met_and_what_to_ask
abbrev hk : PySem.W.Hook := hookN 4 fal fnl
def ob (s : PySem.W.SharedT) : AlN := obsN 4 fal fnl (HandSHeadRun.getT s)
theorem ob_eq (s : PySem.W.SharedT) : ob s = hk.obs s.abs := obsN_eq (HandSHeadRun.getT_eq s)
theorem run (w : World) : HandSHeadRun.RunEq tyR (PySem.W.view tyR.prog [0, 1, 2, 3, 4, 5, 6, 7, 8, 9, 10, 11, 12, 13, 14, 15, 16, 17, 18, 19, 20, 21, 22, 23, 24, 25]) hk ob 900 [] w := by
  intro os
  kernel_rfl
theorem facts {K : PySem.W.Frag} {h : Heap} {mg : Str → Option Value} (X : K.In h) (Gm : h.Ns mainGlobals mg) (c : He.SaysD fal fnl K) : Glo mg ∧ Defs K mg := by
  refine ⟨⟨He.free_ok X Gm (c.fact 24 (f := .free "abs") rfl), He.free_ok X Gm (c.fact 25 (f := .free "all") rfl), He.free_ok X Gm (c.fact 26 (f := .free "bool") rfl), He.free_ok X Gm (c.fact 27 (f := .free "dict") rfl), He.free_ok X Gm (c.fact 28 (f := .free "enumerate") rfl), He.free_ok X Gm (c.fact 29 (f := .free "int") rfl), He.free_ok X Gm (c.fact 30 (f := .free "isinstance") rfl), He.free_ok X Gm (c.fact 31 (f := .free "len") rfl), He.free_ok X Gm (c.fact 32 (f := .free "list") rfl), He.free_ok X Gm (c.fact 33 (f := .free "max") rfl), He.free_ok X Gm (c.fact 34 (f := .free "min") rfl), He.free_ok X Gm (c.fact 35 (f := .free "range") rfl), He.free_ok X Gm (c.fact 36 (f := .free "str") rfl), He.free_ok X Gm (c.fact 37 (f := .free "tuple") rfl), He.free_ok X Gm (c.fact 38 (f := .free "zip") rfl)⟩, ⟨?_, ?_, ?_, ?_, ?_, ?_, ?_, ?_, ?_, ?_, ?_, ?_, ?_, ?_, ?_, ?_, ?_, ?_, ?_, ?_, ?_, ?_, ?_, ?_⟩⟩
  · obtain ⟨fd, F⟩ := c.def_ 0 (d := dd_0) rfl; exact ⟨_, fd, F, He.glo_ok X Gm (c.fact 0 (f := .glo "greatest_left") rfl)⟩
  · obtain ⟨fd, F⟩ := c.def_ 1 (d := dd_1) rfl; exact ⟨_, fd, F, He.glo_ok X Gm (c.fact 1 (f := .glo "fits_two") rfl)⟩
  · obtain ⟨fd, F⟩ := c.def_ 2 (d := dd_2) rfl; exact ⟨_, fd, F, He.glo_ok X Gm (c.fact 2 (f := .glo "out_of_two") rfl)⟩
  · obtain ⟨fd, F⟩ := c.def_ 3 (d := dd_3) rfl; exact ⟨_, fd, F, He.glo_ok X Gm (c.fact 3 (f := .glo "mets_left") rfl)⟩
  · obtain ⟨fd, F⟩ := c.def_ 4 (d := dd_4) rfl; exact ⟨_, fd, F, He.glo_ok X Gm (c.fact 4 (f := .glo "ask_for") rfl)⟩
  · obtain ⟨fd, F⟩ := c.def_ 5 (d := dd_5) rfl; exact ⟨_, fd, F, He.glo_ok X Gm (c.fact 5 (f := .glo "met_ask") rfl)⟩
  · obtain ⟨fd, F⟩ := c.def_ 6 (d := dd_6) rfl; exact ⟨_, fd, F, He.glo_ok X Gm (c.fact 6 (f := .glo "_law_box") rfl)⟩
  · obtain ⟨fd, F⟩ := c.def_ 7 (d := dd_7) rfl; exact ⟨_, fd, F, He.glo_ok X Gm (c.fact 7 (f := .glo "_law_take") rfl)⟩
  · obtain ⟨fd, F⟩ := c.def_ 8 (d := dd_8) rfl; exact ⟨_, fd, F, He.glo_ok X Gm (c.fact 8 (f := .glo "_law_cells") rfl)⟩
  · obtain ⟨fd, F⟩ := c.def_ 9 (d := dd_9) rfl; exact ⟨_, fd, F, He.glo_ok X Gm (c.fact 9 (f := .glo "_law_of") rfl)⟩
  · obtain ⟨fd, F⟩ := c.def_ 10 (d := dd_10) rfl; exact ⟨_, fd, F, He.glo_ok X Gm (c.fact 10 (f := .glo "_law_pick") rfl)⟩
  · obtain ⟨fd, F⟩ := c.def_ 11 (d := dd_11) rfl; exact ⟨_, fd, F, He.glo_ok X Gm (c.fact 11 (f := .glo "_law_lists") rfl)⟩
  · obtain ⟨fd, F⟩ := c.def_ 12 (d := dd_12) rfl; exact ⟨_, fd, F, He.glo_ok X Gm (c.fact 12 (f := .glo "_law_same") rfl)⟩
  · obtain ⟨fd, F⟩ := c.def_ 13 (d := dd_13) rfl; exact ⟨_, fd, F, He.glo_ok X Gm (c.fact 13 (f := .glo "_law_out") rfl)⟩
  · obtain ⟨fd, F⟩ := c.def_ 14 (d := dd_14) rfl; exact ⟨_, fd, F, He.glo_ok X Gm (c.fact 14 (f := .glo "_law_passed") rfl)⟩
  · obtain ⟨fd, F⟩ := c.def_ 15 (d := dd_15) rfl; exact ⟨_, fd, F, He.glo_ok X Gm (c.fact 15 (f := .glo "_law_left") rfl)⟩
  · obtain ⟨fd, F⟩ := c.def_ 16 (d := dd_16) rfl; exact ⟨_, fd, F, He.glo_ok X Gm (c.fact 16 (f := .glo "_law_limb") rfl)⟩
  · obtain ⟨fd, F⟩ := c.def_ 17 (d := dd_17) rfl; exact ⟨_, fd, F, He.glo_ok X Gm (c.fact 17 (f := .glo "_law_joint") rfl)⟩
  · obtain ⟨fd, F⟩ := c.def_ 18 (d := dd_18) rfl; exact ⟨_, fd, F, He.glo_ok X Gm (c.fact 18 (f := .glo "_law_fitting") rfl)⟩
  · obtain ⟨fd, F⟩ := c.def_ 19 (d := dd_19) rfl; exact ⟨_, fd, F, He.glo_ok X Gm (c.fact 19 (f := .glo "_law_ask") rfl)⟩
  · obtain ⟨fd, F⟩ := c.def_ 20 (d := dd_20) rfl; exact ⟨_, fd, F, He.glo_ok X Gm (c.fact 20 (f := .glo "_law_by_hand_right") rfl)⟩
  · obtain ⟨fd, F⟩ := c.def_ 21 (d := dd_21) rfl; exact ⟨_, fd, F, He.glo_ok X Gm (c.fact 21 (f := .glo "_law_case_right") rfl)⟩
  · obtain ⟨fd, F⟩ := c.def_ 22 (d := dd_22) rfl; exact ⟨_, fd, F, He.glo_ok X Gm (c.fact 22 (f := .glo "_law_right") rfl)⟩
  · obtain ⟨fd, F⟩ := c.def_ 23 (d := dd_23) rfl; exact ⟨_, fd, F, He.glo_ok X Gm (c.fact 23 (f := .glo "law") rfl)⟩
end Lw
open PySem PySem.W PySem.Calls PyProof.Rows
theorem PySem.Challenge.cw_everynth_k71_numbers_met_and_what_to_ask_holds : PySem.Challenge.rw_everynth_k71_numbers_met_and_what_to_ask.Holds := by
  w_on; o_law
  refine HandSHeadRun.head_any (r := OpenLaw.row PySem.Challenge.rw_everynth_k71_numbers_met_and_what_to_ask) (q := view (OpenLaw.row PySem.Challenge.rw_everynth_k71_numbers_met_and_what_to_ask).prog [0, 1, 2, 3, 4, 5, 6, 7, 8, 9, 10, 11, 12, 13, 14, 15, 16, 17, 18, 19, 20, 21, 22, 23, 24, 25]) (H := Lw.hk) (ob := Lw.ob) (M := 900) (loose := []) (d := HandSHeadRun.topDef (OpenLaw.row PySem.Challenge.rw_everynth_k71_numbers_met_and_what_to_ask).prog 25) (kwd := []) Lw.ob_eq
    (by kernel_rfl) (fun s => by kernel_rfl) Lw.run (by kernel_rfl) (by kernel_rfl) (by kernel_rfl) (by rfl) (by first | assumption | decide +kernel) (by decide +kernel) ⟨rfl, rfl, rfl, rfl, rfl, by decide +kernel⟩ ?hw ?hc
  case hw => w_witness2
  case hc =>
    refine L2.walk_ofE (l := PySem.Challenge.rw_everynth_k71_numbers_met_and_what_to_ask) (n := 63) (k := 30 + 1) (x := "_law_script") (CX := L2.CX0) rfl (by decide) (by kernel_rfl) ⟨rfl, by decide, by decide⟩ ?F (fun _ _ _ _ z => z)
    intro w mg fa h Y G hmg0
    obtain ⟨K, KX, hN, c⟩ := Y
    have hmg : mg ("law" : PySem.Str) = some (.ref fa) := by
      have e : (HandSHeadRun.topDef (OpenLaw.row PySem.Challenge.rw_everynth_k71_numbers_met_and_what_to_ask).prog 25).name = ("law" : PySem.Str) := by kernel_rfl
      rw [← e]
      exact hmg0
    obtain ⟨Gl, Df⟩ := Lw.facts KX G c
    obtain ⟨f, fd, F, hm⟩ := Df.d23
    have e : fa = f := by
      rw [hmg] at hm
      cases hm
      rfl
    subst e
    refine ⟨K, fd, Ev.spF K Ev.EX0 (Ev.callN Lw.bodies (30 + 1) 23), KX, fun s v => L2.FunD.bindsA F Lw.bind_23 s [v] rfl, fun H a ns hl hO hS => Ev.law_sp hN hS (Lw.law_true ns hl), fun base kb nb => ?_⟩
    exact Ev.fn_cal F Lw.sc_23 fun cdv A outer s H E hr => Lw.body_23 Gl (Lw.calls Gl Df 30) fa cdv A outer s H E hr
