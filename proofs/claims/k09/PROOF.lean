import PyProof.Rows.All
import Wide.All
import OpenK.AllK
import Wide.FinOn
import HandS.ForMost
import HandS.ForExc
import HandS.Wide
import HandS.IsInst
import HandS.TupAny
import HandS.RaiseMore
import HandS.Exc
import HandS.ExcOwn
import HandS.Walk
import HandS.Comp
import HandS.Style
import HandS.ExcField
import HandS.TryMany
import HandS.EndBits
import HandS.Head0
import HandS.Head1
import HandS.Head2
import HandS.HeadHook1
import HandS.HeadHook2
import HandS.Codes
import KE.KSuper
import KE.KFromBytes
import HandS.ExcSuper
import HandS.ExcInit
import HandS.HeadWalk
import KE.KIntText
import PyProof.Rows.ReprOcc
import HandS.HeadEnd
import PySem.Challenge.RW_twohandswon_k09_fractions
set_option Elab.async false
section
set_option linter.all false
set_option maxRecDepth 100000
set_option maxHeartbeats 1000000
/-! Mini: a small language with values by content and a store for what may change; its meaning as functions. -/
namespace Mini
open PySem
abbrev Chs := List Nat
/-- values: a tuple or a list that nobody changes by its items; ref: a list that may change, by its place in the store; ro: a list from outside that is read alone; fn: a def of the program -/
inductive D where
  | non | bl (b : Bool) | int (i : Int) | str (s : Chs) | tup (xs : List D) | lst (xs : List D) | ro (xs : List D) | ref (n : Nat) | fn (i : Nat)
  deriving Inhabited
inductive SO where
  | lst (xs : List D) | dead
  deriving Inhabited
abbrev Sto := List SO
abbrev Env := List (Option D)
structure Exc where
  cls : Nat
  flds : List (Str × D)
inductive Res (α : Type) where
  | ok (a : α) (st : Sto) | exc (x : Exc) (st : Sto) | bad
def Res.bnd {α β : Type} (r : Res α) (f : α → Sto → Res β) : Res β := match r with
  | .ok a st => f a st
  | .exc x st => .exc x st
  | .bad => .bad
@[simp] theorem bnd_ok {α β : Type} (a : α) (st : Sto) (f : α → Sto → Res β) : (Res.ok a st).bnd f = f a st := rfl
@[simp] theorem bnd_exc {α β : Type} (x : Exc) (st : Sto) (f : α → Sto → Res β) : (Res.exc x st : Res α).bnd f = .exc x st := rfl
@[simp] theorem bnd_bad {α β : Type} (f : α → Sto → Res β) : (Res.bad : Res α).bnd f = .bad := rfl
inductive Out where
  | nx (env : Env) (st : Sto) | ret (d : D) (st : Sto) | brk (env : Env) (st : Sto) | cont (env : Env) (st : Sto) | exc (x : Exc) (env : Env) (st : Sto) | bad

/-! ### the syntax -/
inductive Ty where
  | int | bool | str | tuple | list | none | own (c : Nat)
  deriving DecidableEq, Inhabited
inductive Pr where
  | add | sub | mul | fdiv | mod | pow | neg | eq | ne | lt | le | gt | ge | isin | notin | isN | notN
  | ix | sl (lo hi : Bool)
  | len | abs | int | str | tuple | list | all | any | isi (ts : List Ty) | repr
  | append | pop | extend | split | partition | join
  | iadd | isub | imul
  deriving DecidableEq, Inhabited
inductive Tg where
  | nm (i : Nat) | tp (ts : List Nat)
  deriving DecidableEq, Inhabited
mutual
inductive Ex where
  | lit (d : D) | var (i : Nat)
  | tup (es : Exs) | lst (es : Exs) | vlst (es : Exs)
  | pr (p : Pr) (es : Exs)
  | mth (p : Pr) (o : Ex) (es : Exs)
  | call (f : Nat) (es : Exs) | callv (f : Ex) (es : Exs)
  | andE (a b : Ex) | orE (a b : Ex) | notE (a : Ex) | ife (c a b : Ex) | chain (p q : Pr) (a b c : Ex)
  | comp (v : Bool) (wp : List Nat) (t : Tg) (it : It) (c : Exs) (e : Ex)
inductive Exs where
  | nil | cons (e : Ex) (es : Exs)
inductive It where
  | seq (e : Ex) | rng (es : Exs) | enum (e : Ex) | zip (a b : Ex)
end
/-- what an except suite hands back: a constant, an empty list, the exception's one field (its written form) between two texts -/
inductive He where
  | lit (d : D) | nilL | fld (c : Nat) (f : Str) (s : Bool) (pre post : Chs)
inductive Hd where
  | on (c : Nat) (i : Option Nat) (e : He)
mutual
inductive Sm where
  | asg (t : Tg) (e : Ex) | par (is : List Nat) (es : Exs) | asgIx (o i e : Ex) | aug (i : Nat) (p : Pr) (e : Ex)
  | ex (e : Ex) | ret (fz : Bool) (e : Ex) | retN
  | ife (c : Ex) (a b : Sms) | for_ (t : Tg) (it : It) (b : Sms) | while_ (c : Ex) (b : Sms)
  | raise (c : Nat) (es : Exs) | try_ (b : Sms) (hs : List Hd) | pass | brk | cont
inductive Sms where
  | nil | cons (s : Sm) (ss : Sms)
end

/-! ### primitives -/
@[simp] def cutL {α : Type} (xs : List α) (lo hi : Option Int) : List α := (xs.drop (HT.sIx xs.length 0 lo)).take (HT.sIx xs.length xs.length hi - HT.sIx xs.length 0 lo)
/-- as plain data, lists by what the store holds -/
def toPD (st : Sto) : Nat → D → Option PyData
  | 0, _ => none
  | _ + 1, .non => some .none
  | _ + 1, .bl b => some (.bool b)
  | _ + 1, .int i => some (.int i)
  | _ + 1, .str s => some (.str ⟨s.toArray⟩)
  | n + 1, .tup xs => (xs.mapM (toPD st n)).map .tuple
  | n + 1, .lst xs => (xs.mapM (toPD st n)).map .list
  | n + 1, .ro xs => (xs.mapM (toPD st n)).map .list
  | n + 1, .ref k => match st[k]? with
    | some (.lst xs) => (xs.mapM (toPD st n)).map .list
    | _ => none
  | _ + 1, .fn _ => none
/-- how deep data may be for an ==, a repr -/
def deepMost : Nat := 1100
def flatD : D → Bool
  | .non => true | .bl _ => true | .int _ => true | .str _ => true | _ => false
def eqD : D → D → Bool
  | .non, .non => true
  | .bl a, .bl b => a == b
  | .bl a, .int b => (if a then 1 else 0) == b
  | .int a, .bl b => a == (if b then 1 else 0)
  | .int a, .int b => a == b
  | .str a, .str b => a == b
  | _, _ => false
/-- the items of a list, wherever it stands -/
def listOf (st : Sto) : D → Option (List D)
  | .lst xs => some xs
  | .ro xs => some xs
  | .ref k => match st[k]? with
    | some (.lst xs) => some xs
    | _ => none
  | _ => none
def seqOf (st : Sto) : D → Option (List D)
  | .tup xs => some xs
  | d => listOf st d
def itemsOf (st : Sto) : D → Option (List D)
  | .tup xs => some xs
  | .str s => some (s.map fun c => .str [c])
  | d => listOf st d
inductive Kd where
  | non | bool | int | str | tuple | list
  deriving DecidableEq
def kindD : D → Kd
  | .non => .non
  | .bl _ => .bool
  | .int _ => .int
  | .str _ => .str
  | .tup _ => .tuple
  | _ => .list
def isK : Kd → Ty → Bool
  | .int, .int => true
  | .bool, .int => true
  | .bool, .bool => true
  | .str, .str => true
  | .tuple, .tuple => true
  | .list, .list => true
  | .non, .none => true
  | _, _ => false
def isiD (st : Sto) (ts : List Ty) (x : D) : Option Bool := match x with
  | .fn _ => none
  | .ref n => match st[n]? with
    | some (.lst _) => some (ts.any (isK (kindD x)))
    | _ => none
  | x => some (ts.any (isK (kindD x)))
def bools : List D → Option (List Bool)
  | [] => some []
  | .bl b :: r => (bools r).map (b :: ·)
  | _ => none
def chars : List D → Option (List Chs)
  | [] => some []
  | .str b :: r => (chars r).map (b :: ·)
  | _ => none
def wide (i j : Int) : Bool := decide (i.natAbs.log2 + j.natAbs.log2 < 1000000)
abbrev Pm := Option (D × Sto)
def guardR (c : Bool) (r : Pm) : Pm := if c then r else none

def addD (st : Sto) (x y : D) : Pm := match x, y with
  | .int i, .int j => some (.int (i + j), st)
  | .str a, .str b => guardR (decide (a.length + b.length ≤ sizeLine)) (some (.str (a ++ b), st))
  | .tup a, .tup b => guardR (decide (a.length + b.length ≤ sizeLine)) (some (.tup (a ++ b), st))
  | .ro _, _ => none
  | _, .ro _ => none
  | x, y => match listOf st x, listOf st y with
    | some a, some b => guardR (decide (a.length + b.length ≤ sizeLine)) (some (.lst (a ++ b), st))
    | _, _ => none
def mulD (st : Sto) (x y : D) : Pm := match x, y with
  | .int i, .int j => guardR (wide i j) (some (.int (i * j), st))
  | .ro _, _ => none
  | x, .int k => match listOf st x with
    | some a => guardR (decide (-(2 ^ 63) ≤ k) && decide (k < 2 ^ 63) && decide (a.length * k.toNat ≤ sizeLine)) (some (.lst (List.replicate k.toNat a).flatten, st))
    | none => none
  | _, _ => none
/-- text order -/
def ltC (a b : Chs) : Bool := decide (a < b)
def cmpD (p : Pr) (x y : D) : Option Bool := match p, x, y with
  | .lt, .int i, .int j => some (decide (i < j))
  | .le, .int i, .int j => some (decide (i ≤ j))
  | .gt, .int i, .int j => some (decide (j < i))
  | .ge, .int i, .int j => some (decide (j ≤ i))
  | .lt, .str a, .str b => some (ltC a b)
  | .le, .str a, .str b => some (!ltC b a)
  | .gt, .str a, .str b => some (ltC b a)
  | .ge, .str a, .str b => some (!ltC a b)
  | _, _, _ => none
/-- == of data -/
def eqvD (st : Sto) (x y : D) : Option Bool := match toPD st 65 x, toPD st 65 y with
  | some a, some b => if SeqAt.shaped a && SeqAt.shaped b then some (PyData.eqv a b) else none
  | _, _ => none
def inD (st : Sto) (x y : D) : Option Bool := match x, y with
  | .str [c], .str z => some (decide (c ∈ z))
  | x, .tup ys => if flatD x && ys.all flatD then some (ys.any fun z => eqD z x) else none
  | x, y => match listOf st y with
    | some ys => if flatD x && ys.all flatD then some (ys.any fun z => eqD z x) else none
    | none => none
def boolR (st : Sto) : Option Bool → Pm
  | some b => some (.bl b, st)
  | none => none
def oneR (st : Sto) : Option D → Pm
  | some d => some (d, st)
  | none => none
def intO : D → Option Int
  | .int i => some i
  | _ => none
def atD (st : Sto) (x : D) (i : Int) : Option D := match x with
  | .str s => if s.length ≤ sizeLine then (L2.atI s i).map fun c => .str [c] else none
  | .tup xs => L2.atI xs i
  | x => (listOf st x).bind fun xs => L2.atI xs i
def slD (st : Sto) (x : D) (lo hi : Option Int) : Option D := match x with
  | .str s => if s.length ≤ sizeLine then some (.str (cutL s lo hi)) else none
  | .tup xs => some (.tup (cutL xs lo hi))
  | x => (listOf st x).map fun xs => .lst (cutL xs lo hi)
def lenD (st : Sto) (x : D) : Option D := match x with
  | .str s => if s.length ≤ sizeLine then some (.int s.length) else none
  | .tup xs => some (.int xs.length)
  | x => (listOf st x).map fun xs => .int xs.length
def strI (i : Int) : Chs := (toString i : Str).cps.toList
def intD : D → Option D
  | .int i => some (.int i)
  | .bl k => some (.int (if k then 1 else 0))
  | .str a => if a.length ≤ 640 then (PySem.intText? ⟨a.toArray⟩).map .int else none
  | _ => none
def strD : D → Option D
  | .int i => if i.natAbs.log2 < 1920 then some (.str (strI i)) else none
  | .str a => some (.str a)
  | _ => none
def tupD (st : Sto) (x : D) : Option D := match x with
  | .tup xs => some (.tup xs)
  | x => (listOf st x).map .tup
def lisD (st : Sto) (x : D) : Option D := match x with
  | .tup xs => some (.lst xs)
  | x => (listOf st x).map .lst
def reprD (st : Sto) (x : D) : Option D := match toPD st 65 x with
  | some a => if a.showable && decide (a.shown.length ≤ sizeLine) then some (.str a.shown.cps.toList) else none
  | none => none
def splitC (a b : Chs) : List Chs := (Txt.split ⟨a.toArray⟩ ⟨b.toArray⟩).map (·.cps.toList)
def partC (a b : Chs) : Chs × Chs × Chs := ((Txt.partition ⟨a.toArray⟩ ⟨b.toArray⟩).1.cps.toList, (Txt.partition ⟨a.toArray⟩ ⟨b.toArray⟩).2.1.cps.toList, (Txt.partition ⟨a.toArray⟩ ⟨b.toArray⟩).2.2.cps.toList)
def joinC (a : Chs) (ys : List Chs) : Chs := (Txt.join ⟨a.toArray⟩ (ys.map fun y => (⟨y.toArray⟩ : Str))).cps.toList
/-- what a primitive gives for its arguments -/
def prim (p : Pr) (xs : List D) (st : Sto) : Pm := match p, xs with
  | .add, [x, y] => addD st x y
  | .sub, [.int i, .int j] => some (.int (i - j), st)
  | .mul, [x, y] => mulD st x y
  | .fdiv, [.int i, .int j] => guardR (decide (j ≠ 0) && decide (j.natAbs.log2 < 9000)) (some (.int (i.fdiv j), st))
  | .mod, [.int i, .int j] => guardR (decide (j ≠ 0)) (some (.int (i.fmod j), st))
  | .pow, [.int i, .int j] => guardR (decide (0 ≤ j) && decide (j ≤ 1000000) && decide (i.natAbs < 2 ^ 64)) (some (.int (i ^ j.toNat), st))
  | .neg, [.int i] => some (.int (-i), st)
  | .eq, [x, y] => boolR st (eqvD st x y)
  | .ne, [x, y] => boolR st ((eqvD st x y).map not)
  | .lt, [x, y] => boolR st (cmpD .lt x y)
  | .le, [x, y] => boolR st (cmpD .le x y)
  | .gt, [x, y] => boolR st (cmpD .gt x y)
  | .ge, [x, y] => boolR st (cmpD .ge x y)
  | .isin, [x, y] => boolR st (inD st x y)
  | .notin, [x, y] => boolR st ((inD st x y).map not)
  | .isN, [x] => some (.bl (match x with | .non => true | _ => false), st)
  | .notN, [x] => some (.bl (match x with | .non => false | _ => true), st)
  | .ix, [x, .int i] => oneR st (atD st x i)
  | .sl false false, [x] => oneR st (slD st x none none)
  | .sl true false, [x, .int i] => oneR st (slD st x (some i) none)
  | .sl false true, [x, .int i] => oneR st (slD st x none (some i))
  | .sl true true, [x, .int i, .int j] => oneR st (slD st x (some i) (some j))
  | .len, [x] => oneR st (lenD st x)
  | .abs, [.int i] => some (.int (if i < 0 then -i else i), st)
  | .int, [x] => oneR st (intD x)
  | .str, [x] => oneR st (strD x)
  | .tuple, [x] => oneR st (tupD st x)
  | .list, [x] => oneR st (lisD st x)
  | .all, [x] => boolR st (((listOf st x).bind bools).map fun bs => bs.all id)
  | .any, [x] => boolR st (((listOf st x).bind bools).map fun bs => bs.any id)
  | .isi ts, [x] => boolR st (isiD st ts x)
  | .repr, [x] => oneR st (reprD st x)
  | .append, [.ref n, y] => match st[n]? with
    | some (.lst xs) => guardR (decide (xs.length < sizeLine)) (some (.non, st.set n (.lst (xs ++ [y]))))
    | _ => none
  | .pop, [.ref n] => match st[n]? with
    | some (.lst xs) => match xs[xs.length - 1]? with
      | some y => some (y, st.set n (.lst xs.dropLast))
      | none => none
    | _ => none
  | .extend, [.ref n, y] => match st[n]?, y with
    | some (.lst _), .ro _ => none
    | some (.lst xs), y => match listOf st y with
      | some ys => guardR (decide (xs.length + ys.length ≤ sizeLine)) (some (.non, st.set n (.lst (xs ++ ys))))
      | none => none
    | _, _ => none
  | .split, [.str a, .str b] => guardR (!b.isEmpty && decide (a.length + 2 ≤ sizeLine)) (some (.lst ((splitC a b).map .str), st))
  | .partition, [.str a, .str b] => guardR (!b.isEmpty && decide (a.length ≤ sizeLine)) (some (.tup [.str (partC a b).1, .str (partC a b).2.1, .str (partC a b).2.2], st))
  | .join, [.str a, x] => match (seqOf st x).bind chars with
    | some ys => guardR (decide ((ys.map (·.length)).sum + ys.length * a.length ≤ 16777216)) (some (.str (joinC a ys), st))
    | none => none
  | .iadd, [.int i, .int j] => some (.int (i + j), st)
  | .iadd, [.str a, .str b] => guardR (decide (a.length + b.length ≤ sizeLine)) (some (.str (a ++ b), st))
  | .isub, [.int i, .int j] => some (.int (i - j), st)
  | .imul, [.int i, .int j] => guardR (wide i j) (some (.int (i * j), st))
  | _, _ => none

/-! ### expressions -/
abbrev Call := Nat → List D → Sto → Res D
def getV (env : Env) (i : Nat) : Option D := (env[i]?).join
def setN : List Nat → List D → Env → Option Env
  | [], [], env => some env
  | i :: is, d :: ds, env => setN is ds (env.set i (some d))
  | _, _, _ => none
def setT (t : Tg) (d : D) (env : Env) : Option Env := match t with
  | .nm i => some (env.set i (some d))
  | .tp is => match d with
    | .tup ds => setN is ds env
    | _ => none
def wipeE : List Nat → Env → Env
  | [], env => env
  | v :: vs, env => (wipeE vs env).set v none
/-- the truth of a value -/
def truD (st : Sto) : D → Option Bool
  | .non => some false
  | .bl b => some b
  | .int i => some (i != 0)
  | .str s => if s.length ≤ sizeLine then some (!s.isEmpty) else none
  | .tup xs => some (!xs.isEmpty)
  | .fn _ => none
  | d => (listOf st d).map fun xs => !xs.isEmpty
def rangeL (lo : Int) (c : Int) (n : Nat) : List D := (List.range n).map fun i => .int (lo + (i : Nat) * c)
def inR62 (i : Int) : Bool := decide (-(2 ^ 62) ≤ i) && decide (i < 2 ^ 62)
def rngD : Nat → List D → Option (List D)
  | 1, [.int j] => if inR62 j then some (rangeL 0 1 j.toNat) else none
  | 2, [.int i, .int j] => if inR62 i && inR62 j then some (rangeL i 1 (j - i).toNat) else none
  | 3, [.int i, .int j, .int c] => if decide (c ≠ 0) && decide (c.natAbs < 1073741824) && Builtin.Range.small i j c then some (rangeL i c (Builtin.Range.rangeSize i j c).toNat) else none
  | _, _ => none
def Exs.len : Exs → Nat
  | .nil => 0
  | .cons _ es => es.len + 1
def enumL (xs : List D) : List D := xs.zipIdx.map fun p => .tup [.int (p.2 : Nat), p.1]
def zipL (xs ys : List D) : List D := (xs.zip ys).map fun p => .tup [p.1, p.2]
/-- the lists that are walked stand as they stood -/
def srcOK (g : List (Nat × List D)) (st : Sto) : Prop := ∀ p ∈ g, st[p.1]? = some (.lst p.2)
@[simp] theorem srcOK_nil (st : Sto) : srcOK [] st := fun _ h => nomatch h
open Classical in
/-- a comprehension over what is walked, given how a turn goes: none where the test fails -/
noncomputable def compL (g : List (Nat × List D)) (f : D → Sto → Res (Option D)) : List D → List D → Sto → Res (List D)
  | [], acc, st => if srcOK g st then .ok acc st else .bad
  | d :: ds, acc, st => if srcOK g st then match f d st with
      | .ok (some y) st' => if acc.length < sizeLine then compL g f ds (acc ++ [y]) st' else .bad
      | .ok none st' => compL g f ds acc st'
      | _ => .bad
    else .bad
/-- which lists of the store are walked -/
def srcOf (st : Sto) : D → List (Nat × List D)
  | .ref n => match st[n]? with
    | some (.lst xs) => [(n, xs)]
    | _ => []
  | _ => []
/-- what a method may be asked of -/
def rcv (p : Pr) (d : D) (st : Sto) : Bool := match p, d with
  | .append, .ref n => match st[n]? with
    | some (.lst _) => true
    | _ => false
  | .pop, .ref n => match st[n]? with
    | some (.lst _) => true
    | _ => false
  | .extend, .ref n => match st[n]? with
    | some (.lst _) => true
    | _ => false
  | .split, .str _ => true
  | .partition, .str _ => true
  | .join, .str _ => true
  | _, _ => false
def liftP (r : Pm) : Res D := match r with
  | some (d, st) => .ok d st
  | none => .bad
def truR (d : D) (st : Sto) : Res Bool := match truD st d with
  | some b => .ok b st
  | none => .bad
@[simp] theorem liftP_some (d : D) (st : Sto) : liftP (some (d, st)) = .ok d st := rfl
/-- one turn of a comprehension -/
def noExc {α : Type} (r : Res α) : Res α := match r with
  | .exc _ _ => .bad
  | r => r
mutual
noncomputable def evE (cl : Call) : Ex → Env → Sto → Res D
  | .lit d, _, st => .ok d st
  | .var i, env, st => match getV env i with
    | some d => .ok d st
    | none => .bad
  | .tup es, env, st => (evEs cl es env st).bnd fun ds st => if ds.length ≤ sizeLine then .ok (.tup ds) st else .bad
  | .lst es, env, st => (evEs cl es env st).bnd fun ds st => if ds.length ≤ sizeLine then .ok (.ref st.length) (st ++ [.lst ds]) else .bad
  | .vlst es, env, st => (evEs cl es env st).bnd fun ds st => if ds.length ≤ sizeLine then .ok (.lst ds) st else .bad
  | .pr p es, env, st => (evEs cl es env st).bnd fun ds st => liftP (prim p ds st)
  | .mth p o es, env, st => (evE cl o env st).bnd fun d st => if rcv p d st = true then (evEs cl es env st).bnd fun ds st => liftP (prim p (d :: ds) st) else .bad
  | .call f es, env, st => (evEs cl es env st).bnd fun ds st => cl f ds st
  | .callv f es, env, st => (evE cl f env st).bnd fun d st => match d with
    | .fn i => (evEs cl es env st).bnd fun ds st => cl i ds st
    | _ => .bad
  | .andE a b, env, st => (evE cl a env st).bnd fun d st => match d with
    | .bl true => evE cl b env st
    | .bl false => .ok (.bl false) st
    | _ => .bad
  | .orE a b, env, st => (evE cl a env st).bnd fun d st => match d with
    | .bl true => .ok (.bl true) st
    | .bl false => evE cl b env st
    | _ => .bad
  | .notE a, env, st => (evE cl a env st).bnd fun d st => match d with
    | .bl b => .ok (.bl (!b)) st
    | _ => .bad
  | .ife c a b, env, st => (evT cl c env st).bnd fun b' st => if b' = true then evE cl a env st else evE cl b env st
  | .chain p q a b c, env, st => (evE cl a env st).bnd fun x st => (evE cl b env st).bnd fun y st => (liftP (prim p [x, y] st)).bnd fun d st => match d with
    | .bl true => (evE cl c env st).bnd fun z st => liftP (prim q [y, z] st)
    | .bl false => .ok (.bl false) st
    | _ => .bad
  | .comp v wp t it c e, env, st => (evI cl it env st).bnd fun ig st =>
      (compL ig.2 (fun d st => match setT t d (wipeE wp env) with
        | some env' => noExc ((evC cl c env' st).bnd fun b st => if b = true then (evE cl e env' st).bnd fun y st => .ok (some y) st else .ok none st)
        | none => .bad) ig.1 [] st).bnd fun ys st => if v then .ok (.lst ys) st else .ok (.ref st.length) (st ++ [.lst ys])
noncomputable def evT (cl : Call) : Ex → Env → Sto → Res Bool
  | .andE a b, env, st => (evT cl a env st).bnd fun x st => if x = true then evT cl b env st else .ok false st
  | .orE a b, env, st => (evT cl a env st).bnd fun x st => if x = true then .ok true st else evT cl b env st
  | .notE a, env, st => (evT cl a env st).bnd fun x st => .ok (!x) st
  | .ife c a b, env, st => (evT cl c env st).bnd fun x st => if x = true then evT cl a env st else evT cl b env st
  | .pr p es, env, st => (evEs cl es env st).bnd fun ds st => (liftP (prim p ds st)).bnd truR
  | .var i, env, st => match getV env i with
    | some d => truR d st
    | none => .bad
  | .call f es, env, st => (evEs cl es env st).bnd fun ds st => (cl f ds st).bnd truR
  | .chain p q a b c, env, st => (evE cl a env st).bnd fun x st => (evE cl b env st).bnd fun y st => (liftP (prim p [x, y] st)).bnd fun d st => match d with
    | .bl true => (evE cl c env st).bnd fun z st => (liftP (prim q [y, z] st)).bnd fun d st => match d with
      | .bl r => .ok r st
      | _ => .bad
    | .bl false => .ok false st
    | _ => .bad
  | _, _, _ => .bad
noncomputable def evEs (cl : Call) : Exs → Env → Sto → Res (List D)
  | .nil, _, st => .ok [] st
  | .cons e es, env, st => (evE cl e env st).bnd fun d st => (evEs cl es env st).bnd fun ds st => .ok (d :: ds) st
/-- tests of a comprehension: none or one -/
noncomputable def evC (cl : Call) : Exs → Env → Sto → Res Bool
  | .nil, _, st => .ok true st
  | .cons e _, env, st => evT cl e env st
/-- what is walked, as a list, and the lists of the store that must stand meanwhile -/
noncomputable def evI (cl : Call) : It → Env → Sto → Res (List D × List (Nat × List D))
  | .seq e, env, st => (evE cl e env st).bnd fun d st => match itemsOf st d with
    | some ds => .ok (ds, srcOf st d) st
    | none => .bad
  | .rng es, env, st => (evEs cl es env st).bnd fun ds st => match rngD es.len ds with
    | some ds => .ok (ds, []) st
    | none => .bad
  | .enum e, env, st => (evE cl e env st).bnd fun d st => match listOf st d with
    | some ds => .ok (enumL ds, srcOf st d) st
    | none => .bad
  | .zip a b, env, st => (evE cl a env st).bnd fun x st => (evE cl b env st).bnd fun y st => match listOf st x, listOf st y with
    | some xs, some ys => .ok (zipL xs ys, srcOf st x ++ srcOf st y) st
    | _, _ => .bad
end

/-! ### statements -/
open Classical in
noncomputable def forL (g : List (Nat × List D)) (t : Tg) (b : Env → Sto → Out) : List D → Env → Sto → Out
  | [], env, st => if srcOK g st then .nx env st else .bad
  | d :: ds, env, st => if srcOK g st then match setT t d env with
      | some env => match b env st with
        | .nx env st => forL g t b ds env st
        | .cont env st => forL g t b ds env st
        | .brk env st => .nx env st
        | o => o
      | none => .bad
    else .bad
def loopN (c : Env → Sto → Res Bool) (b : Env → Sto → Out) : Nat → Env → Sto → Out
  | 0, _, _ => .bad
  | n + 1, env, st => match c env st with
    | .ok false st => .nx env st
    | .ok true st => match b env st with
      | .nx env st => loopN c b n env st
      | .cont env st => loopN c b n env st
      | .brk env st => .nx env st
      | o => o
    | .exc x st => .exc x env st
    | .bad => .bad
open Classical in
noncomputable def loopW (c : Env → Sto → Res Bool) (b : Env → Sto → Out) (env : Env) (st : Sto) : Out :=
  if h : ∃ n, loopN c b n env st ≠ .bad then loopN c b h.choose env st else .bad
/-- whether an exception class names another (own classes: itself or one above), by the program's table -/
structure Cls where
  up : List Nat
  flds : List Str
  num : Bool := false
abbrev Clss := List Cls
def isA (cs : Clss) (c d : Nat) : Bool := match cs[c]? with
  | some k => k.up.contains d
  | none => false
/-- what the suite of an except clause makes -/
def evH (x : Exc) : He → Option D
  | .lit d => some d
  | .nilL => some (.lst [])
  | .fld c f s pre post => if x.cls = c then match x.flds with
      | [(g, d)] => if g = f then match (if s then strD d else some d) with
          | some (.str a) => if pre.length + a.length + post.length ≤ sizeLine then some (.str (pre ++ a ++ post)) else none
          | _ => none
        else none
      | _ => none
    else none
/-- the slot that an except clause binds -/
def slotOk (i : Option Nat) (env : Env) : Bool := match i with
  | none => true
  | some i => decide (i < env.length)
def hands (cs : Clss) (x : Exc) : List Hd → Env → Sto → Out
  | [], env, st => .exc x env st
  | .on c i e :: hs, env, st => if isA cs x.cls c = true then (if slotOk i env = true then match evH x e with
        | some d => .ret d st
        | none => .bad
      else .bad) else hands cs x hs env st
/-- a list that is handed out, read alone from then on -/
def frz (fz : Bool) (d : D) (st : Sto) : Out := if fz then match d with
    | .ref n => match st[n]? with
      | some (.lst xs) => .ret (.lst xs) (st.set n .dead)
      | _ => .bad
    | d => .ret d st
  else .ret d st
/-- a number whose text is told when the exception is made -/
def numD : D → Bool
  | .int i => decide (i.natAbs.log2 < 1920) && decide ((strI i).length ≤ 1000)
  | _ => false
def numOk (k : Cls) (ds : List D) : Bool := !k.num || ds.all numD
def zipF : List Str → List D → Option (List (Str × D))
  | [], [] => some []
  | f :: fs, d :: ds => (zipF fs ds).map ((f, d) :: ·)
  | _, _ => none
def Res.out {α : Type} (r : Res α) (env : Env) (f : α → Sto → Out) : Out := match r with
  | .ok a st => f a st
  | .exc x st => .exc x env st
  | .bad => .bad
@[simp] theorem out_ok {α : Type} (a : α) (st : Sto) (env : Env) (f : α → Sto → Out) : (Res.ok a st).out env f = f a st := rfl
@[simp] theorem out_exc {α : Type} (x : Exc) (st : Sto) (env : Env) (f : α → Sto → Out) : (Res.exc x st : Res α).out env f = .exc x env st := rfl
@[simp] theorem out_bad {α : Type} (env : Env) (f : α → Sto → Out) : (Res.bad : Res α).out env f = .bad := rfl
def nxO (e : Option Env) (st : Sto) : Out := match e with
  | some env => .nx env st
  | none => .bad
def Out.sq (o : Out) (k : Env → Sto → Out) : Out := match o with
  | .nx env st => k env st
  | o => o
@[simp] theorem sq_nx (env : Env) (st : Sto) (k : Env → Sto → Out) : (Out.nx env st).sq k = k env st := rfl
@[simp] theorem sq_ret (d : D) (st : Sto) (k : Env → Sto → Out) : (Out.ret d st).sq k = .ret d st := rfl
@[simp] theorem sq_brk (env : Env) (st : Sto) (k : Env → Sto → Out) : (Out.brk env st).sq k = .brk env st := rfl
@[simp] theorem sq_cont (env : Env) (st : Sto) (k : Env → Sto → Out) : (Out.cont env st).sq k = .cont env st := rfl
@[simp] theorem sq_exc (x : Exc) (env : Env) (st : Sto) (k : Env → Sto → Out) : (Out.exc x env st).sq k = .exc x env st := rfl
@[simp] theorem sq_bad (k : Env → Sto → Out) : (Out.bad).sq k = .bad := rfl
def setIx (o i d : D) (st : Sto) : Option Sto := match o, i with
  | .ref n, .int k => match st[n]? with
    | some (.lst xs) => (L2.ixN xs.length k).map fun j => st.set n (.lst (xs.set j d))
    | _ => none
  | _, _ => none
def Out.tr (o : Out) (h : Exc → Env → Sto → Out) : Out := match o with
  | .exc x env st => h x env st
  | o => o
mutual
noncomputable def exS (cs : Clss) (cl : Call) : Sm → Env → Sto → Out
  | .asg t e, env, st => (evE cl e env st).out env fun d st => nxO (setT t d env) st
  | .par is es, env, st => (evEs cl es env st).out env fun ds st => nxO (setN is ds env) st
  | .asgIx o i e, env, st => (evE cl e env st).out env fun d st => (evE cl o env st).out env fun x st => (evE cl i env st).out env fun y st => match setIx x y d st with
    | some st => .nx env st
    | none => .bad
  | .aug i p e, env, st => match getV env i with
    | some x => (evE cl e env st).out env fun y st => (liftP (prim p [x, y] st)).out env fun z st => .nx (env.set i (some z)) st
    | none => .bad
  | .ex e, env, st => (evE cl e env st).out env fun _ st => .nx env st
  | .ret fz e, env, st => (evE cl e env st).out env fun d st => frz fz d st
  | .retN, _, st => .ret .non st
  | .ife c a b, env, st => (evT cl c env st).out env fun x st => if x = true then exSs cs cl a env st else exSs cs cl b env st
  | .for_ t it b, env, st => (evI cl it env st).out env fun ig st => forL ig.2 t (exSs cs cl b) ig.1 env st
  | .while_ c b, env, st => loopW (evT cl c) (exSs cs cl b) env st
  | .raise c es, env, st => (noExc (evEs cl es env st)).out env fun ds st => match cs[c]? with
      | some k => if numOk k ds = true then match zipF k.flds ds with
          | some fs => .exc ⟨c, fs⟩ env st
          | none => .bad
        else .bad
      | none => .bad
  | .try_ b hs, env, st => (exSs cs cl b env st).tr fun x env st => hands cs x hs env st
  | .pass, env, st => .nx env st
  | .brk, env, st => .brk env st
  | .cont, env, st => .cont env st
noncomputable def exSs (cs : Clss) (cl : Call) : Sms → Env → Sto → Out
  | .nil, env, st => .nx env st
  | .cons s ss, env, st => (exS cs cl s env st).sq fun env st => exSs cs cl ss env st
end

/-! ### calls -/
/-- a def: how many parameters, how many names, its body -/
structure Fn where
  np : Nat
  nn : Nat
  body : Sms
mutual
/-- no place of the store from n on is told -/
def below (n : Nat) : D → Bool
  | .ref k => decide (k < n)
  | .tup xs => belows n xs
  | .lst xs => belows n xs
  | .ro xs => belows n xs
  | _ => true
def belows (n : Nat) : List D → Bool
  | [] => true
  | d :: ds => below n d && belows n ds
end
def soBelow (n : Nat) : SO → Bool
  | .lst xs => belows n xs
  | .dead => true
/-- behind a call: what it made for itself goes, where nothing tells of it -/
def canCut (st0 st : Sto) : Prop := st0.length ≤ st.length ∧ ∀ i, i < st0.length → st[i]? = st0[i]? ∨ ∃ o, st[i]? = some o ∧ soBelow st0.length o = true
open Classical in
noncomputable def finish (st0 : Sto) : Out → Res D
  | .nx _ st => if canCut st0 st then .ok .non (st.take st0.length) else .ok .non st
  | .ret d st => if canCut st0 st ∧ below st0.length d = true then .ok d (st.take st0.length) else .ok d st
  | .exc x _ st => if canCut st0 st ∧ belows st0.length (x.flds.map (·.2)) = true then .exc x (st.take st0.length) else .exc x st
  | _ => .bad
def startE (nn : Nat) (ds : List D) : Env := ds.map some ++ List.replicate (nn - ds.length) none
structure Prog where
  cs : Clss
  fns : List Fn
noncomputable def callF (P : Prog) : Nat → Call
  | 0, _, _, _ => .bad
  | k + 1, f, ds, st => match P.fns[f]? with
    | some fn => if ds.length = fn.np then finish st (exSs P.cs (callF P k) fn.body (startE fn.nn ds) st) else .bad
    | none => .bad
end Mini
end
section
set_option linter.all false
set_option autoImplicit false
set_option maxRecDepth 100000
set_option maxHeartbeats 1000000
/-! How values and stores stand in the abstract heap of the hand layer. -/
namespace Mini
open PySem PySem.Spec PyProof.Rows L2
/-- where defs and classes stand -/
structure RC where
  K : PySem.W.Frag
  fa : Nat → Option Addr
  ca : Nat → Option Addr
  hid : List Addr := []
/-- with these addresses kept for a loop of ours -/
def RC.w (R : RC) (l : List Addr) : RC := { R with hid := l }
def NotLive (m : List Addr) (st : Sto) (a : Addr) : Prop := ∀ n : Nat, m[n]? = some a → st[n]? = some SO.dead
/-- nobody changes it, and no loop of ours fills it -/
def NL (hd : List Addr) (m : List Addr) (st : Sto) (a : Addr) : Prop := NotLive m st a ∧ a ∉ hd
def KTup (K : PySem.W.Frag) (a : Addr) (vs : List V) : Prop :=
  ∃ (o : Obj) (its : Array Value) (n : Nat), K.lookup a = some o ∧ o.cls = .type "tuple" ∧ o.data = .seq its n ∧ its.size ≤ sizeLine ∧ Vals vs its.toList
def KLst (K : PySem.W.Frag) (a : Addr) (vs : List V) : Prop :=
  ∃ (o : Obj) (its : Array Value) (n : Nat), K.lookup a = some o ∧ o.cls = .type "list" ∧ o.dict = none ∧ o.data = .seq its n ∧ its.size ≤ sizeLine ∧ Vals vs its.toList
def TupAt (R : RC) (m : List Addr) (st : Sto) (H : Hp) (a : Addr) (vs : List V) : Prop := (Rd H a (.tup vs) ∧ NL R.hid m st a) ∨ KTup R.K a vs
def RoAt (R : RC) (m : List Addr) (st : Sto) (H : Hp) (a : Addr) (vs : List V) : Prop := (Rd H a (.lst vs) ∧ NL R.hid m st a) ∨ KLst R.K a vs
theorem TupAt.sq {R : RC} {m : List Addr} {st : Sto} {H : Hp} {a : Addr} {vs : List V} (h : TupAt R m st H a vs) : SqT R.K H a vs := by
  rcases h with ⟨h, _⟩ | h
  · exact .inl h
  · exact .inr h
theorem RoAt.sq {R : RC} {m : List Addr} {st : Sto} {H : Hp} {a : Addr} {vs : List V} (h : RoAt R m st H a vs) : SqL R.K H a vs := by
  rcases h with ⟨h, _⟩ | h
  · exact .inl h
  · exact .inr h
section
variable (R : RC) (m : List Addr) (st : Sto) (H : Hp)
mutual
inductive Rep : D → V → Prop
  | non : Rep .non .non
  | bl (b : Bool) : Rep (.bl b) (.bl b)
  | int (i : Int) : Rep (.int i) (.int i)
  | str (s : Chs) : Rep (.str s) (.str ⟨s.toArray⟩)
  | tup {a : Addr} {vs : List V} {xs : List D} : TupAt R m st H a vs → Reps xs vs → Rep (.tup xs) (.ref a)
  | lst {a : Addr} {vs : List V} {xs : List D} : H a = some (.lst vs) → NL R.hid m st a → Reps xs vs → Rep (.lst xs) (.ref a)
  | ro {a : Addr} {vs : List V} {xs : List D} : RoAt R m st H a vs → Reps xs vs → Rep (.ro xs) (.ref a)
  | ref {a : Addr} {n : Nat} : m[n]? = some a → Rep (.ref n) (.ref a)
  | fn {a : Addr} {i : Nat} : R.fa i = some a → Rep (.fn i) (.ref a)
inductive Reps : List D → List V → Prop
  | nil : Reps [] []
  | cons {d : D} {v : V} {ds : List D} {vs : List V} : Rep d v → Reps ds vs → Reps (d :: ds) (v :: vs)
end
end
structure Ext (m : List Addr) (st : Sto) (H : Hp) (m' : List Addr) (st' : Sto) (H' : Hp) : Prop where
  pre : m <+: m'
  fresh : ∀ (n : Nat) a, m.length ≤ n → m'[n]? = some a → H a = none
  dead : ∀ n : Nat, st[n]? = some SO.dead → st'[n]? = some SO.dead
  keep : ∀ a o, H a = some o → NotLive m st a → H' a = some o
  stay : ∀ a, H a ≠ none → H' a ≠ none
structure SR (R : RC) (m : List Addr) (st : Sto) (H : Hp) : Prop where
  len : m.length = st.length
  nd : m.Nodup
  trk : ∀ (n : Nat) a, m[n]? = some a → H a ≠ none
  hd : ∀ a ∈ R.hid, H a ≠ none
  dj : ∀ (n : Nat) a, m[n]? = some a → a ∉ R.hid
  obj : ∀ (n : Nat) a xs, m[n]? = some a → st[n]? = some (.lst xs) → ∃ vs, H a = some (.lst vs) ∧ Reps R m st H xs vs
section
variable {R : RC} {m m' m'' : List Addr} {st st' st'' : Sto} {H H' H'' : Hp}
theorem pre_get {m m' : List Addr} (h : m <+: m') {n : Nat} {a : Addr} (e : m[n]? = some a) : m'[n]? = some a := by
  obtain ⟨t, rfl⟩ := h
  have hn : n < m.length := (List.getElem?_eq_some_iff.mp e).1
  rw [List.getElem?_append_left hn]
  exact e
theorem pre_back {m m' : List Addr} (h : m <+: m') {n : Nat} {a : Addr} (hn : n < m.length) (e : m'[n]? = some a) : m[n]? = some a := by
  obtain ⟨t, rfl⟩ := h
  rw [List.getElem?_append_left hn] at e
  exact e
theorem Ext.refl : Ext m st H m st H :=
  ⟨List.prefix_refl _, fun n a h e => by
    have := (List.getElem?_eq_some_iff.mp e).1
    omega, fun _ h => h, fun _ _ h _ => h, fun _ h => h⟩
theorem Ext.notLive (x : Ext m st H m' st' H') {a : Addr} (h : NotLive m st a) (ha : H a ≠ none) : NotLive m' st' a := fun n e => by
  by_cases hn : n < m.length
  · exact x.dead n (h n (pre_back x.pre hn e))
  · exact absurd (x.fresh n a (by omega) e) ha
theorem Ext.trans (x : Ext m st H m' st' H') (y : Ext m' st' H' m'' st'' H'') : Ext m st H m'' st'' H'' where
  pre := x.pre.trans y.pre
  fresh := fun n a hn e => by
    by_cases h : n < m'.length
    · exact x.fresh n a hn (pre_back y.pre h e)
    · have z := y.fresh n a (by omega) e
      cases q : H a with
      | none => rfl
      | some o => exact absurd z (x.stay a (by rw [q]; simp))
  dead := fun n h => y.dead n (x.dead n h)
  keep := fun a o h l => y.keep a o (x.keep a o h l) (x.notLive l (by rw [h]; simp))
  stay := fun a h => y.stay a (x.stay a h)
theorem Ext.nl (x : Ext m st H m' st' H') {hd : List Addr} {a : Addr} (h : NL hd m st a) (ha : H a ≠ none) : NL hd m' st' a := ⟨x.notLive h.1 ha, h.2⟩
theorem Ext.rd (x : Ext m st H m' st' H') {hd : List Addr} {a : Addr} {u : HO} (h : Rd H a u) (l : NL hd m st a) : Rd H' a u ∧ NL hd m' st' a := by
  have hn : H a ≠ none := by
    rcases h with h | ⟨o, h⟩ <;> (rw [h]; simp)
  refine ⟨?_, x.nl l hn⟩
  rcases h with h | ⟨o, h⟩
  · exact .inl (x.keep _ _ h l.1)
  · exact .inr ⟨o, x.keep _ _ h l.1⟩
mutual
theorem Rep.mono (x : Ext m st H m' st' H') : ∀ (d : D) (v : V), Rep R m st H d v → Rep R m' st' H' d v
  | .non, _, .non => .non
  | .bl _, _, .bl b => .bl b
  | .int _, _, .int i => .int i
  | .str _, _, .str s => .str s
  | .tup xs, _, .tup h r => .tup (by
      rcases h with ⟨h, l⟩ | h
      · exact .inl (x.rd h l)
      · exact .inr h) (Reps.mono x xs _ r)
  | .lst xs, _, .lst h l r => .lst (x.keep _ _ h l.1) (x.nl l (by rw [h]; simp)) (Reps.mono x xs _ r)
  | .ro xs, _, .ro h r => .ro (by
      rcases h with ⟨h, l⟩ | h
      · exact .inl (x.rd h l)
      · exact .inr h) (Reps.mono x xs _ r)
  | .ref _, _, .ref h => .ref (pre_get x.pre h)
  | .fn _, _, .fn h => .fn h
theorem Reps.mono (x : Ext m st H m' st' H') : ∀ (ds : List D) (vs : List V), Reps R m st H ds vs → Reps R m' st' H' ds vs
  | [], _, .nil => .nil
  | d :: ds, _, .cons h t => .cons (Rep.mono x d _ h) (Reps.mono x ds _ t)
end
theorem rd_ne {a : Addr} {u : HO} (h : Rd H a u) : H a ≠ none := by
  rcases h with h | ⟨o, h⟩ <;> (rw [h]; simp)
/-- .. where further addresses are kept apart meanwhile -/
def HidOk (hd : List Addr) (hd2 : List Addr) (H : Hp) : Prop := ∀ a ∈ hd2, a ∈ hd ∨ H a = none
theorem NL.hid {hd2 : List Addr} {a : Addr} (c : HidOk R.hid hd2 H) (l : NL R.hid m st a) (h : H a ≠ none) : a ∉ hd2 := fun z => (c a z).elim l.2 h
mutual
theorem Rep.monoH {hd2 : List Addr} (c : HidOk R.hid hd2 H) (x : Ext m st H m' st' H') : ∀ (d : D) (v : V), Rep R m st H d v → Rep (R.w hd2) m' st' H' d v
  | .non, _, .non => .non
  | .bl _, _, .bl b => .bl b
  | .int _, _, .int i => .int i
  | .str _, _, .str s => .str s
  | .tup xs, _, .tup h r => .tup (by
      rcases h with ⟨h, l⟩ | h
      · have z := x.rd h l
        exact .inl ⟨z.1, z.2.1, l.hid c (rd_ne h)⟩
      · exact .inr h) (Reps.monoH c x xs _ r)
  | .lst xs, _, .lst h l r => .lst (x.keep _ _ h l.1) ⟨x.notLive l.1 (by rw [h]; simp), l.hid c (by rw [h]; simp)⟩ (Reps.monoH c x xs _ r)
  | .ro xs, _, .ro h r => .ro (by
      rcases h with ⟨h, l⟩ | h
      · have z := x.rd h l
        exact .inl ⟨z.1, z.2.1, l.hid c (rd_ne h)⟩
      · exact .inr h) (Reps.monoH c x xs _ r)
  | .ref _, _, .ref h => .ref (pre_get x.pre h)
  | .fn _, _, .fn h => .fn h
theorem Reps.monoH {hd2 : List Addr} (c : HidOk R.hid hd2 H) (x : Ext m st H m' st' H') : ∀ (ds : List D) (vs : List V), Reps R m st H ds vs → Reps (R.w hd2) m' st' H' ds vs
  | [], _, .nil => .nil
  | d :: ds, _, .cons h t => .cons (Rep.monoH c x d _ h) (Reps.monoH c x ds _ t)
end
theorem Reps.length : ∀ {ds : List D} {vs : List V}, Reps R m st H ds vs → ds.length = vs.length
  | [], _, .nil => rfl
  | _ :: ds, _, .cons _ t => by
    rw [List.length_cons, List.length_cons, Reps.length t]
theorem Reps.get : ∀ {ds : List D} {vs : List V} {i : Nat} {d : D}, Reps R m st H ds vs → ds[i]? = some d → ∃ v, vs[i]? = some v ∧ Rep R m st H d v
  | _ :: _, _, 0, _, .cons h _, e => by
    simp at e
    subst e
    exact ⟨_, rfl, h⟩
  | _ :: _, _, i + 1, _, .cons _ t, e => by
    obtain ⟨v, h1, h2⟩ := Reps.get (i := i) t (by simpa using e)
    exact ⟨v, by simpa using h1, h2⟩
theorem Reps.none_of {ds : List D} {vs : List V} {i : Nat} (r : Reps R m st H ds vs) (e : ds[i]? = none) : vs[i]? = none := by
  have h := r.length
  rw [List.getElem?_eq_none_iff] at e ⊢
  omega
theorem Reps.append : ∀ {xs ys : List D} {vs ws : List V}, Reps R m st H xs vs → Reps R m st H ys ws → Reps R m st H (xs ++ ys) (vs ++ ws)
  | [], _, _, _, .nil, h => h
  | _ :: _, _, _, _, .cons a t, h => .cons a (Reps.append t h)
theorem Reps.drop : ∀ {xs : List D} {vs : List V} (n : Nat), Reps R m st H xs vs → Reps R m st H (xs.drop n) (vs.drop n)
  | _, _, 0, h => h
  | [], _, _ + 1, .nil => .nil
  | _ :: _, _, n + 1, .cons _ t => Reps.drop n t
theorem Reps.take : ∀ {xs : List D} {vs : List V} (n : Nat), Reps R m st H xs vs → Reps R m st H (xs.take n) (vs.take n)
  | _, _, 0, h => by
    rw [List.take_zero, List.take_zero]
    exact .nil
  | [], _, _ + 1, .nil => .nil
  | _ :: _, _, n + 1, .cons a t => .cons a (Reps.take n t)
theorem Reps.set : ∀ {xs : List D} {vs : List V} (n : Nat) {d : D} {v : V}, Reps R m st H xs vs → Rep R m st H d v → Reps R m st H (xs.set n d) (vs.set n v)
  | [], _, _, _, _, .nil, _ => .nil
  | _ :: _, _, 0, _, _, .cons _ t, h => .cons h t
  | _ :: _, _, n + 1, _, _, .cons a t, h => .cons a (Reps.set n t h)
theorem Reps.dropLast : ∀ {xs : List D} {vs : List V}, Reps R m st H xs vs → Reps R m st H xs.dropLast vs.dropLast
  | [], _, .nil => .nil
  | [_], _, .cons _ .nil => .nil
  | _ :: _ :: _, _, .cons a (.cons b t) => .cons a (Reps.dropLast (.cons b t))
theorem Reps.cut {xs : List D} {vs : List V} {lo hi : Option Int} (r : Reps R m st H xs vs) : Reps R m st H (cutL xs lo hi) (cutV vs lo hi) := by
  unfold cutL cutV
  rw [r.length]
  exact (r.drop _).take _
theorem Reps.replicate {xs : List D} {vs : List V} (r : Reps R m st H xs vs) : ∀ k : Nat, Reps R m st H (List.replicate k xs).flatten (List.replicate k vs).flatten
  | 0 => .nil
  | k + 1 => by
    rw [List.replicate_succ, List.replicate_succ, List.flatten_cons, List.flatten_cons]
    exact r.append (Reps.replicate r k)
theorem Reps.one {d : D} {vs : List V} (r : Reps R m st H [d] vs) : ∃ v, vs = [v] ∧ Rep R m st H d v := by
  cases r with
  | cons h t =>
    cases t
    exact ⟨_, rfl, h⟩
theorem Reps.two {d e : D} {vs : List V} (r : Reps R m st H [d, e] vs) : ∃ v w, vs = [v, w] ∧ Rep R m st H d v ∧ Rep R m st H e w := by
  cases r with
  | cons h t =>
    obtain ⟨w, rfl, h2⟩ := t.one
    exact ⟨_, _, rfl, h, h2⟩
theorem Reps.three {d e f : D} {vs : List V} (r : Reps R m st H [d, e, f] vs) : ∃ v w x, vs = [v, w, x] ∧ Rep R m st H d v ∧ Rep R m st H e w ∧ Rep R m st H f x := by
  cases r with
  | cons h t =>
    obtain ⟨w, x, rfl, h2⟩ := t.two
    exact ⟨_, _, _, rfl, h, h2⟩
/-! ### steps of the heap -/
theorem SR.back {a : Addr} (s : SR R m st H) (h : H a = none) : ∀ n : Nat, m[n]? ≠ some a := fun n e => s.trk n a e h
theorem SR.notLive {a : Addr} (s : SR R m st H) (h : H a = none) : NL R.hid m st a := ⟨fun n e => absurd e (s.back h n), fun z => s.hd a z h⟩
theorem SR.ne {p a : Addr} {n : Nat} (s : SR R m st H) (h : H p = none) (e : m[n]? = some a) : a ≠ p := fun z => by
  rw [z] at e
  exact s.back h n e
/-- a new object beside the store -/
theorem Ext.new {p : Addr} {o : HO} (h : H p = none) : Ext m st H m st (upd H p o) :=
  ⟨List.prefix_refl _, fun n a hn e => by
    have := (List.getElem?_eq_some_iff.mp e).1
    omega, fun _ h => h, fun a u e _ => by
    rw [upd_ne (ne_of_none e h)]
    exact e, fun a e => by
    by_cases ha : a = p
    · subst ha
      rw [upd_same]
      simp
    · rw [upd_ne ha]
      exact e⟩
theorem SR.ext {H' : Hp} (s : SR R m st H) (x : Ext m st H m st H') (k : ∀ (n : Nat) (a : Addr), m[n]? = some a → H' a = H a) : SR R m st H' :=
  ⟨s.len, s.nd, fun n a e => by
    rw [k n a e]
    exact s.trk n a e, fun a h => x.stay a (s.hd a h), s.dj, fun n a xs e h => by
    obtain ⟨vs, h1, h2⟩ := s.obj n a xs e h
    exact ⟨vs, by
      rw [k n a e]
      exact h1, Reps.mono x _ _ h2⟩⟩
theorem SR.new {p : Addr} {o : HO} (s : SR R m st H) (h : H p = none) : SR R m st (upd H p o) :=
  s.ext (Ext.new h) fun n a e => upd_ne (s.ne h e)
/-- a new list of the store -/
theorem Ext.push {p : Addr} {o : HO} {u : SO} (s : SR R m st H) (h : H p = none) : Ext m st H (m ++ [p]) (st ++ [u]) (upd H p o) where
  pre := ⟨[p], rfl⟩
  fresh := fun n a hn e => by
    have hl := (List.getElem?_eq_some_iff.mp e).1
    rw [List.length_append, List.length_singleton] at hl
    obtain rfl : n = m.length := by omega
    rw [List.getElem?_append_right (Nat.le_refl _), Nat.sub_self] at e
    have z : p = a := Option.some.inj e
    rw [← z]
    exact h
  dead := fun n e => by
    have hn := (List.getElem?_eq_some_iff.mp e).1
    rw [List.getElem?_append_left hn]
    exact e
  keep := fun a u e _ => by
    rw [upd_ne (ne_of_none e h)]
    exact e
  stay := fun a e => by
    by_cases ha : a = p
    · subst ha
      rw [upd_same]
      simp
    · rw [upd_ne ha]
      exact e
theorem SR.push {p : Addr} {xs : List D} {vs : List V} (s : SR R m st H) (h : H p = none) (r : Reps R m st H xs vs) : SR R (m ++ [p]) (st ++ [.lst xs]) (upd H p (.lst vs)) := by
  have x : Ext m st H (m ++ [p]) (st ++ [.lst xs]) (upd H p (.lst vs)) := Ext.push s h
  refine ⟨by rw [List.length_append, List.length_append, s.len]; rfl, ?_, fun n a e => ?_, fun a h => x.stay a (s.hd a h), fun n a e => ?_, fun n a ys e q => ?_⟩
  · rw [List.nodup_append]
    refine ⟨s.nd, (by simp), fun a ha b hb z => ?_⟩
    obtain ⟨n, hn⟩ := List.mem_iff_getElem?.mp ha
    rw [List.mem_singleton] at hb
    exact s.back h n (by rw [← hb, ← z]; exact hn)
  · by_cases hn : n < m.length
    · rw [List.getElem?_append_left hn] at e
      rw [upd_ne (s.ne h e)]
      exact s.trk n a e
    · have hl := (List.getElem?_eq_some_iff.mp e).1
      rw [List.length_append, List.length_singleton] at hl
      obtain rfl : n = m.length := by omega
      rw [List.getElem?_append_right (Nat.le_refl _), Nat.sub_self] at e
      have z : p = a := Option.some.inj e
      rw [← z, upd_same]
      simp
  · by_cases hn : n < m.length
    · rw [List.getElem?_append_left hn] at e
      exact s.dj n a e
    · have hl := (List.getElem?_eq_some_iff.mp e).1
      rw [List.length_append, List.length_singleton] at hl
      obtain rfl : n = m.length := by omega
      rw [List.getElem?_append_right (Nat.le_refl _), Nat.sub_self] at e
      have z : p = a := Option.some.inj e
      rw [← z]
      exact fun z2 => s.hd p z2 h
  · by_cases hn : n < m.length
    · rw [List.getElem?_append_left hn] at e
      rw [List.getElem?_append_left (by rw [← s.len]; exact hn)] at q
      obtain ⟨ws, h1, h2⟩ := s.obj n a ys e q
      exact ⟨ws, by rw [upd_ne (s.ne h e)]; exact h1, Reps.mono x _ _ h2⟩
    · have hl := (List.getElem?_eq_some_iff.mp e).1
      rw [List.length_append, List.length_singleton] at hl
      obtain rfl : n = m.length := by omega
      rw [List.getElem?_append_right (Nat.le_refl _), Nat.sub_self] at e
      rw [s.len, List.getElem?_append_right (Nat.le_refl _), Nat.sub_self] at q
      have z : p = a := Option.some.inj e
      have z2 : SO.lst xs = SO.lst ys := Option.some.inj q
      cases z2
      rw [← z, upd_same]
      exact ⟨vs, rfl, Reps.mono x _ _ r⟩
/-- a list of the store is changed -/
theorem Ext.set {n : Nat} {a : Addr} {xs ys : List D} {o : HO} (e : m[n]? = some a) (q : st[n]? = some (.lst xs)) : Ext m st H m (st.set n (.lst ys)) (upd H a o) where
  pre := List.prefix_refl _
  fresh := fun k b hk e => by
    have := (List.getElem?_eq_some_iff.mp e).1
    omega
  dead := fun k h => by
    have hk : n ≠ k := fun z => by
      rw [z, h] at q
      cases q
    rw [List.getElem?_set_ne hk]
    exact h
  keep := fun b u h l => by
    have hb : b ≠ a := fun z => by
      rw [z] at l
      have w := l n e
      rw [q] at w
      cases w
    rw [upd_ne hb]
    exact h
  stay := fun b h => by
    by_cases hb : b = a
    · subst hb
      rw [upd_same]
      simp
    · rw [upd_ne hb]
      exact h
theorem nd_ne {m : List Addr} (h : m.Nodup) {i j : Nat} {a b : Addr} (hi : m[i]? = some a) (hj : m[j]? = some b) (hn : i ≠ j) : a ≠ b := fun z => by
  subst z
  obtain ⟨h1, e1⟩ := List.getElem?_eq_some_iff.mp hi
  obtain ⟨h2, e2⟩ := List.getElem?_eq_some_iff.mp hj
  exact hn ((List.getElem_inj h).mp (e1.trans e2.symm))
theorem SR.set {n : Nat} {a : Addr} {xs ys : List D} {ws : List V} (s : SR R m st H) (e : m[n]? = some a) (q : st[n]? = some (.lst xs)) (r : Reps R m st H ys ws) : SR R m (st.set n (.lst ys)) (upd H a (.lst ws)) := by
  have x : Ext m st H m (st.set n (.lst ys)) (upd H a (.lst ws)) := Ext.set e q
  refine ⟨by rw [List.length_set]; exact s.len, s.nd, fun k b h => x.stay b (s.trk k b h), fun b h => x.stay b (s.hd b h), s.dj, fun k b zs h t => ?_⟩
  by_cases hk : n = k
  · subst hk
    rw [h] at e
    cases e
    have hl := (List.getElem?_eq_some_iff.mp q).1
    rw [List.getElem?_set_self hl] at t
    cases t
    exact ⟨ws, upd_same, Reps.mono x _ _ r⟩
  · rw [List.getElem?_set_ne hk] at t
    obtain ⟨us, h1, h2⟩ := s.obj k b zs h t
    exact ⟨us, by rw [upd_ne (nd_ne s.nd h e (Ne.symm hk))]; exact h1, Reps.mono x _ _ h2⟩
/-- a list of the store is handed out for good -/
theorem Ext.kill {n : Nat} : Ext m st H m (st.set n .dead) H where
  pre := List.prefix_refl _
  fresh := fun k b hk e => by
    have := (List.getElem?_eq_some_iff.mp e).1
    omega
  dead := fun k h => by
    have hl := (List.getElem?_eq_some_iff.mp h).1
    by_cases hk : n = k
    · subst hk
      exact List.getElem?_set_self hl
    · rw [List.getElem?_set_ne hk]
      exact h
  keep := fun _ _ h _ => h
  stay := fun _ h => h
theorem SR.kill {n : Nat} (s : SR R m st H) : SR R m (st.set n .dead) H := by
  refine ⟨by rw [List.length_set]; exact s.len, s.nd, s.trk, s.hd, s.dj, fun k b zs h t => ?_⟩
  by_cases hk : n = k
  · subst hk
    have hl := (List.getElem?_eq_some_iff.mp t).1
    rw [List.length_set] at hl
    rw [List.getElem?_set_self hl] at t
    cases t
  · rw [List.getElem?_set_ne hk] at t
    obtain ⟨us, h1, h2⟩ := s.obj k b zs h t
    exact ⟨us, h1, Reps.mono Ext.kill _ _ h2⟩
theorem NL.kill {n : Nat} {a : Addr} {xs : List D} (s : SR R m st H) (e : m[n]? = some a) (q : st[n]? = some (.lst xs)) : NL R.hid m (st.set n .dead) a := ⟨fun k h => by
  by_cases hk : n = k
  · subst hk
    exact List.getElem?_set_self (List.getElem?_eq_some_iff.mp q).1
  · exact absurd rfl (nd_ne s.nd h e (Ne.symm hk)), s.dj n a e⟩
end
end Mini
end
section
set_option linter.all false
set_option autoImplicit false
set_option maxRecDepth 100000
set_option maxHeartbeats 1000000
/-! What follows a run: Post; leaving out what a call made for itself; the primitives. -/
namespace Mini
open PySem PySem.Spec PyProof.Rows L2
section
variable {R : RC} {m m' : List Addr} {st st' : Sto} {H H' : Hp}
mutual
theorem Rep.bel : ∀ (d : D) (v : V), Rep R m st H d v → Mini.below m.length d = true
  | .non, _, _ => by simp [Mini.below]
  | .bl _, _, _ => by simp [Mini.below]
  | .int _, _, _ => by simp [Mini.below]
  | .str _, _, _ => by simp [Mini.below]
  | .tup xs, _, .tup _ r => by
    simp only [Mini.below]
    exact Reps.bels xs _ r
  | .lst xs, _, .lst _ _ r => by
    simp only [Mini.below]
    exact Reps.bels xs _ r
  | .ro xs, _, .ro _ r => by
    simp only [Mini.below]
    exact Reps.bels xs _ r
  | .ref n, _, .ref h => by
    simp only [Mini.below, decide_eq_true_eq]
    exact (List.getElem?_eq_some_iff.mp h).1
  | .fn _, _, _ => by simp [Mini.below]
theorem Reps.bels : ∀ (ds : List D) (vs : List V), Reps R m st H ds vs → Mini.belows m.length ds = true
  | [], _, _ => by simp [Mini.belows]
  | d :: ds, _, .cons h t => by
    simp only [Mini.belows, Bool.and_eq_true]
    exact ⟨Rep.bel d _ h, Reps.bels ds _ t⟩
end
theorem NotLive.take {a : Addr} {n : Nat} (h : NotLive m st a) : NotLive (m.take n) (st.take n) a := fun k e => by
  have hk : k < n := by
    have := (List.getElem?_eq_some_iff.mp e).1
    rw [List.length_take] at this
    omega
  rw [List.getElem?_take_of_lt hk] at e ⊢
  exact h k e
theorem NL.take {hd : List Addr} {a : Addr} {n : Nat} (h : NL hd m st a) : NL hd (m.take n) (st.take n) a := ⟨h.1.take, h.2⟩
mutual
theorem Rep.shrink {n : Nat} : ∀ (d : D) (v : V), Rep R m st H d v → Mini.below n d = true → Rep R (m.take n) (st.take n) H d v
  | .non, _, .non, _ => .non
  | .bl _, _, .bl b, _ => .bl b
  | .int _, _, .int i, _ => .int i
  | .str _, _, .str s, _ => .str s
  | .tup xs, _, .tup h r, b => .tup (by
      rcases h with ⟨h, l⟩ | h
      · exact .inl ⟨h, l.take⟩
      · exact .inr h) (Reps.shrink xs _ r (by simpa only [Mini.below] using b))
  | .lst xs, _, .lst h l r, b => .lst h l.take (Reps.shrink xs _ r (by simpa only [Mini.below] using b))
  | .ro xs, _, .ro h r, b => .ro (by
      rcases h with ⟨h, l⟩ | h
      · exact .inl ⟨h, l.take⟩
      · exact .inr h) (Reps.shrink xs _ r (by simpa only [Mini.below] using b))
  | .ref k, _, .ref h, b => .ref (by
      simp only [Mini.below, decide_eq_true_eq] at b
      rw [List.getElem?_take_of_lt b]
      exact h)
  | .fn _, _, .fn h, _ => .fn h
theorem Reps.shrink {n : Nat} : ∀ (ds : List D) (vs : List V), Reps R m st H ds vs → Mini.belows n ds = true → Reps R (m.take n) (st.take n) H ds vs
  | [], _, .nil, _ => .nil
  | d :: ds, _, .cons h t, b => by
    simp only [Mini.belows, Bool.and_eq_true] at b
    exact .cons (Rep.shrink d _ h b.1) (Reps.shrink ds _ t b.2)
end
theorem Ext.cut (x : Ext m st H m' st' H') (s : SR R m st H) : Ext m st H m (st'.take st.length) H' where
  pre := List.prefix_refl _
  fresh := fun n a hn e => by
    have := (List.getElem?_eq_some_iff.mp e).1
    omega
  dead := fun n h => by
    have hn := (List.getElem?_eq_some_iff.mp h).1
    rw [List.getElem?_take_of_lt hn]
    exact x.dead n h
  keep := x.keep
  stay := x.stay
theorem pre_take {m m' : List Addr} (h : m <+: m') : m'.take m.length = m := by
  obtain ⟨t, rfl⟩ := h
  exact List.take_left
theorem SR.cut (x : Ext m st H m' st' H') (s : SR R m st H) (s' : SR R m' st' H') (c : canCut st st') : SR R m (st'.take st.length) H' := by
  obtain ⟨hl, hc⟩ := c
  refine ⟨by rw [List.length_take, s.len]; omega, s.nd, fun n a e => x.stay a (s.trk n a e), fun a h => x.stay a (s.hd a h), s.dj, fun n a xs e q => ?_⟩
  have hn : n < st.length := by
    rw [← s.len]
    exact (List.getElem?_eq_some_iff.mp e).1
  rw [List.getElem?_take_of_lt hn] at q
  obtain ⟨vs, h1, h2⟩ := s'.obj n a xs (pre_get x.pre e) q
  refine ⟨vs, h1, ?_⟩
  have hb : Mini.belows st.length xs = true := by
    rcases hc n hn with z | ⟨o, z, zb⟩
    · rw [q] at z
      obtain ⟨ws, _, r⟩ := s.obj n a xs e z.symm
      rw [← s.len]
      exact Reps.bels _ _ r
    · rw [q] at z
      cases z
      exact zb
  have := Reps.shrink (n := st.length) xs vs h2 hb
  rw [← s.len, pre_take x.pre, s.len] at this
  exact this
end

/-! ### what follows -/
inductive FReps (R : RC) (m : List Addr) (st : Sto) (H : Hp) : List (Str × D) → List (Str × V) → Prop
  | nil : FReps R m st H [] []
  | cons {f : Str} {d : D} {v : V} {fs : List (Str × D)} {gs : List (Str × V)} : Rep R m st H d v → FReps R m st H fs gs → FReps R m st H ((f, d) :: fs) ((f, v) :: gs)
def XRep (R : RC) (m : List Addr) (st : Sto) (H : Hp) (x : Exc) (c : Value) (dd : Option Addr) : Prop :=
  ∃ C, R.ca x.cls = some C ∧ c = .ref C ∧ ((x.flds = [] ∧ dd = none) ∨ ∃ d gs, dd = some d ∧ H d = some (.xd gs) ∧ NL R.hid m st d ∧ FReps R m st H x.flds gs)
def Post (R : RC) (m : List Addr) (st : Sto) (H : Hp) (r : Res D) (Q : VK) (E : XK) : Prop := match r with
  | .ok d st' => ∀ m' H' v, Ext m st H m' st' H' → SR R m' st' H' → Rep R m' st' H' d v → Q v H'
  | .exc x st' => ∀ m' H' c dd, Ext m st H m' st' H' → SR R m' st' H' → XRep R m' st' H' x c dd → E c dd H'
  | .bad => False
def PostL (R : RC) (m : List Addr) (st : Sto) (H : Hp) (r : Res (List D)) (Q : List V → Hp → Prop) (E : XK) : Prop := match r with
  | .ok d st' => ∀ m' H' v, Ext m st H m' st' H' → SR R m' st' H' → Reps R m' st' H' d v → Q v H'
  | .exc x st' => ∀ m' H' c dd, Ext m st H m' st' H' → SR R m' st' H' → XRep R m' st' H' x c dd → E c dd H'
  | .bad => False
def PostT (R : RC) (m : List Addr) (st : Sto) (H : Hp) (r : Res Bool) (Q : Bool → Hp → Prop) (E : XK) : Prop := match r with
  | .ok b st' => ∀ m' H', Ext m st H m' st' H' → SR R m' st' H' → Q b H'
  | .exc x st' => ∀ m' H' c dd, Ext m st H m' st' H' → SR R m' st' H' → XRep R m' st' H' x c dd → E c dd H'
  | .bad => False
/-- of a primitive -/
def PostP (R : RC) (m : List Addr) (st : Sto) (H : Hp) (r : Pm) (Q : VK) : Prop := match r with
  | some (d, st') => ∀ m' H' v, Ext m st H m' st' H' → SR R m' st' H' → Rep R m' st' H' d v → Q v H'
  | none => False
section
variable {R : RC} {m m' : List Addr} {st st' : Sto} {H H' : Hp} {Q : VK} {E : XK}
theorem FReps.mono (x : Ext m st H m' st' H') : ∀ {fs : List (Str × D)} {gs : List (Str × V)}, FReps R m st H fs gs → FReps R m' st' H' fs gs
  | _, _, .nil => .nil
  | _, _, .cons h t => .cons (Rep.mono x _ _ h) (FReps.mono x t)
theorem Post.shift {r : Res D} (x : Ext m st H m' st' H') (p : Post R m st H r Q E) : Post R m' st' H' r Q E := by
  cases r with
  | ok d s => exact fun m2 H2 v y s2 r2 => p m2 H2 v (x.trans y) s2 r2
  | exc e s => exact fun m2 H2 c dd y s2 r2 => p m2 H2 c dd (x.trans y) s2 r2
  | bad => exact p
theorem PostT.shift {r : Res Bool} {Q : Bool → Hp → Prop} (x : Ext m st H m' st' H') (p : PostT R m st H r Q E) : PostT R m' st' H' r Q E := by
  cases r with
  | ok d s => exact fun m2 H2 y s2 => p m2 H2 (x.trans y) s2
  | exc e s => exact fun m2 H2 c dd y s2 r2 => p m2 H2 c dd (x.trans y) s2 r2
  | bad => exact p
theorem PostL.shift {r : Res (List D)} {Q : List V → Hp → Prop} (x : Ext m st H m' st' H') (p : PostL R m st H r Q E) : PostL R m' st' H' r Q E := by
  cases r with
  | ok d s => exact fun m2 H2 v y s2 r2 => p m2 H2 v (x.trans y) s2 r2
  | exc e s => exact fun m2 H2 c dd y s2 r2 => p m2 H2 c dd (x.trans y) s2 r2
  | bad => exact p
theorem PostP.here {d : D} {v : V} (s : SR R m st H) (p : PostP R m st H (some (d, st)) Q) (r : Rep R m st H d v) : Q v H := p m H v Ext.refl s r
/-- the answer is a new object beside the store -/
theorem PostP.new {d : D} {a : Addr} {o : HO} (s : SR R m st H) (p : PostP R m st H (some (d, st)) Q) (h : H a = none) (r : Rep R m st (upd H a o) d (.ref a)) : Q (.ref a) (upd H a o) :=
  p m _ _ (Ext.new h) (s.new h) r
theorem guardR_some {c : Bool} {r : Pm} (p : PostP R m st H (guardR c r) Q) : c = true ∧ PostP R m st H r Q := by
  unfold guardR at p
  cases c with
  | true => exact ⟨rfl, p⟩
  | false => exact p.elim
end

/-! ### the primitives: from the readings' side -/
/-- r: what the hand layer asks, by values -/
def Sim (R : RC) (p : Pr) (r : List V → Hp → VK → Prop) : Prop :=
  ∀ (m : List Addr) (st : Sto) (H : Hp) (ds : List D) (vs : List V) (Q : VK), SR R m st H → Reps R m st H ds vs → PostP R m st H (prim p ds st) Q → r vs H Q
section
variable {R : RC} {m : List Addr} {st : Sto} {H : Hp} {Q : VK}
/-- a list by its items: where it stands -/
theorem listOf_at {d : D} {v : V} {xs : List D} (s : SR R m st H) (r : Rep R m st H d v) (h : listOf st d = some xs) : ∃ a vs, v = .ref a ∧ SqL R.K H a vs ∧ Reps R m st H xs vs := by
  cases r with
  | @lst a vs ys h1 h2 h3 =>
    simp only [listOf, Option.some.injEq] at h
    subst h
    exact ⟨a, vs, rfl, SqL.of h1, h3⟩
  | @ro a vs ys h1 h3 =>
    simp only [listOf, Option.some.injEq] at h
    subst h
    exact ⟨a, vs, rfl, h1.sq, h3⟩
  | @ref a n h1 =>
    simp only [listOf] at h
    split at h
    · rename_i ys e
      simp only [Option.some.injEq] at h
      subst h
      obtain ⟨vs, h2, h3⟩ := s.obj n a ys h1 e
      exact ⟨a, vs, rfl, SqL.of h2, h3⟩
    · cases h
  | non => simp [listOf] at h
  | bl => simp [listOf] at h
  | int => simp [listOf] at h
  | str => simp [listOf] at h
  | tup => simp [listOf] at h
  | fn => simp [listOf] at h
/-- .. tracked, not from outside -/
theorem listOf_trk {d : D} {v : V} {xs : List D} (s : SR R m st H) (r : Rep R m st H d v) (h : listOf st d = some xs) (n : ∀ ys, d ≠ .ro ys) : ∃ a vs, v = .ref a ∧ H a = some (.lst vs) ∧ Reps R m st H xs vs := by
  cases r with
  | @lst a vs ys h1 h2 h3 =>
    simp only [listOf, Option.some.injEq] at h
    subst h
    exact ⟨a, vs, rfl, h1, h3⟩
  | ro => exact absurd rfl (n _)
  | @ref a k h1 =>
    simp only [listOf] at h
    split at h
    · rename_i ys e
      simp only [Option.some.injEq] at h
      subst h
      obtain ⟨vs, h2, h3⟩ := s.obj k a ys h1 e
      exact ⟨a, vs, rfl, h2, h3⟩
    · cases h
  | non => simp [listOf] at h
  | bl => simp [listOf] at h
  | int => simp [listOf] at h
  | str => simp [listOf] at h
  | tup => simp [listOf] at h
  | fn => simp [listOf] at h
theorem Rep.inj_str {s : Chs} {v : V} (r : Rep R m st H (.str s) v) : v = .str ⟨s.toArray⟩ := by
  cases r
  rfl
theorem Rep.inj_int {i : Int} {v : V} (r : Rep R m st H (.int i) v) : v = .int i := by
  cases r
  rfl
theorem Rep.inj_bl {b : Bool} {v : V} (r : Rep R m st H (.bl b) v) : v = .bl b := by
  cases r
  rfl
theorem Rep.inj_tup {xs : List D} {v : V} (r : Rep R m st H (.tup xs) v) : ∃ a vs, v = .ref a ∧ TupAt R m st H a vs ∧ Reps R m st H xs vs := by
  cases r with
  | tup h t => exact ⟨_, _, rfl, h, t⟩
theorem Rep.of_str (x : Str) : Rep R m st H (.str x.cps.toList) (.str x) := by
  obtain ⟨a⟩ := x
  have := Rep.str (R := R) (m := m) (st := st) (H := H) a.toList
  simpa using this
theorem len_str (s : Chs) : (⟨s.toArray⟩ : Str).length = s.length := by simp [Str.length]
end
end Mini
end
section
set_option linter.all false
set_option autoImplicit false
set_option maxRecDepth 100000
set_option maxHeartbeats 1000000
/-! The primitives. -/
namespace Mini
open PySem PySem.Spec PyProof.Rows L2
theorem CallR.or {X : Cx} {f : Value} {r r' : List V → Hp → VK → Prop} (h : CallR X f r) (h' : CallR X f r') : CallR X f (fun xs H Q => r xs H Q ∨ r' xs H Q) := by
  intro pins s σ H xs us Q I rx q
  rcases q with q | q
  · exact h pins s σ H xs us Q I rx q
  · exact h' pins s σ H xs us Q I rx q
def l2 (r : R2) : List V → Hp → VK → Prop := fun vs H Q => ∃ x y, vs = [x, y] ∧ r x y H Q
def l1 (r : V → Hp → VK → Prop) : List V → Hp → VK → Prop := fun vs H Q => ∃ x, vs = [x] ∧ r x H Q
section
variable {R : RC} {m : List Addr} {st : Sto} {H : Hp} {Q : VK}
theorem boolR_some {o : Option Bool} (p : PostP R m st H (boolR st o) Q) : ∃ b, o = some b ∧ PostP R m st H (some (.bl b, st)) Q := by
  cases o with
  | none => exact p.elim
  | some b => exact ⟨b, rfl, p⟩
theorem oneR_some {o : Option D} (p : PostP R m st H (oneR st o) Q) : ∃ b, o = some b ∧ PostP R m st H (some (b, st)) Q := by
  cases o with
  | none => exact p.elim
  | some b => exact ⟨b, rfl, p⟩
theorem sim1 {p : Pr} {r : V → Hp → VK → Prop} (h0 : ∀ (ds : List D) (st : Sto), ds.length ≠ 1 → prim p ds st = none)
    (h : ∀ (m : List Addr) (st : Sto) (H : Hp) (d : D) (v : V) (Q : VK), SR R m st H → Rep R m st H d v → PostP R m st H (prim p [d] st) Q → r v H Q) : Sim R p (l1 r) := by
  intro m st H ds vs Q s rs q
  rcases ds with _ | ⟨x, _ | ⟨y, l⟩⟩
  · rw [h0 [] st (by simp)] at q
    exact q.elim
  · obtain ⟨v, rfl, rv⟩ := rs.one
    exact ⟨v, rfl, h m st H x v Q s rv q⟩
  · rw [h0 _ st (by simp)] at q
    exact q.elim
theorem sim2 {p : Pr} {r : R2} (h0 : ∀ (ds : List D) (st : Sto), ds.length ≠ 2 → prim p ds st = none)
    (h : ∀ (m : List Addr) (st : Sto) (H : Hp) (d e : D) (v w : V) (Q : VK), SR R m st H → Rep R m st H d v → Rep R m st H e w → PostP R m st H (prim p [d, e] st) Q → r v w H Q) : Sim R p (l2 r) := by
  intro m st H ds vs Q s rs q
  rcases ds with _ | ⟨x, _ | ⟨y, _ | ⟨z, l⟩⟩⟩
  · rw [h0 [] st (by simp)] at q
    exact q.elim
  · rw [h0 _ st (by simp)] at q
    exact q.elim
  · obtain ⟨v, w, rfl, rv, rw'⟩ := rs.two
    exact ⟨v, w, rfl, h m st H x y v w Q s rv rw' q⟩
  · rw [h0 _ st (by simp)] at q
    exact q.elim
/-- arguments of another number -/
theorem not1 {p : Pr} (a : prim p [] = fun _ => none) (b : ∀ x y l, prim p (x :: y :: l) = fun _ => none) (ds : List D) (st : Sto) (h : ds.length ≠ 1) : prim p ds st = none := by
  rcases ds with _ | ⟨x, _ | ⟨y, l⟩⟩
  · rw [a]
  · exact absurd rfl h
  · rw [b]
theorem not2 {p : Pr} (a : prim p [] = fun _ => none) (a1 : ∀ x, prim p [x] = fun _ => none) (b : ∀ x y z l, prim p (x :: y :: z :: l) = fun _ => none) (ds : List D) (st : Sto) (h : ds.length ≠ 2) : prim p ds st = none := by
  rcases ds with _ | ⟨x, _ | ⟨y, _ | ⟨z, l⟩⟩⟩
  · rw [a]
  · rw [a1]
  · exact absurd rfl h
  · rw [b]
end
/-! ### + -/
def rAddM (K : PySem.W.Frag) : R2 := fun x y H Q => rI0 (fun i j => .int (i + j)) x y H Q ∨ (∃ i j, x = .str i ∧ y = .str j ∧ i.length + j.length ≤ sizeLine ∧ Q (.str (i ++ j)) H) ∨ rCatA K x y H Q ∨ rCat x y H Q
theorem op_addM {X : Cx} : OpR X (binaryOp .Add) (rAddM X.K) := op_add.or (op_add_str.or (op_catA.or op_cat))
theorem str_app (a b : Chs) : (⟨a.toArray⟩ : Str) ++ ⟨b.toArray⟩ = ⟨(a ++ b).toArray⟩ := by
  show (⟨a.toArray ++ b.toArray⟩ : Str) = _
  simp
theorem sim_add {R : RC} : Sim R .add (l2 (rAddM R.K)) := by
  refine sim2 (not2 rfl (fun x => by cases x <;> rfl) fun x y z l => by rfl) fun m st H d e v w Q s rd re p => ?_
  have p : PostP R m st H (addD st d e) Q := p
  unfold addD at p
  split at p
  · obtain rfl := rd.inj_int
    obtain rfl := re.inj_int
    exact .inl ⟨_, _, rfl, rfl, p.here s (.int _)⟩
  · obtain rfl := rd.inj_str
    obtain rfl := re.inj_str
    obtain ⟨c, p⟩ := guardR_some p
    refine .inr (.inl ⟨_, _, rfl, rfl, by rw [len_str, len_str]; exact of_decide_eq_true c, ?_⟩)
    rw [str_app]
    exact p.here s (.str _)
  · obtain ⟨a, vs, rfl, ha, ra⟩ := rd.inj_tup
    obtain ⟨b, ws, rfl, hb, rb⟩ := re.inj_tup
    obtain ⟨c, p⟩ := guardR_some p
    have hc := of_decide_eq_true c
    rw [ra.length, rb.length] at hc
    refine .inr (.inr (.inl ⟨a, b, vs, ws, rfl, rfl, ha.sq, hb.sq, hc, fun z => ?_, fun z1 z => ?_, fun z1 z2 q hq => ?_⟩))
    · subst z
      cases ra
      exact p.here s (.tup hb rb)
    · subst z
      cases rb
      rw [List.append_nil] at p
      exact p.here s (.tup ha ra)
    · exact p.new s hq (.tup (.inl ⟨.inl upd_same, s.notLive hq⟩) (Reps.mono (Ext.new hq) _ _ (ra.append rb)))
  · exact p.elim
  · exact p.elim
  · split at p
    · rename_i xs ys e1 e2
      obtain ⟨a, vs, rfl, ha, ra⟩ := listOf_trk s rd e1 (by assumption)
      obtain ⟨b, ws, rfl, hb, rb⟩ := listOf_trk s re e2 (by assumption)
      obtain ⟨c, p⟩ := guardR_some p
      have hc := of_decide_eq_true c
      rw [ra.length, rb.length] at hc
      refine .inr (.inr (.inr ⟨a, b, vs, ws, rfl, rfl, ha, hb, hc, fun q hq => ?_⟩))
      exact p.new s hq (.lst upd_same (s.notLive hq) (Reps.mono (Ext.new hq) _ _ (ra.append rb)))
    · exact p.elim
/-! ### - * // % ** -/
theorem op_fdivZ {X : Cx} : OpR X (binaryOp .FloorDiv) (rI (fun _ j => j ≠ 0 ∧ j.natAbs.log2 < 9000) fun i j => .int (i.fdiv j)) :=
  opI fun _ _ _ _ _ _ _ hc q => floordiv_int hc.1 q (.inl (PyProof.noPylong_of_log2 hc.2))
theorem sim_sub {R : RC} : Sim R .sub (l2 (rI0 fun i j => .int (i - j))) := by
  refine sim2 (not2 rfl (fun x => by cases x <;> rfl) fun x y z l => by cases x <;> (try rfl) <;> cases y <;> rfl) fun m st H d e v w Q s rd re p => ?_
  cases rd <;> first | exact p.elim | skip
  cases re <;> first | exact p.elim | skip
  exact ⟨_, _, rfl, rfl, p.here s (.int _)⟩
def rMulM : R2 := fun x y H Q => rI CMulW (fun i j => .int (i * j)) x y H Q ∨ rRep x y H Q
theorem op_mulM {X : Cx} : OpR X (binaryOp .Mult) rMulM := op_mulW.or op_rep
theorem sim_mul {R : RC} : Sim R .mul (l2 rMulM) := by
  refine sim2 (not2 rfl (fun x => by cases x <;> rfl) fun x y z l => by rfl) fun m st H d e v w Q s rd re p => ?_
  have p : PostP R m st H (mulD st d e) Q := p
  unfold mulD at p
  split at p
  · obtain rfl := rd.inj_int
    obtain rfl := re.inj_int
    obtain ⟨c, p⟩ := guardR_some p
    exact .inl ⟨_, _, rfl, rfl, by
      unfold wide at c
      have z := of_decide_eq_true c
      exact z, p.here s (.int _)⟩
  · exact p.elim
  · obtain rfl := re.inj_int
    split at p
    · rename_i xs e1
      obtain ⟨a, vs, rfl, ha, ra⟩ := listOf_trk s rd e1 (by assumption)
      obtain ⟨c, p⟩ := guardR_some p
      simp only [Bool.and_eq_true, decide_eq_true_eq] at c
      obtain ⟨⟨c1, c2⟩, c3⟩ := c
      rw [ra.length] at c3
      refine .inr ⟨a, _, vs, rfl, rfl, ha, c1, c2, c3, fun q hq => ?_⟩
      exact p.new s hq (.lst upd_same (s.notLive hq) (Reps.mono (Ext.new hq) _ _ (ra.replicate _)))
    · exact p.elim
  · exact p.elim
theorem sim_fdiv {R : RC} : Sim R .fdiv (l2 (rI (fun _ j => j ≠ 0 ∧ j.natAbs.log2 < 9000) fun i j => .int (i.fdiv j))) := by
  refine sim2 (not2 rfl (fun x => by cases x <;> rfl) fun x y z l => by cases x <;> (try rfl) <;> cases y <;> rfl) fun m st H d e v w Q s rd re p => ?_
  cases rd <;> first | exact p.elim | skip
  cases re <;> first | exact p.elim | skip
  obtain ⟨c, p⟩ := guardR_some p
  simp only [Bool.and_eq_true, decide_eq_true_eq] at c
  exact ⟨_, _, rfl, rfl, c, p.here s (.int _)⟩
theorem sim_mod {R : RC} : Sim R .mod (l2 (rI (fun _ j => j ≠ 0) fun i j => .int (i.fmod j))) := by
  refine sim2 (not2 rfl (fun x => by cases x <;> rfl) fun x y z l => by cases x <;> (try rfl) <;> cases y <;> rfl) fun m st H d e v w Q s rd re p => ?_
  cases rd <;> first | exact p.elim | skip
  cases re <;> first | exact p.elim | skip
  obtain ⟨c, p⟩ := guardR_some p
  exact ⟨_, _, rfl, rfl, of_decide_eq_true c, p.here s (.int _)⟩
theorem sim_pow {R : RC} : Sim R .pow (l2 (rI CPow fun i j => .int (i ^ j.toNat))) := by
  refine sim2 (not2 rfl (fun x => by cases x <;> rfl) fun x y z l => by cases x <;> (try rfl) <;> cases y <;> rfl) fun m st H d e v w Q s rd re p => ?_
  cases rd <;> first | exact p.elim | skip
  cases re <;> first | exact p.elim | skip
  obtain ⟨c, p⟩ := guardR_some p
  simp only [Bool.and_eq_true, decide_eq_true_eq] at c
  exact ⟨_, _, rfl, rfl, ⟨c.1.1, c.1.2, c.2⟩, p.here s (.int _)⟩
theorem sim_neg {R : RC} : Sim R .neg (l1 (rU fun i => .int (-i))) := by
  refine sim1 (not1 rfl fun x y l => by cases x <;> rfl) fun m st H d v Q s rd p => ?_
  cases rd <;> first | exact p.elim | skip
  exact ⟨_, rfl, p.here s (.int _)⟩
end Mini
end
section
set_option linter.all false
set_option autoImplicit false
set_option maxRecDepth 100000
set_option maxHeartbeats 1000000
/-! The primitives, further. -/
namespace Mini
open PySem PySem.Spec PyProof.Rows L2
/-! ### order -/
def rLtM : R2 := fun x y H Q => rI0 (fun i j => .bl (decide (i < j))) x y H Q ∨ ∃ i j, x = .str i ∧ y = .str j ∧ Q (.bl (decide (i.cps.toList < j.cps.toList))) H
def rLeM : R2 := fun x y H Q => rI0 (fun i j => .bl (decide (i ≤ j))) x y H Q ∨ ∃ i j, x = .str i ∧ y = .str j ∧ Q (.bl (!decide (j.cps.toList < i.cps.toList))) H
def rGtM : R2 := fun x y H Q => rI0 (fun i j => .bl (decide (j < i))) x y H Q ∨ ∃ i j, x = .str i ∧ y = .str j ∧ Q (.bl (decide (j.cps.toList < i.cps.toList))) H
def rGeM : R2 := fun x y H Q => rI0 (fun i j => .bl (decide (j ≤ i))) x y H Q ∨ ∃ i j, x = .str i ∧ y = .str j ∧ Q (.bl (!decide (i.cps.toList < j.cps.toList))) H
theorem op_ltM {X : Cx} : OpR X (compareOp .Lt) rLtM := op_lt.or op_lt_str
theorem op_leM {X : Cx} : OpR X (compareOp .LtE) rLeM := op_le.or op_le_str
theorem op_gtM {X : Cx} : OpR X (compareOp .Gt) rGtM := op_gt.or op_gt_str
theorem op_geM {X : Cx} : OpR X (compareOp .GtE) rGeM := op_ge.or op_ge_str
theorem cps_str (s : Chs) : (⟨s.toArray⟩ : Str).cps.toList = s := by simp
theorem sim_lt {R : RC} : Sim R .lt (l2 rLtM) := by
  refine sim2 (not2 rfl (fun x => by cases x <;> rfl) fun x y z l => by rfl) fun m st H d e v w Q s rd re p => ?_
  obtain ⟨b, e1, p⟩ := boolR_some (show PostP R m st H (boolR st (cmpD .lt d e)) Q from p)
  cases rd <;> first | (cases e1; done) | skip
  all_goals (cases re <;> first | (cases e1; done) | skip)
  · cases e1
    exact .inl ⟨_, _, rfl, rfl, p.here s (.bl _)⟩
  · cases e1
    refine .inr ⟨_, _, rfl, rfl, ?_⟩
    rw [cps_str, cps_str]
    exact p.here s (.bl _)
theorem sim_le {R : RC} : Sim R .le (l2 rLeM) := by
  refine sim2 (not2 rfl (fun x => by cases x <;> rfl) fun x y z l => by rfl) fun m st H d e v w Q s rd re p => ?_
  obtain ⟨b, e1, p⟩ := boolR_some (show PostP R m st H (boolR st (cmpD .le d e)) Q from p)
  cases rd <;> first | (cases e1; done) | skip
  all_goals (cases re <;> first | (cases e1; done) | skip)
  · cases e1
    exact .inl ⟨_, _, rfl, rfl, p.here s (.bl _)⟩
  · cases e1
    refine .inr ⟨_, _, rfl, rfl, ?_⟩
    rw [cps_str, cps_str]
    exact p.here s (.bl _)
theorem sim_gt {R : RC} : Sim R .gt (l2 rGtM) := by
  refine sim2 (not2 rfl (fun x => by cases x <;> rfl) fun x y z l => by rfl) fun m st H d e v w Q s rd re p => ?_
  obtain ⟨b, e1, p⟩ := boolR_some (show PostP R m st H (boolR st (cmpD .gt d e)) Q from p)
  cases rd <;> first | (cases e1; done) | skip
  all_goals (cases re <;> first | (cases e1; done) | skip)
  · cases e1
    exact .inl ⟨_, _, rfl, rfl, p.here s (.bl _)⟩
  · cases e1
    refine .inr ⟨_, _, rfl, rfl, ?_⟩
    rw [cps_str, cps_str]
    exact p.here s (.bl _)
theorem sim_ge {R : RC} : Sim R .ge (l2 rGeM) := by
  refine sim2 (not2 rfl (fun x => by cases x <;> rfl) fun x y z l => by rfl) fun m st H d e v w Q s rd re p => ?_
  obtain ⟨b, e1, p⟩ := boolR_some (show PostP R m st H (boolR st (cmpD .ge d e)) Q from p)
  cases rd <;> first | (cases e1; done) | skip
  all_goals (cases re <;> first | (cases e1; done) | skip)
  · cases e1
    exact .inl ⟨_, _, rfl, rfl, p.here s (.bl _)⟩
  · cases e1
    refine .inr ⟨_, _, rfl, rfl, ?_⟩
    rw [cps_str, cps_str]
    exact p.here s (.bl _)
/-! ### == of data -/
section
variable {R : RC} {m : List Addr} {st : Sto} {H : Hp}
theorem dpAll_of (n : Nat) (f : ∀ (d : D) (v : V) (pd : PyData), Rep R m st H d v → toPD st n d = some pd → Dp R.K H v pd) :
    ∀ (xs : List D) (vs : List V) (ps : List PyData), Reps R m st H xs vs → xs.mapM (toPD st n) = some ps → DpAll R.K H vs ps
  | [], _, ps, .nil, h => by
    simp at h
    subst h
    exact .nil
  | x :: xs, _, ps, .cons a t, h => by
    rw [List.mapM_cons] at h
    cases e : toPD st n x with
    | none =>
      rw [e] at h
      cases h
    | some p =>
      cases e2 : xs.mapM (toPD st n) with
      | none =>
        rw [e, e2] at h
        cases h
      | some q =>
        rw [e, e2] at h
        cases h
        exact .cons (f _ _ _ a e) (dpAll_of n f xs _ q t e2)
theorem map_some {α β : Type} {f : α → β} {o : Option α} {b : β} (h : o.map f = some b) : ∃ a, o = some a ∧ f a = b := by
  cases o with
  | none => cases h
  | some a => exact ⟨a, rfl, Option.some.inj h⟩
theorem dp_of (s : SR R m st H) : ∀ (n : Nat) (d : D) (v : V) (pd : PyData), Rep R m st H d v → toPD st n d = some pd → Dp R.K H v pd
  | 0, _, _, _, _, h => by cases h
  | n + 1, d, _, pd, r, h => by
    cases r with
    | non =>
      cases h
      exact .non
    | bl b =>
      cases h
      exact .bl b
    | int i =>
      cases h
      exact .int i
    | str x =>
      cases h
      exact .str _
    | tup h1 h2 =>
      obtain ⟨ps, e, rfl⟩ := map_some h
      exact .tup h1.sq (dpAll_of n (dp_of s n) _ _ _ h2 e)
    | lst h1 h2 h3 =>
      obtain ⟨ps, e, rfl⟩ := map_some h
      exact .lst (SqL.of h1) (dpAll_of n (dp_of s n) _ _ _ h3 e)
    | ro h1 h3 =>
      obtain ⟨ps, e, rfl⟩ := map_some h
      exact .lst h1.sq (dpAll_of n (dp_of s n) _ _ _ h3 e)
    | @ref a k h1 =>
      simp only [toPD] at h
      split at h
      · rename_i xs e1
        obtain ⟨ps, e, rfl⟩ := map_some h
        obtain ⟨vs, h2, h3⟩ := s.obj k a xs h1 e1
        exact .lst (SqL.of h2) (dpAll_of n (dp_of s n) _ _ _ h3 e)
      · cases h
    | fn => cases h
theorem eqvD_some {d e : D} {b : Bool} (h : eqvD st d e = some b) : ∃ p q, toPD st 65 d = some p ∧ toPD st 65 e = some q ∧ SeqAt.shaped p = true ∧ SeqAt.shaped q = true ∧ b = PyData.eqv p q := by
  unfold eqvD at h
  split at h
  · rename_i p q e1 e2
    split at h
    · rename_i c
      rw [Bool.and_eq_true] at c
      exact ⟨p, q, e1, e2, c.1, c.2, (Option.some.inj h).symm⟩
    · cases h
  · cases h
end
theorem sim_eq {R : RC} : Sim R .eq (l2 (rEqD R.K)) := by
  refine sim2 (not2 rfl (fun x => by cases x <;> rfl) fun x y z l => by rfl) fun m st H d e v w Q s rd re p => ?_
  obtain ⟨b, e1, p⟩ := boolR_some (show PostP R m st H (boolR st (eqvD st d e)) Q from p)
  obtain ⟨x, y, h1, h2, h3, h4, rfl⟩ := eqvD_some e1
  exact ⟨x, y, dp_of s 65 d v x rd h1, dp_of s 65 e w y re h2, h3, h4, p.here s (.bl _)⟩
theorem sim_ne {R : RC} : Sim R .ne (l2 (rNeD R.K)) := by
  refine sim2 (not2 rfl (fun x => by cases x <;> rfl) fun x y z l => by rfl) fun m st H d e v w Q s rd re p => ?_
  obtain ⟨b, e1, p⟩ := boolR_some (show PostP R m st H (boolR st ((eqvD st d e).map not)) Q from p)
  obtain ⟨c, e2, rfl⟩ := map_some e1
  obtain ⟨x, y, h1, h2, h3, h4, rfl⟩ := eqvD_some e2
  exact ⟨x, y, dp_of s 65 d v x rd h1, dp_of s 65 e w y re h2, h3, h4, p.here s (.bl _)⟩
/-! ### in -/
def rInM (K : PySem.W.Frag) (neg : Bool) : R2 := fun x y H Q => (∃ (c : Nat) (z : Str), x = .str ⟨#[c]⟩ ∧ y = .str z ∧ Q (.bl (if neg then !decide (c ∈ z.cps.toList) else decide (c ∈ z.cps.toList))) H) ∨ rIn K neg x y H Q
theorem op_inM {X : Cx} : OpR X (compareOp .In) (rInM X.K false) := op_in_sign.or op_in_seq
theorem op_ninM {X : Cx} : OpR X (compareOp .NotIn) (rInM X.K true) := op_notIn_sign.or op_notIn_seq
section
variable {R : RC} {m : List Addr} {st : Sto} {H : Hp}
theorem flat_of {d : D} {v : V} (r : Rep R m st H d v) (h : flatD d = true) : flatV v = true := by
  cases r <;> first | rfl | cases h
theorem flats_of : ∀ {ds : List D} {vs : List V}, Reps R m st H ds vs → ds.all flatD = true → vs.all flatV = true
  | _, _, .nil, _ => rfl
  | _, _, .cons a t, h => by
    rw [List.all_cons, Bool.and_eq_true] at h ⊢
    exact ⟨flat_of a h.1, flats_of t h.2⟩
theorem beq_arr (a b : Chs) : ((⟨a.toArray⟩ : Str) == ⟨b.toArray⟩) = (a == b) := by
  by_cases e : a = b
  · subst e
    simp
  · have : (⟨a.toArray⟩ : Str) ≠ ⟨b.toArray⟩ := fun z => e (by
      have := congrArg (fun s : Str => s.cps.toList) z
      simpa using this)
    rw [beq_eq_false_iff_ne.mpr this, beq_eq_false_iff_ne.mpr e]
theorem eq_of {d e : D} {v w : V} (r : Rep R m st H d v) (q : Rep R m st H e w) (h : flatD d = true) (h2 : flatD e = true) : eqV v w = eqD d e := by
  cases r <;> first | (cases h; done) | skip
  all_goals (cases q <;> first | (cases h2; done) | rfl | exact beq_arr _ _)
theorem any_of {d : D} {v : V} (r : Rep R m st H d v) (h : flatD d = true) : ∀ {ds : List D} {vs : List V}, Reps R m st H ds vs → ds.all flatD = true → inV v vs = ds.any fun z => eqD z d
  | _, _, .nil, _ => rfl
  | _, _, .cons a t, h2 => by
    rw [List.all_cons, Bool.and_eq_true] at h2
    have ih := any_of r h t h2.2
    unfold inV at ih ⊢
    rw [List.any_cons, List.any_cons, ih, eq_of a r h2.1 h]
theorem in_of {d e : D} {v w : V} {b neg : Bool} {Q : VK} (s : SR R m st H) (rd : Rep R m st H d v) (re : Rep R m st H e w) (h : inD st d e = some b) (q : Q (.bl (if neg then !b else b)) H) : rInM R.K neg v w H Q := by
  unfold inD at h
  split at h
  · obtain rfl := rd.inj_str
    obtain rfl := re.inj_str
    cases h
    refine .inl ⟨_, _, rfl, rfl, ?_⟩
    rw [cps_str]
    exact q
  · obtain ⟨a, vs, rfl, ha, ra⟩ := re.inj_tup
    split at h
    · rename_i c
      rw [Bool.and_eq_true] at c
      cases h
      refine .inr ⟨a, vs, rfl, .inr ha.sq, flat_of rd c.1, flats_of ra c.2, ?_⟩
      rw [any_of rd c.1 ra c.2]
      exact q
    · cases h
  · split at h
    · rename_i ys e1
      split at h
      · rename_i c
        rw [Bool.and_eq_true] at c
        cases h
        obtain ⟨a, vs, rfl, ha, ra⟩ := listOf_at s re e1
        refine .inr ⟨a, vs, rfl, .inl ha, flat_of rd c.1, flats_of ra c.2, ?_⟩
        rw [any_of rd c.1 ra c.2]
        exact q
      · cases h
    · cases h
end
theorem sim_in {R : RC} : Sim R .isin (l2 (rInM R.K false)) := by
  refine sim2 (not2 rfl (fun x => by cases x <;> rfl) fun x y z l => by rfl) fun m st H d e v w Q s rd re p => ?_
  obtain ⟨b, e1, p⟩ := boolR_some (show PostP R m st H (boolR st (inD st d e)) Q from p)
  exact in_of s rd re e1 (p.here s (.bl _))
theorem sim_nin {R : RC} : Sim R .notin (l2 (rInM R.K true)) := by
  refine sim2 (not2 rfl (fun x => by cases x <;> rfl) fun x y z l => by rfl) fun m st H d e v w Q s rd re p => ?_
  obtain ⟨b, e1, p⟩ := boolR_some (show PostP R m st H (boolR st ((inD st d e).map not)) Q from p)
  obtain ⟨c, e2, rfl⟩ := map_some e1
  exact in_of s rd re e2 (p.here s (.bl _))
/-! ### is None -/
theorem sim_isN {R : RC} : Sim R .isN (l1 fun x H Q => Q (.bl (decide (x = .non))) H) := by
  refine sim1 (not1 rfl fun x y l => by cases x <;> rfl) fun m st H d v Q s rd p => ?_
  cases rd <;> exact p.here s (.bl _)
theorem sim_notN {R : RC} : Sim R .notN (l1 fun x H Q => Q (.bl (!decide (x = .non))) H) := by
  refine sim1 (not1 rfl fun x y l => by cases x <;> rfl) fun m st H d v Q s rd p => ?_
  cases rd <;> exact p.here s (.bl _)
/-! ### items, slices -/
section
variable {R : RC} {m : List Addr} {st : Sto} {H : Hp}
theorem atI_rep {xs : List D} {vs : List V} {i : Int} {d : D} (r : Reps R m st H xs vs) (h : atI xs i = some d) : ∃ v, atI vs i = some v ∧ Rep R m st H d v := by
  unfold atI at h ⊢
  rw [← r.length]
  cases e : ixN xs.length i with
  | none =>
    rw [e] at h
    cases h
  | some j =>
    rw [e] at h
    exact r.get h
end
theorem sim_ix {R : RC} : Sim R .ix (l2 (rIx R.K)) := by
  refine sim2 (not2 rfl (fun x => by cases x <;> rfl) fun x y z l => by cases x <;> (try rfl) <;> cases y <;> rfl) fun m st H d e v w Q s rd re p => ?_
  cases re <;> first | (cases rd <;> exact p.elim) | skip
  rename_i i
  have p2 : PostP R m st H (oneR st (atD st d i)) Q := by cases rd <;> exact p
  clear p
  obtain ⟨b, e1, p⟩ := oneR_some p2
  clear p2
  unfold atD at e1
  split at e1
  · obtain rfl := rd.inj_str
    split at e1
    · rename_i hl
      obtain ⟨c, e2, rfl⟩ := map_some e1
      refine .inr (.inr ⟨_, _, c, rfl, rfl, by rw [len_str]; exact hl, by rw [cps_str]; exact e2, ?_⟩)
      exact p.here s (.str [c])
    · cases e1
  · obtain ⟨a, vs, rfl, ha, ra⟩ := rd.inj_tup
    obtain ⟨x, h1, h2⟩ := atI_rep ra e1
    exact .inr (.inl ⟨a, vs, _, x, rfl, rfl, ha.sq, h1, p.here s h2⟩)
  · cases e2 : listOf st d with
    | none =>
      rw [e2] at e1
      cases e1
    | some xs =>
      rw [e2] at e1
      obtain ⟨a, vs, rfl, ha, ra⟩ := listOf_at s rd e2
      obtain ⟨x, h1, h2⟩ := atI_rep ra e1
      exact .inl ⟨a, vs, _, x, rfl, rfl, ha, h1, p.here s h2⟩
def rSlM (K : PySem.W.Frag) : V → Option Int → Option Int → Hp → VK → Prop := fun x lo hi H Q => rSlL K x lo hi H Q ∨ rSlA K x lo hi H Q ∨ rSlS x lo hi H Q
theorem sl_M {X : Cx} : SlR X (rSlM X.K) := sl_list.or (sl_tupA.or sl_str)
theorem cutS_cut (s : Chs) (lo hi : Option Int) : cutS ⟨s.toArray⟩ lo hi = ⟨(cutL s lo hi).toArray⟩ := by
  unfold cutS cutL
  rw [len_str, cps_str]
theorem cutL_whole {α : Type} (xs : List α) (lo hi : Option Int) (h : HT.sIx xs.length 0 lo = 0 ∧ HT.sIx xs.length xs.length hi = xs.length) : cutL xs lo hi = xs := by
  unfold cutL
  rw [h.1, h.2]
  simp
theorem sim_sl {R : RC} {m : List Addr} {st : Sto} {H : Hp} {d : D} {v : V} {lo hi : Option Int} {Q : VK} (s : SR R m st H) (rd : Rep R m st H d v) (p : PostP R m st H (oneR st (slD st d lo hi)) Q) : rSlM R.K v lo hi H Q := by
  obtain ⟨b, e1, p⟩ := oneR_some p
  unfold slD at e1
  split at e1
  · obtain rfl := rd.inj_str
    split at e1
    · rename_i hl
      cases e1
      refine .inr (.inr ⟨_, rfl, by rw [len_str]; exact hl, ?_⟩)
      rw [cutS_cut]
      exact p.here s (.str _)
    · cases e1
  · obtain ⟨a, vs, rfl, ha, ra⟩ := rd.inj_tup
    cases e1
    refine .inr (.inl ⟨a, vs, rfl, ha.sq, fun z => ?_, fun _ q hq => ?_⟩)
    · rw [← ra.length] at z
      rw [cutL_whole _ _ _ z] at p
      exact p.here s (.tup ha ra)
    · exact p.new s hq (.tup (.inl ⟨.inl upd_same, s.notLive hq⟩) (Reps.mono (Ext.new hq) _ _ ra.cut))
  · obtain ⟨xs, e2, rfl⟩ := map_some e1
    obtain ⟨a, vs, rfl, ha, ra⟩ := listOf_at s rd e2
    refine .inl ⟨a, vs, rfl, ha, fun q hq => ?_⟩
    exact p.new s hq (.lst upd_same (s.notLive hq) (Reps.mono (Ext.new hq) _ _ ra.cut))
end Mini
end
section
set_option linter.all false
set_option autoImplicit false
set_option maxRecDepth 100000
set_option maxHeartbeats 1000000
/-! The primitives: built-in functions and methods. -/
namespace Mini
open PySem PySem.Spec PyProof.Rows L2
/-! ### len, abs, int, str, tuple, list, all, any -/
def rLenM (K : PySem.W.Frag) : List V → Hp → VK → Prop := fun xs H Q => (∃ p ys, xs = [.ref p] ∧ (SqL K H p ys ∨ SqT K H p ys) ∧ Q (.int ys.length) H) ∨ ∃ z, xs = [.str z] ∧ z.length ≤ sizeLine ∧ Q (.int z.length) H
theorem call_lenM {X : Cx} : CallR X (.builtin "len") (rLenM X.K) := CallR.or call_len_seq call_len_str
theorem simL1 {R : RC} {p : Pr} {r : List V → Hp → VK → Prop} (h0 : ∀ (ds : List D) (st : Sto), ds.length ≠ 1 → prim p ds st = none)
    (h : ∀ (m : List Addr) (st : Sto) (H : Hp) (d : D) (v : V) (Q : VK), SR R m st H → Rep R m st H d v → PostP R m st H (prim p [d] st) Q → r [v] H Q) : Sim R p r := by
  intro m st H ds vs Q s rs q
  obtain ⟨v, rfl, z⟩ := sim1 (r := fun v H Q => r [v] H Q) h0 h m st H ds vs Q s rs q
  exact z
theorem sim_len {R : RC} : Sim R .len (rLenM R.K) := by
  refine simL1 (not1 rfl fun x y l => by rfl) fun m st H d v Q s rd p => ?_
  obtain ⟨b, e1, p⟩ := oneR_some (show PostP R m st H (oneR st (lenD st d)) Q from p)
  unfold lenD at e1
  split at e1
  · obtain rfl := rd.inj_str
    split at e1
    · rename_i hl
      cases e1
      refine .inr ⟨_, rfl, by rw [len_str]; exact hl, ?_⟩
      rw [len_str]
      exact p.here s (.int _)
    · cases e1
  · obtain ⟨a, vs, rfl, ha, ra⟩ := rd.inj_tup
    cases e1
    refine .inl ⟨a, vs, rfl, .inr ha.sq, ?_⟩
    rw [← ra.length]
    exact p.here s (.int _)
  · obtain ⟨xs, e2, rfl⟩ := map_some e1
    obtain ⟨a, vs, rfl, ha, ra⟩ := listOf_at s rd e2
    refine .inl ⟨a, vs, rfl, .inl ha, ?_⟩
    rw [← ra.length]
    exact p.here s (.int _)
theorem sim_abs {R : RC} : Sim R .abs (fun xs H Q => ∃ i, xs = [.int i] ∧ Q (.int (if i < 0 then -i else i)) H) := by
  refine simL1 (not1 rfl fun x y l => by cases x <;> rfl) fun m st H d v Q s rd p => ?_
  cases rd <;> first | exact p.elim | skip
  exact ⟨_, rfl, p.here s (.int _)⟩
def rIntM : List V → Hp → VK → Prop := fun xs H Q => ((∃ i, xs = [.int i] ∧ Q (.int i) H) ∨ ∃ k, xs = [.bl k] ∧ Q (.int (if k then 1 else 0)) H) ∨ ∃ a n, xs = [.str a] ∧ PySem.intText? a = some n ∧ a.length ≤ 640 ∧ Q (.int n) H
theorem call_intM {X : Cx} : CallR X (.type "int") rIntM := CallR.or call_int1 call_int_str
theorem sim_int {R : RC} : Sim R .int rIntM := by
  refine simL1 (not1 rfl fun x y l => by rfl) fun m st H d v Q s rd p => ?_
  obtain ⟨b, e1, p⟩ := oneR_some (show PostP R m st H (oneR st (intD d)) Q from p)
  cases rd <;> first | (cases e1; done) | skip
  · cases e1
    exact .inl (.inr ⟨_, rfl, p.here s (.int _)⟩)
  · cases e1
    exact .inl (.inl ⟨_, rfl, p.here s (.int _)⟩)
  · simp only [intD] at e1
    split at e1
    · rename_i hl
      obtain ⟨n, e2, rfl⟩ := map_some e1
      exact .inr ⟨_, n, rfl, e2, by rw [len_str]; exact hl, p.here s (.int _)⟩
    · cases e1
def rStrM : List V → Hp → VK → Prop := fun xs H Q => (∃ i, xs = [.int i] ∧ i.natAbs.log2 < 1920 ∧ Q (.str (toString i)) H) ∨ ∃ a, xs = [.str a] ∧ Q (.str a) H
theorem call_strM {X : Cx} : CallR X (.type "str") rStrM := CallR.or call_str_int SkE.call_str_str
theorem sim_str {R : RC} : Sim R .str rStrM := by
  refine simL1 (not1 rfl fun x y l => by rfl) fun m st H d v Q s rd p => ?_
  obtain ⟨b, e1, p⟩ := oneR_some (show PostP R m st H (oneR st (strD d)) Q from p)
  cases rd <;> first | (cases e1; done) | skip
  · simp only [strD] at e1
    split at e1
    · rename_i hl
      cases e1
      exact .inl ⟨_, rfl, hl, p.here s (.of_str _)⟩
    · cases e1
  · cases e1
    exact .inr ⟨_, rfl, p.here s (.str _)⟩
theorem sim_tuple {R : RC} : Sim R .tuple (fun xs H Q => ∃ p ys, xs = [.ref p] ∧ ((SqL R.K H p ys ∧ ∀ l, H l = none → Q (.ref l) (upd H l (.tup ys))) ∨ (SqT R.K H p ys ∧ Q (.ref p) H))) := by
  refine simL1 (not1 rfl fun x y l => by rfl) fun m st H d v Q s rd p => ?_
  obtain ⟨b, e1, p⟩ := oneR_some (show PostP R m st H (oneR st (tupD st d)) Q from p)
  unfold tupD at e1
  split at e1
  · obtain ⟨a, vs, rfl, ha, ra⟩ := rd.inj_tup
    cases e1
    exact ⟨a, vs, rfl, .inr ⟨ha.sq, p.here s (.tup ha ra)⟩⟩
  · obtain ⟨xs, e2, rfl⟩ := map_some e1
    obtain ⟨a, vs, rfl, ha, ra⟩ := listOf_at s rd e2
    refine ⟨a, vs, rfl, .inl ⟨ha, fun q hq => ?_⟩⟩
    exact p.new s hq (.tup (.inl ⟨.inl upd_same, s.notLive hq⟩) (Reps.mono (Ext.new hq) _ _ ra))
theorem sim_list {R : RC} : Sim R .list (fun xs H Q => ∃ p ys, xs = [.ref p] ∧ (SqL R.K H p ys ∨ SqT R.K H p ys) ∧ ∀ l, H l = none → Q (.ref l) (upd H l (.lst ys))) := by
  refine simL1 (not1 rfl fun x y l => by rfl) fun m st H d v Q s rd p => ?_
  obtain ⟨b, e1, p⟩ := oneR_some (show PostP R m st H (oneR st (lisD st d)) Q from p)
  unfold lisD at e1
  split at e1
  · obtain ⟨a, vs, rfl, ha, ra⟩ := rd.inj_tup
    cases e1
    refine ⟨a, vs, rfl, .inr ha.sq, fun q hq => ?_⟩
    exact p.new s hq (.lst upd_same (s.notLive hq) (Reps.mono (Ext.new hq) _ _ ra))
  · obtain ⟨xs, e2, rfl⟩ := map_some e1
    obtain ⟨a, vs, rfl, ha, ra⟩ := listOf_at s rd e2
    refine ⟨a, vs, rfl, .inl ha, fun q hq => ?_⟩
    exact p.new s hq (.lst upd_same (s.notLive hq) (Reps.mono (Ext.new hq) _ _ ra))
section
variable {R : RC} {m : List Addr} {st : Sto} {H : Hp}
theorem bools_rep : ∀ {ds : List D} {vs : List V} {bs : List Bool}, Reps R m st H ds vs → bools ds = some bs → vs = bs.map V.bl
  | [], _, _, .nil, h => by
    cases h
    rfl
  | d :: ds, _, bs, .cons a t, h => by
    cases a <;> first | (cases h; done) | skip
    obtain ⟨cs, e, rfl⟩ := map_some h
    rw [bools_rep t e]
    rfl
theorem chars_rep : ∀ {ds : List D} {vs : List V} {bs : List Chs}, Reps R m st H ds vs → chars ds = some bs → vs = (bs.map fun y => (⟨y.toArray⟩ : Str)).map V.str
  | [], _, _, .nil, h => by
    cases h
    rfl
  | d :: ds, _, bs, .cons a t, h => by
    cases a <;> first | (cases h; done) | skip
    obtain ⟨cs, e, rfl⟩ := map_some h
    rw [chars_rep t e]
    rfl
theorem strs_rep : ∀ ys : List Chs, Reps R m st H (ys.map D.str) ((ys.map fun y => (⟨y.toArray⟩ : Str)).map V.str)
  | [] => .nil
  | y :: ys => .cons (.str y) (strs_rep ys)
end
theorem bind_some {α β : Type} {f : α → Option β} {o : Option α} {b : β} (h : o.bind f = some b) : ∃ a, o = some a ∧ f a = some b := by
  cases o with
  | none => cases h
  | some a => exact ⟨a, rfl, h⟩
theorem sim_all {R : RC} : Sim R .all (rAll R.K) := by
  refine simL1 (not1 rfl fun x y l => by rfl) fun m st H d v Q s rd p => ?_
  obtain ⟨b, e1, p⟩ := boolR_some (show PostP R m st H (boolR st (((listOf st d).bind bools).map fun bs => bs.all id)) Q from p)
  obtain ⟨bs, e2, rfl⟩ := map_some e1
  obtain ⟨xs, e3, e4⟩ := bind_some e2
  obtain ⟨a, vs, rfl, ha, ra⟩ := listOf_at s rd e3
  rw [bools_rep ra e4] at ha
  exact ⟨a, bs, rfl, ha, p.here s (.bl _)⟩
theorem sim_any {R : RC} : Sim R .any (rAny R.K) := by
  refine simL1 (not1 rfl fun x y l => by rfl) fun m st H d v Q s rd p => ?_
  obtain ⟨b, e1, p⟩ := boolR_some (show PostP R m st H (boolR st (((listOf st d).bind bools).map fun bs => bs.any id)) Q from p)
  obtain ⟨bs, e2, rfl⟩ := map_some e1
  obtain ⟨xs, e3, e4⟩ := bind_some e2
  obtain ⟨a, vs, rfl, ha, ra⟩ := listOf_at s rd e3
  rw [bools_rep ra e4] at ha
  exact ⟨a, bs, rfl, ha, p.here s (.bl _)⟩
/-! ### isinstance -/
def tyN : Ty → Option String
  | .int => some "int"
  | .bool => some "bool"
  | .str => some "str"
  | .tuple => some "tuple"
  | .list => some "list"
  | _ => none
section
variable {R : RC} {m : List Addr} {st : Sto} {H : Hp}
def kdN : Kd → String
  | .non => "NoneType"
  | .bool => "bool"
  | .int => "int"
  | .str => "str"
  | .tuple => "tuple"
  | .list => "list"
theorem kitB_of (k : Kd) (t : Ty) (n : String) (h : tyN t = some n) : kitB (kdN k) n = some (isK k t) := by
  cases k <;> cases t <;> first | (cases h; done) | (cases h; decide +kernel)
theorem ty_of {d : D} {v : V} {t : Ty} {n : String} {b : Bool} (s : SR R m st H) (r : Rep R m st H d v) (hn : tyN t = some n) (h : isiD st [t] d = some b) : ∃ tv, TyX R.K H v tv ∧ PySem.W.kitOne R.K tv (.type n) = some b := by
  have fin : ∀ k : Kd, kindD d = k → some ([t].any (isK (kindD d))) = some b → PySem.W.kitOne R.K (.type (kdN k)) (.type n) = some b := fun k e z => by
    rw [e] at z
    simp only [List.any_cons, List.any_nil, Bool.or_false, Option.some.injEq] at z
    rw [← z]
    exact kit_ty (kitB_of k t n hn)
  cases r with
  | non => exact ⟨_, .base .non, fin .non rfl h⟩
  | bl x => exact ⟨_, .base (.bl _), fin .bool rfl h⟩
  | int x => exact ⟨_, .base (.int _), fin .int rfl h⟩
  | str x => exact ⟨_, .base (.str _), fin .str rfl h⟩
  | @tup a vs xs h1 h2 =>
    refine ⟨.type "tuple", ?_, fin .tuple rfl h⟩
    rcases h1 with ⟨(h1 | ⟨o, h1⟩), _⟩ | ⟨o, its, k, h1, h2, _⟩
    · exact .base (.tup h1)
    · exact .fTuple h1
    · exact .kTuple h1 h2
  | @lst a vs xs h1 h2 h3 => exact ⟨_, .base (.lst h1), fin .list rfl h⟩
  | @ro a vs xs h1 h2 =>
    refine ⟨.type "list", ?_, fin .list rfl h⟩
    rcases h1 with ⟨(h1 | ⟨o, h1⟩), _⟩ | ⟨o, its, k, h1, h2, _⟩
    · exact .base (.lst h1)
    · exact .base (.frz h1)
    · exact .kList h1 h2
  | @ref a k h1 =>
    simp only [isiD] at h
    split at h
    · rename_i xs e1
      obtain ⟨vs, h2, h3⟩ := s.obj k a xs h1 e1
      exact ⟨_, .base (.lst h2), fin .list rfl h⟩
    · cases h
  | fn => cases h
end
def rIsM (K : PySem.W.Frag) (n : String) : V → Hp → VK → Prop := fun v H Q => ∃ tv b, TyX K H v tv ∧ PySem.W.kitOne K tv (.type n) = some b ∧ Q (.bl b) H
theorem sim_isi {R : RC} {t : Ty} {n : String} (hn : tyN t = some n) : Sim R (.isi [t]) (l1 (rIsM R.K n)) := by
  refine sim1 (not1 rfl fun x y l => by rfl) fun m st H d v Q s rd p => ?_
  obtain ⟨b, e1, p⟩ := boolR_some (show PostP R m st H (boolR st (isiD st [t] d)) Q from p)
  obtain ⟨tv, h1, h2⟩ := ty_of s rd hn e1
  exact ⟨tv, b, h1, h2, p.here s (.bl _)⟩
end Mini
end
section
set_option linter.all false
set_option autoImplicit false
set_option maxRecDepth 100000
set_option maxHeartbeats 1000000
/-! The primitives: repr, methods. -/
namespace Mini
open PySem PySem.Spec PyProof.Rows L2
section
variable {st : Sto}
theorem mapM_cons_some {α β : Type} {f : α → Option β} {x : α} {xs : List α} {ps : List β} (h : (x :: xs).mapM f = some ps) : ∃ p qs, f x = some p ∧ xs.mapM f = some qs ∧ ps = p :: qs := by
  rw [List.mapM_cons] at h
  cases e : f x with
  | none =>
    rw [e] at h
    cases h
  | some p =>
    cases e2 : xs.mapM f with
    | none =>
      rw [e, e2] at h
      cases h
    | some q =>
      rw [e, e2] at h
      cases h
      exact ⟨p, q, rfl, rfl, rfl⟩
theorem toPD_alls (n : Nat) (f : ∀ d p, toPD st n d = some p → p.depth ≤ n ∧ p.hasDict = false) : ∀ (xs : List D) (ps : List PyData), xs.mapM (toPD st n) = some ps → PyData.depthAll ps ≤ n ∧ PyData.hasDictAll ps = false
  | [], ps, h => by
    simp at h
    subst h
    exact ⟨by simp [PyData.depthAll], by simp [PyData.hasDictAll]⟩
  | x :: xs, ps, h => by
    obtain ⟨p, qs, h1, h2, rfl⟩ := mapM_cons_some h
    obtain ⟨a, b⟩ := f x p h1
    obtain ⟨c, d⟩ := toPD_alls n f xs qs h2
    refine ⟨?_, by simp [PyData.hasDictAll, b, d]⟩
    simp only [PyData.depthAll]
    omega
theorem toPD_ok : ∀ (n : Nat) (d : D) (p : PyData), toPD st n d = some p → p.depth ≤ n ∧ p.hasDict = false
  | 0, _, _, h => by cases h
  | n + 1, d, p, h => by
    have tu : ∀ (xs : List D), (xs.mapM (toPD st n)).map PyData.tuple = some p → p.depth ≤ n + 1 ∧ p.hasDict = false := fun xs e => by
      obtain ⟨ps, e1, rfl⟩ := map_some e
      obtain ⟨a, b⟩ := toPD_alls n (toPD_ok n) xs ps e1
      exact ⟨by simp only [PyData.depth]; omega, by simp only [PyData.hasDict]; exact b⟩
    have li : ∀ (xs : List D), (xs.mapM (toPD st n)).map PyData.list = some p → p.depth ≤ n + 1 ∧ p.hasDict = false := fun xs e => by
      obtain ⟨ps, e1, rfl⟩ := map_some e
      obtain ⟨a, b⟩ := toPD_alls n (toPD_ok n) xs ps e1
      exact ⟨by simp only [PyData.depth]; omega, by simp only [PyData.hasDict]; exact b⟩
    cases d with
    | tup xs => exact tu xs h
    | lst xs => exact li xs h
    | ro xs => exact li xs h
    | ref k =>
      simp only [toPD] at h
      split at h
      · exact li _ h
      · cases h
    | fn i => cases h
    | non =>
      cases h
      exact ⟨by simp [PyData.depth], by simp [PyData.hasDict]⟩
    | bl b =>
      cases h
      exact ⟨by simp [PyData.depth], by simp [PyData.hasDict]⟩
    | int i =>
      cases h
      exact ⟨by simp [PyData.depth], by simp [PyData.hasDict]⟩
    | str x =>
      cases h
      exact ⟨by simp [PyData.depth], by simp [PyData.hasDict]⟩
end
def rReprM (K : PySem.W.Frag) : V → Hp → VK → Prop := fun x H Q => ∃ d, Dp K H x d ∧ d.depth ≤ 65 ∧ d.hasDict = false ∧ d.showable = true ∧ d.shown.length ≤ sizeLine ∧ Q (.str d.shown) H
theorem call_reprM {X : Cx} (hg : X.A.guards = some []) (hu : X.A.units + 100 < cLine) : CallR X (.builtin "repr") (l1 (rReprM X.K)) := by
  intro pins s σ H xs us Q I r h
  obtain ⟨x, rfl, d, hd, dep, nd, sh, hz, q⟩ := h
  obtain ⟨u, rfl, ru⟩ := vals1 r
  have big : ∀ (a : Addr), RelV x (.ref a) → wpAny (model X.prog X.w) X.A (call (.builtin "repr") [.ref a]) (EP X pins σ Q) X.xe s := fun a ra => by
    obtain ⟨as, rd⟩ := Dp.reads I d x _ hd ra
    refine repr_of_reads' rd sh (fun z => ?_) hg (by omega) (fun b o e => e) (fun h' u tk hk => ?_) hz
    · rw [nd] at z
      cases z
    · exact ⟨.str _, H, I.kept (t' := tk) hk, ⟨_, rfl⟩, q⟩
  cases hd with
  | non =>
    cases ru
    exact PySem.P.repr_of_none ⟨.str _, H, I.tok _, ⟨_, rfl⟩, q⟩
  | bl b =>
    cases ru
    refine PySem.P.repr_of_bool ⟨.str _, H, I.tok _, ⟨_, rfl⟩, ?_⟩
    have e : PyData.shown (.bool b) = (if b then "True" else "False" : Str) := by
      cases b <;> rfl
    rw [← e]
    exact q
  | int i =>
    obtain ⟨t, rfl⟩ := ru
    refine PySem.P.repr_of_int (by simpa [PyData.showable] using sh) ⟨.str _, H, I.tok _, ⟨_, rfl⟩, ?_⟩
    exact q
  | str z =>
    obtain ⟨t, rfl⟩ := ru
    exact PySem.P.repr_of_str ⟨.str _, H, I.tok _, ⟨_, rfl⟩, q⟩ hz
  | lst h1 h2 =>
    cases ru
    exact big _ rfl
  | tup h1 h2 =>
    cases ru
    exact big _ rfl
theorem sim_repr {R : RC} : Sim R .repr (l1 (rReprM R.K)) := by
  refine sim1 (not1 rfl fun x y l => by rfl) fun m st H d v Q s rd p => ?_
  obtain ⟨b, e1, p⟩ := oneR_some (show PostP R m st H (oneR st (reprD st d)) Q from p)
  unfold reprD at e1
  split at e1
  · rename_i a e2
    split at e1
    · rename_i c
      simp only [Bool.and_eq_true, decide_eq_true_eq] at c
      cases e1
      obtain ⟨h1, h2⟩ := toPD_ok 65 d a e2
      exact ⟨a, dp_of s 65 d v a rd e2, h1, h2, c.1, c.2, p.here s (.of_str _)⟩
    · cases e1
  · cases e1
/-! ### methods: receiver first -/
def lm (r : V → List V → Hp → VK → Prop) : List V → Hp → VK → Prop := fun vs H Q => ∃ x xs, vs = x :: xs ∧ r x xs H Q
theorem PostP.set {R : RC} {m : List Addr} {st : Sto} {H : Hp} {Q : VK} {d : D} {v : V} {n : Nat} {a : Addr} {xs ys : List D} {ws : List V} (s : SR R m st H) (p : PostP R m st H (some (d, st.set n (.lst ys))) Q) (e : m[n]? = some a)
    (q : st[n]? = some (.lst xs)) (r : Reps R m st H ys ws) (rd : Rep R m st H d v) : Q v (upd H a (.lst ws)) :=
  p m _ v (Ext.set e q) (s.set e q r) (Rep.mono (Ext.set e q) _ _ rd)
theorem rep_ref {R : RC} {m : List Addr} {st : Sto} {H : Hp} {n : Nat} {v : V} (r : Rep R m st H (.ref n) v) : ∃ a, v = .ref a ∧ m[n]? = some a := by
  cases r with
  | ref h => exact ⟨_, rfl, h⟩
theorem sim_append {R : RC} : Sim R .append (lm rAppend) := by
  intro m st H ds vs Q s rs p
  rcases ds with _ | ⟨x, _ | ⟨y, _ | ⟨z, l⟩⟩⟩
  · exact p.elim
  · cases x <;> exact p.elim
  · obtain ⟨v, w, rfl, rv, rw'⟩ := rs.two
    cases x <;> first | exact p.elim | skip
    rename_i n
    obtain ⟨a, rfl, ha⟩ := rep_ref rv
    simp only [prim] at p
    split at p
    · rename_i xs e1
      obtain ⟨c, p⟩ := guardR_some p
      have c := of_decide_eq_true c
      obtain ⟨us, h1, h2⟩ := s.obj n a xs ha e1
      refine ⟨.ref a, [w], rfl, a, us, w, rfl, rfl, h1, by rw [← h2.length]; exact c, ?_⟩
      exact p.set s ha e1 (h2.append (.cons rw' .nil)) .non
    · exact p.elim
  · cases x <;> exact p.elim
theorem sim_pop {R : RC} : Sim R .pop (lm rPop) := by
  intro m st H ds vs Q s rs p
  rcases ds with _ | ⟨x, _ | ⟨y, l⟩⟩
  · exact p.elim
  · obtain ⟨v, rfl, rv⟩ := rs.one
    cases x <;> first | exact p.elim | skip
    rename_i n
    obtain ⟨a, rfl, ha⟩ := rep_ref rv
    simp only [prim] at p
    split at p
    · rename_i xs e1
      split at p
      · rename_i y e2
        obtain ⟨us, h1, h2⟩ := s.obj n a xs ha e1
        obtain ⟨w, h3, h4⟩ := h2.get e2
        refine ⟨.ref a, [], rfl, a, us, w, rfl, rfl, h1, by rw [← h2.length]; exact h3, ?_⟩
        exact p.set s ha e1 h2.dropLast h4
      · exact p.elim
    · exact p.elim
  · cases x <;> exact p.elim
theorem sim_extend {R : RC} : Sim R .extend (lm rExtend) := by
  intro m st H ds vs Q s rs p
  rcases ds with _ | ⟨x, _ | ⟨y, _ | ⟨z, l⟩⟩⟩
  · exact p.elim
  · cases x <;> exact p.elim
  · obtain ⟨v, w, rfl, rv, rw'⟩ := rs.two
    cases x <;> first | exact p.elim | skip
    rename_i n
    obtain ⟨a, rfl, ha⟩ := rep_ref rv
    simp only [prim] at p
    split at p
    · exact p.elim
    · rename_i xs e1 nr
      split at p
      · rename_i ys e2
        obtain ⟨c, p⟩ := guardR_some p
        have c := of_decide_eq_true c
        obtain ⟨us, h1, h2⟩ := s.obj n a xs ha e1
        obtain ⟨b, ws, rfl, hb, rb⟩ := listOf_trk s rw' e2 (fun ys z => nr ys z)
        refine ⟨.ref a, [.ref b], rfl, a, b, us, ws, rfl, rfl, h1, hb, by rw [← h2.length, ← rb.length]; exact c, ?_⟩
        exact p.set s ha e1 (h2.append rb) .non
      · exact p.elim
    · exact p.elim
  · cases x <;> exact p.elim
def rSplitM : V → List V → Hp → VK → Prop := fun x xs H Q => ∃ a b, x = .str a ∧ xs = [.str b] ∧ (b.length == 0) = false ∧ a.length + 2 ≤ sizeLine ∧ rNewStrs (Txt.split a b) H Q
theorem len0 {b : Chs} (h : b.isEmpty = false) : ((⟨b.toArray⟩ : Str).length == 0) = false := by
  rw [len_str]
  cases b with
  | nil => cases h
  | cons x l => rfl
theorem strs_of {R : RC} {m : List Addr} {st : Sto} {H : Hp} : ∀ ys : List Str, Reps R m st H ((ys.map (·.cps.toList)).map D.str) (ys.map V.str)
  | [] => .nil
  | y :: ys => .cons (.of_str y) (strs_of ys)
theorem sim_split {R : RC} : Sim R .split (lm rSplitM) := by
  intro m st H ds vs Q s rs p
  rcases ds with _ | ⟨x, _ | ⟨y, _ | ⟨z, l⟩⟩⟩
  · exact p.elim
  · cases x <;> exact p.elim
  · obtain ⟨v, w, rfl, rv, rw'⟩ := rs.two
    cases rv <;> first | exact p.elim | skip
    cases rw' <;> first | exact p.elim | skip
    obtain ⟨c, p⟩ := guardR_some p
    simp only [Bool.and_eq_true, Bool.not_eq_true', decide_eq_true_eq] at c
    refine ⟨_, _, rfl, _, _, rfl, rfl, len0 c.1, by rw [len_str]; exact c.2, fun q hq => ?_⟩
    exact p.new s hq (.lst upd_same (s.notLive hq) (strs_of _))
  · cases x <;> first | exact p.elim | (cases y <;> exact p.elim)
def rPartM : V → List V → Hp → VK → Prop := fun x xs H Q => ∃ a b, x = .str a ∧ xs = [.str b] ∧ (b.length == 0) = false ∧ a.length ≤ sizeLine ∧
    ∀ p, H p = none → Q (.ref p) (upd H p (.tup [.str (Txt.partition a b).1, .str (Txt.partition a b).2.1, .str (Txt.partition a b).2.2]))
theorem sim_partition {R : RC} : Sim R .partition (lm rPartM) := by
  intro m st H ds vs Q s rs p
  rcases ds with _ | ⟨x, _ | ⟨y, _ | ⟨z, l⟩⟩⟩
  · exact p.elim
  · cases x <;> exact p.elim
  · obtain ⟨v, w, rfl, rv, rw'⟩ := rs.two
    cases rv <;> first | exact p.elim | skip
    cases rw' <;> first | exact p.elim | skip
    obtain ⟨c, p⟩ := guardR_some p
    simp only [Bool.and_eq_true, Bool.not_eq_true', decide_eq_true_eq] at c
    refine ⟨_, _, rfl, _, _, rfl, rfl, len0 c.1, by rw [len_str]; exact c.2, fun q hq => ?_⟩
    exact p.new s hq (.tup (.inl ⟨.inl upd_same, s.notLive hq⟩) (.cons (.of_str _) (.cons (.of_str _) (.cons (.of_str _) .nil))))
  · cases x <;> first | exact p.elim | (cases y <;> exact p.elim)
def rJoinM (K : PySem.W.Frag) : V → List V → Hp → VK → Prop := fun x xs H Q => ∃ a p, ∃ ys : List Str, x = .str a ∧ xs = [.ref p] ∧ (SqL K H p (ys.map V.str) ∨ SqT K H p (ys.map V.str)) ∧
    (ys.map (·.length)).sum + ys.length * a.length ≤ 16777216 ∧ Q (.str (Txt.join a ys)) H
theorem lens_of : ∀ ys : List Chs, ((ys.map fun y => (⟨y.toArray⟩ : Str)).map (·.length)).sum = (ys.map (·.length)).sum
  | [] => rfl
  | y :: ys => by
    simp only [List.map_cons, List.sum_cons]
    rw [lens_of ys, len_str]
theorem sim_join {R : RC} : Sim R .join (lm (rJoinM R.K)) := by
  intro m st H ds vs Q s rs p
  rcases ds with _ | ⟨x, _ | ⟨y, _ | ⟨z, l⟩⟩⟩
  · exact p.elim
  · cases x <;> exact p.elim
  · obtain ⟨v, w, rfl, rv, rw'⟩ := rs.two
    cases rv <;> first | exact p.elim | skip
    rename_i a
    simp only [prim] at p
    split at p
    · rename_i ys e1
      obtain ⟨xs, e2, e3⟩ := bind_some e1
      obtain ⟨c, p⟩ := guardR_some p
      have c := of_decide_eq_true c
      have len : (ys.map fun y => (⟨y.toArray⟩ : Str)).length = ys.length := List.length_map _
      have fin : ∀ b : Addr, w = .ref b → (SqL R.K H b ((ys.map fun y => (⟨y.toArray⟩ : Str)).map V.str) ∨ SqT R.K H b ((ys.map fun y => (⟨y.toArray⟩ : Str)).map V.str)) → lm (rJoinM R.K) [.str ⟨a.toArray⟩, w] H Q := fun b eb hb => by
        subst eb
        refine ⟨_, _, rfl, _, b, _, rfl, rfl, hb, by rw [lens_of, len, len_str]; exact c, ?_⟩
        exact p.here s (.of_str _)
      unfold seqOf at e2
      split at e2
      · obtain ⟨b, us, rfl, ha, ra⟩ := rw'.inj_tup
        cases e2
        rw [chars_rep ra e3] at ha
        exact fin b rfl (.inr ha.sq)
      · obtain ⟨b, us, rfl, ha, ra⟩ := listOf_at s rw' e2
        rw [chars_rep ra e3] at ha
        exact fin b rfl (.inl ha)
    · exact p.elim
  · cases x <;> first | exact p.elim | (cases y <;> exact p.elim)
end Mini
end
section
set_option linter.all false
set_option autoImplicit false
set_option maxRecDepth 100000
set_option maxHeartbeats 1000000
/-! Readings that tell what the small language's functions give. -/
namespace Mini
open PySem PySem.Spec PyProof.Rows L2
def ER (R : RC) (m : List Addr) (st : Sto) (H : Hp) (σ : L2.St) (env : Env) : Prop := env.length = σ.length ∧ ∀ (i : Nat) (d : D), env[i]? = some (some d) → ∃ v : V, σ[i]? = some (some v) ∧ Rep R m st H d v
theorem ER.mono {R : RC} {m m' : List Addr} {st st' : Sto} {H H' : Hp} {σ : L2.St} {env : Env} (e : ER R m st H σ env) (x : Ext m st H m' st' H') : ER R m' st' H' σ env :=
  ⟨e.1, fun i d h => let ⟨v, h1, h2⟩ := e.2 i d h; ⟨v, h1, Rep.mono x _ _ h2⟩⟩
def tE (R : RC) (W : WX) (f : Env → Sto → Res D) : TE := fun σ H Q => ∃ hd m env st, SR (R.w hd) m st H ∧ ER (R.w hd) m st H σ env ∧ Post (R.w hd) m st H (f env st) Q (fun c dd H' => W c dd σ H')
def tT (R : RC) (W : WX) (f : Env → Sto → Res Bool) : TT := fun σ H Q => ∃ hd m env st, SR (R.w hd) m st H ∧ ER (R.w hd) m st H σ env ∧ PostT (R.w hd) m st H (f env st) Q (fun c dd H' => W c dd σ H')
def tA (R : RC) (W : WX) (f : Env → Sto → Res (List D)) : TA := fun σ H Q => ∃ hd m env st, SR (R.w hd) m st H ∧ ER (R.w hd) m st H σ env ∧ PostL (R.w hd) m st H (f env st) Q (fun c dd H' => W c dd σ H')
theorem PE.imp {X : Cx} {e : Expr} {t t' : TE} (h : PE X e t) (i : ∀ σ H Q, t' σ H Q → t σ H Q) : PE X e t' := ⟨fun pins s σ H Q I q => h.run pins s σ H Q I (i σ H Q q)⟩
theorem PT.imp {X : Cx} {e : Expr} {t t' : TT} (h : PT X e t) (i : ∀ σ H Q, t' σ H Q → t σ H Q) : PT X e t' := ⟨fun pins s σ H Q I q => h.run pins s σ H Q I (i σ H Q q)⟩
theorem PW.imp {X : Cx} {e : Expr} {t t' : TT} (h : PW X e t) (i : ∀ σ H Q, t' σ H Q → t σ H Q) : PW X e t' := ⟨fun w pins s σ H Q I q => h.run w pins s σ H Q I (i σ H Q q)⟩
theorem PA.imp {X : Cx} {e : List Expr} {t t' : TA} (h : PA X e t) (i : ∀ σ H Q, t' σ H Q → t σ H Q) : PA X e t' := ⟨fun pos pins s σ H Q I q => h.run pos pins s σ H Q I (i σ H Q q)⟩
section
variable {R : RC} {W : WX} {m : List Addr} {st : Sto} {H : Hp} {σ : L2.St} {env : Env} {E : XK}
/-- one after the other -/
theorem tE_seq {α : Type} {P : List Addr → Sto → Hp → Res α → Prop} {hd : List Addr} {f : Env → Sto → Res D} {k : D → Sto → Res α} {C : VK} (s : SR (R.w hd) m st H) (er : ER (R.w hd) m st H σ env)
    (hb : ¬ P m st H .bad) (hx : ∀ x st1, P m st H (.exc x st1) → ∀ m' H' c dd, Ext m st H m' st1 H' → SR (R.w hd) m' st1 H' → XRep (R.w hd) m' st1 H' x c dd → W c dd σ H')
    (hs : ∀ r m1 st1 H1, Ext m st H m1 st1 H1 → P m st H r → P m1 st1 H1 r) (p : P m st H ((f env st).bnd k))
    (hk : ∀ d st1 m1 H1 v, Ext m st H m1 st1 H1 → SR (R.w hd) m1 st1 H1 → ER (R.w hd) m1 st1 H1 σ env → Rep (R.w hd) m1 st1 H1 d v → P m1 st1 H1 (k d st1) → C v H1) : tE R W f σ H C := by
  refine ⟨hd, m, env, st, s, er, ?_⟩
  cases e : f env st with
  | ok d st1 =>
    rw [e] at p
    exact fun m1 H1 v x s1 r1 => hk d st1 m1 H1 v x s1 (er.mono x) r1 (hs _ _ _ _ x p)
  | exc x st1 =>
    rw [e] at p
    exact hx x st1 p
  | bad =>
    rw [e] at p
    exact (hb p).elim
theorem seqE {hd : List Addr} {f : Env → Sto → Res D} {k : D → Sto → Res D} {C Q : VK} (s : SR (R.w hd) m st H) (er : ER (R.w hd) m st H σ env) (p : Post (R.w hd) m st H ((f env st).bnd k) Q (fun c dd H' => W c dd σ H'))
    (hk : ∀ d st1 m1 H1 v, Ext m st H m1 st1 H1 → SR (R.w hd) m1 st1 H1 → ER (R.w hd) m1 st1 H1 σ env → Rep (R.w hd) m1 st1 H1 d v → Post (R.w hd) m1 st1 H1 (k d st1) Q (fun c dd H' => W c dd σ H') → C v H1) : tE R W f σ H C :=
  tE_seq (P := fun m st H r => Post (R.w hd) m st H r Q (fun c dd H' => W c dd σ H')) s er (fun h => h) (fun _ _ h => h) (fun _ _ _ _ x h => h.shift x) p hk
theorem seqL {hd : List Addr} {f : Env → Sto → Res D} {k : D → Sto → Res (List D)} {C : VK} {Q : List V → Hp → Prop} (s : SR (R.w hd) m st H) (er : ER (R.w hd) m st H σ env) (p : PostL (R.w hd) m st H ((f env st).bnd k) Q (fun c dd H' => W c dd σ H'))
    (hk : ∀ d st1 m1 H1 v, Ext m st H m1 st1 H1 → SR (R.w hd) m1 st1 H1 → ER (R.w hd) m1 st1 H1 σ env → Rep (R.w hd) m1 st1 H1 d v → PostL (R.w hd) m1 st1 H1 (k d st1) Q (fun c dd H' => W c dd σ H') → C v H1) : tE R W f σ H C :=
  tE_seq (P := fun m st H r => PostL (R.w hd) m st H r Q (fun c dd H' => W c dd σ H')) s er (fun h => h) (fun _ _ h => h) (fun _ _ _ _ x h => h.shift x) p hk
theorem seqT {hd : List Addr} {f : Env → Sto → Res D} {k : D → Sto → Res Bool} {C : VK} {Q : Bool → Hp → Prop} (s : SR (R.w hd) m st H) (er : ER (R.w hd) m st H σ env) (p : PostT (R.w hd) m st H ((f env st).bnd k) Q (fun c dd H' => W c dd σ H'))
    (hk : ∀ d st1 m1 H1 v, Ext m st H m1 st1 H1 → SR (R.w hd) m1 st1 H1 → ER (R.w hd) m1 st1 H1 σ env → Rep (R.w hd) m1 st1 H1 d v → PostT (R.w hd) m1 st1 H1 (k d st1) Q (fun c dd H' => W c dd σ H') → C v H1) : tE R W f σ H C :=
  tE_seq (P := fun m st H r => PostT (R.w hd) m st H r Q (fun c dd H' => W c dd σ H')) s er (fun h => h) (fun _ _ h => h) (fun _ _ _ _ x h => h.shift x) p hk
/-- .. behind an argument list -/
theorem tA_seq {α : Type} {P : List Addr → Sto → Hp → Res α → Prop} {hd : List Addr} {f : Env → Sto → Res (List D)} {k : List D → Sto → Res α} {C : List V → Hp → Prop} (s : SR (R.w hd) m st H) (er : ER (R.w hd) m st H σ env)
    (hb : ¬ P m st H .bad) (hx : ∀ x st1, P m st H (.exc x st1) → ∀ m' H' c dd, Ext m st H m' st1 H' → SR (R.w hd) m' st1 H' → XRep (R.w hd) m' st1 H' x c dd → W c dd σ H')
    (hs : ∀ r m1 st1 H1, Ext m st H m1 st1 H1 → P m st H r → P m1 st1 H1 r) (p : P m st H ((f env st).bnd k))
    (hk : ∀ d st1 m1 H1 v, Ext m st H m1 st1 H1 → SR (R.w hd) m1 st1 H1 → ER (R.w hd) m1 st1 H1 σ env → Reps (R.w hd) m1 st1 H1 d v → P m1 st1 H1 (k d st1) → C v H1) : tA R W f σ H C := by
  refine ⟨hd, m, env, st, s, er, ?_⟩
  cases e : f env st with
  | ok d st1 =>
    rw [e] at p
    exact fun m1 H1 v x s1 r1 => hk d st1 m1 H1 v x s1 (er.mono x) r1 (hs _ _ _ _ x p)
  | exc x st1 =>
    rw [e] at p
    exact hx x st1 p
  | bad =>
    rw [e] at p
    exact (hb p).elim
theorem aseqE {hd : List Addr} {f : Env → Sto → Res (List D)} {k : List D → Sto → Res D} {C : List V → Hp → Prop} {Q : VK} (s : SR (R.w hd) m st H) (er : ER (R.w hd) m st H σ env) (p : Post (R.w hd) m st H ((f env st).bnd k) Q (fun c dd H' => W c dd σ H'))
    (hk : ∀ d st1 m1 H1 v, Ext m st H m1 st1 H1 → SR (R.w hd) m1 st1 H1 → ER (R.w hd) m1 st1 H1 σ env → Reps (R.w hd) m1 st1 H1 d v → Post (R.w hd) m1 st1 H1 (k d st1) Q (fun c dd H' => W c dd σ H') → C v H1) : tA R W f σ H C :=
  tA_seq (P := fun m st H r => Post (R.w hd) m st H r Q (fun c dd H' => W c dd σ H')) s er (fun h => h) (fun _ _ h => h) (fun _ _ _ _ x h => h.shift x) p hk
theorem aseqL {hd : List Addr} {f : Env → Sto → Res (List D)} {k : List D → Sto → Res (List D)} {C : List V → Hp → Prop} {Q : List V → Hp → Prop} (s : SR (R.w hd) m st H) (er : ER (R.w hd) m st H σ env) (p : PostL (R.w hd) m st H ((f env st).bnd k) Q (fun c dd H' => W c dd σ H'))
    (hk : ∀ d st1 m1 H1 v, Ext m st H m1 st1 H1 → SR (R.w hd) m1 st1 H1 → ER (R.w hd) m1 st1 H1 σ env → Reps (R.w hd) m1 st1 H1 d v → PostL (R.w hd) m1 st1 H1 (k d st1) Q (fun c dd H' => W c dd σ H') → C v H1) : tA R W f σ H C :=
  tA_seq (P := fun m st H r => PostL (R.w hd) m st H r Q (fun c dd H' => W c dd σ H')) s er (fun h => h) (fun _ _ h => h) (fun _ _ _ _ x h => h.shift x) p hk
theorem aseqT {hd : List Addr} {f : Env → Sto → Res (List D)} {k : List D → Sto → Res Bool} {C : List V → Hp → Prop} {Q : Bool → Hp → Prop} (s : SR (R.w hd) m st H) (er : ER (R.w hd) m st H σ env) (p : PostT (R.w hd) m st H ((f env st).bnd k) Q (fun c dd H' => W c dd σ H'))
    (hk : ∀ d st1 m1 H1 v, Ext m st H m1 st1 H1 → SR (R.w hd) m1 st1 H1 → ER (R.w hd) m1 st1 H1 σ env → Reps (R.w hd) m1 st1 H1 d v → PostT (R.w hd) m1 st1 H1 (k d st1) Q (fun c dd H' => W c dd σ H') → C v H1) : tA R W f σ H C :=
  tA_seq (P := fun m st H r => PostT (R.w hd) m st H r Q (fun c dd H' => W c dd σ H')) s er (fun h => h) (fun _ _ h => h) (fun _ _ _ _ x h => h.shift x) p hk
/-- .. behind a test -/
theorem tT_seq {α : Type} {P : List Addr → Sto → Hp → Res α → Prop} {hd : List Addr} {f : Env → Sto → Res Bool} {k : Bool → Sto → Res α} {C : Bool → Hp → Prop} (s : SR (R.w hd) m st H) (er : ER (R.w hd) m st H σ env)
    (hb : ¬ P m st H .bad) (hx : ∀ x st1, P m st H (.exc x st1) → ∀ m' H' c dd, Ext m st H m' st1 H' → SR (R.w hd) m' st1 H' → XRep (R.w hd) m' st1 H' x c dd → W c dd σ H')
    (hs : ∀ r m1 st1 H1, Ext m st H m1 st1 H1 → P m st H r → P m1 st1 H1 r) (p : P m st H ((f env st).bnd k))
    (hk : ∀ d st1 m1 H1, Ext m st H m1 st1 H1 → SR (R.w hd) m1 st1 H1 → ER (R.w hd) m1 st1 H1 σ env → P m1 st1 H1 (k d st1) → C d H1) : tT R W f σ H C := by
  refine ⟨hd, m, env, st, s, er, ?_⟩
  cases e : f env st with
  | ok d st1 =>
    rw [e] at p
    exact fun m1 H1 x s1 => hk d st1 m1 H1 x s1 (er.mono x) (hs _ _ _ _ x p)
  | exc x st1 =>
    rw [e] at p
    exact hx x st1 p
  | bad =>
    rw [e] at p
    exact (hb p).elim
theorem tseqE {hd : List Addr} {f : Env → Sto → Res Bool} {k : Bool → Sto → Res D} {C : Bool → Hp → Prop} {Q : VK} (s : SR (R.w hd) m st H) (er : ER (R.w hd) m st H σ env) (p : Post (R.w hd) m st H ((f env st).bnd k) Q (fun c dd H' => W c dd σ H'))
    (hk : ∀ d st1 m1 H1, Ext m st H m1 st1 H1 → SR (R.w hd) m1 st1 H1 → ER (R.w hd) m1 st1 H1 σ env → Post (R.w hd) m1 st1 H1 (k d st1) Q (fun c dd H' => W c dd σ H') → C d H1) : tT R W f σ H C :=
  tT_seq (P := fun m st H r => Post (R.w hd) m st H r Q (fun c dd H' => W c dd σ H')) s er (fun h => h) (fun _ _ h => h) (fun _ _ _ _ x h => h.shift x) p hk
theorem tseqT {hd : List Addr} {f : Env → Sto → Res Bool} {k : Bool → Sto → Res Bool} {C : Bool → Hp → Prop} {Q : Bool → Hp → Prop} (s : SR (R.w hd) m st H) (er : ER (R.w hd) m st H σ env) (p : PostT (R.w hd) m st H ((f env st).bnd k) Q (fun c dd H' => W c dd σ H'))
    (hk : ∀ d st1 m1 H1, Ext m st H m1 st1 H1 → SR (R.w hd) m1 st1 H1 → ER (R.w hd) m1 st1 H1 σ env → PostT (R.w hd) m1 st1 H1 (k d st1) Q (fun c dd H' => W c dd σ H') → C d H1) : tT R W f σ H C :=
  tT_seq (P := fun m st H r => PostT (R.w hd) m st H r Q (fun c dd H' => W c dd σ H')) s er (fun h => h) (fun _ _ h => h) (fun _ _ _ _ x h => h.shift x) p hk
theorem Post.here {d : D} {v : V} {Q : VK} (s : SR R m st H) (p : Post R m st H (.ok d st) Q E) (r : Rep R m st H d v) : Q v H := p m H v Ext.refl s r
theorem Post.liftP {r : Pm} {Q : VK} (p : Post R m st H (liftP r) Q E) : PostP R m st H r Q := by
  cases r with
  | none => exact p
  | some x => exact p
theorem Post.unliftP {r : Pm} {Q : VK} (p : PostP R m st H r Q) : Post R m st H (Mini.liftP r) Q E := by
  cases r with
  | none => exact p
  | some x => exact p
/-- behind a primitive: a test -/
theorem seqP {p : Pr} {r : List V → Hp → VK → Prop} {ds : List D} {vs : List V} {k : D → Sto → Res Bool} {Q : Bool → Hp → Prop} {C : VK} (sm : Sim R p r) (s : SR R m st H) (rs : Reps R m st H ds vs)
    (q : PostT R m st H ((liftP (prim p ds st)).bnd k) Q E) (hk : ∀ d st1 m1 H1 v, Ext m st H m1 st1 H1 → SR R m1 st1 H1 → Rep R m1 st1 H1 d v → PostT R m1 st1 H1 (k d st1) Q E → C v H1) : r vs H C := by
  refine sm m st H ds vs C s rs ?_
  cases e : prim p ds st with
  | none =>
    rw [e] at q
    exact q.elim
  | some x =>
    obtain ⟨d, st1⟩ := x
    rw [e] at q
    exact fun m1 H1 v x s1 r1 => hk d st1 m1 H1 v x s1 r1 (PostT.shift x q)
theorem seqPE {p : Pr} {r : List V → Hp → VK → Prop} {ds : List D} {vs : List V} {k : D → Sto → Res D} {Q C : VK} (sm : Sim R p r) (s : SR R m st H) (rs : Reps R m st H ds vs)
    (q : Post R m st H ((liftP (prim p ds st)).bnd k) Q E) (hk : ∀ d st1 m1 H1 v, Ext m st H m1 st1 H1 → SR R m1 st1 H1 → Rep R m1 st1 H1 d v → Post R m1 st1 H1 (k d st1) Q E → C v H1) : r vs H C := by
  refine sm m st H ds vs C s rs ?_
  cases e : prim p ds st with
  | none =>
    rw [e] at q
    exact q.elim
  | some x =>
    obtain ⟨d, st1⟩ := x
    rw [e] at q
    exact fun m1 H1 v x s1 r1 => hk d st1 m1 H1 v x s1 r1 (Post.shift x q)
end
/-! ### the rules -/
section
variable {X : Cx} {R : RC} {W : WX}
theorem pe_lit {e : Expr} {d : D} {v : V} (h : PE X e (tC v)) (r : ∀ hd m st H, Rep (R.w hd) m st H d v) : PE X e (tE R W fun _ st => .ok d st) :=
  PE.imp h fun σ H Q ⟨hd, m, env, st, s, er, p⟩ => Post.here s p (r hd m st H)
theorem pe_v {e : Expr} {i : Nat} (h : PE X e (tVar i)) : PE X e (tE R W fun env st => match getV env i with | some d => .ok d st | none => .bad) := by
  refine PE.imp h fun σ H Q ⟨hd, m, env, st, s, er, p⟩ => ?_
  dsimp only at p
  cases e1 : getV env i with
  | none =>
    rw [e1] at p
    exact p.elim
  | some d =>
    rw [e1] at p
    have e2 : env[i]? = some (some d) := by
      unfold getV at e1
      cases q : env[i]? with
      | none =>
        rw [q] at e1
        cases e1
      | some o =>
        rw [q] at e1
        cases o with
        | none => cases e1
        | some y =>
          cases e1
          rfl
    obtain ⟨v, h1, h2⟩ := er.2 i d e2
    exact ⟨v, h1, Post.here s p h2⟩
theorem pa_n : PA X [] (tA R W fun _ st => .ok [] st) := PA.imp pa_nil fun σ H Q ⟨hd, m, env, st, s, er, p⟩ => p m H [] Ext.refl s .nil
theorem pa_c {e : Expr} {es : List Expr} {f : Env → Sto → Res D} {g : Env → Sto → Res (List D)} (hs : starEach (e :: es) X.env = (false, eval e X.env) :: starEach es X.env) (h : PE X e (tE R W f)) (t : PA X es (tA R W g)) :
    PA X (e :: es) (tA R W fun env st => (f env st).bnd fun d st => (g env st).bnd fun ds st => .ok (d :: ds) st) := by
  refine PA.imp (pa_cons h t hs) fun σ H Q ⟨hd, m, env, st, s, er, p⟩ => ?_
  refine seqL s er p fun d st1 m1 H1 v x1 s1 er1 r1 p1 => ?_
  refine aseqL s1 er1 p1 fun ds st2 m2 H2 vs x2 s2 er2 r2 p2 => ?_
  exact p2 m2 H2 _ Ext.refl s2 (.cons (Rep.mono x2 _ _ r1) r2)
theorem pe_t {es : List Expr} {x1 : Nat} {pos : Pos} {g : Env → Sto → Res (List D)} (h : PA X es (tA R W g)) :
    PE X (.Tuple es x1 pos) (tE R W fun env st => (g env st).bnd fun ds st => if ds.length ≤ sizeLine then .ok (.tup ds) st else .bad) := by
  refine PE.imp (pe_tup h) fun σ H Q ⟨hd, m, env, st, s, er, p⟩ => ?_
  refine aseqE s er p fun ds st1 m1 H1 vs x1 s1 er1 r1 p1 => ?_
  split at p1
  · rename_i hl
    refine ⟨by rw [← r1.length]; exact hl, fun q hq => ?_⟩
    exact p1 m1 _ _ (Ext.new hq) (s1.new hq) (.tup (.inl ⟨.inl upd_same, s1.notLive hq⟩) (Reps.mono (Ext.new hq) _ _ r1))
  · exact p1.elim
theorem pe_vl {es : List Expr} {pos : Pos} {g : Env → Sto → Res (List D)} (h : PA X es (tA R W g)) :
    PE X (.List es pos) (tE R W fun env st => (g env st).bnd fun ds st => if ds.length ≤ sizeLine then .ok (.lst ds) st else .bad) := by
  refine PE.imp (pe_lst h) fun σ H Q ⟨hd, m, env, st, s, er, p⟩ => ?_
  refine aseqE s er p fun ds st1 m1 H1 vs x1 s1 er1 r1 p1 => ?_
  split at p1
  · rename_i hl
    refine ⟨by rw [← r1.length]; exact hl, fun q hq => ?_⟩
    exact p1 m1 _ _ (Ext.new hq) (s1.new hq) (.lst upd_same (s1.notLive hq) (Reps.mono (Ext.new hq) _ _ r1))
  · exact p1.elim
theorem rep_push {m : List Addr} {st : Sto} {H : Hp} (s : SR R m st H) (q : Addr) (H' : Hp) (u : SO) : Rep R (m ++ [q]) (st ++ [u]) H' (.ref st.length) (.ref q) := .ref (by
  rw [← s.len, List.getElem?_append_right (Nat.le_refl _), Nat.sub_self]
  rfl)
theorem pe_l {es : List Expr} {pos : Pos} {g : Env → Sto → Res (List D)} (h : PA X es (tA R W g)) :
    PE X (.List es pos) (tE R W fun env st => (g env st).bnd fun ds st => if ds.length ≤ sizeLine then .ok (.ref st.length) (st ++ [.lst ds]) else .bad) := by
  refine PE.imp (pe_lst h) fun σ H Q ⟨hd, m, env, st, s, er, p⟩ => ?_
  refine aseqE s er p fun ds st1 m1 H1 vs x1 s1 er1 r1 p1 => ?_
  split at p1
  · rename_i hl
    refine ⟨by rw [← r1.length]; exact hl, fun q hq => ?_⟩
    exact p1 _ _ _ (Ext.push s1 hq) (s1.push hq r1) (rep_push s1 q _ _)
  · exact p1.elim
/-! tests -/
theorem pt_n {a : Expr} {pos : Pos} {f : Env → Sto → Res Bool} (h : PT X a (tT R W f)) : PT X (.UnaryOp .Not a pos) (tT R W fun env st => (f env st).bnd fun x st => .ok (!x) st) := by
  refine PT.imp (pt_not h) fun σ H Q ⟨hd, m, env, st, s, er, p⟩ => ?_
  exact tseqT s er p fun d st1 m1 H1 x1 s1 er1 p1 => p1 m1 H1 Ext.refl s1
theorem PT.pw {op : BoolOp} {l : List Expr} {pos : Pos} {t : TT} (h : PT X (.BoolOp op l pos) t) : PW X (.BoolOp op l pos) t := ⟨fun _ pins s σ H Q I q => h.run pins s σ H Q I q⟩
theorem pt_and {a b : Expr} {rest : List Expr} {pos : Pos} {f g : Env → Sto → Res Bool} (ha : PT X a (tT R W f)) (hb : PW X (.BoolOp .And (b :: rest) pos) (tT R W g)) :
    PT X (.BoolOp .And (a :: b :: rest) pos) (tT R W fun env st => (f env st).bnd fun x st => if x = true then g env st else .ok false st) := by
  refine PT.imp (pw_and ha hb).pt fun σ H Q ⟨hd, m, env, st, s, er, p⟩ => ?_
  refine tseqT s er p fun d st1 m1 H1 x1 s1 er1 p1 => ?_
  cases d with
  | true => exact ⟨_, m1, env, st1, s1, er1, p1⟩
  | false => exact p1 m1 H1 Ext.refl s1
theorem pt_or {a b : Expr} {rest : List Expr} {pos : Pos} {f g : Env → Sto → Res Bool} (ha : PT X a (tT R W f)) (hb : PW X (.BoolOp .Or (b :: rest) pos) (tT R W g)) :
    PT X (.BoolOp .Or (a :: b :: rest) pos) (tT R W fun env st => (f env st).bnd fun x st => if x = true then .ok true st else g env st) := by
  refine PT.imp (pw_or ha hb).pt fun σ H Q ⟨hd, m, env, st, s, er, p⟩ => ?_
  refine tseqT s er p fun d st1 m1 H1 x1 s1 er1 p1 => ?_
  cases d with
  | true => exact p1 m1 H1 Ext.refl s1
  | false => exact ⟨_, m1, env, st1, s1, er1, p1⟩
theorem pe_andM {a b : Expr} {rest : List Expr} {pos : Pos} {f g : Env → Sto → Res D} (ha : PE X a (tE R W f)) (hb : PE X (.BoolOp .And (b :: rest) pos) (tE R W g)) :
    PE X (.BoolOp .And (a :: b :: rest) pos) (tE R W fun env st => (f env st).bnd fun d st => match d with
      | .bl true => g env st
      | .bl false => .ok (.bl false) st
      | _ => .bad) := by
  refine PE.imp (pe_and ha hb) fun σ H Q ⟨hd, m, env, st, s, er, p⟩ => ?_
  refine seqE s er p fun d st1 m1 H1 v x1 s1 er1 r1 p1 => ?_
  split at p1
  · cases r1
    exact ⟨true, rfl, _, m1, env, st1, s1, er1, p1⟩
  · cases r1
    exact ⟨false, rfl, Post.here s1 p1 (.bl false)⟩
  · exact p1.elim
theorem pe_orM {a b : Expr} {rest : List Expr} {pos : Pos} {f g : Env → Sto → Res D} (ha : PE X a (tE R W f)) (hb : PE X (.BoolOp .Or (b :: rest) pos) (tE R W g)) :
    PE X (.BoolOp .Or (a :: b :: rest) pos) (tE R W fun env st => (f env st).bnd fun d st => match d with
      | .bl true => .ok (.bl true) st
      | .bl false => g env st
      | _ => .bad) := by
  refine PE.imp (pe_or ha hb) fun σ H Q ⟨hd, m, env, st, s, er, p⟩ => ?_
  refine seqE s er p fun d st1 m1 H1 v x1 s1 er1 r1 p1 => ?_
  split at p1
  · cases r1
    exact ⟨true, rfl, Post.here s1 p1 (.bl true)⟩
  · cases r1
    exact ⟨false, rfl, _, m1, env, st1, s1, er1, p1⟩
  · exact p1.elim
theorem pe_notM {a : Expr} {pos : Pos} {f : Env → Sto → Res D} (ha : PE X a (tE R W f)) :
    PE X (.UnaryOp .Not a pos) (tE R W fun env st => (f env st).bnd fun d st => match d with
      | .bl b => .ok (.bl (!b)) st
      | _ => .bad) := by
  refine PE.imp (pe_not ha) fun σ H Q ⟨hd, m, env, st, s, er, p⟩ => ?_
  refine seqE s er p fun d st1 m1 H1 v x1 s1 er1 r1 p1 => ?_
  split at p1
  · cases r1
    exact ⟨_, rfl, Post.here s1 p1 (.bl _)⟩
  · exact p1.elim
theorem pe_ifM {c a b : Expr} {pos : Pos} {f : Env → Sto → Res Bool} {g h : Env → Sto → Res D} (hc : PT X c (tT R W f)) (ha : PE X a (tE R W g)) (hb : PE X b (tE R W h)) :
    PE X (.IfExp c a b pos) (tE R W fun env st => (f env st).bnd fun x st => if x = true then g env st else h env st) := by
  refine PE.imp (pe_ifExp hc ha hb) fun σ H Q ⟨hd, m, env, st, s, er, p⟩ => ?_
  refine tseqE s er p fun d st1 m1 H1 x1 s1 er1 p1 => ?_
  cases d with
  | true => exact ⟨_, m1, env, st1, s1, er1, p1⟩
  | false => exact ⟨_, m1, env, st1, s1, er1, p1⟩
theorem pt_ifM {c a b : Expr} {pos : Pos} {f g h : Env → Sto → Res Bool} (hc : PT X c (tT R W f)) (ha : PT X a (tT R W g)) (hb : PT X b (tT R W h)) :
    PT X (.IfExp c a b pos) (tT R W fun env st => (f env st).bnd fun x st => if x = true then g env st else h env st) := by
  refine ⟨fun pins s0 σ H Q I ⟨hd, m, env, st, s, er, p⟩ => ?_⟩
  show wpAny _ _ (do if ← isTrue c X.env (eval c X.env) then isTrue a X.env (eval a X.env) else isTrue b X.env (eval b X.env)) _ _ _
  refine wpAny_bind (thn (hc.run pins s0 σ H (fun x H1 => if x = true then tT R W g σ H1 Q else tT R W h σ H1 Q) I ?_) fun x s1 ⟨H1, I1, q1⟩ => ?_)
  · refine tseqT s er p fun d st1 m1 H1 x1 s1 er1 p1 => ?_
    cases d with
    | true => exact ⟨_, m1, env, st1, s1, er1, p1⟩
    | false => exact ⟨_, m1, env, st1, s1, er1, p1⟩
  · cases x with
    | true => exact ha.run pins s1 σ H1 Q I1 q1
    | false => exact hb.run pins s1 σ H1 Q I1 q1
end
end Mini
end
section
set_option linter.all false
set_option autoImplicit false
set_option maxRecDepth 100000
set_option maxHeartbeats 1000000
/-! Rules: primitives by their syntax. -/
namespace Mini
open PySem PySem.Spec PyProof.Rows L2
theorem bnd_assoc {α β γ : Type} (r : Res α) (f : α → Sto → Res β) (g : β → Sto → Res γ) : (r.bnd f).bnd g = r.bnd fun a st => (f a st).bnd g := by
  cases r <;> rfl
section
variable {X : Cx} {R : RC} {W : WX} {p : Pr}
def f1 (p : Pr) (f : Env → Sto → Res D) : Env → Sto → Res D := fun env st => (f env st).bnd fun d st => liftP (prim p [d] st)
def f2 (p : Pr) (f g : Env → Sto → Res D) : Env → Sto → Res D := fun env st => (f env st).bnd fun d st => (g env st).bnd fun e st => liftP (prim p [d, e] st)
def f3 (p : Pr) (f g h : Env → Sto → Res D) : Env → Sto → Res D := fun env st => (f env st).bnd fun d st => (g env st).bnd fun e st => (h env st).bnd fun x st => liftP (prim p [d, e, x] st)
def fA (p : Pr) (g : Env → Sto → Res (List D)) : Env → Sto → Res D := fun env st => (g env st).bnd fun ds st => liftP (prim p ds st)
theorem two_imp {r : R2} {f g : Env → Sto → Res D} (sm : ∀ hd, Sim (R.w hd) p (l2 r)) {σ : L2.St} {H : Hp} {Q : VK} (h : tE R W (f2 p f g) σ H Q) : tOp r (tE R W f) (tE R W g) σ H Q := by
  obtain ⟨hd, m, env, st, s, er, q⟩ := h
  refine seqE s er q fun d st1 m1 H1 v x1 s1 er1 r1 p1 => ?_
  refine seqE s1 er1 p1 fun e st2 m2 H2 w x2 s2 er2 r2 p2 => ?_
  obtain ⟨x, y, e1, z⟩ := sm _ m2 st2 H2 [d, e] [v, w] Q s2 (.cons (Rep.mono x2 _ _ r1) (.cons r2 .nil)) p2.liftP
  cases e1
  exact z
theorem pe_bin {op : Operator} {r : R2} {a b : Expr} {pos : Pos} {f g : Env → Sto → Res D} (sm : ∀ hd, Sim (R.w hd) p (l2 r)) (ho : OpR X (binaryOp op) r) (ha : PE X a (tE R W f)) (hb : PE X b (tE R W g)) :
    PE X (.BinOp a op b pos) (tE R W (f2 p f g)) := PE.imp (pe_op ho ha hb) fun _ _ _ h => two_imp sm h
theorem pe_cmpM {op : CmpOp} {r : R2} {a b : Expr} {pos : Pos} {f g : Env → Sto → Res D} (sm : ∀ hd, Sim (R.w hd) p (l2 r)) (ho : OpR X (compareOp op) r) (ha : PE X a (tE R W f)) (hb : PE X b (tE R W g)) (hm : behindInMarks op b = false) :
    PE X (.Compare a [op] [b] pos) (tE R W (f2 p f g)) := PE.imp (pe_cmpR ho ha hb hm) fun _ _ _ h => two_imp sm h
/-- it answers True or False -/
def IsBl (p : Pr) : Prop := ∀ ds st d st', prim p ds st = some (d, st') → ∃ b, d = .bl b
theorem truR_bl (b : Bool) (st : Sto) : truR (.bl b) st = .ok b st := rfl
theorem pt_cmpM {op : CmpOp} {r : R2} {a b : Expr} {pos : Pos} {f g : Env → Sto → Res D} (bl : IsBl p) (sm : ∀ hd, Sim (R.w hd) p (l2 r)) (ho : OpR X (compareOp op) r) (ha : PE X a (tE R W f)) (hb : PE X b (tE R W g)) (hm : behindInMarks op b = false) :
    PT X (.Compare a [op] [b] pos) (tT R W fun env st => (f2 p f g env st).bnd truR) := by
  refine PT.imp (pt_cmpR ho ha hb hm) fun σ H Q ⟨hd, m, env, st, s, er, q⟩ => ?_
  unfold f2 at q
  dsimp only at q
  rw [bnd_assoc] at q
  refine seqT s er q fun d st1 m1 H1 v x1 s1 er1 r1 p1 => ?_
  rw [bnd_assoc] at p1
  refine seqT s1 er1 p1 fun e st2 m2 H2 w x2 s2 er2 r2 p2 => ?_
  obtain ⟨x, y, e1, z⟩ := sm _ m2 st2 H2 [d, e] [v, w] (fun x H' => ∃ k, x = .bl k ∧ Q k H') s2 (.cons (Rep.mono x2 _ _ r1) (.cons r2 .nil)) (by
    cases e : prim p [d, e] st2 with
    | none =>
      rw [e] at p2
      exact p2.elim
    | some y =>
      obtain ⟨c, st3⟩ := y
      rw [e] at p2
      obtain ⟨b', rfl⟩ := bl _ _ _ _ e
      intro m3 H3 u x3 s3 r3
      cases r3
      exact ⟨b', rfl, p2 m3 H3 x3 s3⟩)
  cases e1
  exact z
theorem pe_unM {op : UnaryOp} {r : V → Hp → VK → Prop} {a : Expr} {pos : Pos} {f : Env → Sto → Res D} (sm : ∀ hd, Sim (R.w hd) p (l1 r)) (ho : UnR X (unaryOp op) r) (ha : PE X a (tE R W f)) : PE X (.UnaryOp op a pos) (tE R W (f1 p f)) := by
  refine PE.imp (pe_un ho ha) fun σ H Q ⟨hd, m, env, st, s, er, q⟩ => ?_
  refine seqE s er q fun d st1 m1 H1 v x1 s1 er1 r1 p1 => ?_
  obtain ⟨x, e1, z⟩ := sm _ m1 st1 H1 [d] [v] Q s1 (.cons r1 .nil) p1.liftP
  cases e1
  exact z
theorem pe_isNM {a : Expr} {j : Nat} {pos pos' : Pos} {f : Env → Sto → Res D} (ha : PE X a (tE R W f)) : PE X (.Compare a [.Is] [.Constant .none j pos'] pos) (tE R W (f1 .isN f)) := by
  refine PE.imp (pe_cmp (pc_isN ha) rfl) fun σ H Q ⟨hd, m, env, st, s, er, q⟩ => ?_
  refine seqE s er q fun d st1 m1 H1 v x1 s1 er1 r1 p1 => ?_
  obtain ⟨x, e1, z⟩ := sim_isN m1 st1 H1 [d] [v] Q s1 (.cons r1 .nil) p1.liftP
  cases e1
  exact z
theorem pe_notNM {a : Expr} {j : Nat} {pos pos' : Pos} {f : Env → Sto → Res D} (ha : PE X a (tE R W f)) : PE X (.Compare a [.IsNot] [.Constant .none j pos'] pos) (tE R W (f1 .notN f)) := by
  refine PE.imp (pe_cmp (pc_notN ha) rfl) fun σ H Q ⟨hd, m, env, st, s, er, q⟩ => ?_
  refine seqE s er q fun d st1 m1 H1 v x1 s1 er1 r1 p1 => ?_
  obtain ⟨x, e1, z⟩ := sim_notN m1 st1 H1 [d] [v] Q s1 (.cons r1 .nil) p1.liftP
  cases e1
  exact z
theorem isN_test {p : Pr} {a : Expr} {op : CmpOp} {j : Nat} {pos pos' : Pos} {t : TE} {f : Env → Sto → Res D} (hp : p = .isN ∨ p = .notN) (hc : PC X op a (.Constant .none j pos') t) (hm : behindInMarks op (.Constant .none j pos') = false)
    (ht : ∀ σ H Q, tE R W (f1 p f) σ H Q → t σ H Q) : PT X (.Compare a [op] [.Constant .none j pos'] pos) (tT R W fun env st => (f1 p f env st).bnd truR) := by
  refine PT.imp (pt_cmp hc hm) fun σ H Q ⟨hd, m, env, st, s, er, q⟩ => ?_
  refine ht σ H _ ⟨hd, m, env, st, s, er, ?_⟩
  have hb : ∀ d st1, f1 p f env st = .ok d st1 → ∃ b, d = .bl b := fun d st1 h => by
    unfold f1 at h
    cases e : f env st with
    | ok x st2 =>
      rw [e, bnd_ok] at h
      rcases hp with rfl | rfl
      · cases x <;> (cases h; exact ⟨_, rfl⟩)
      · cases x <;> (cases h; exact ⟨_, rfl⟩)
    | exc x st2 =>
      rw [e] at h
      cases h
    | bad =>
      rw [e] at h
      cases h
  dsimp only at q
  cases e : f1 p f env st with
  | ok d st1 =>
    obtain ⟨b, rfl⟩ := hb d st1 e
    rw [e] at q
    intro m1 H1 v x1 s1 r1
    cases r1
    exact ⟨b, rfl, q m1 H1 x1 s1⟩
  | exc x st1 =>
    rw [e] at q
    exact q
  | bad =>
    rw [e] at q
    exact q
theorem pt_isNM {a : Expr} {j : Nat} {pos pos' : Pos} {f : Env → Sto → Res D} (ha : PE X a (tE R W f)) : PT X (.Compare a [.Is] [.Constant .none j pos'] pos) (tT R W fun env st => (f1 .isN f env st).bnd truR) :=
  isN_test (.inl rfl) (pc_isN ha) rfl fun σ H Q ⟨hd, m, env, st, s, er, q⟩ => by
    refine seqE s er q fun d st1 m1 H1 v x1 s1 er1 r1 p1 => ?_
    obtain ⟨x, e1, z⟩ := sim_isN m1 st1 H1 [d] [v] Q s1 (.cons r1 .nil) p1.liftP
    cases e1
    exact z
theorem pt_notNM {a : Expr} {j : Nat} {pos pos' : Pos} {f : Env → Sto → Res D} (ha : PE X a (tE R W f)) : PT X (.Compare a [.IsNot] [.Constant .none j pos'] pos) (tT R W fun env st => (f1 .notN f env st).bnd truR) :=
  isN_test (.inr rfl) (pc_notN ha) rfl fun σ H Q ⟨hd, m, env, st, s, er, q⟩ => by
    refine seqE s er q fun d st1 m1 H1 v x1 s1 er1 r1 p1 => ?_
    obtain ⟨x, e1, z⟩ := sim_notN m1 st1 H1 [d] [v] Q s1 (.cons r1 .nil) p1.liftP
    cases e1
    exact z
theorem pe_ixM {a b : Expr} {pos : Pos} {f g : Env → Sto → Res D} (hx : R.K = X.K) (hs : PlainIx b) (ha : PE X a (tE R W f)) (hb : PE X b (tE R W g)) : PE X (.Subscript a b pos) (tE R W (f2 .ix f g)) :=
  PE.imp (pe_ix (r := rIx R.K) (by
    rw [hx]
    exact ix_seq) ha hb hs) fun _ _ _ h => two_imp (r := rIx R.K) (fun l => sim_ix (R := R.w l)) h
/-! slices -/
theorem po_sM {e : Expr} {f : Env → Sto → Res D} (h : PE X e (tE R W f)) : PO X (some e) (tPart (tE R W f)) := po_some h
theorem sl00 {a : Expr} {pos p2 : Pos} {f : Env → Sto → Res D} (hx : R.K = X.K) (ha : PE X a (tE R W f)) : PE X (.Subscript a (.Slice none none none p2) pos) (tE R W (f1 (.sl false false) f)) := by
  refine PE.imp (pe_slice sl_M ha po_none po_none) fun σ H Q ⟨hd, m, env, st, s, er, q⟩ => ?_
  refine seqE s er q fun d st1 m1 H1 v x1 s1 er1 r1 p1 => ?_
  show rSlM X.K v none none H1 Q
  rw [← hx]
  exact sim_sl (R := R.w hd) s1 r1 p1.liftP
theorem sl10 {a b : Expr} {pos p2 : Pos} {f g : Env → Sto → Res D} (hx : R.K = X.K) (ha : PE X a (tE R W f)) (hb : PE X b (tE R W g)) : PE X (.Subscript a (.Slice (some b) none none p2) pos) (tE R W (f2 (.sl true false) f g)) := by
  refine PE.imp (pe_slice sl_M ha (po_some hb) po_none) fun σ H Q ⟨hd, m, env, st, s, er, q⟩ => ?_
  refine seqE s er q fun d st1 m1 H1 v x1 s1 er1 r1 p1 => ?_
  refine seqE s1 er1 p1 fun e st2 m2 H2 w x2 s2 er2 r2 p2 => ?_
  cases r2 <;> first | exact p2.elim | skip
  refine ⟨_, rfl, ?_⟩
  show rSlM X.K v _ none H2 Q
  rw [← hx]
  exact sim_sl (R := R.w hd) s2 (Rep.mono x2 _ _ r1) p2.liftP
theorem sl01 {a b : Expr} {pos p2 : Pos} {f g : Env → Sto → Res D} (hx : R.K = X.K) (ha : PE X a (tE R W f)) (hb : PE X b (tE R W g)) : PE X (.Subscript a (.Slice none (some b) none p2) pos) (tE R W (f2 (.sl false true) f g)) := by
  refine PE.imp (pe_slice sl_M ha po_none (po_some hb)) fun σ H Q ⟨hd, m, env, st, s, er, q⟩ => ?_
  refine seqE s er q fun d st1 m1 H1 v x1 s1 er1 r1 p1 => ?_
  refine seqE s1 er1 p1 fun e st2 m2 H2 w x2 s2 er2 r2 p2 => ?_
  cases r2 <;> first | exact p2.elim | skip
  refine ⟨_, rfl, ?_⟩
  show rSlM X.K v none _ H2 Q
  rw [← hx]
  exact sim_sl (R := R.w hd) s2 (Rep.mono x2 _ _ r1) p2.liftP
theorem sl11 {a b c : Expr} {pos p2 : Pos} {f g h : Env → Sto → Res D} (hx : R.K = X.K) (ha : PE X a (tE R W f)) (hb : PE X b (tE R W g)) (hc : PE X c (tE R W h)) (hn : ∀ env st x s, h env st ≠ .exc x s) : PE X (.Subscript a (.Slice (some b) (some c) none p2) pos) (tE R W (f3 (.sl true true) f g h)) := by
  refine PE.imp (pe_slice sl_M ha (po_some hb) (po_some hc)) fun σ H Q ⟨hd, m, env, st, s, er, q⟩ => ?_
  refine seqE s er q fun d st1 m1 H1 v x1 s1 er1 r1 p1 => ?_
  refine seqE s1 er1 p1 fun e st2 m2 H2 w x2 s2 er2 r2 p2 => ?_
  have e2 : (∃ i, e = .int i) ∨ ∀ i, e ≠ .int i := by
    cases e <;> first | exact .inl ⟨_, rfl⟩ | (right; intro i z; cases z)
  have bad : (∀ i, e ≠ .int i) → ∀ x s, prim (.sl true true) [d, e, x] s = none := fun z x s => by
    cases e <;> first | exact absurd rfl (z _) | rfl
  rcases e2 with ⟨i, rfl⟩ | e2
  · obtain rfl := r2.inj_int
    refine ⟨_, rfl, ?_⟩
    refine seqE s2 er2 p2 fun e3 st3 m3 H3 w3 x3 s3 er3 r3 p3 => ?_
    cases r3 <;> first | exact p3.elim | skip
    refine ⟨_, rfl, ?_⟩
    show rSlM X.K v _ _ H3 Q
    rw [← hx]
    exact sim_sl (R := R.w hd) s3 (Rep.mono x3 _ _ (Rep.mono x2 _ _ r1)) p3.liftP
  · exfalso
    cases e3 : h env st2 with
    | ok x st3 =>
      rw [e3, bnd_ok, bad e2] at p2
      exact p2.elim
    | exc x st3 => exact hn _ _ _ _ e3
    | bad =>
      rw [e3] at p2
      exact p2.elim
/-! built-in functions, types, methods -/
theorem argsR {r : List V → Hp → VK → Prop} {g : Env → Sto → Res (List D)} (sm : ∀ hd, Sim (R.w hd) p r) {σ : L2.St} {H : Hp} {Q : VK} (h : tE R W (fA p g) σ H Q) : tA R W g σ H fun vs H1 => r vs H1 Q := by
  obtain ⟨hd, m, env, st, s, er, q⟩ := h
  exact aseqE s er q fun ds st1 m1 H1 vs x1 s1 er1 r1 p1 => sm _ m1 st1 H1 ds vs Q s1 r1 p1.liftP
theorem pe_bfn {x : Str} {q pos : Pos} {e : Expr} {es : List Expr} {id : String} {r : List V → Hp → VK → Prop} {g : Env → Sto → Res (List D)} (sm : ∀ hd, Sim (R.w hd) p r) (hc : CallR X (.builtin id) r) (hg : Gl X x) (hm : X.mg x = none)
    (hv : bootBuiltins x = some (.builtin id)) (ha : PA X (e :: es) (tA R W g)) (hn : x ≠ "__name__") (hdb : (x == ("__debug__" : Str)) = false) (he : starEach (e :: es) X.env = (false, eval e X.env) :: starEach es X.env)
    (hpl : (backTo pos (starEach es X.env)).any (·.1) = false) : PE X (.Call (.Name x q) (e :: es) [] pos) (tE R W (fA p g)) :=
  PE.imp (pe_callB hc hg hm hv ha hn hdb he hpl) fun _ _ _ h => argsR sm h
theorem pe_bty {x : Str} {q pos : Pos} {e : Expr} {es : List Expr} {T : String} {r : List V → Hp → VK → Prop} {g : Env → Sto → Res (List D)} (sm : ∀ hd, Sim (R.w hd) p r) (hc : CallR X (.type T) r) (hg : Gl X x) (hm : X.mg x = none)
    (hv : bootBuiltins x = some (.type T)) (ha : PA X (e :: es) (tA R W g)) (hn : x ≠ "__name__") (hdb : (x == ("__debug__" : Str)) = false) (he : starEach (e :: es) X.env = (false, eval e X.env) :: starEach es X.env)
    (hpl : (backTo pos (starEach es X.env)).any (·.1) = false) : PE X (.Call (.Name x q) (e :: es) [] pos) (tE R W (fA p g)) :=
  PE.imp (pe_callTy hc hg hm hv ha hn hdb he hpl) fun _ _ _ h => argsR sm h
/-- isinstance(e, T) -/
theorem pe_isiM {q q2 pos : Pos} {e : Expr} {T : Str} {n : String} {t : Ty} {f : Env → Sto → Res D} (hx : R.K = X.K) (hn : tyN t = some n) (hg : Gl X "isinstance") (hm : X.mg "isinstance" = none) (hgT : Gl X T) (hmT : X.mg T = none) (hvT : bootBuiltins T = some (.type n))
    (hT : T ≠ "__name__") (hTd : (T == ("__debug__" : Str)) = false) (ha : PE X e (tE R W f)) (hs : starEach [e, .Name T q2] X.env = (false, eval e X.env) :: starEach [.Name T q2] X.env) :
    PE X (.Call (.Name "isinstance" q) [e, .Name T q2] [] pos) (tE R W (f1 (.isi [t]) f)) := by
  have hT2 : PE X (.Name T q2) (tC (.ty n)) := pe_bltn hgT hmT hvT rfl hT hTd
  refine PE.imp (pe_callB call_isi hg hm (by decide +kernel) (pa_cons ha (pa_cons hT2 pa_nil) hs) (by decide) (by decide) hs rfl) fun σ H Q ⟨hd, m, env, st, s, er, q⟩ => ?_
  refine seqE s er q fun d st1 m1 H1 v x1 s1 er1 r1 p1 => ?_
  obtain ⟨x, e1, tv, b, h1, h2, h3⟩ := sim_isi hn m1 st1 H1 [d] [v] Q s1 (.cons r1 .nil) p1.liftP
  cases e1
  refine ⟨v, .ty n, tv, .type n, b, rfl, .ty n, ?_, ?_, h3⟩
  · rw [← hx]
    exact h1
  · rw [← hx]
    exact h2
/-- the receiver's type -/
def TyOK (R : RC) (T : String) (p : Pr) : Prop := ∀ (m : List Addr) (st : Sto) (H : Hp) (d : D) (v : V), SR R m st H → Rep R m st H d v → rcv p d st = true → tyV R.K T v H
theorem tyOK_str {p : Pr} (h : ∀ d st, rcv p d st = true → ∃ a, d = .str a) : TyOK R "str" p := fun m st H d v s r hp => by
  obtain ⟨a, rfl⟩ := h d st hp
  obtain rfl := r.inj_str
  rfl
theorem tyOK_list {p : Pr} (h : ∀ d st, rcv p d st = true → ∃ (n : Nat) (xs : List D), d = .ref n ∧ st[n]? = some (.lst xs)) : TyOK R "list" p := fun m st H d v s r hp => by
  obtain ⟨n, xs, rfl, e⟩ := h d st hp
  obtain ⟨a, rfl, ha⟩ := rep_ref r
  obtain ⟨vs, h1, h2⟩ := s.obj n a xs ha e
  exact .inl ⟨rfl, vs, SqL.of h1⟩
def fM (p : Pr) (f : Env → Sto → Res D) (g : Env → Sto → Res (List D)) : Env → Sto → Res D := fun env st => (f env st).bnd fun d st => if rcv p d st = true then (g env st).bnd fun ds st => liftP (prim p (d :: ds) st) else .bad
/-- o.m() -/
theorem pe_mt0 {T id : String} {name : Str} {o : Expr} {apos cpos : Pos} {r : V → List V → Hp → VK → Prop} {f : Env → Sto → Res D} (hx : R.K = X.K) (ty : ∀ hd, TyOK (R.w hd) T p) (sm : ∀ hd, Sim (R.w hd) p (lm r)) (pa : PlainAttrs T) (slot : Slot T name id) (hty : typeOf (.builtin id) = pure (.type "method_descriptor"))
    (hm : MtR X id r) (ho : PE X o (tE R W f)) (hbase : attributeBase o name X.env (eval o X.env) = eval o X.env) (hline : (apos.endLine == cpos.line) = true) : PE X (.Call (.Attribute o name apos) [] [] cpos) (tE R W (fM p f fun _ st => .ok [] st)) := by
  refine PE.imp (pe_bm0 pa slot hty hm ho hbase hline) fun σ H Q ⟨hd, m, env, st, s, er, q⟩ => ?_
  refine seqE s er q fun d st1 m1 H1 v x1 s1 er1 r1 p1 => ?_
  split at p1
  · rename_i hr
    refine ⟨?_, ?_⟩
    · rw [← hx]
      exact ty hd m1 st1 H1 d v s1 r1 hr
    · obtain ⟨x, xs, e1, z⟩ := sm _ m1 st1 H1 [d] [v] Q s1 (.cons r1 .nil) p1.liftP
      cases e1
      exact z
  · exact p1.elim
/-- o.m(e, ..) -/
theorem pe_mtA {T id : String} {name : Str} {o e : Expr} {es : List Expr} {apos cpos : Pos} {r : V → List V → Hp → VK → Prop} {f : Env → Sto → Res D} {g : Env → Sto → Res (List D)} (hx : R.K = X.K) (ty : ∀ hd, TyOK (R.w hd) T p) (sm : ∀ hd, Sim (R.w hd) p (lm r)) (pa : PlainAttrs T) (slot : Slot T name id)
    (hty : typeOf (.builtin id) = pure (.type "method_descriptor")) (hm : MtR X id r) (ho : PE X o (tE R W f)) (ha : PA X (e :: es) (tA R W g)) (hbase : attributeBase o name X.env (eval o X.env) = eval o X.env)
    (hfew : ((backTo cpos (starEach (e :: es) X.env)).all (fun x => !x.1) && (backToKw cpos (keywordEach [] X.env)).all (fun x => x.1.isSome) && decide ((e :: es).length + ([] : List Keyword).length + (if ([] : List Keyword).isEmpty then 0 else 1) < 30)) = true)
    (hline : (apos.endLine == cpos.line) = true) (hs : starEach (e :: es) X.env = (false, eval e X.env) :: starEach es X.env) (hplain : (backTo cpos (starEach es X.env)).any (·.1) = false) :
    PE X (.Call (.Attribute o name apos) (e :: es) [] cpos) (tE R W (fM p f g)) := by
  refine PE.imp (pe_bm pa slot hty hm ho ha hbase hfew hline hs hplain) fun σ H Q ⟨hd, m, env, st, s, er, q⟩ => ?_
  refine seqE s er q fun d st1 m1 H1 v x1 s1 er1 r1 p1 => ?_
  split at p1
  · rename_i hr
    refine ⟨?_, ?_⟩
    · rw [← hx]
      exact ty hd m1 st1 H1 d v s1 r1 hr
    · refine aseqE s1 er1 p1 fun ds st2 m2 H2 vs x2 s2 er2 r2 p2 => ?_
      obtain ⟨x, xs, e1, z⟩ := sm _ m2 st2 H2 (d :: ds) (v :: vs) Q s2 (.cons (Rep.mono x2 _ _ r1) r2) p2.liftP
      cases e1
      exact z
  · exact p1.elim
/-- the truth of a value, by the value -/
theorem tru_of {m : List Addr} {st : Sto} {H : Hp} {d : D} {v : V} {b : Bool} (s : SR R m st H) (r : Rep R m st H d v) (h : truD st d = some b) : TruV R.K v H b := by
  have li : ∀ (xs : List D), listOf st d = some xs → b = !xs.isEmpty → TruV R.K v H b := fun xs e hb => by
    obtain ⟨a, vs, rfl, ha, ra⟩ := listOf_at s r e
    refine .inl ⟨vs, ha, ?_⟩
    subst hb
    cases ra <;> rfl
  cases r with
  | non =>
    cases h
    rfl
  | bl x =>
    cases h
    rfl
  | int i =>
    cases h
    rfl
  | str x =>
    simp only [truD] at h
    split at h
    · rename_i hl
      cases h
      refine ⟨by rw [len_str]; exact hl, ?_⟩
      rw [len_str]
      cases x <;> rfl
    · cases h
  | @tup a vs xs h1 h2 =>
    cases h
    refine .inr (.inl ⟨vs, h1.sq, ?_⟩)
    cases h2 <;> rfl
  | @lst a vs xs h1 h2 h3 =>
    cases h
    exact li xs rfl rfl
  | @ro a vs xs h1 h3 =>
    cases h
    exact li xs rfl rfl
  | @ref a n h1 =>
    simp only [truD] at h
    obtain ⟨xs, e, rfl⟩ := map_some h
    exact li xs e rfl
  | fn => cases h
theorem pt_tru {e : Expr} {f : Env → Sto → Res D} (hx : R.K = X.K) (h : PE X e (tE R W f)) (he : ∀ whole, isTrue e X.env whole = (do let v ← whole; standAt e.pos; holding [v] (truthy v))) : PT X e (tT R W fun env st => (f env st).bnd truR) := by
  refine PT.imp (pt_truth h he) fun σ H Q ⟨hd, m, env, st, s, er, q⟩ => ?_
  refine seqT s er q fun d st1 m1 H1 v x1 s1 er1 r1 p1 => ?_
  unfold truR at p1
  split at p1
  · rename_i b e1
    refine ⟨b, ?_, p1 m1 H1 Ext.refl s1⟩
    rw [← hx]
    exact tru_of (R := R.w hd) s1 r1 e1
  · exact p1.elim
/-! a < b < c -/
def fC (p q : Pr) (f g h : Env → Sto → Res D) : Env → Sto → Res D := fun env st => (f env st).bnd fun x st => (g env st).bnd fun y st => (liftP (prim p [x, y] st)).bnd fun d st => match d with
    | .bl true => (h env st).bnd fun z st => liftP (prim q [y, z] st)
    | .bl false => .ok (.bl false) st
    | _ => .bad
theorem pe_chainM {p q : Pr} {op op' : CmpOp} {r r' : R2} {a b c : Expr} {pos : Pos} {f g h : Env → Sto → Res D} (sm : ∀ hd, Sim (R.w hd) p (l2 r)) (sm' : ∀ hd, Sim (R.w hd) q (l2 r')) (ho : OpR X (compareOp op) r) (ho' : OpR X (compareOp op') r')
    (ha : PE X a (tE R W f)) (hb : PE X b (tE R W g)) (hc : PE X c (tE R W h)) (hm : lastMarks [op, op'] [b, c] = false) : PE X (.Compare a [op, op'] [b, c] pos) (tE R W (fC p q f g h)) := by
  refine PE.imp (pe_chain ho ho' ha hb hc hm) fun σ H Q ⟨hd, m, env, st, s, er, pp⟩ => ?_
  refine seqE s er pp fun d st1 m1 H1 v x1 s1 er1 r1 p1 => ?_
  refine seqE s1 er1 p1 fun e st2 m2 H2 w x2 s2 er2 r2 p2 => ?_
  obtain ⟨x, y, e1, z⟩ := seqPE (C := fun z H3 => ∃ k, z = .bl k ∧ (if k = true then tE R W h σ H3 fun w' H4 => r' w w' H4 Q else Q (.bl false) H3)) (sm hd) s2 (.cons (Rep.mono x2 _ _ r1) (.cons r2 .nil)) p2 fun k st3 m3 H3 u x3 s3 r3 p3 => by
    split at p3
    · cases r3
      refine ⟨true, rfl, ?_⟩
      refine seqE s3 (er2.mono x3) p3 fun e4 st4 m4 H4 w4 x4 s4 er4 r4 p4 => ?_
      obtain ⟨x, y, e1, z⟩ := sm' _ m4 st4 H4 [e, e4] [w, w4] Q s4 (.cons (Rep.mono x4 _ _ (Rep.mono x3 _ _ r2)) (.cons r4 .nil)) p4.liftP
      cases e1
      exact z
    · cases r3
      exact ⟨false, rfl, Post.here s3 p3 (.bl false)⟩
    · exact p3.elim
  cases e1
  exact z
def fCT (p q : Pr) (f g h : Env → Sto → Res D) : Env → Sto → Res Bool := fun env st => (f env st).bnd fun x st => (g env st).bnd fun y st => (liftP (prim p [x, y] st)).bnd fun d st => match d with
    | .bl true => (h env st).bnd fun z st => (liftP (prim q [y, z] st)).bnd fun d st => match d with
      | .bl r => .ok r st
      | _ => .bad
    | .bl false => .ok false st
    | _ => .bad
theorem pt_chainM {p q : Pr} {op op' : CmpOp} {r r' : R2} {a b c : Expr} {pos : Pos} {f g h : Env → Sto → Res D} (sm : ∀ hd, Sim (R.w hd) p (l2 r)) (sm' : ∀ hd, Sim (R.w hd) q (l2 r')) (ho : OpR X (compareOp op) r) (ho' : OpR X (compareOp op') r')
    (ha : PE X a (tE R W f)) (hb : PE X b (tE R W g)) (hc : PE X c (tE R W h)) (hm : lastMarks [op, op'] [b, c] = false) : PT X (.Compare a [op, op'] [b, c] pos) (tT R W (fCT p q f g h)) := by
  refine PT.imp (pt_chain ho ho' ha hb hc hm) fun σ H Q ⟨hd, m, env, st, s, er, pp⟩ => ?_
  refine seqT s er pp fun d st1 m1 H1 v x1 s1 er1 r1 p1 => ?_
  refine seqT s1 er1 p1 fun e st2 m2 H2 w x2 s2 er2 r2 p2 => ?_
  obtain ⟨x, y, e1, z⟩ := seqP (C := fun z H3 => ∃ k, z = .bl k ∧ (if k = true then tE R W h σ H3 fun w' H4 => r' w w' H4 (fun x H' => ∃ k, x = .bl k ∧ Q k H') else (∃ k, V.bl false = .bl k ∧ Q k H3))) (sm hd) s2 (.cons (Rep.mono x2 _ _ r1) (.cons r2 .nil)) p2 fun k st3 m3 H3 u x3 s3 r3 p3 => by
    split at p3
    · cases r3
      refine ⟨true, rfl, ?_⟩
      refine seqT s3 (er2.mono x3) p3 fun e4 st4 m4 H4 w4 x4 s4 er4 r4 p4 => ?_
      obtain ⟨x, y, e1, z⟩ := seqP (C := fun x H' => ∃ k, x = .bl k ∧ Q k H') (sm' hd) s4 (.cons (Rep.mono x4 _ _ (Rep.mono x3 _ _ r2)) (.cons r4 .nil)) p4 fun k5 st5 m5 H5 u5 x5 s5 r5 p5 => by
        split at p5
        · cases r5
          exact ⟨_, rfl, p5 m5 H5 Ext.refl s5⟩
        · exact p5.elim
      cases e1
      exact z
    · cases r3
      exact ⟨false, rfl, false, rfl, p3 m3 H3 Ext.refl s3⟩
    · exact p3.elim
  cases e1
  exact z
end
end Mini
end
section
set_option linter.all false
set_option autoImplicit false
set_option maxRecDepth 100000
set_option maxHeartbeats 1000000
/-! Calls; what is walked; comprehensions. -/
namespace Mini
open PySem PySem.Spec PyProof.Rows L2
/-- a def keeps its promise wherever there is room and no repr runs -/
structure FnG (P : Program) (w : World) (K : PySem.W.Frag) (mg : Str → Option Value) (base : Heap) (k : Nat) (f : Addr) (fd : FuncData) (ps : List Str) (sp : Sp) : Prop where
  len : ∀ vs H Q E, sp vs H Q E → vs.length = ps.length
  run : ∀ (A : Around) (outer : List PySem.Env) (s : Shared) (H : Hp) (args : Args) (us : List Value) (vs : List V) (Q : VK) (E : XK), Room k A → A.guards = some [] → Env0 P w K mg base A outer s H → BindsTo s fd args (ps.zip us) →
    Vals vs us → sp vs H Q E → codeAny (model P w) A (.call (.ref f) args) (CR (L2.CX P w) outer P w H s Q E) s
theorem FnG.mono {P : Program} {w : World} {K : PySem.W.Frag} {mg : Str → Option Value} {base : Heap} {j k : Nat} {f : Addr} {fd : FuncData} {ps : List Str} {sp : Sp} (F : FnG P w K mg base j f fd ps sp) (h : j ≤ k) : FnG P w K mg base k f fd ps sp :=
  ⟨F.len, fun A outer s H args us vs Q E hr => F.run A outer s H args us vs Q E (hr.mono h)⟩
section
variable {X : Cx} {R : RC} {W : WX} {k : Nat} {f : Addr} {fd : FuncData} {ps : List Str} {sp : Sp}
theorem run_G {pins : List (Addr × Obj)} {σ : L2.St} {H : Hp} {s : Shared} {Q : VK} {us : List Value} {vs : List V} (F : FnG X.prog X.w X.K X.mg X.base k f fd ps sp) (hr : Room k X.A) (hg : X.A.guards = some []) (hb : Binds X.K fd ps []) (tk : Takes X W)
    (I : Inv X pins σ H s) (r : Vals vs us) (h : sp vs H Q (fun c dd H' => W c dd σ H')) : wpAny (model X.prog X.w) X.A (PySem.call (.ref f) us) (EP X pins σ Q) X.xe s := by
  have b := hb s us I.kIn (by
    rw [List.append_nil, ← r.length]
    exact F.len _ _ _ _ h)
  rw [List.append_nil] at b
  refine wpAny_call (codeAny_mono (F.run X.A X.stack s H ⟨us, []⟩ us vs Q _ hr hg I.env0 b r h) ?_)
  intro res s' hq
  cases res with
  | ok fl =>
    cases fl with
    | ret u => exact I.after hq
    | next => exact hq.elim
    | brk => exact hq.elim
    | cont => exact hq.elim
  | error e => exact tk _ _ (XE.of_call I (fun _ _ _ z => z) hq)
/-- f(e, ..) -/
theorem pe_callM {x : Str} {p pos : Pos} {e : Expr} {es : List Expr} {g : Env → Sto → Res (List D)} {cl : List D → Sto → Res D} (F : FnG X.prog X.w X.K X.mg X.base k f fd ps sp) (hr : Room k X.A) (hgd : X.A.guards = some []) (hb : Binds X.K fd ps []) (tk : Takes X W)
    (hsp : ∀ hd m st H ds vs Q E, SR (R.w hd) m st H → Reps (R.w hd) m st H ds vs → Post (R.w hd) m st H (cl ds st) Q E → sp vs H Q E)
    (hg : Gl X x) (hm : X.mg x = some (.ref f)) (hk : PySem.W.keepIn X.K (.ref f) = true) (ha : PA X (e :: es) (tA R W g)) (hdb : (x == ("__debug__" : Str)) = false)
    (he : starEach (e :: es) X.env = (false, eval e X.env) :: starEach es X.env) (hpl : (backTo pos (starEach es X.env)).any (·.1) = false) :
    PE X (.Call (.Name x p) (e :: es) [] pos) (tE R W fun env st => (g env st).bnd fun ds st => cl ds st) := by
  refine ⟨fun pins s σ H Q I ⟨hd, m, env, st, sr, er, q⟩ => wpAny_Call_Name_kw (ld_glob I hg hm ?_ hdb)⟩
  refine PySem.W.callWith_K (h₀ := X.base) I.ok.mod.kin hk (thn (ha.run pos pins s σ H (fun vs H1 => sp vs H1 Q (fun c dd H' => W c dd σ H')) I ?_) fun us s1 ⟨vs, H1, I1, r, q1⟩ => ⟨I1.kIn, run_G F hr hgd hb tk I1 r q1⟩) he hpl
  exact aseqE sr er q fun ds st1 m1 H1 vs x1 s1 er1 r1 p1 => hsp hd m1 st1 H1 ds vs Q _ s1 r1 p1
/-- f() -/
theorem pe_callM0 {x : Str} {p pos : Pos} {cl : List D → Sto → Res D} (F : FnG X.prog X.w X.K X.mg X.base k f fd ps sp) (hr : Room k X.A) (hgd : X.A.guards = some []) (hb : Binds X.K fd ps []) (tk : Takes X W)
    (hsp : ∀ hd m st H ds vs Q E, SR (R.w hd) m st H → Reps (R.w hd) m st H ds vs → Post (R.w hd) m st H (cl ds st) Q E → sp vs H Q E)
    (hg : Gl X x) (hm : X.mg x = some (.ref f)) (hk : PySem.W.keepIn X.K (.ref f) = true) (hdb : (x == ("__debug__" : Str)) = false) :
    PE X (.Call (.Name x p) [] [] pos) (tE R W fun env st => (Res.ok [] st).bnd fun ds st => cl ds st) := by
  refine ⟨fun pins s σ H Q I ⟨hd, m, env, st, sr, er, q⟩ => wpAny_Call_Name_kw (ld_glob I hg hm ?_ hdb)⟩
  exact PySem.W.callWith_K0 I.kIn hk (run_G (us := []) (vs := []) F hr hgd hb tk I .nil (hsp hd m st H [] [] Q _ sr .nil q))
/-- what a def of the program is, by its place -/
def FnAt (X : Cx) (R : RC) (k : Nat) (cl : Call) (i : Nat) : Prop := ∃ (f : Addr) (fd : FuncData) (ps : List Str) (sp : Sp), R.fa i = some f ∧ PySem.W.keepIn X.K (.ref f) = true ∧ Binds X.K fd ps [] ∧ FnG X.prog X.w X.K X.mg X.base k f fd ps sp ∧
  ∀ hd m st H ds vs Q E, SR (R.w hd) m st H → Reps (R.w hd) m st H ds vs → Post (R.w hd) m st H (cl i ds st) Q E → sp vs H Q E
/-- g(e, ..), g an expression that gives a def -/
theorem pe_callvM {fe e : Expr} {es : List Expr} {pos : Pos} {f : Env → Sto → Res D} {g : Env → Sto → Res (List D)} {cl : Call} (hf : PE X fe (tE R W f)) (hr : Room k X.A) (hgd : X.A.guards = some []) (tk : Takes X W) (hfn : ∀ i a, R.fa i = some a → FnAt X R k cl i)
    (ha : PA X (e :: es) (tA R W g)) (he : starEach (e :: es) X.env = (false, eval e X.env) :: starEach es X.env) (hpl : (backTo pos (starEach es X.env)).any (·.1) = false)
    (hc : eval (.Call fe (e :: es) [] pos) X.env = (do callWith pos (← eval fe X.env) [] (backTo pos (starEach (e :: es) X.env)) (backToKw pos (keywordEach [] X.env)))) :
    PE X (.Call fe (e :: es) [] pos) (tE R W fun env st => (f env st).bnd fun d st => match d with
      | .fn i => (g env st).bnd fun ds st => cl i ds st
      | _ => .bad) := by
  refine ⟨fun pins s σ H Q I ⟨hd, m, env, st, sr, er, q⟩ => ?_⟩
  let C : VK := fun v H1 => ∃ i a m1 st1, v = .ref a ∧ R.fa i = some a ∧ SR (R.w hd) m1 st1 H1 ∧ ER (R.w hd) m1 st1 H1 σ env ∧ Post (R.w hd) m1 st1 H1 ((g env st1).bnd fun ds st => cl i ds st) Q (fun c dd H' => W c dd σ H')
  have h0 : tE R W f σ H C := seqE sr er q fun d st1 m1 H1 v x1 s1 er1 r1 p1 => by
    cases r1 <;> first | exact p1.elim | skip
    rename_i a i hi
    exact ⟨i, a, m1, st1, rfl, hi, s1, er1, p1⟩
  rw [hc]
  refine wpAny_bind (thn (hf.run pins s σ H C I h0) fun u s1 ⟨v, H1, I1, rv, i, a, m1, st1, ev, hi, sr1, er1, p1⟩ => ?_)
  subst ev
  cases rv
  obtain ⟨f', fd, ps, sp, h1, h2, h3, h4, h5⟩ := hfn i a hi
  rw [hi] at h1
  cases h1
  refine PySem.W.callWith_K (h₀ := X.base) I.ok.mod.kin h2 (thn (ha.run pos pins s1 σ H1 (fun vs H2 => sp vs H2 Q (fun c dd H' => W c dd σ H')) I1 ?_) fun us s2 ⟨vs, H2, I2, r, q2⟩ => ⟨I2.kIn, run_G h4 hr hgd h3 tk I2 r q2⟩) he hpl
  exact aseqE sr1 er1 p1 fun ds st2 m2 H2 vs x2 s2 er2 r2 p2 => h5 hd m2 st2 H2 ds vs Q _ s2 r2 p2
end

/-! ### what is walked -/
def Walks (R : RC) (J : L2.It) (ds : List D) (g : List (Nat × List D)) (m : List Addr) (st : Sto) (H : Hp) : Prop :=
  ∀ hd2 m2 st2 H2, HidOk R.hid hd2 H → Ext m st H m2 st2 H2 → SR (R.w hd2) m2 st2 H2 → srcOK g st2 →
    (∀ i, i < ds.length → J.go i H2) ∧ J.stop ds.length H2 ∧ ∀ i x H3, i < ds.length → J.yld i H2 x H3 → ∃ d, ds[i]? = some d ∧ Ext m2 st2 H2 m2 st2 H3 ∧ SR (R.w hd2) m2 st2 H3 ∧ Rep (R.w hd2) m2 st2 H3 d x
def tI (R : RC) (W : WX) (f : Env → Sto → Res (List D × List (Nat × List D))) : TI := fun σ H Rk => ∃ hd m env st, SR (R.w hd) m st H ∧ ER (R.w hd) m st H σ env ∧ match f env st with
  | .ok ig st' => ∀ m' H' J, Ext m st H m' st' H' → SR (R.w hd) m' st' H' → Walks (R.w hd) J ig.1 ig.2 m' st' H' → Rk J H'
  | .exc x st' => ∀ m' H' c dd, Ext m st H m' st' H' → SR (R.w hd) m' st' H' → XRep (R.w hd) m' st' H' x c dd → W c dd σ H'
  | .bad => False
section
variable {X : Cx} {R : RC} {W : WX}
theorem PI.imp {tg e : Expr} {t t' : TI} (h : PI X tg e t) (i : ∀ σ H Q, t' σ H Q → t σ H Q) : PI X tg e t' := ⟨fun pins s σ H Q I q => h.run pins s σ H Q I (i σ H Q q)⟩
/-- a list by its items, at each turn -/
theorem list_stands {m : List Addr} {st : Sto} {H : Hp} {d : D} {v : V} {xs : List D} (r : Rep R m st H d v) (h : listOf st d = some xs) :
    ∃ a, v = .ref a ∧ ∀ hd2 m2 st2 H2, HidOk R.hid hd2 H → Ext m st H m2 st2 H2 → SR (R.w hd2) m2 st2 H2 → srcOK (srcOf st d) st2 → ∃ vs, SqL R.K H2 a vs ∧ Reps (R.w hd2) m2 st2 H2 xs vs := by
  cases r with
  | @lst a vs ys h1 h2 h3 =>
    simp only [listOf, Option.some.injEq] at h
    subst h
    exact ⟨a, rfl, fun hd2 m2 st2 H2 c x s _ => ⟨vs, SqL.of (x.keep _ _ h1 h2.1), Reps.monoH c x _ _ h3⟩⟩
  | @ro a vs ys h1 h3 =>
    simp only [listOf, Option.some.injEq] at h
    subst h
    refine ⟨a, rfl, fun hd2 m2 st2 H2 c x s _ => ⟨vs, ?_, Reps.monoH c x _ _ h3⟩⟩
    rcases h1 with ⟨h1, l⟩ | h1
    · exact .inl (x.rd h1 l).1
    · exact .inr h1
  | @ref a n h1 =>
    simp only [listOf] at h
    split at h
    · rename_i ys e
      simp only [Option.some.injEq] at h
      subst h
      refine ⟨a, rfl, fun hd2 m2 st2 H2 c x s g => ?_⟩
      have e2 : st2[n]? = some (.lst ys) := g (n, ys) (by
        unfold srcOf
        simp [e])
      obtain ⟨vs, h2, h3⟩ := s.obj n a ys (pre_get x.pre h1) e2
      exact ⟨vs, SqL.of h2, h3⟩
    · cases h
  | non => simp [listOf] at h
  | bl => simp [listOf] at h
  | int => simp [listOf] at h
  | str => simp [listOf] at h
  | tup => simp [listOf] at h
  | fn => simp [listOf] at h
theorem reps_at {m : List Addr} {st : Sto} {H : Hp} {ds : List D} {vs : List V} (r : Reps R m st H ds vs) {i : Nat} (hi : i < ds.length) : ∃ d v, ds[i]? = some d ∧ vs[i]? = some v ∧ Rep R m st H d v := by
  have e : ds[i]? = some ds[i] := List.getElem?_eq_getElem hi
  obtain ⟨v, h1, h2⟩ := r.get e
  exact ⟨_, v, e, h1, h2⟩
theorem walks_list {m : List Addr} {st : Sto} {H : Hp} {d : D} {v : V} {xs : List D} (r : Rep R m st H d v) (h : listOf st d = some xs) : ∃ a, v = .ref a ∧ (SR R m st H → ∃ vs, SqL R.K H a vs) ∧ Walks R (Itl R.K a) xs (srcOf st d) m st H := by
  obtain ⟨a, rfl, st1⟩ := list_stands r h
  refine ⟨a, rfl, fun s => ?_, fun hd2 m2 st2 H2 c x s g => ?_⟩
  · obtain ⟨b, vs, e, h1, _⟩ := listOf_at s r h
    cases e
    exact ⟨vs, h1⟩
  · obtain ⟨vs, h1, h2⟩ := st1 hd2 m2 st2 H2 c x s g
    refine ⟨fun i hi => ?_, ⟨vs, h1, by rw [h2.length]; exact Nat.le_refl _⟩, fun i y H3 hi hy => ?_⟩
    · obtain ⟨d, v, e1, e2, _⟩ := reps_at h2 hi
      exact ⟨vs, v, h1, e2⟩
    · obtain ⟨d, v, e1, e2, e3⟩ := reps_at h2 hi
      obtain ⟨rfl, hy⟩ := hy
      have e4 := hy vs h1
      rw [e2] at e4
      cases e4
      exact ⟨d, e1, Ext.refl, s, e3⟩
theorem pi_seqM {tg e : Expr} {f : Env → Sto → Res D} (hx : R.K = X.K) (h : PE X e (tE R W f)) : PI X tg e (tI R W fun env st => (f env st).bnd fun d st => match itemsOf st d with
    | some ds => .ok (ds, srcOf st d) st
    | none => .bad) := by
  refine ⟨fun pins s σ H Rk I ⟨hd, m, env, st, sr, er, p⟩ => ?_⟩
  dsimp only at p
  cases e1 : f env st with
  | bad =>
    rw [e1] at p
    exact p.elim
  | exc x st1 =>
    rw [e1] at p
    refine (pi_list (X := X) (tg := tg) h).run pins s σ H Rk I ⟨hd, m, env, st, sr, er, ?_⟩
    rw [e1]
    exact p
  | ok d st1 =>
    rw [e1, bnd_ok] at p
    have li : ∀ xs, listOf st1 d = some xs → itemsOf st1 d = some xs → wpAny (model X.prog X.w) X.A (eval e X.env) (fun v s1 => wpAny (model X.prog X.w) X.A (pyIter v) (PIE X pins σ tg Rk) X.xe s1) X.xe s := fun xs e2 e3 => by
      rw [e3] at p
      refine (pi_list (X := X) (tg := tg) h).run pins s σ H Rk I ⟨hd, m, env, st, sr, er, ?_⟩
      rw [e1]
      intro m1 H1 v x1 s1 r1
      obtain ⟨a, rfl, h1, h2⟩ := walks_list r1 e2
      rw [← hx]
      exact ⟨a, rfl, h1 s1, p m1 H1 _ x1 s1 h2⟩
    cases d with
    | non => exact p.elim
    | bl b => exact p.elim
    | int i => exact p.elim
    | fn i => exact p.elim
    | lst xs => exact li xs rfl rfl
    | ro xs => exact li xs rfl rfl
    | ref n =>
      cases e2 : listOf st1 (.ref n) with
      | none =>
        have e3 : itemsOf st1 (.ref n) = none := e2
        rw [e3] at p
        exact p.elim
      | some xs => exact li xs e2 e2
    | tup xs =>
      refine (pi_tup (X := X) (tg := tg) h).run pins s σ H Rk I ⟨hd, m, env, st, sr, er, ?_⟩
      rw [e1]
      intro m1 H1 v x1 s1 r1
      obtain ⟨a, vs, rfl, ha, ra⟩ := r1.inj_tup
      rw [← hx]
      refine ⟨a, rfl, ⟨vs, ha.sq⟩, p m1 H1 _ x1 s1 fun hd2 m2 st2 H2 c x s g => ?_⟩
      have ha2 : SqT R.K H2 a vs := by
        rcases ha with ⟨h1, l⟩ | h1
        · exact .inl (x.rd h1 l).1
        · exact .inr h1
      have h2 := Reps.monoH c x _ _ ra
      refine ⟨fun i hi => ?_, ⟨vs, ha2, by rw [h2.length]; exact Nat.le_refl _⟩, fun i y H3 hi hy => ?_⟩
      · obtain ⟨d, v, e1, e2, _⟩ := reps_at h2 hi
        exact ⟨vs, v, ha2, e2⟩
      · obtain ⟨d, v, e1, e2, e3⟩ := reps_at h2 hi
        obtain ⟨rfl, hy⟩ := hy
        have e4 := hy vs ha2
        rw [e2] at e4
        cases e4
        exact ⟨d, e1, Ext.refl, s, e3⟩
    | str z =>
      refine (pi_str (X := X) (tg := tg) h).run pins s σ H Rk I ⟨hd, m, env, st, sr, er, ?_⟩
      rw [e1]
      intro m1 H1 v x1 s1 r1
      obtain rfl := r1.inj_str
      refine ⟨_, rfl, p m1 H1 _ x1 s1 fun hd2 m2 st2 H2 c x s g => ?_⟩
      have hl : (z.map fun c => D.str [c]).length = z.length := List.length_map _
      refine ⟨fun i hi => ?_, ?_, fun i y H3 hi hy => ?_⟩
      · show i < z.toArray.size
        rw [hl] at hi
        simpa using hi
      · show z.toArray.size ≤ _
        rw [hl]
        simp
      · obtain ⟨rfl, c, h1, rfl⟩ := hy
        rw [hl] at hi
        have h1 : z[i]? = some c := by simpa using h1
        exact ⟨.str [c], by rw [List.getElem?_map, h1]; rfl, Ext.refl, s, .str [c]⟩
end
end Mini
end
section
set_option linter.all false
set_option autoImplicit false
set_option maxRecDepth 100000
set_option maxHeartbeats 1000000
/-! Ranges, enumerate, zip; targets; comprehensions. -/
namespace Mini
open PySem PySem.Spec PyProof.Rows L2
def fR (n : Nat) (g : Env → Sto → Res (List D)) : Env → Sto → Res (List D × List (Nat × List D)) := fun env st => (g env st).bnd fun ds st => match rngD n ds with
  | some ds => .ok (ds, []) st
  | none => .bad
section
variable {X : Cx} {R : RC} {W : WX}
theorem rangeL_length (lo c : Int) (n : Nat) : (rangeL lo c n).length = n := by simp [rangeL]
theorem rangeL_get (lo c : Int) (n i : Nat) (h : i < n) : (rangeL lo c n)[i]? = some (.int (lo + (i : Nat) * c)) := by
  unfold rangeL
  rw [List.getElem?_map, List.getElem?_range h]
  rfl
theorem walks_range {m : List Addr} {st : Sto} {H : Hp} (lo : Int) (n : Nat) : Walks R (Itr lo n) (rangeL lo 1 n) [] m st H := fun hd2 m2 st2 H2 c x s g => by
  rw [rangeL_length]
  refine ⟨fun i hi => hi, Nat.le_refl _, fun i y H3 hi hy => ?_⟩
  obtain ⟨rfl, rfl⟩ := hy
  exact ⟨_, rangeL_get lo 1 n i hi, Ext.refl, s, by
    rw [Int.mul_one]
    exact .int _⟩
theorem walks_rangeC {m : List Addr} {st : Sto} {H : Hp} (lo c : Int) (n : Nat) : Walks R (Itc lo c n) (rangeL lo c n) [] m st H := fun hd2 m2 st2 H2 hc x s g => by
  rw [rangeL_length]
  refine ⟨fun i hi => hi, Nat.le_refl _, fun i y H3 hi hy => ?_⟩
  obtain ⟨rfl, rfl⟩ := hy
  exact ⟨_, rangeL_get lo c n i hi, Ext.refl, s, .int _⟩
/-- behind an argument list: what is walked -/
theorem aseqI {g : Env → Sto → Res (List D)} {k : List D → Sto → Res (List D × List (Nat × List D))} {C : List V → Hp → Prop} {Rk : L2.It → Hp → Prop} {σ : L2.St} {H : Hp}
    (h : tI R W (fun env st => (g env st).bnd k) σ H Rk)
    (hk : ∀ hd ds st1 m1 H1 vs ig st2, SR (R.w hd) m1 st1 H1 → Reps (R.w hd) m1 st1 H1 ds vs → k ds st1 = .ok ig st2 → st2 = st1 → (∀ J, Walks (R.w hd) J ig.1 ig.2 m1 st1 H1 → Rk J H1) → C vs H1)
    (hb : ∀ ds st1, k ds st1 = .bad ∨ ∃ ig, k ds st1 = .ok ig st1) : tA R W g σ H C := by
  obtain ⟨hd, m, env, st, s, er, p⟩ := h
  refine ⟨hd, m, env, st, s, er, ?_⟩
  dsimp only at p
  cases e : g env st with
  | bad =>
    rw [e] at p
    exact p.elim
  | exc x st1 =>
    rw [e] at p
    exact p
  | ok ds st1 =>
    rw [e, bnd_ok] at p
    intro m1 H1 vs x1 s1 r1
    rcases hb ds st1 with z | ⟨ig, z⟩
    · rw [z] at p
      exact p.elim
    · rw [z] at p
      exact hk hd ds st1 m1 H1 vs ig st1 s1 r1 z rfl fun J w => p m1 H1 J x1 s1 w
theorem inR_of {i : Int} (h : inR62 i = true) : -(2 ^ 62) ≤ i ∧ i < 2 ^ 62 := by
  unfold inR62 at h
  simpa using h
theorem rng_ok (n : Nat) (ds : List D) (st1 : Sto) : (match rngD n ds with
  | some ds => Res.ok (ds, ([] : List (Nat × List D))) st1
  | none => .bad) = .bad ∨ ∃ ig, (match rngD n ds with
  | some ds => Res.ok (ds, ([] : List (Nat × List D))) st1
  | none => .bad) = .ok ig st1 := by
  cases rngD n ds with
  | none => exact .inl rfl
  | some x => exact .inr ⟨_, rfl⟩
theorem rng_some {n : Nat} {ds : List D} {st1 st2 : Sto} {ig : List D × List (Nat × List D)} (e : (match rngD n ds with
  | some ds => Res.ok (ds, ([] : List (Nat × List D))) st1
  | none => .bad) = .ok ig st2) : rngD n ds = some ig.1 ∧ ig.2 = [] := by
  cases q : rngD n ds with
  | none =>
    rw [q] at e
    cases e
  | some x =>
    rw [q] at e
    cases e
    exact ⟨rfl, rfl⟩
theorem pi_r1 {tg a : Expr} {p pos : Pos} {g : Env → Sto → Res (List D)} (hg : Gl X "range") (hm : X.mg "range" = none) (ha : PA X [a] (tA R W g)) (hs : starEach [a] X.env = [(false, eval a X.env)]) :
    PI X tg (.Call (.Name "range" p) [a] [] pos) (tI R W (fR 1 g)) := by
  refine PI.imp (pi_range1 hg hm ha hs) fun σ H Rk h => ?_
  refine aseqI h (fun hd ds st1 m1 H1 vs ig st2 s1 r1 e z w => ?_) (rng_ok 1)
  obtain ⟨ys, gs⟩ := ig
  obtain ⟨e1, e2⟩ := rng_some e
  dsimp only at e1 e2 w
  subst e2
  rcases ds with _ | ⟨d, _ | ⟨d2, l⟩⟩
  · cases e1
  · obtain ⟨v, rfl, rv⟩ := r1.one
    cases d <;> first | (cases e1; done) | skip
    rename_i j
    simp only [rngD] at e1
    split at e1
    · rename_i hj
      cases e1
      obtain ⟨h1, h2⟩ := inR_of hj
      obtain rfl := rv.inj_int
      exact ⟨j, rfl, h1, h2, w _ (walks_range 0 _)⟩
    · cases e1
  · cases d <;> cases e1
theorem pi_r2 {tg a b : Expr} {p pos : Pos} {g : Env → Sto → Res (List D)} (hg : Gl X "range") (hm : X.mg "range" = none) (ha : PA X [a, b] (tA R W g)) (hs : starEach [a, b] X.env = [(false, eval a X.env), (false, eval b X.env)])
    (hs2 : starEach [b] X.env = [(false, eval b X.env)]) : PI X tg (.Call (.Name "range" p) [a, b] [] pos) (tI R W (fR 2 g)) := by
  refine PI.imp (pi_range2 hg hm ha hs hs2) fun σ H Rk h => ?_
  refine aseqI h (fun hd ds st1 m1 H1 vs ig st2 s1 r1 e z w => ?_) (rng_ok 2)
  obtain ⟨ys, gs⟩ := ig
  obtain ⟨e1, e2⟩ := rng_some e
  dsimp only at e1 e2 w
  subst e2
  rcases ds with _ | ⟨d, _ | ⟨d2, _ | ⟨d3, l⟩⟩⟩
  · cases e1
  · cases d <;> cases e1
  · obtain ⟨v, v2, rfl, rv, rv2⟩ := r1.two
    cases d <;> first | (cases e1; done) | skip
    cases d2 <;> first | (cases e1; done) | skip
    rename_i i j
    simp only [rngD] at e1
    split at e1
    · rename_i hj
      cases e1
      rw [Bool.and_eq_true] at hj
      obtain ⟨h1, h2⟩ := inR_of hj.1
      obtain ⟨h3, h4⟩ := inR_of hj.2
      obtain rfl := rv.inj_int
      obtain rfl := rv2.inj_int
      exact ⟨i, j, rfl, ⟨h1, h2, h3, h4⟩, w _ (walks_range i _)⟩
    · cases e1
  · cases d <;> first | (cases e1; done) | (cases d2 <;> cases e1)
theorem pi_r3 {tg a b c : Expr} {p pos : Pos} {g : Env → Sto → Res (List D)} (hg : Gl X "range") (hm : X.mg "range" = none) (ha : PA X [a, b, c] (tA R W g)) (hs : starEach [a, b, c] X.env = (false, eval a X.env) :: starEach [b, c] X.env)
    (hpl : (backTo pos (starEach [b, c] X.env)).any (·.1) = false) : PI X tg (.Call (.Name "range" p) [a, b, c] [] pos) (tI R W (fR 3 g)) := by
  refine PI.imp (pi_range3 hg hm ha hs hpl) fun σ H Rk h => ?_
  refine aseqI h (fun hd ds st1 m1 H1 vs ig st2 s1 r1 e z w => ?_) (rng_ok 3)
  obtain ⟨ys, gs⟩ := ig
  obtain ⟨e1, e2⟩ := rng_some e
  dsimp only at e1 e2 w
  subst e2
  rcases ds with _ | ⟨d, _ | ⟨d2, _ | ⟨d3, _ | ⟨d4, l⟩⟩⟩⟩
  · cases e1
  · cases d <;> cases e1
  · cases d <;> first | (cases e1; done) | (cases d2 <;> cases e1)
  · obtain ⟨v, v2, v3, rfl, rv, rv2, rv3⟩ := r1.three
    cases d <;> first | (cases e1; done) | skip
    cases d2 <;> first | (cases e1; done) | skip
    cases d3 <;> first | (cases e1; done) | skip
    rename_i i j c
    simp only [rngD] at e1
    split at e1
    · rename_i hj
      cases e1
      simp only [Bool.and_eq_true, decide_eq_true_eq] at hj
      obtain ⟨⟨h1, h2⟩, h3⟩ := hj
      obtain rfl := rv.inj_int
      obtain rfl := rv2.inj_int
      obtain rfl := rv3.inj_int
      have nn : 0 ≤ Builtin.Range.rangeSize i j c := by
        unfold Builtin.Range.rangeSize
        split
        · split
          · have := Int.ediv_nonneg (a := j - i - 1) (b := c) (by omega) (by omega)
            omega
          · omega
        · split
          · have := Int.ediv_nonneg (a := i - j - 1) (b := -c) (by omega) (by omega)
            omega
          · omega
      exact ⟨i, j, c, _, rfl, ⟨h1, h2, h3, (Int.toNat_of_nonneg nn).symm⟩, w _ (walks_rangeC i c _)⟩
    · cases e1
  · cases d <;> first | (cases e1; done) | (cases d2 <;> first | (cases e1; done) | (cases d3 <;> cases e1))
/-! enumerate, zip over lists -/
theorem enumL_length (xs : List D) : (enumL xs).length = xs.length := by simp [enumL]
theorem enumL_get {xs : List D} {i : Nat} {d : D} (h : xs[i]? = some d) : (enumL xs)[i]? = some (.tup [.int (i : Nat), d]) := by
  simp [enumL, List.getElem?_map, List.getElem?_zipIdx, h]
theorem zipL_get {xs ys : List D} {i : Nat} {d e : D} (h : xs[i]? = some d) (h2 : ys[i]? = some e) : (zipL xs ys)[i]? = some (.tup [d, e]) := by
  have z : (xs.zip ys)[i]? = some (d, e) := by
    rw [List.getElem?_zip_eq_some]
    exact ⟨h, h2⟩
  unfold zipL
  rw [List.getElem?_map, z]
  rfl
/-- a new tuple of two, beside the store -/
theorem pair_new {m : List Addr} {st : Sto} {H : Hp} {T : Addr} {d e : D} {v w : V} (s : SR R m st H) (hT : H T = none) (r : Rep R m st H d v) (q : Rep R m st H e w) :
    Ext m st H m st (upd H T (.tup [v, w])) ∧ SR R m st (upd H T (.tup [v, w])) ∧ Rep R m st (upd H T (.tup [v, w])) (.tup [d, e]) (.ref T) :=
  ⟨Ext.new hT, s.new hT, .tup (.inl ⟨.inl upd_same, s.notLive hT⟩) (Reps.mono (Ext.new hT) _ _ (.cons r (.cons q .nil)))⟩
theorem pi_enumM {e : Expr} {p pos tpos : Pos} {elts : List Expr} {kk : Nat} {f : Env → Sto → Res D} (hx : R.K = X.K) (hg : Gl X "enumerate") (hm : X.mg "enumerate" = none) (h : PE X e (tE R W f)) (hs : starEach [e] X.env = [(false, eval e X.env)]) :
    PI X (.Tuple elts kk tpos) (.Call (.Name "enumerate" p) [e] [] pos) (tI R W fun env st => (f env st).bnd fun d st => match listOf st d with
      | some ds => .ok (enumL ds, srcOf st d) st
      | none => .bad) := by
  refine PI.imp (pi_enum hg hm (pa_cons h pa_nil hs) hs) fun σ H Rk ⟨hd, m, env, st, s, er, q⟩ => ?_
  refine ⟨hd, m, env, st, s, er, ?_⟩
  dsimp only at q
  cases e1 : f env st with
  | bad =>
    rw [e1] at q
    exact q.elim
  | exc x st1 =>
    rw [e1] at q
    exact q
  | ok d st1 =>
    rw [e1, bnd_ok] at q
    intro m1 H1 v x1 s1 r1
    cases e2 : listOf st1 d with
    | none =>
      rw [e2] at q
      exact q.elim
    | some xs =>
      rw [e2] at q
      obtain ⟨a, rfl, st3⟩ := list_stands r1 e2
      obtain ⟨b, vs, eb, h1, _⟩ := listOf_at s1 r1 e2
      cases eb
      rw [← hx]
      refine ⟨a, vs, rfl, h1, q m1 H1 _ x1 s1 fun hd2 m2 st2 H2 c x s g => ?_⟩
      obtain ⟨ws, h2, h3⟩ := st3 hd2 m2 st2 H2 c x s g
      dsimp only
      rw [enumL_length]
      refine ⟨fun i hi => ?_, ⟨ws, h2, by rw [h3.length]; exact Nat.le_refl _⟩, fun i y H3 hi hy => ?_⟩
      · obtain ⟨d, v, e1, e2, _⟩ := reps_at h3 hi
        exact ⟨ws, v, h2, e2⟩
      · obtain ⟨d, v, e1, e2, e3⟩ := reps_at h3 hi
        obtain ⟨T, z, rfl, hT, rfl, hz⟩ := hy
        have e4 := hz ws h2
        rw [e2] at e4
        cases e4
        obtain ⟨p1, p2, p3⟩ := pair_new s hT (.int (i : Nat)) e3
        exact ⟨_, enumL_get e1, p1, p2, p3⟩
theorem pi_zipM {e e2 : Expr} {p pos tpos : Pos} {elts : List Expr} {kk : Nat} {f g : Env → Sto → Res D} (hx : R.K = X.K) (hg : Gl X "zip") (hm : X.mg "zip" = none) (h : PE X e (tE R W f)) (h2 : PE X e2 (tE R W g))
    (hs : starEach [e, e2] X.env = (false, eval e X.env) :: starEach [e2] X.env) (hs2 : starEach [e2] X.env = (false, eval e2 X.env) :: starEach [] X.env) (hpl : (backTo pos (starEach [e2] X.env)).any (·.1) = false) :
    PI X (.Tuple elts kk tpos) (.Call (.Name "zip" p) [e, e2] [] pos) (tI R W fun env st => (f env st).bnd fun x st => (g env st).bnd fun y st => match listOf st x, listOf st y with
      | some xs, some ys => .ok (zipL xs ys, srcOf st x ++ srcOf st y) st
      | _, _ => .bad) := by
  refine PI.imp (pi_zip hg hm (pa_cons h (pa_cons h2 pa_nil hs2) hs) hs hpl) fun σ H Rk ⟨hd, m, env, st, s, er, q⟩ => ?_
  refine ⟨hd, m, env, st, s, er, ?_⟩
  dsimp only at q
  cases e1 : f env st with
  | bad =>
    rw [e1] at q
    exact q.elim
  | exc x st1 =>
    rw [e1] at q
    exact q
  | ok dx st1 =>
    rw [e1, bnd_ok] at q
    intro m1 H1 v x1 s1 r1
    refine ⟨hd, m1, env, st1, s1, er.mono x1, ?_⟩
    cases e3 : g env st1 with
    | bad =>
      rw [e3] at q
      exact q.elim
    | exc x st2 =>
      rw [e3] at q
      exact fun m2 H2 c dd x2 s2 r2 => q m2 H2 c dd (x1.trans x2) s2 r2
    | ok dy st2 =>
      rw [e3, bnd_ok] at q
      intro m2 H2 w x2 s2 r2
      cases e4 : listOf st2 dx with
      | none =>
        rw [e4] at q
        exact q.elim
      | some xs =>
        cases e5 : listOf st2 dy with
        | none =>
          rw [e4, e5] at q
          exact q.elim
        | some ys =>
          rw [e4, e5] at q
          have r3 := Rep.mono x2 _ _ r1
          obtain ⟨a, rfl, sta⟩ := list_stands r3 e4
          obtain ⟨b, rfl, stb⟩ := list_stands r2 e5
          obtain ⟨a', vs, ea, ha, _⟩ := listOf_at s2 r3 e4
          obtain ⟨b', ws, eb, hb, _⟩ := listOf_at s2 r2 e5
          cases ea
          cases eb
          rw [← hx]
          refine ⟨a, b, vs, ws, rfl, ha, hb, q m2 H2 _ (x1.trans x2) s2 fun hd3 m3 st3 H3 c x s gg => ?_⟩
          obtain ⟨us, h3, h4⟩ := sta hd3 m3 st3 H3 c x s fun z hz => gg z (List.mem_append_left _ hz)
          obtain ⟨us2, h5, h6⟩ := stb hd3 m3 st3 H3 c x s fun z hz => gg z (List.mem_append_right _ hz)
          dsimp only
          have hl : (zipL xs ys).length = min xs.length ys.length := by simp [zipL]
          rw [hl]
          refine ⟨fun i hi => ?_, ⟨us, us2, h3, h5, ?_⟩, fun i y H4 hi hy => ?_⟩
          · obtain ⟨d, v, e1, e2, _⟩ := reps_at h4 (i := i) (by omega)
            obtain ⟨d', v', e1', e2', _⟩ := reps_at h6 (i := i) (by omega)
            exact ⟨us, us2, v, v', h3, h5, e2, e2'⟩
          · rw [← h4.length, ← h6.length]
            omega
          · obtain ⟨d, v, e1, e2, e3⟩ := reps_at h4 (i := i) (by omega)
            obtain ⟨d', v', e1', e2', e3'⟩ := reps_at h6 (i := i) (by omega)
            obtain ⟨T, z, z', rfl, hT, rfl, hz, hz'⟩ := hy
            have q1 := hz us h3
            have q2 := hz' us2 h5
            rw [e2] at q1
            rw [e2'] at q2
            cases q1
            cases q2
            obtain ⟨p1, p2, p3⟩ := pair_new s hT e3 e3'
            exact ⟨_, zipL_get e1 e1', p1, p2, p3⟩
end
end Mini
end
section
set_option linter.all false
set_option autoImplicit false
set_option maxRecDepth 100000
set_option maxHeartbeats 1000000
/-! Targets; comprehensions. -/
namespace Mini
open PySem PySem.Spec PyProof.Rows L2
/-! ### targets -/
def gNs : List Nat → TGs
  | [] => gNil
  | i :: is => gCons (gName i) (gNs is)
def gM (K : PySem.W.Frag) : Tg → TG
  | .nm i => gName i
  | .tp is => gTup K is.length (gNs is)
def slotsT : Tg → List Nat
  | .nm i => [i]
  | .tp is => is
/-- σ' is σ but at some slots -/
def Chg (is : List Nat) (σ σ' : L2.St) : Prop := σ'.length = σ.length ∧ ∀ j, j ∉ is → σ'[j]? = σ[j]?
theorem Chg.refl {is : List Nat} {σ : L2.St} : Chg is σ σ := ⟨rfl, fun _ _ => rfl⟩
theorem Chg.set {is : List Nat} {σ σ' : L2.St} {i : Nat} {v : V} (h : Chg is σ σ') (hi : i ∈ is) : Chg is σ (σ'.set i (some v)) :=
  ⟨by rw [List.length_set]; exact h.1, fun j hj => by
    have ne : i ≠ j := fun z => hj (by rw [← z]; exact hi)
    rw [List.getElem?_set_ne ne]
    exact h.2 j hj⟩
section
variable {R : RC} {m : List Addr} {st : Sto} {H : Hp} {σ : L2.St} {env : Env}
theorem ER.set {i : Nat} {d : D} {v : V} (e : ER R m st H σ env) (r : Rep R m st H d v) : ER R m st H (σ.set i (some v)) (env.set i (some d)) := by
  refine ⟨by rw [List.length_set, List.length_set]; exact e.1, fun j d' h => ?_⟩
  by_cases hj : i = j
  · subst hj
    by_cases hl : i < env.length
    · rw [List.getElem?_set_self hl] at h
      cases h
      exact ⟨v, List.getElem?_set_self (by rw [← e.1]; exact hl), r⟩
    · rw [List.getElem?_eq_none (by rw [List.length_set]; omega)] at h
      cases h
  · rw [List.getElem?_set_ne hj] at h ⊢
    exact e.2 j d' h
theorem setN_ok (is0 : List Nat) : ∀ (is : List Nat) (ds : List D) (vs : List V) (σ σ0 : L2.St) (env env' : Env) (Q : L2.St → Hp → Prop), (∀ i ∈ is, i ∈ is0) → Chg is0 σ0 σ → ER R m st H σ env → Reps R m st H ds vs → setN is ds env = some env' →
    (∀ σ', Chg is0 σ0 σ' → ER R m st H σ' env' → Q σ' H) → gNs is vs σ H Q
  | [], [], _, σ, σ0, env, env', Q, _, hc, e, .nil, h, k => by
    cases h
    exact ⟨rfl, k σ hc e⟩
  | i :: is, d :: ds, _, σ, σ0, env, env', Q, hi, hc, e, .cons a t, h, k =>
    ⟨_, _, rfl, setN_ok is0 is ds _ _ σ0 _ env' Q (fun j hj => hi j (List.mem_cons_of_mem _ hj)) (hc.set (hi i List.mem_cons_self)) (e.set a) t h k⟩
  | [], _ :: _, _, _, _, _, _, _, _, _, _, _, h, _ => by cases h
  | _ :: _, [], _, _, _, _, _, _, _, _, _, _, h, _ => by cases h
theorem setN_length : ∀ (is : List Nat) (ds : List D) (env env' : Env), setN is ds env = some env' → ds.length = is.length
  | [], [], _, _, _ => rfl
  | _ :: is, _ :: ds, env, env', h => by
    rw [List.length_cons, List.length_cons, setN_length is ds _ env' h]
  | [], _ :: _, _, _, h => by cases h
  | _ :: _, [], _, _, h => by cases h
theorem setT_ok {t : Tg} {d : D} {v : V} {env' : Env} {Q : L2.St → Hp → Prop} (e : ER R m st H σ env) (r : Rep R m st H d v) (h : setT t d env = some env') (k : ∀ σ', Chg (slotsT t) σ σ' → ER R m st H σ' env' → Q σ' H) : gM R.K t v σ H Q := by
  cases t with
  | nm i =>
    cases h
    exact k _ (Chg.refl.set (List.mem_singleton_self i)) (e.set r)
  | tp is =>
    cases d <;> first | (cases h; done) | skip
    rename_i xs
    obtain ⟨a, vs, rfl, ha, ra⟩ := r.inj_tup
    have h : setN is xs env = some env' := h
    exact ⟨a, vs, rfl, ha.sq, by rw [← ra.length]; exact setN_length is xs env env' h, setN_ok is is xs vs σ σ env env' Q (fun _ z => z) .refl e ra h k⟩
/-! slots forgotten -/
theorem wipe_in : ∀ {vs : List Nat} {i : Nat} {σ : L2.St}, i ∈ vs → i < σ.length → (wipe σ vs)[i]? = some none
  | v :: vs, i, σ, h, hl => by
    unfold wipe
    by_cases e : v = i
    · subst e
      rw [List.getElem?_set_self (by rw [wipe_length]; exact hl)]
    · rw [List.getElem?_set_ne e]
      rcases List.mem_cons.mp h with z | z
      · exact absurd z.symm e
      · exact wipe_in z hl
theorem wipe_eq {vs : List Nat} {σ σ' : L2.St} (h : Chg vs σ σ') : wipe σ' vs = wipe σ vs := by
  apply List.ext_getElem?
  intro j
  by_cases hj : j ∈ vs
  · by_cases hl : j < σ.length
    · rw [wipe_in hj hl, wipe_in hj (by rw [h.1]; exact hl)]
    · rw [List.getElem?_eq_none (by rw [wipe_length, h.1]; omega), List.getElem?_eq_none (by rw [wipe_length]; omega)]
  · rw [wipe_out hj, wipe_out hj, h.2 j hj]
theorem wipe_chg (vs : List Nat) (σ : L2.St) : Chg vs σ (wipe σ vs) := ⟨wipe_length σ vs, fun j hj => wipe_out hj⟩
theorem Chg.trans {is : List Nat} {a b c : L2.St} (h : Chg is a b) (k : Chg is b c) : Chg is a c := ⟨k.1.trans h.1, fun j hj => (k.2 j hj).trans (h.2 j hj)⟩
theorem Chg.sub {is js : List Nat} {a b : L2.St} (h : Chg is a b) (s : ∀ i ∈ is, i ∈ js) : Chg js a b := ⟨h.1, fun j hj => h.2 j fun z => hj (s j z)⟩
theorem wipeE_get : ∀ {vs : List Nat} {j : Nat} {d : D} {env : Env}, (wipeE vs env)[j]? = some (some d) → j ∉ vs ∧ env[j]? = some (some d)
  | [], _, _, _, h => ⟨by simp, h⟩
  | v :: vs, j, d, env, h => by
    unfold wipeE at h
    by_cases e : v = j
    · subst e
      by_cases hl : v < (wipeE vs env).length
      · rw [List.getElem?_set_self hl] at h
        cases h
      · rw [List.getElem?_eq_none (by rw [List.length_set]; omega)] at h
        cases h
    · rw [List.getElem?_set_ne e] at h
      obtain ⟨h1, h2⟩ := wipeE_get h
      exact ⟨fun z => (List.mem_cons.mp z).elim (fun z => e z.symm) h1, h2⟩
theorem wipeE_length (vs : List Nat) (env : Env) : (wipeE vs env).length = env.length := by
  induction vs with
  | nil => rfl
  | cons v vs ih =>
    unfold wipeE
    rw [List.length_set]
    exact ih
theorem ER.wipe {vs : List Nat} (e : ER R m st H σ env) : ER R m st H (L2.wipe σ vs) (wipeE vs env) :=
  ⟨by rw [wipeE_length, wipe_length]; exact e.1, fun j d h => by
    obtain ⟨h1, h2⟩ := wipeE_get h
    obtain ⟨v, h3, h4⟩ := e.2 j d h2
    exact ⟨v, by rw [wipe_out h1]; exact h3, h4⟩⟩
end

/-! ### the list that a comprehension fills -/
section
variable {R : RC} {m : List Addr} {st : Sto} {H : Hp} {A : Addr}
theorem NL.hide {hd : List Addr} {a : Addr} (h : NL hd m st a) (ne : a ≠ A) : NL (A :: hd) m st a := ⟨h.1, fun z => (List.mem_cons.mp z).elim ne h.2⟩
theorem NL.show {hd : List Addr} {a : Addr} (h : NL (A :: hd) m st a) : NL hd m st a ∧ a ≠ A := ⟨⟨h.1, fun z => h.2 (List.mem_cons_of_mem _ z)⟩, fun z => h.2 (z ▸ List.mem_cons_self)⟩
theorem NL.ne {hd : List Addr} {a : Addr} (l : NL hd m st a) (hm : A ∈ hd) : a ≠ A := fun z => l.2 (by
  rw [z]
  exact hm)
mutual
/-- a new address is kept apart -/
theorem Rep.hide {o : HO} (hA : H A = none) : ∀ (d : D) (v : V), Rep R m st H d v → Rep (R.w (A :: R.hid)) m st (upd H A o) d v
  | .non, _, .non => .non
  | .bl _, _, .bl b => .bl b
  | .int _, _, .int i => .int i
  | .str _, _, .str s => .str s
  | .tup xs, _, .tup h r => .tup (by
      rcases h with ⟨h, l⟩ | h
      · rcases h with h | ⟨u, h⟩
        · have ne := ne_of_none h hA
          exact .inl ⟨.inl (by rw [upd_ne ne]; exact h), l.hide ne⟩
        · have ne := ne_of_none h hA
          exact .inl ⟨.inr ⟨u, by rw [upd_ne ne]; exact h⟩, l.hide ne⟩
      · exact .inr h) (Reps.hide hA xs _ r)
  | .lst xs, _, .lst h l r => by
      have ne := ne_of_none h hA
      exact .lst (by rw [upd_ne ne]; exact h) (l.hide ne) (Reps.hide hA xs _ r)
  | .ro xs, _, .ro h r => .ro (by
      rcases h with ⟨h, l⟩ | h
      · rcases h with h | ⟨u, h⟩
        · have ne := ne_of_none h hA
          exact .inl ⟨.inl (by rw [upd_ne ne]; exact h), l.hide ne⟩
        · have ne := ne_of_none h hA
          exact .inl ⟨.inr ⟨u, by rw [upd_ne ne]; exact h⟩, l.hide ne⟩
      · exact .inr h) (Reps.hide hA xs _ r)
  | .ref _, _, .ref h => .ref h
  | .fn _, _, .fn h => .fn h
theorem Reps.hide {o : HO} (hA : H A = none) : ∀ (ds : List D) (vs : List V), Reps R m st H ds vs → Reps (R.w (A :: R.hid)) m st (upd H A o) ds vs
  | [], _, .nil => .nil
  | d :: ds, _, .cons h t => .cons (Rep.hide hA d _ h) (Reps.hide hA ds _ t)
end
mutual
/-- what is kept apart is filled -/
theorem Rep.poke {hd : List Addr} {o : HO} (hm : A ∈ R.hid) : ∀ (d : D) (v : V), Rep R m st H d v → Rep R m st (upd H A o) d v
  | .non, _, .non => .non
  | .bl _, _, .bl b => .bl b
  | .int _, _, .int i => .int i
  | .str _, _, .str s => .str s
  | .tup xs, _, .tup h r => .tup (by
      rcases h with ⟨h, l⟩ | h
      · have ne := l.ne hm
        rcases h with h | ⟨u, h⟩
        · exact .inl ⟨.inl (by rw [upd_ne ne]; exact h), l⟩
        · exact .inl ⟨.inr ⟨u, by rw [upd_ne ne]; exact h⟩, l⟩
      · exact .inr h) (Reps.poke (hd := hd) hm xs _ r)
  | .lst xs, _, .lst h l r => by
      have ne := l.ne hm
      exact .lst (by rw [upd_ne ne]; exact h) l (Reps.poke (hd := hd) hm xs _ r)
  | .ro xs, _, .ro h r => .ro (by
      rcases h with ⟨h, l⟩ | h
      · have ne := l.ne hm
        rcases h with h | ⟨u, h⟩
        · exact .inl ⟨.inl (by rw [upd_ne ne]; exact h), l⟩
        · exact .inl ⟨.inr ⟨u, by rw [upd_ne ne]; exact h⟩, l⟩
      · exact .inr h) (Reps.poke (hd := hd) hm xs _ r)
  | .ref _, _, .ref h => .ref h
  | .fn _, _, .fn h => .fn h
theorem Reps.poke {hd : List Addr} {o : HO} (hm : A ∈ R.hid) : ∀ (ds : List D) (vs : List V), Reps R m st H ds vs → Reps R m st (upd H A o) ds vs
  | [], _, .nil => .nil
  | d :: ds, _, .cons h t => .cons (Rep.poke (hd := hd) hm d _ h) (Reps.poke (hd := hd) hm ds _ t)
end
mutual
/-- it is kept apart no more -/
theorem Rep.reveal : ∀ (d : D) (v : V), Rep (R.w (A :: R.hid)) m st H d v → Rep R m st H d v
  | .non, _, .non => .non
  | .bl _, _, .bl b => .bl b
  | .int _, _, .int i => .int i
  | .str _, _, .str s => .str s
  | .tup xs, _, .tup h r => .tup (by
      rcases h with ⟨h, l⟩ | h
      · exact .inl ⟨h, l.show.1⟩
      · exact .inr h) (Reps.reveal xs _ r)
  | .lst xs, _, .lst h l r => .lst h l.show.1 (Reps.reveal xs _ r)
  | .ro xs, _, .ro h r => .ro (by
      rcases h with ⟨h, l⟩ | h
      · exact .inl ⟨h, l.show.1⟩
      · exact .inr h) (Reps.reveal xs _ r)
  | .ref _, _, .ref h => .ref h
  | .fn _, _, .fn h => .fn h
theorem Reps.reveal : ∀ (ds : List D) (vs : List V), Reps (R.w (A :: R.hid)) m st H ds vs → Reps R m st H ds vs
  | [], _, .nil => .nil
  | d :: ds, _, .cons h t => .cons (Rep.reveal d _ h) (Reps.reveal ds _ t)
end
theorem SR.hide {o : HO} (s : SR R m st H) (hA : H A = none) : SR (R.w (A :: R.hid)) m st (upd H A o) := by
  have x : Ext m st H m st (upd H A o) := Ext.new hA
  refine ⟨s.len, s.nd, fun n a e => x.stay a (s.trk n a e), fun a h => ?_, fun n a e z => ?_, fun n a xs e q => ?_⟩
  · rcases List.mem_cons.mp h with z | z
    · rw [z, upd_same]
      simp
    · exact x.stay a (s.hd a z)
  · rcases List.mem_cons.mp z with z | z
    · exact s.ne hA e z
    · exact s.dj n a e z
  · obtain ⟨vs, h1, h2⟩ := s.obj n a xs e q
    exact ⟨vs, by rw [upd_ne (s.ne hA e)]; exact h1, Reps.hide hA _ _ h2⟩
theorem SR.poke {o : HO} (s : SR R m st H) (hm : A ∈ R.hid) : SR R m st (upd H A o) := by
  have st1 : ∀ a, H a ≠ none → upd H A o a ≠ none := fun a h => by
    by_cases ha : a = A
    · rw [ha, upd_same]
      simp
    · rw [upd_ne ha]
      exact h
  have ne : ∀ (n : Nat) (a : Addr), m[n]? = some a → a ≠ A := fun n a e z => s.dj n a e (z ▸ hm)
  refine ⟨s.len, s.nd, fun n a e => st1 a (s.trk n a e), fun a h => st1 a (s.hd a h), s.dj, fun n a xs e q => ?_⟩
  obtain ⟨vs, h1, h2⟩ := s.obj n a xs e q
  exact ⟨vs, by rw [upd_ne (ne n a e)]; exact h1, Reps.poke (hd := []) hm _ _ h2⟩
theorem SR.reveal (s : SR (R.w (A :: R.hid)) m st H) : SR R m st H :=
  ⟨s.len, s.nd, s.trk, fun a h => s.hd a (List.mem_cons_of_mem _ h), fun n a e z => s.dj n a e (List.mem_cons_of_mem _ z), fun n a xs e q => by
    obtain ⟨vs, h1, h2⟩ := s.obj n a xs e q
    exact ⟨vs, h1, Reps.reveal _ _ h2⟩⟩
theorem ER.hide {o : HO} {σ : L2.St} {env : Env} (e : ER R m st H σ env) (hA : H A = none) : ER (R.w (A :: R.hid)) m st (upd H A o) σ env :=
  ⟨e.1, fun i d h => let ⟨v, h1, h2⟩ := e.2 i d h; ⟨v, h1, Rep.hide hA _ _ h2⟩⟩
theorem ER.poke {o : HO} {σ : L2.St} {env : Env} (e : ER R m st H σ env) (hm : A ∈ R.hid) : ER R m st (upd H A o) σ env :=
  ⟨e.1, fun i d h => let ⟨v, h1, h2⟩ := e.2 i d h; ⟨v, h1, Rep.poke (hd := []) hm _ _ h2⟩⟩
/-- what was there ahead does not see it filled -/
theorem Ext.poke {m0 : List Addr} {st0 : Sto} {H0 : Hp} {o : HO} (x : Ext m0 st0 H0 m st H) (hA : H0 A = none) : Ext m0 st0 H0 m st (upd H A o) where
  pre := x.pre
  fresh := x.fresh
  dead := x.dead
  keep := fun a u h l => by
    rw [upd_ne (ne_of_none h hA)]
    exact x.keep a u h l
  stay := fun a h => by
    by_cases ha : a = A
    · rw [ha, upd_same]
      simp
    · rw [upd_ne ha]
      exact x.stay a h
/-- it becomes a list of the store -/
theorem Ext.adopt {u : SO} {m0 : List Addr} {st0 : Sto} {H0 : Hp} (x : Ext m0 st0 H0 m st H) (hA : H0 A = none) (s : SR R m st H) : Ext m0 st0 H0 (m ++ [A]) (st ++ [u]) H where
  pre := x.pre.trans ⟨[A], rfl⟩
  fresh := fun n a hn e => by
    by_cases h : n < m.length
    · rw [List.getElem?_append_left h] at e
      exact x.fresh n a hn e
    · have hl := (List.getElem?_eq_some_iff.mp e).1
      rw [List.length_append, List.length_singleton] at hl
      obtain rfl : n = m.length := by omega
      rw [List.getElem?_append_right (Nat.le_refl _), Nat.sub_self] at e
      have z : A = a := Option.some.inj e
      rw [← z]
      exact hA
  dead := fun n h => by
    have h2 := x.dead n h
    rw [List.getElem?_append_left (List.getElem?_eq_some_iff.mp h2).1]
    exact h2
  keep := x.keep
  stay := x.stay
theorem at_last {u : SO} {l : List Addr} {s : Sto} (hl : l.length = s.length) {n : Nat} {a : Addr} (e : (l ++ [A])[n]? = some a) : (l[n]? = some a ∧ (s ++ [u])[n]? = s[n]?) ∨ (a = A ∧ n = s.length ∧ (s ++ [u])[n]? = some u) := by
  by_cases h : n < l.length
  · rw [List.getElem?_append_left h] at e
    exact .inl ⟨e, List.getElem?_append_left (by omega)⟩
  · have hz := (List.getElem?_eq_some_iff.mp e).1
    rw [List.length_append, List.length_singleton] at hz
    obtain rfl : n = l.length := by omega
    rw [List.getElem?_append_right (Nat.le_refl _), Nat.sub_self] at e
    refine .inr ⟨(Option.some.inj e).symm, hl, ?_⟩
    rw [hl, List.getElem?_append_right (Nat.le_refl _), Nat.sub_self]
    rfl
theorem NL.adopt {u : SO} {hd : List Addr} {a : Addr} (hl : m.length = st.length) (l : NL (A :: hd) m st a) : NL hd (m ++ [A]) (st ++ [u]) a := ⟨fun n e => by
  rcases at_last (u := u) hl e with ⟨h1, h2⟩ | ⟨h1, _⟩
  · rw [h2]
    exact l.1 n h1
  · exact absurd h1 (l.ne List.mem_cons_self), l.show.1.2⟩
mutual
theorem Rep.adopt {u : SO} (hl : m.length = st.length) : ∀ (d : D) (v : V), Rep (R.w (A :: R.hid)) m st H d v → Rep R (m ++ [A]) (st ++ [u]) H d v
  | .non, _, .non => .non
  | .bl _, _, .bl b => .bl b
  | .int _, _, .int i => .int i
  | .str _, _, .str s => .str s
  | .tup xs, _, .tup h r => .tup (by
      rcases h with ⟨h, l⟩ | h
      · exact .inl ⟨h, l.adopt hl⟩
      · exact .inr h) (Reps.adopt hl xs _ r)
  | .lst xs, _, .lst h l r => .lst h (l.adopt hl) (Reps.adopt hl xs _ r)
  | .ro xs, _, .ro h r => .ro (by
      rcases h with ⟨h, l⟩ | h
      · exact .inl ⟨h, l.adopt hl⟩
      · exact .inr h) (Reps.adopt hl xs _ r)
  | .ref _, _, .ref h => .ref (by
      rw [List.getElem?_append_left (List.getElem?_eq_some_iff.mp h).1]
      exact h)
  | .fn _, _, .fn h => .fn h
theorem Reps.adopt {u : SO} (hl : m.length = st.length) : ∀ (ds : List D) (vs : List V), Reps (R.w (A :: R.hid)) m st H ds vs → Reps R (m ++ [A]) (st ++ [u]) H ds vs
  | [], _, .nil => .nil
  | d :: ds, _, .cons h t => .cons (Rep.adopt hl d _ h) (Reps.adopt hl ds _ t)
end
theorem SR.adopt {xs : List D} {vs : List V} (s : SR (R.w (A :: R.hid)) m st H) (nh : A ∉ R.hid) (h : H A = some (.lst vs)) (r : Reps (R.w (A :: R.hid)) m st H xs vs) : SR R (m ++ [A]) (st ++ [.lst xs]) H := by
  have nm : ∀ n : Nat, m[n]? ≠ some A := fun n e => s.dj n A e List.mem_cons_self
  refine ⟨by rw [List.length_append, List.length_append, s.len]; rfl, ?_, fun n a e => ?_, fun a h => s.hd a (List.mem_cons_of_mem _ h), fun n a e => ?_, fun n a ys e q => ?_⟩
  · rw [List.nodup_append]
    refine ⟨s.nd, by simp, fun a ha b hb z => ?_⟩
    obtain ⟨n, hn⟩ := List.mem_iff_getElem?.mp ha
    rw [List.mem_singleton] at hb
    exact nm n (by rw [← hb, ← z]; exact hn)
  · rcases at_last (u := .lst xs) s.len e with ⟨h1, _⟩ | ⟨rfl, _⟩
    · exact s.trk n a h1
    · rw [h]
      simp
  · rcases at_last (u := .lst xs) s.len e with ⟨h1, _⟩ | ⟨rfl, _⟩
    · exact fun z => s.dj n a h1 (List.mem_cons_of_mem _ z)
    · exact nh
  · rcases at_last (u := .lst xs) s.len e with ⟨h1, h2⟩ | ⟨rfl, _, h2⟩
    · rw [h2] at q
      obtain ⟨ws, h3, h4⟩ := s.obj n a ys h1 q
      exact ⟨ws, h3, Reps.adopt s.len _ _ h4⟩
    · rw [h2] at q
      cases q
      exact ⟨vs, h, Reps.adopt s.len _ _ r⟩
end
/-! ### the rule -/
def W0 : WX := fun _ _ _ _ => False
section
variable {X : Cx} {R : RC} {W : WX}
theorem compL_cases (g : List (Nat × List D)) (f : D → Sto → Res (Option D)) : ∀ (ds acc : List D) (st : Sto), compL g f ds acc st = .bad ∨ ∃ ys st', compL g f ds acc st = .ok ys st'
  | [], acc, st => by
    unfold compL
    split
    · exact .inr ⟨_, _, rfl⟩
    · exact .inl rfl
  | d :: ds, acc, st => by
    unfold compL
    split
    · split
      · split
        · exact compL_cases g f ds _ _
        · exact .inl rfl
      · exact compL_cases g f ds _ _
      · exact .inl rfl
    · exact .inl rfl
theorem compL_nil {g : List (Nat × List D)} {f : D → Sto → Res (Option D)} {acc ys : List D} {st st' : Sto} (h : compL g f [] acc st = .ok ys st') : srcOK g st ∧ ys = acc ∧ st' = st := by
  unfold compL at h
  split at h
  · rename_i c
    cases h
    exact ⟨c, rfl, rfl⟩
  · cases h
theorem compL_cons {g : List (Nat × List D)} {f : D → Sto → Res (Option D)} {d : D} {ds acc ys : List D} {st st' : Sto} (h : compL g f (d :: ds) acc st = .ok ys st') :
    srcOK g st ∧ ((∃ y st1, f d st = .ok (some y) st1 ∧ acc.length < sizeLine ∧ compL g f ds (acc ++ [y]) st1 = .ok ys st') ∨ ∃ st1, f d st = .ok none st1 ∧ compL g f ds acc st1 = .ok ys st') := by
  unfold compL at h
  split at h
  · rename_i c
    refine ⟨c, ?_⟩
    split at h
    · rename_i y st1 e
      split at h
      · rename_i l
        exact .inl ⟨y, st1, e, l, h⟩
      · cases h
    · rename_i st1 e
      exact .inr ⟨st1, e, h⟩
    · cases h
  · cases h
theorem noExc_ok {α : Type} {r : Res α} {a : α} {st : Sto} (h : noExc r = .ok a st) : r = .ok a st := by
  cases r with
  | ok b s =>
    cases h
    rfl
  | exc x s => cases h
  | bad => cases h
theorem bnd_is {α β : Type} {r : Res α} {f : α → Sto → Res β} {b : β} {st : Sto} (h : r.bnd f = .ok b st) : ∃ a s, r = .ok a s ∧ f a s = .ok b st := by
  cases r with
  | ok a s => exact ⟨a, s, rfl, h⟩
  | exc x s => cases h
  | bad => cases h
noncomputable def fComp (v : Bool) (wp : List Nat) (t : Tg) (fi : Env → Sto → Res (List D × List (Nat × List D))) (fc : Env → Sto → Res Bool) (fe : Env → Sto → Res D) : Env → Sto → Res D := fun env st => (fi env st).bnd fun ig st =>
      (compL ig.2 (fun d st => match setT t d (wipeE wp env) with
        | some env' => noExc ((fc env' st).bnd fun b st => if b = true then (fe env' st).bnd fun y st => .ok (some y) st else .ok none st)
        | none => .bad) ig.1 [] st).bnd fun ys st => if v then .ok (.lst ys) st else .ok (.ref st.length) (st ++ [.lst ys])
theorem comp_imp {own : List (Str × Nat)} {t : Tg} {fi : Env → Sto → Res (List D × List (Nat × List D))} {fc : Env → Sto → Res Bool} {fe : Env → Sto → Res D} {v : Bool} (hsub : ∀ i ∈ slotsT t, i ∈ own.map (·.2)) {σ : L2.St} {H : Hp} {Q : VK}
    (h : tE R W (fComp v (own.map (·.2)) t fi fc fe) σ H Q) : tLc (tI R W fi) (gM R.K t) (tT R W0 fc) (tE R W0 fe) (own.map (·.2)) σ H Q := by
  obtain ⟨hd, m, env, st, s, er, q⟩ := h
  refine ⟨hd, m, env, st, s, er, ?_⟩
  unfold fComp at q
  cases e1 : fi env st with
  | bad =>
    rw [e1] at q
    exact q.elim
  | exc x st1 =>
    rw [e1] at q
    exact q
  | ok ig st1 =>
    rw [e1, bnd_ok] at q
    obtain ⟨ds, g⟩ := ig
    dsimp only at q ⊢
    intro m1 H1 J x1 s1 wk A hA
    have er1 := er.mono x1
    have nh : A ∉ hd := fun z => s1.hd A z hA
    obtain ⟨body, hbody⟩ : ∃ body : D → Sto → Res (Option D), body = fun d st => match setT t d (wipeE (own.map (·.2)) env) with
        | some env' => noExc ((fc env' st).bnd fun b st => if b = true then (fe env' st).bnd fun y st => .ok (some y) st else .ok none st)
        | none => .bad := ⟨_, rfl⟩
    rw [← hbody] at q
    rcases compL_cases g body ds [] st1 with z | ⟨ys, stf, z⟩
    · rw [z] at q
      exact q.elim
    rw [z, bnd_ok] at q
    have hok : HidOk (R.w hd).hid (A :: hd) H1 := fun a ha => (List.mem_cons.mp ha).elim (fun z => .inr (by rw [z]; exact hA)) .inl
    refine ⟨fun i μ H' => i ≤ ds.length ∧ μ = ds.length - i ∧ ∃ m2 st2 acc vs, Ext m1 st1 H1 m2 st2 H' ∧ SR (R.w (A :: hd)) m2 st2 H' ∧ H' A = some (.lst vs) ∧ Reps (R.w (A :: hd)) m2 st2 H' acc vs ∧ ER (R.w (A :: hd)) m2 st2 H' σ env ∧
      compL g body (ds.drop i) acc st2 = .ok ys stf, ⟨_, Nat.zero_le _, rfl, m1, st1, [], [], Ext.new hA, s1.hide hA, upd_same, .nil, er1.hide hA, z⟩, ?_⟩
    rintro i μ H' ⟨hi, rfl, m2, st2, acc, vs, x2, s2, hA2, racc, er2, hr⟩
    have nm : NotLive m2 st2 A := fun n e => absurd List.mem_cons_self (s2.dj n A e)
    cases hd0 : ds.drop i with
    | nil =>
      rw [hd0] at hr
      obtain ⟨hsrc, rfl, rfl⟩ := compL_nil hr
      have hlen : i = ds.length := by
        have := List.drop_eq_nil_iff.mp hd0
        omega
      subst hlen
      have w2 := wk (A :: hd) m2 stf H' hok x2 s2 hsrc
      refine .inl ⟨w2.2.1, ?_⟩
      have s3 : SR (R.w hd) m2 stf H' := SR.reveal (R := R.w hd) s2
      cases v with
      | true => exact q m2 H' _ (x1.trans x2) s3 (.lst hA2 ⟨nm, nh⟩ (Reps.reveal (R := R.w hd) _ _ racc))
      | false =>
        refine q (m2 ++ [A]) H' _ (x1.trans (Ext.adopt x2 hA s3)) (SR.adopt (R := R.w hd) s2 nh hA2 racc) (.ref ?_)
        rw [← s2.len, List.getElem?_append_right (Nat.le_refl _), Nat.sub_self]
        rfl
    | cons d rest =>
      rw [hd0] at hr
      obtain ⟨hsrc, hr⟩ := compL_cons hr
      have hlt : i < ds.length := by
        have : (ds.drop i).length = (d :: rest).length := by rw [hd0]
        rw [List.length_drop, List.length_cons] at this
        omega
      have hget : ds[i]? = some d := by
        have : (ds.drop i)[0]? = some d := by rw [hd0]; rfl
        rw [List.getElem?_drop] at this
        simpa using this
      have hrest : ds.drop (i + 1) = rest := by
        have : (ds.drop i).drop 1 = rest := by rw [hd0]; rfl
        rw [List.drop_drop] at this
        exact this
      have w2 := wk (A :: hd) m2 st2 H' hok x2 s2 hsrc
      refine .inr ⟨w2.1 i hlt, fun H'' => (i + 1) ≤ ds.length ∧ ∃ m2 st2 acc vs, Ext m1 st1 H1 m2 st2 H'' ∧ SR (R.w (A :: hd)) m2 st2 H'' ∧ H'' A = some (.lst vs) ∧ Reps (R.w (A :: hd)) m2 st2 H'' acc vs ∧ ER (R.w (A :: hd)) m2 st2 H'' σ env ∧
        compL g body (ds.drop (i + 1)) acc st2 = .ok ys stf, fun H'' ⟨h1, h2⟩ => ⟨ds.length - (i + 1), by omega, h1, rfl, h2⟩, fun y H3 hy => ?_⟩
      obtain ⟨d', e2, x3, s3, r3⟩ := w2.2.2 i y H3 hlt hy
      rw [hget] at e2
      cases e2
      -- the target
      have hA3 : H3 A = some (.lst vs) := x3.keep _ _ hA2 nm
      cases et : setT t d (wipeE (own.map (·.2)) env) with
      | none =>
        have : body d st2 = .bad := by rw [hbody]; dsimp only; rw [et]
        rcases hr with ⟨_, _, e, _⟩ | ⟨_, e, _⟩
        · rw [this] at e
          cases e
        · rw [this] at e
          cases e
      | some env' =>
        have eb : body d st2 = noExc ((fc env' st2).bnd fun b st => if b = true then (fe env' st).bnd fun y st => .ok (some y) st else .ok none st) := by rw [hbody]; dsimp only; rw [et]
        rw [eb] at hr
        have er3 := er2.mono x3
        refine setT_ok (R := R.w (A :: hd)) er3.wipe r3 et fun σ2 hch er4 => ⟨wipe_eq ((wipe_chg _ σ).trans (hch.sub hsub)), ?_⟩
        have hb : ∃ b st4, fc env' st2 = .ok b st4 ∧ ((b = true ∧ ∃ y st5, fe env' st4 = .ok y st5 ∧ acc.length < sizeLine ∧ compL g body rest (acc ++ [y]) st5 = .ok ys stf) ∨ (b = false ∧ compL g body rest acc st4 = .ok ys stf)) := by
          rcases hr with ⟨y', st5, e, l, c⟩ | ⟨st5, e, c⟩
          · obtain ⟨b, st4, e4, e5⟩ := bnd_is (noExc_ok e)
            cases b with
            | true =>
              obtain ⟨y2, st6, e6, e7⟩ := bnd_is e5
              cases e7
              exact ⟨true, st4, e4, .inl ⟨rfl, _, _, e6, l, c⟩⟩
            | false => cases e5
          · obtain ⟨b, st4, e4, e5⟩ := bnd_is (noExc_ok e)
            cases b with
            | true =>
              obtain ⟨y2, st6, e6, e7⟩ := bnd_is e5
              cases e7
            | false =>
              cases e5
              exact ⟨false, _, e4, .inr ⟨rfl, c⟩⟩
        obtain ⟨b, st4, e4, hb⟩ := hb
        refine ⟨A :: hd, m2, env', st2, s3, er4, ?_⟩
        rw [e4]
        intro m4 H4 x4 s4
        have hA4 : H4 A = some (.lst vs) := x4.keep _ _ hA3 nm
        have nm4 : NotLive m4 st4 A := fun n e => absurd List.mem_cons_self (s4.dj n A e)
        rcases hb with ⟨rfl, y', st5, e5, l, c⟩ | ⟨rfl, c⟩
        · rw [if_pos rfl]
          refine ⟨A :: hd, m4, env', st4, s4, er4.mono x4, ?_⟩
          rw [e5]
          intro m5 H5 u x5 s5 r5
          have hA5 : H5 A = some (.lst vs) := x5.keep _ _ hA4 nm4
          refine ⟨vs, hA5, by rw [← racc.length]; exact l, hlt, m5, st5, acc ++ [y'], vs ++ [u], Ext.poke (((x2.trans x3).trans x4).trans x5) hA, s5.poke List.mem_cons_self, upd_same, ?_, ?_, ?_⟩
          · exact (Reps.poke (hd := []) List.mem_cons_self _ _ (Reps.mono ((x3.trans x4).trans x5) _ _ racc)).append (.cons (Rep.poke (hd := []) List.mem_cons_self _ _ r5) .nil)
          · exact (er2.mono ((x3.trans x4).trans x5)).poke List.mem_cons_self
          · rw [hrest]
            exact c
        · rw [if_neg Bool.false_ne_true]
          refine ⟨hlt, m4, st4, acc, vs, (x2.trans x3).trans x4, s4, hA4, Reps.mono (x3.trans x4) _ _ racc, er2.mono (x3.trans x4), ?_⟩
          rw [hrest]
          exact c
theorem pe_comp {e it : Expr} {tg : Expr} {ifs : List Expr} {scope : Scope} {own : List (Str × Nat)} {pos : Pos} {t : Tg} {fi : Env → Sto → Res (List D × List (Nat × List D))} {fc : Env → Sto → Res Bool} {fe : Env → Sto → Res D} {v : Bool}
    (hc : X.calm = true) (hN : X.N.Nodup) (hi : PI X tg it (tI R W fi)) (ok : BlkOk X.N X.env.scope scope own)
    (hg : ∀ (s : Shared) (H : Hp) (C : Addr) (cl : List (Str × Addr)) (fp : List Addr), PG (X.blk s H scope (compEnvC scope cl C X.env) fp) tg (gM R.K t)) (ht : ∀ (s : Shared) (H : Hp) (C : Addr) (cl : List (Str × Addr)) (fp : List Addr), PTs (X.blk s H scope (compEnvC scope cl C X.env) fp) ifs (tT R W0 fc))
    (he : ∀ (s : Shared) (H : Hp) (C : Addr) (cl : List (Str × Addr)) (fp : List Addr), PE (X.blk s H scope (compEnvC scope cl C X.env) fp) e (tE R W0 fe)) (hs : ∀ x, foldedSetIterable it X.env x = pure x) (hsub : ∀ i ∈ slotsT t, i ∈ own.map (·.2)) :
    PE X (.ListComp e [⟨tg, it, ifs, 0⟩] scope pos) (tE R W (fComp v (own.map (·.2)) t fi fc fe)) := PE.imp (pe_lc hc hN hi ok hg ht he hs) fun _ _ _ h => comp_imp hsub h
end
end Mini
end
section
set_option linter.all false
set_option autoImplicit false
set_option maxRecDepth 100000
set_option maxHeartbeats 1000000
/-! Statements. -/
namespace Mini
open PySem PySem.Spec PyProof.Rows L2
def PostS (R : RC) (m : List Addr) (st : Sto) (H : Hp) (o : Out) (D : Ends) (W : WX) : Prop := match o with
  | .nx env' st' => ∀ m' H' σ', Ext m st H m' st' H' → SR R m' st' H' → ER R m' st' H' σ' env' → D.nx σ' H'
  | .brk env' st' => ∀ m' H' σ', Ext m st H m' st' H' → SR R m' st' H' → ER R m' st' H' σ' env' → D.bk σ' H'
  | .cont env' st' => ∀ m' H' σ', Ext m st H m' st' H' → SR R m' st' H' → ER R m' st' H' σ' env' → D.ct σ' H'
  | .ret d st' => ∀ m' H' v, Ext m st H m' st' H' → SR R m' st' H' → Rep R m' st' H' d v → D.rt v H'
  | .exc x env' st' => ∀ m' H' σ' c dd, Ext m st H m' st' H' → SR R m' st' H' → ER R m' st' H' σ' env' → XRep R m' st' H' x c dd → W c dd σ' H'
  | .bad => False
def tS (R : RC) (W : WX) (f : Env → Sto → Out) : TS := fun D σ H => ∃ hd m env st, SR (R.w hd) m st H ∧ ER (R.w hd) m st H σ env ∧ PostS (R.w hd) m st H (f env st) D W
theorem PS.imp {X : Cx} {s : Stmt} {t t' : TS} (h : PS X s t) (i : ∀ D σ H, t' D σ H → t D σ H) : PS X s t' := ⟨fun pins s σ H D I q => h.run pins s σ H D I (i D σ H q)⟩
theorem PSs.imp {X : Cx} {s : List Stmt} {t t' : TS} (h : PSs X s t) (i : ∀ D σ H, t' D σ H → t D σ H) : PSs X s t' := ⟨fun pins s σ H D I q => h.run pins s σ H D I (i D σ H q)⟩
section
variable {R : RC} {W : WX} {m m' : List Addr} {st st' : Sto} {H H' : Hp} {σ : L2.St} {env : Env} {D : Ends} {hd : List Addr}
theorem PostS.shift {o : Out} (x : Ext m st H m' st' H') (p : PostS R m st H o D W) : PostS R m' st' H' o D W := by
  cases o with
  | nx e s => exact fun m2 H2 σ' y s2 r2 => p m2 H2 σ' (x.trans y) s2 r2
  | brk e s => exact fun m2 H2 σ' y s2 r2 => p m2 H2 σ' (x.trans y) s2 r2
  | cont e s => exact fun m2 H2 σ' y s2 r2 => p m2 H2 σ' (x.trans y) s2 r2
  | ret d s => exact fun m2 H2 v y s2 r2 => p m2 H2 v (x.trans y) s2 r2
  | exc e env s => exact fun m2 H2 σ' c dd y s2 er r2 => p m2 H2 σ' c dd (x.trans y) s2 er r2
  | bad => exact p
theorem outE {f : Env → Sto → Res Mini.D} {k : Mini.D → Sto → Out} {C : VK} (s : SR (R.w hd) m st H) (er : ER (R.w hd) m st H σ env) (p : PostS (R.w hd) m st H ((f env st).out env k) D W)
    (hk : ∀ d st1 m1 H1 v, Ext m st H m1 st1 H1 → SR (R.w hd) m1 st1 H1 → ER (R.w hd) m1 st1 H1 σ env → Rep (R.w hd) m1 st1 H1 d v → PostS (R.w hd) m1 st1 H1 (k d st1) D W → C v H1) : tE R W f σ H C := by
  refine ⟨hd, m, env, st, s, er, ?_⟩
  cases e : f env st with
  | ok d st1 =>
    rw [e] at p
    exact fun m1 H1 v x s1 r1 => hk d st1 m1 H1 v x s1 (er.mono x) r1 (PostS.shift x p)
  | exc x st1 =>
    rw [e] at p
    exact fun m1 H1 c dd x s1 r1 => p m1 H1 σ c dd x s1 (er.mono x) r1
  | bad =>
    rw [e] at p
    exact p.elim
theorem outL {f : Env → Sto → Res (List Mini.D)} {k : List Mini.D → Sto → Out} {C : List V → Hp → Prop} (s : SR (R.w hd) m st H) (er : ER (R.w hd) m st H σ env) (p : PostS (R.w hd) m st H ((f env st).out env k) D W)
    (hk : ∀ d st1 m1 H1 v, Ext m st H m1 st1 H1 → SR (R.w hd) m1 st1 H1 → ER (R.w hd) m1 st1 H1 σ env → Reps (R.w hd) m1 st1 H1 d v → PostS (R.w hd) m1 st1 H1 (k d st1) D W → C v H1) : tA R W f σ H C := by
  refine ⟨hd, m, env, st, s, er, ?_⟩
  cases e : f env st with
  | ok d st1 =>
    rw [e] at p
    exact fun m1 H1 v x s1 r1 => hk d st1 m1 H1 v x s1 (er.mono x) r1 (PostS.shift x p)
  | exc x st1 =>
    rw [e] at p
    exact fun m1 H1 c dd x s1 r1 => p m1 H1 σ c dd x s1 (er.mono x) r1
  | bad =>
    rw [e] at p
    exact p.elim
theorem outT {f : Env → Sto → Res Bool} {k : Bool → Sto → Out} {C : Bool → Hp → Prop} (s : SR (R.w hd) m st H) (er : ER (R.w hd) m st H σ env) (p : PostS (R.w hd) m st H ((f env st).out env k) D W)
    (hk : ∀ d st1 m1 H1, Ext m st H m1 st1 H1 → SR (R.w hd) m1 st1 H1 → ER (R.w hd) m1 st1 H1 σ env → PostS (R.w hd) m1 st1 H1 (k d st1) D W → C d H1) : tT R W f σ H C := by
  refine ⟨hd, m, env, st, s, er, ?_⟩
  cases e : f env st with
  | ok d st1 =>
    rw [e] at p
    exact fun m1 H1 x s1 => hk d st1 m1 H1 x s1 (er.mono x) (PostS.shift x p)
  | exc x st1 =>
    rw [e] at p
    exact fun m1 H1 c dd x s1 r1 => p m1 H1 σ c dd x s1 (er.mono x) r1
  | bad =>
    rw [e] at p
    exact p.elim
theorem PostS.nx0 {env' : Env} {σ' : L2.St} (p : PostS R m st H (.nx env' st) D W) (s : SR R m st H) (e : ER R m st H σ' env') : D.nx σ' H := p m H σ' Ext.refl s e
theorem nxO_some {e : Option Env} (p : PostS R m st H (nxO e st) D W) : ∃ env', e = some env' ∧ PostS R m st H (.nx env' st) D W := by
  cases e with
  | none => exact p.elim
  | some e => exact ⟨e, rfl, p⟩
end
section
variable {X : Cx} {R : RC} {W : WX}
theorem pss_n : PSs X [] (tS R W fun env st => .nx env st) := PSs.imp pss_nil fun D σ H ⟨hd, m, env, st, s, er, p⟩ => p.nx0 s er
theorem pss_c {s : Stmt} {ss : List Stmt} {f g : Env → Sto → Out} (h : PS X s (tS R W f)) (t : PSs X ss (tS R W g)) : PSs X (s :: ss) (tS R W fun env st => (f env st).sq fun env st => g env st) := by
  refine PSs.imp (pss_cons h t) fun D σ H ⟨hd, m, env, st, s, er, p⟩ => ⟨hd, m, env, st, s, er, ?_⟩
  dsimp only at p
  cases e : f env st with
  | nx env' st' =>
    rw [e] at p
    exact fun m1 H1 σ1 x s1 er1 => ⟨hd, m1, env', st', s1, er1, PostS.shift x p⟩
  | brk env' st' =>
    rw [e] at p
    exact p
  | cont env' st' =>
    rw [e] at p
    exact p
  | ret d st' =>
    rw [e] at p
    exact p
  | exc x env' st' =>
    rw [e] at p
    exact p
  | bad =>
    rw [e] at p
    exact p.elim
theorem ps_passM {pos : Pos} : PS X (.Pass pos) (tS R W fun env st => .nx env st) := PS.imp ps_pass fun D σ H ⟨hd, m, env, st, s, er, p⟩ => p.nx0 s er
theorem ps_brkM {pos : Pos} : PS X (.Break pos) (tS R W fun env st => .brk env st) := PS.imp ps_break fun D σ H ⟨hd, m, env, st, s, er, p⟩ => p m H σ Ext.refl s er
theorem ps_contM {pos : Pos} : PS X (.Continue pos) (tS R W fun env st => .cont env st) := PS.imp ps_continue fun D σ H ⟨hd, m, env, st, s, er, p⟩ => p m H σ Ext.refl s er
/-- target = e -/
theorem asg_imp {t : Tg} {f : Env → Sto → Res Mini.D} {D : Ends} {σ : L2.St} {H : Hp} (h : tS R W (fun env st => (f env st).out env fun d st => nxO (setT t d env) st) D σ H) : tAsg (tE R W f) (gM R.K t) D σ H := by
  obtain ⟨hd, m, env, st, s, er, p⟩ := h
  refine outE s er p fun d st1 m1 H1 v x1 s1 er1 r1 p1 => ?_
  obtain ⟨env', e1, p2⟩ := nxO_some p1
  exact setT_ok (R := R.w hd) er1 r1 e1 fun σ' _ er2 => p2.nx0 s1 er2
theorem ps_asgM {tg e : Expr} {pos : Pos} {t : Tg} {f : Env → Sto → Res Mini.D} (he : PE X e (tE R W f)) (hg : PG X tg (gM R.K t)) (hs : swapsWithSole [tg] e pos.line X.env = pure false) (hw : swappedStores [tg] e X.env = pure none)
    (h1 : (assignEach [tg] X.env).map (·.2) = [assign tg X.env]) : PS X (.Assign [tg] e pos) (tS R W fun env st => (f env st).out env fun d st => nxO (setT t d env) st) := PS.imp (ps_asg he hg hs hw h1) fun _ _ _ h => asg_imp h
theorem ps_setM {i : Nat} {x : Str} {e : Expr} {pos pos' : Pos} {f : Env → Sto → Res Mini.D} (hN : X.N.Nodup) (hi : X.N[i]? = some x) (hx : Loc X.env.scope x) (he : PE X e (tE R W f)) (hs : swapsWith e (some (.Name x pos')) pos.line X.env = pure false)
    (hf : X.fn x = true ∨ X.env.scope.names.lookup x = some .local) : PS X (.Assign [.Name x pos'] e pos) (tS R W fun env st => (f env st).out env fun d st => nxO (setT (.nm i) d env) st) := PS.imp (ps_set hN hi hx he hs hf) fun _ _ _ h => asg_imp (t := .nm i) h
theorem ps_compM {i : Nat} {y : Str} {py : Pos} {e it : Expr} {tg : Expr} {ifs : List Expr} {scope : Scope} {own : List (Str × Nat)} {pos spos : Pos} {t : Tg} {fi : Env → Sto → Res (List Mini.D × List (Nat × List Mini.D))} {fc : Env → Sto → Res Bool} {fe : Env → Sto → Res Mini.D} {v : Bool}
    (hc : X.calm = true) (hN : X.N.Nodup) (hy : X.N[i]? = some y) (hyl : X.env.scope.names.lookup y = some .local) (hsw : swapsWith (.ListComp e [⟨tg, it, ifs, 0⟩] scope pos) (some (.Name y py)) spos.line X.env = pure true) (hi : PI X tg it (tI R W fi)) (ok : BlkOk X.N X.env.scope scope own)
    (hg : ∀ (s : Shared) (H : Hp) (C : Addr) (cl : List (Str × Addr)) (fp : List Addr), PG (X.blk s H scope (compEnvC scope cl C X.env) fp) tg (gM R.K t)) (ht : ∀ (s : Shared) (H : Hp) (C : Addr) (cl : List (Str × Addr)) (fp : List Addr), PTs (X.blk s H scope (compEnvC scope cl C X.env) fp) ifs (tT R W0 fc))
    (he : ∀ (s : Shared) (H : Hp) (C : Addr) (cl : List (Str × Addr)) (fp : List Addr), PE (X.blk s H scope (compEnvC scope cl C X.env) fp) e (tE R W0 fe)) (hs : ∀ x, foldedSetIterable it X.env x = pure x) (hsub : ∀ i ∈ slotsT t, i ∈ own.map (·.2)) :
    PS X (.Assign [.Name y py] (.ListComp e [⟨tg, it, ifs, 0⟩] scope pos) spos) (tS R W fun env st => (fComp v (own.map (·.2)) t fi fc fe env st).out env fun d st => nxO (setT (.nm i) d env) st) := by
  refine PS.imp (ps_setLc hc hN hy hyl hsw hi ok hg ht he hs) fun D σ H h => ?_
  exact comp_imp hsub (asg_imp (t := .nm i) h)
/-- a, b = x, y -/
theorem ps_parM {i j : Nat} {x y : Str} {a b : Expr} {px py pt : Pos} {kt k2 : Nat} {pt2 pos : Pos} {g : Env → Sto → Res (List Mini.D)} (hc : X.calm = true) (hN : X.N.Nodup) (hi : X.N[i]? = some x) (hj : X.N[j]? = some y) (hij : i ≠ j)
    (hx : X.env.scope.names.lookup x = some .local) (hy : X.env.scope.names.lookup y = some .local) (ha : PA X [a, b] (tA R W g)) (hw : swappedStores [.Tuple [.Name x px, .Name y py] kt pt] (.Tuple [a, b] k2 pt2) X.env = pure (some [x, y]))
    (hs : swapsWithSole [.Tuple [.Name x px, .Name y py] kt pt] (.Tuple [a, b] k2 pt2) pos.line X.env = pure false) :
    PS X (.Assign [.Tuple [.Name x px, .Name y py] kt pt] (.Tuple [a, b] k2 pt2) pos) (tS R W fun env st => (g env st).out env fun ds st => nxO (setN [i, j] ds env) st) := by
  refine PS.imp (ps_par hc hN hi hj hij hx hy ha hw hs) fun D σ H ⟨hd, m, env, st, s, er, p⟩ => ?_
  refine outL s er p fun ds st1 m1 H1 vs x1 s1 er1 r1 p1 => ?_
  obtain ⟨env', e1, p2⟩ := nxO_some p1
  rcases ds with _ | ⟨d, _ | ⟨d2, _ | ⟨d3, l⟩⟩⟩ <;> first | (cases e1; done) | skip
  cases e1
  obtain ⟨v, w, rfl, h1, h2⟩ := r1.two
  exact ⟨v, w, rfl, p2.nx0 s1 ((er1.set h1).set h2)⟩
theorem ps_parM3 {i j l : Nat} {x y z : Str} {a b c : Expr} {px py pz pt : Pos} {kt k2 : Nat} {pt2 pos : Pos} {g : Env → Sto → Res (List Mini.D)} (hc : X.calm = true) (hN : X.N.Nodup) (hi : X.N[i]? = some x) (hj : X.N[j]? = some y) (hl : X.N[l]? = some z) (hij : i ≠ j) (hil : i ≠ l) (hjl : j ≠ l)
    (hx : X.env.scope.names.lookup x = some .local) (hy : X.env.scope.names.lookup y = some .local) (hz : X.env.scope.names.lookup z = some .local) (ha : PA X [a, b, c] (tA R W g))
    (hw : swappedStores [.Tuple [.Name x px, .Name y py, .Name z pz] kt pt] (.Tuple [a, b, c] k2 pt2) X.env = pure (some [x, y, z])) (hs : swapsWithSole [.Tuple [.Name x px, .Name y py, .Name z pz] kt pt] (.Tuple [a, b, c] k2 pt2) pos.line X.env = pure false) :
    PS X (.Assign [.Tuple [.Name x px, .Name y py, .Name z pz] kt pt] (.Tuple [a, b, c] k2 pt2) pos) (tS R W fun env st => (g env st).out env fun ds st => nxO (setN [i, j, l] ds env) st) := by
  refine PS.imp (ps_par3 hc hN hi hj hl hij hil hjl hx hy hz ha hw hs) fun D σ H ⟨hd, m, env, st, s, er, p⟩ => ?_
  refine outL s er p fun ds st1 m1 H1 vs x1 s1 er1 r1 p1 => ?_
  obtain ⟨env', e1, p2⟩ := nxO_some p1
  rcases ds with _ | ⟨d, _ | ⟨d2, _ | ⟨d3, _ | ⟨d4, l⟩⟩⟩⟩ <;> first | (cases e1; done) | skip
  cases e1
  obtain ⟨v, w, u, rfl, h1, h2, h3⟩ := r1.three
  exact ⟨v, w, u, rfl, p2.nx0 s1 (((er1.set h1).set h2).set h3)⟩
/-- o[i] = e -/
theorem setIx_ok {m : List Addr} {st st' : Sto} {H : Hp} {o i d : Mini.D} {ov iv v : V} {Q : Hp → Prop} (s : SR R m st H) (ro : Rep R m st H o ov) (ri : Rep R m st H i iv) (rd : Rep R m st H d v) (h : setIx o i d st = some st')
    (k : ∀ H', Ext m st H m st' H' → SR R m st' H' → Q H') : rSetL ov iv v H Q := by
  unfold setIx at h
  split at h
  · rename_i n k'
    split at h
    · rename_i xs e
      obtain ⟨j, hj, rfl⟩ := map_some h
      obtain ⟨a, rfl, ha⟩ := rep_ref ro
      obtain rfl := ri.inj_int
      obtain ⟨vs, h1, h2⟩ := s.obj n a xs ha e
      exact ⟨a, vs, k', j, rfl, rfl, h1, by rw [← h2.length]; exact hj, k _ (Ext.set ha e) (s.set ha e (h2.set j rd))⟩
    · cases h
  · cases h
theorem ps_asgIxM {o i e : Expr} {pos pos' : Pos} {fo fi fe : Env → Sto → Res Mini.D} (ho : PE X o (tE R W fo)) (hi : PE X i (tE R W fi)) (he : PE X e (tE R W fe)) (hg : PG X (.Subscript o i pos') (gSub (tE R W fo) (tE R W fi) rSetL))
    (hs : swapsWithSole [.Subscript o i pos'] e pos.line X.env = pure false) (hw : swappedStores [.Subscript o i pos'] e X.env = pure none) (h1 : (assignEach [.Subscript o i pos'] X.env).map (·.2) = [assign (.Subscript o i pos') X.env]) :
    PS X (.Assign [.Subscript o i pos'] e pos) (tS R W fun env st => (fe env st).out env fun d st => (fo env st).out env fun x st => (fi env st).out env fun y st => match setIx x y d st with
      | some st => .nx env st
      | none => .bad) := by
  refine PS.imp (ps_asg he hg hs hw h1) fun D σ H ⟨hd, m, env, st, s, er, p⟩ => ?_
  refine outE s er p fun d st1 m1 H1 v x1 s1 er1 r1 p1 => ?_
  refine outE s1 er1 p1 fun od st2 m2 H2 ov x2 s2 er2 r2 p2 => ?_
  refine outE s2 er2 p2 fun id st3 m3 H3 iv x3 s3 er3 r3 p3 => ?_
  cases e4 : setIx od id d st3 with
  | none =>
    rw [e4] at p3
    exact p3.elim
  | some st4 =>
    rw [e4] at p3
    exact setIx_ok s3 (Rep.mono x3 _ _ r2) r3 (Rep.mono x3 _ _ (Rep.mono x2 _ _ r1)) e4 fun H4 x4 s4 => p3 m3 H4 σ x4 s4 (er3.mono x4)
/-- an expression alone -/
theorem ps_exM {e : Expr} {pos : Pos} {f : Env → Sto → Res Mini.D} (he : PE X e (tE R W f)) (hs : swapsWith e none pos.line X.env = pure false) : PS X (.Expr e pos) (tS R W fun env st => (f env st).out env fun _ st => .nx env st) := by
  refine PS.imp (ps_expr he hs) fun D σ H ⟨hd, m, env, st, s, er, p⟩ => ?_
  exact outE s er p fun d st1 m1 H1 v x1 s1 er1 r1 p1 => p1.nx0 s1 er1
theorem ps_retM {e : Expr} {pos : Pos} {fz : Bool} {f : Env → Sto → Res Mini.D} (he : PE X e (tE R W f)) : PS X (.Return (some e) pos) (tS R W fun env st => (f env st).out env fun d st => frz fz d st) := by
  refine PS.imp (ps_ret he) fun D σ H ⟨hd, m, env, st, s, er, p⟩ => ?_
  refine outE s er p fun d st1 m1 H1 v x1 s1 er1 r1 p1 => ?_
  have same : PostS (R.w hd) m1 st1 H1 (.ret d st1) D W → D.rt v H1 := fun p => p m1 H1 v Ext.refl s1 r1
  unfold frz at p1
  split at p1
  · split at p1
    · rename_i n
      split at p1
      · rename_i xs e
        obtain ⟨a, rfl, ha⟩ := rep_ref r1
        obtain ⟨vs, h1, h2⟩ := s1.obj n a xs ha e
        exact p1 m1 H1 _ Ext.kill s1.kill (.lst h1 (NL.kill s1 ha e) (Reps.mono Ext.kill _ _ h2))
      · exact p1.elim
    · exact same p1
  · exact same p1
theorem ps_retNM {pos : Pos} : PS X (.Return none pos) (tS R W fun _ st => .ret .non st) := PS.imp ps_retN fun D σ H ⟨hd, m, env, st, s, er, p⟩ => p m H _ Ext.refl s .non
theorem ps_ifM {c : Expr} {a b : List Stmt} {pos : Pos} {f : Env → Sto → Res Bool} {g h : Env → Sto → Out} (hc : PT X c (tT R W f)) (ha : PSs X a (tS R W g)) (hb : PSs X b (tS R W h)) :
    PS X (.If c a b pos) (tS R W fun env st => (f env st).out env fun x st => if x = true then g env st else h env st) := by
  refine PS.imp (ps_if hc ha hb) fun D σ H ⟨hd, m, env, st, s, er, p⟩ => ?_
  refine outT s er p fun d st1 m1 H1 x1 s1 er1 p1 => ?_
  cases d with
  | true => exact ⟨hd, m1, env, st1, s1, er1, p1⟩
  | false => exact ⟨hd, m1, env, st1, s1, er1, p1⟩
/-- name op= e -/
theorem ps_augM {p : Pr} {op : Operator} {r : R2} {i : Nat} {x : Str} {e : Expr} {pos pos' : Pos} {f : Env → Sto → Res Mini.D} (sm : ∀ hd, Sim (R.w hd) p (l2 r)) (ho : OpR X (inplaceOp op) r) (hN : X.N.Nodup) (hi : X.N[i]? = some x) (hx : Loc X.env.scope x) (he : PE X e (tE R W f))
    (hf : X.fn x = true ∨ X.env.scope.names.lookup x = some .local) : PS X (.AugAssign (.Name x pos') op e pos) (tS R W fun env st => match getV env i with
      | some x => (f env st).out env fun y st => (liftP (prim p [x, y] st)).out env fun z st => .nx (env.set i (some z)) st
      | none => .bad) := by
  refine PS.imp (ps_aug hN hi hx he ho hf) fun D σ H ⟨hd, m, env, st, s, er, q⟩ => ?_
  dsimp only at q
  cases e1 : getV env i with
  | none =>
    rw [e1] at q
    exact q.elim
  | some d0 =>
    rw [e1] at q
    have e2 : env[i]? = some (some d0) := by
      unfold getV at e1
      cases z : env[i]? with
      | none =>
        rw [z] at e1
        cases e1
      | some o =>
        rw [z] at e1
        cases o with
        | none => cases e1
        | some y =>
          cases e1
          rfl
    obtain ⟨v0, h1, h2⟩ := er.2 i d0 e2
    refine ⟨v0, h1, ?_⟩
    refine outE s er q fun d st1 m1 H1 v x1 s1 er1 r1 p1 => ?_
    obtain ⟨a, b, e3, z⟩ := sm hd m1 st1 H1 [d0, d] [v0, v] (fun z H2 => D.nx (σ.set i (some z)) H2) s1 (.cons (Rep.mono x1 _ _ h2) (.cons r1 .nil)) (by
      cases e4 : prim p [d0, d] st1 with
      | none =>
        rw [e4] at p1
        exact p1.elim
      | some w =>
        obtain ⟨c, st2⟩ := w
        rw [e4] at p1
        exact fun m2 H2 u x2 s2 r2 => p1 m2 H2 _ x2 s2 ((er1.mono x2).set r2))
    cases e3
    exact z
end
end Mini
end
section
set_option linter.all false
set_option autoImplicit false
set_option maxRecDepth 100000
set_option maxHeartbeats 1000000
/-! Loops. -/
namespace Mini
open PySem PySem.Spec PyProof.Rows L2
section
variable {X : Cx} {R : RC} {W : WX}
theorem while_imp {c : Env → Sto → Res Bool} {b : Env → Sto → Out} {D : Ends} {σ : L2.St} {H : Hp} (h : tS R W (loopW c b) D σ H) : tWhile (tT R W c) (tS R W b) D σ H := by
  obtain ⟨hd, m, env, st, s, er, p⟩ := h
  unfold loopW at p
  split at p
  · rename_i hn
    refine ⟨fun k σ H => tS R W (loopN c b k) D σ H, ⟨hn.choose, hd, m, env, st, s, er, p⟩, ?_⟩
    rintro k σ H ⟨hd, m, env, st, s, er, p⟩
    cases k with
    | zero => exact p.elim
    | succ k =>
      unfold loopN at p
      refine ⟨hd, m, env, st, s, er, ?_⟩
      cases e : c env st with
      | ok x st1 =>
        rw [e] at p
        intro m1 H1 x1 s1
        cases x with
        | false => exact p m1 H1 σ x1 s1 (er.mono x1)
        | true =>
          rw [if_pos rfl]
          refine ⟨fun σ' H' => tS R W (loopN c b k) D σ' H', fun σ' H' h => ⟨k, Nat.lt_succ_self k, h⟩, hd, m1, env, st1, s1, er.mono x1, ?_⟩
          dsimp only at p
          have p := PostS.shift x1 p
          cases eb : b env st1 with
          | nx env' st' =>
            rw [eb] at p
            exact fun m2 H2 σ2 x2 s2 er2 => ⟨hd, m2, env', st', s2, er2, PostS.shift x2 p⟩
          | cont env' st' =>
            rw [eb] at p
            exact fun m2 H2 σ2 x2 s2 er2 => ⟨hd, m2, env', st', s2, er2, PostS.shift x2 p⟩
          | brk env' st' =>
            rw [eb] at p
            exact p
          | ret d st' =>
            rw [eb] at p
            exact p
          | exc x env' st' =>
            rw [eb] at p
            exact p
          | bad =>
            rw [eb] at p
            exact p.elim
      | exc x st1 =>
        rw [e] at p
        exact fun m1 H1 cc dd x1 s1 r1 => p m1 H1 σ cc dd x1 s1 (er.mono x1) r1
      | bad =>
        rw [e] at p
        exact p.elim
  · exact p.elim
theorem ps_whileM {c : Expr} {body : List Stmt} {pos : Pos} {fc : Env → Sto → Res Bool} {fb : Env → Sto → Out} (hp : PassesOwn (model X.prog X.w) X.A X.env X.xe) (hc : PT X c (tT R W fc)) (hb : PSs X body (tS R W fb)) :
    PS X (.While c body [] pos) (tS R W fun env st => loopW fc fb env st) := PS.imp (ps_while hp hc hb) fun _ _ _ h => while_imp h
theorem for_imp {t : Tg} {fi : Env → Sto → Res (List Mini.D × List (Nat × List Mini.D))} {b : Env → Sto → Out} {D : Ends} {σ : L2.St} {H : Hp} (h : tS R W (fun env st => (fi env st).out env fun ig st => forL ig.2 t b ig.1 env st) D σ H) :
    tFor (tI R W fi) (gM R.K t) (tS R W b) D σ H := by
  obtain ⟨hd, m, env, st, s, er, p⟩ := h
  refine ⟨hd, m, env, st, s, er, ?_⟩
  dsimp only at p
  cases e1 : fi env st with
  | bad =>
    rw [e1] at p
    exact p.elim
  | exc x st1 =>
    rw [e1] at p
    exact fun m1 H1 c dd x1 s1 r1 => p m1 H1 σ c dd x1 s1 (er.mono x1) r1
  | ok ig st1 =>
    rw [e1, out_ok] at p
    obtain ⟨ds, g⟩ := ig
    dsimp only at p ⊢
    intro m1 H1 J x1 s1 wk
    have hok : HidOk (R.w hd).hid hd H1 := fun a ha => .inl ha
    refine ⟨fun i k σ' H' => i ≤ ds.length ∧ k = ds.length - i ∧ ∃ m2 env2 st2, Ext m1 st1 H1 m2 st2 H' ∧ SR (R.w hd) m2 st2 H' ∧ ER (R.w hd) m2 st2 H' σ' env2 ∧ PostS (R.w hd) m2 st2 H' (forL g t b (ds.drop i) env2 st2) D W,
      ⟨_, Nat.zero_le _, rfl, m1, env, st1, Ext.refl, s1, er.mono x1, PostS.shift x1 p⟩, ?_⟩
    rintro i k σ' H' ⟨hi, rfl, m2, env2, st2, x2, s2, er2, p2⟩
    cases hd0 : ds.drop i with
    | nil =>
      rw [hd0] at p2
      unfold forL at p2
      split at p2
      · rename_i hsrc
        have hlen : i = ds.length := by
          have := List.drop_eq_nil_iff.mp hd0
          omega
        subst hlen
        exact .inl ⟨(wk hd m2 st2 H' hok x2 s2 hsrc).2.1, p2.nx0 s2 er2⟩
      · exact p2.elim
    | cons d rest =>
      rw [hd0] at p2
      unfold forL at p2
      split at p2
      · rename_i hsrc
        have hlt : i < ds.length := by
          have : (ds.drop i).length = (d :: rest).length := by rw [hd0]
          rw [List.length_drop, List.length_cons] at this
          omega
        have hget : ds[i]? = some d := by
          have : (ds.drop i)[0]? = some d := by rw [hd0]; rfl
          rw [List.getElem?_drop] at this
          simpa using this
        have hrest : ds.drop (i + 1) = rest := by
          have : (ds.drop i).drop 1 = rest := by rw [hd0]; rfl
          rw [List.drop_drop] at this
          exact this
        have w2 := wk hd m2 st2 H' hok x2 s2 hsrc
        refine .inr ⟨w2.1 i hlt, fun σ'' H'' => (i + 1) ≤ ds.length ∧ ∃ m2 env2 st2, Ext m1 st1 H1 m2 st2 H'' ∧ SR (R.w hd) m2 st2 H'' ∧ ER (R.w hd) m2 st2 H'' σ'' env2 ∧ PostS (R.w hd) m2 st2 H'' (forL g t b (ds.drop (i + 1)) env2 st2) D W,
          fun σ'' H'' ⟨h1, h2⟩ => ⟨ds.length - (i + 1), by omega, h1, rfl, h2⟩, fun y H3 hy => ?_⟩
        obtain ⟨d', e2, x3, s3, r3⟩ := w2.2.2 i y H3 hlt hy
        rw [hget] at e2
        cases e2
        cases et : setT t d env2 with
        | none =>
          rw [et] at p2
          exact p2.elim
        | some env3 =>
          rw [et] at p2
          dsimp only at p2
          refine setT_ok (R := R.w hd) (er2.mono x3) r3 et fun σ3 _ er3 => ⟨hd, m2, env3, st2, s3, er3, ?_⟩
          have p3 := PostS.shift x3 p2
          cases eb : b env3 st2 with
          | nx env' st' =>
            rw [eb] at p3
            refine fun m4 H4 σ4 x4 s4 er4 => ⟨hlt, m4, env', st', (x2.trans x3).trans x4, s4, er4, ?_⟩
            rw [hrest]
            exact PostS.shift x4 p3
          | cont env' st' =>
            rw [eb] at p3
            refine fun m4 H4 σ4 x4 s4 er4 => ⟨hlt, m4, env', st', (x2.trans x3).trans x4, s4, er4, ?_⟩
            rw [hrest]
            exact PostS.shift x4 p3
          | brk env' st' =>
            rw [eb] at p3
            exact p3
          | ret d st' =>
            rw [eb] at p3
            exact p3
          | exc x env' st' =>
            rw [eb] at p3
            exact p3
          | bad =>
            rw [eb] at p3
            exact p3.elim
      · exact p2.elim
theorem ps_forM {tg iter : Expr} {body : List Stmt} {pos : Pos} {t : Tg} {fi : Env → Sto → Res (List Mini.D × List (Nat × List Mini.D))} {fb : Env → Sto → Out} (hp : PassesOwn (model X.prog X.w) X.A X.env X.xe) (hc : X.calm = true) (hi : PI X tg iter (tI R W fi)) (hg : PG X tg (gM R.K t))
    (hb : PSs X body (tS R W fb)) (hs : ∀ x, foldedSetIterable iter X.env x = pure x) : PS X (.For tg iter body [] pos) (tS R W fun env st => (fi env st).out env fun ig st => forL ig.2 t fb ig.1 env st) :=
  PS.imp (ps_for hp hc hi hg hb hs) fun _ _ _ h => for_imp h
/-! raise -/
def tM (R : RC) (cs : Clss) (c : Nat) (g : Env → Sto → Res (List Mini.D)) : L2.St → Hp → XK → Prop := fun σ H Q => ∃ hd m env st, SR (R.w hd) m st H ∧ ER (R.w hd) m st H σ env ∧ match g env st with
  | .ok ds st' => ∃ k fs, cs[c]? = some k ∧ numOk k ds = true ∧ zipF k.flds ds = some fs ∧ ∀ m' H' cv dd, Ext m st H m' st' H' → SR (R.w hd) m' st' H' → XRep (R.w hd) m' st' H' ⟨c, fs⟩ cv dd → Q cv dd H'
  | _ => False
theorem ps_raiseM {cs : Clss} {c : Nat} {e : Expr} {pos : Pos} {g : Env → Sto → Res (List Mini.D)} {t : L2.St → Hp → XK → Prop} (hc : X.calm = true) (tk : Takes X W) (he : PMk X e t) (ht : ∀ σ H Q, tM R cs c g σ H Q → t σ H Q) :
    PS X (.Raise (some e) none pos) (tS R W fun env st => (noExc (g env st)).out env fun ds st => match cs[c]? with
      | some k => if numOk k ds = true then match zipF k.flds ds with
          | some fs => .exc ⟨c, fs⟩ env st
          | none => .bad
        else .bad
      | none => .bad) := by
  refine PS.imp (ps_raise hc tk he) fun D σ H ⟨hd, m, env, st, s, er, p⟩ => ht _ _ _ ⟨hd, m, env, st, s, er, ?_⟩
  dsimp only at p
  cases e1 : g env st with
  | bad =>
    rw [e1] at p
    exact p.elim
  | exc x st1 =>
    rw [e1] at p
    exact p.elim
  | ok ds st1 =>
    rw [e1] at p
    unfold noExc at p
    rw [out_ok] at p
    split at p
    · rename_i k ek
      split at p
      · rename_i en
        split at p
        · rename_i fs ef
          exact ⟨k, fs, ek, en, ef, fun m1 H1 cv dd x1 s1 r1 => p m1 H1 σ cv dd x1 s1 (er.mono x1) r1⟩
        · exact p.elim
      · exact p.elim
    · exact p.elim
/-- a class without fields: whatever it is told is not kept -/
theorem tM_none {cs : Clss} {c : Nat} {C : Addr} {k : Cls} (hk : cs[c]? = some k) (hf : k.flds = []) (hC : R.ca c = some C) {σ : L2.St} {H : Hp} {Q : XK} (h : tM R cs c (fun _ st => .ok [] st) σ H Q) : Q (.ref C) none H := by
  obtain ⟨hd, m, env, st, s, er, k', fs, e1, en, e2, q⟩ := h
  rw [hk] at e1
  cases e1
  rw [hf] at e2
  cases e2
  exact q m H _ _ Ext.refl s ⟨C, hC, rfl, .inl ⟨rfl, rfl⟩⟩
end
end Mini
end
section
set_option linter.all false
set_option autoImplicit false
set_option maxRecDepth 100000
set_option maxHeartbeats 1000000
/-! try. -/
namespace Mini
open PySem PySem.Spec PyProof.Rows L2
/-- what an except suite is to reach, the exception standing at a -/
def tH (R : RC) (he : He) (io : Option Nat) (a : Addr) (cls : Value) (dd : Option Addr) : TS := fun D σ H => (∀ i, io = some i → σ[i]? = some (some (.ref a))) ∧ ∃ hd m st x d, SR (R.w hd) m st H ∧ XRep (R.w hd) m st H x cls dd ∧ evH x he = some d ∧
  ∀ m' H' v, Ext m st H m' st H' → SR (R.w hd) m' st H' → Rep (R.w hd) m' st H' d v → D.rt v H'
def SuiteOK (X : Cx) (R : RC) (he : He) (io : Option Nat) (suite : List Stmt) : Prop := ∀ (a : Addr) (oe : Obj) (cls : Value) (dd : Option Addr) (pn : List (Addr × Obj)), Zc cls dd oe → (∃ vs, oe.data = .fields vs) → PSs (X.suite a ((a, oe) :: pn)) suite (tH R he io a cls dd)
/-- an exception of ours by the class that a clause names -/
def ClsOK (R : RC) (cs : Clss) (c : Nat) (cv : Value) : Prop := ∀ x C, R.ca x = some C → PySem.W.exmOne R.K (.ref C) cv = some (isA cs x c)
inductive HsOK (X : Cx) (R : RC) (cs : Clss) : List ExceptHandler → List Hd → List (Value × (Addr → Value → Option Addr → TS)) → Prop
  | nil : HsOK X R cs [] [] []
  | cons {x : Str} {cv : Value} {c : Nat} {he : He} {b₀ : Stmt} {suite : List Stmt} {np pos' : Pos} {hds : List ExceptHandler} {hs : List Hd} {l : List (Value × (Addr → Value → Option Addr → TS))} (hc : Names X x cv) (ck : ClsOK R cs c cv)
      (hsu : SuiteOK X R he none (b₀ :: suite)) (r : HsOK X R cs hds hs l) : HsOK X R cs (.ExceptHandler (some (.Name x np)) none (b₀ :: suite) pos' :: hds) (.on c none he :: hs) ((cv, tH R he none) :: l)
section
variable {X : Cx} {R : RC} {W : WX} {cs : Clss}
theorem HsOK.hds {hds : List ExceptHandler} {hs : List Hd} {l : List (Value × (Addr → Value → Option Addr → TS))} (h : HsOK X R cs hds hs l) : HdsOk X hds l := by
  induction h with
  | nil => exact .nil
  | cons hc ck hsu r ih => exact .cons hc (fun a oe cls d pn z f => hsu a oe cls d pn z f) ih
theorem hands_many (hx : R.K = X.K) {hds : List ExceptHandler} {hs : List Hd} {l : List (Value × (Addr → Value → Option Addr → TS))} (h : HsOK X R cs hds hs l) {D : Ends} {x : Exc} {env : Env} {st : Sto} {hd : List Addr} {m : List Addr} {H : Hp} {σ : L2.St} {cls : Value} {dd : Option Addr}
    (s : SR (R.w hd) m st H) (er : ER (R.w hd) m st H σ env) (xr : XRep (R.w hd) m st H x cls dd) (p : PostS (R.w hd) m st H (hands cs x hs env st) D W) : wMany X.K W D l cls dd σ H := by
  induction h with
  | nil => exact p m H σ cls dd Ext.refl s er xr
  | @cons nm cv c he b₀ suite np pos' hds hs l hc ck hsu r ih =>
    obtain ⟨C, h1, rfl, h3⟩ := id xr
    refine ⟨isA cs x.cls c, by rw [← hx]; exact ck _ _ h1, fun e a ha => ?_, fun e => ?_⟩
    · unfold hands at p
      rw [if_pos e] at p
      have hs2 : slotOk none env = true := rfl
      rw [if_pos hs2] at p
      cases e2 : evH x he with
      | none =>
        rw [e2] at p
        exact p.elim
      | some d =>
        rw [e2] at p
        exact ⟨fun i z => (nomatch z), hd, m, st, x, d, s, xr, e2, fun m' H' v x1 s1 r1 => p m' H' v x1 s1 r1⟩
    · unfold hands at p
      rw [if_neg (by rw [e]; exact Bool.false_ne_true)] at p
      exact ih p
theorem try_imp (hx : R.K = X.K) {hds : List ExceptHandler} {hs : List Hd} {l : List (Value × (Addr → Value → Option Addr → TS))} (h : HsOK X R cs hds hs l) {f : Env → Sto → Out} {D : Ends} {σ : L2.St} {H : Hp}
    (q : tS R W (fun env st => (f env st).tr fun x env st => hands cs x hs env st) D σ H) : tS R (wMany X.K W D l) f D σ H := by
  obtain ⟨hd, m, env, st, s, er, p⟩ := q
  refine ⟨hd, m, env, st, s, er, ?_⟩
  dsimp only at p
  cases e : f env st with
  | exc x env' st' =>
    rw [e] at p
    exact fun m1 H1 σ1 c dd x1 s1 er1 r1 => hands_many hx h s1 er1 r1 (PostS.shift x1 p)
  | nx env' st' =>
    rw [e] at p
    exact p
  | brk env' st' =>
    rw [e] at p
    exact p
  | cont env' st' =>
    rw [e] at p
    exact p
  | ret d st' =>
    rw [e] at p
    exact p
  | bad =>
    rw [e] at p
    exact p
theorem ps_tryM {body : List Stmt} {h₀ : ExceptHandler} {hds : List ExceptHandler} {hs : List Hd} {l : List (Value × (Addr → Value → Option Addr → TS))} {pos : Pos} {f : Env → Sto → Out} (hx : R.K = X.K) (hst : X.stack = X.env :: X.outer) (hf : X.env.frame = some X.env.locals) (tk : Takes X W)
    (hb : ∀ (W : WX) (pn : List (Addr × Obj)) (xe : Value → Shared → Prop), Takes (X.tr pn xe) W → PassesOwn (model X.prog X.w) X.A X.env xe → PSs (X.tr pn xe) body (tS R W f)) (hh : HsOK X R cs (h₀ :: hds) hs l) :
    PS X (.Try body (h₀ :: hds) [] [] pos) (tS R W fun env st => (f env st).tr fun x env st => hands cs x hs env st) :=
  PS.imp (ps_try_many hst hf tk hb hh.hds) fun _ _ _ h => try_imp hx hh h
theorem hands_as (hx : R.K = X.K) {cv : Value} {c i : Nat} {he : He} (ck : ClsOK R cs c cv) {D : Ends} {x : Exc} {env : Env} {st : Sto} {hd : List Addr} {m : List Addr} {H : Hp} {σ : L2.St} {cls : Value} {dd : Option Addr}
    (s : SR (R.w hd) m st H) (er : ER (R.w hd) m st H σ env) (xr : XRep (R.w hd) m st H x cls dd) (p : PostS (R.w hd) m st H (hands cs x [.on c (some i) he] env st) D W) : wAs X.K cv i (tH R he (some i)) W D cls dd σ H := by
  obtain ⟨C, h1, rfl, h3⟩ := id xr
  refine ⟨isA cs x.cls c, by rw [← hx]; exact ck _ _ h1, fun e a ha => ?_, fun e => ?_⟩
  · unfold hands at p
    rw [if_pos e] at p
    split at p
    · rename_i hs2
      have hlt : i < env.length := of_decide_eq_true hs2
      cases e2 : evH x he with
      | none =>
        rw [e2] at p
        exact p.elim
      | some d =>
        rw [e2] at p
        exact ⟨fun j z => by
          cases z
          exact List.getElem?_set_self (by rw [← er.1]; exact hlt), hd, m, st, x, d, s, xr, e2, fun m' H' v x1 s1 r1 => p m' H' v x1 s1 r1⟩
    · exact p.elim
  · unfold hands at p
    rw [if_neg (by rw [e]; exact Bool.false_ne_true)] at p
    exact p m H σ _ dd Ext.refl s er xr
theorem ps_tryAsM {body suite : List Stmt} {b₀ : Stmt} {x n : Str} {cv : Value} {c i : Nat} {he : He} {np pos' pos : Pos} {f : Env → Sto → Out} (hx : R.K = X.K) (hst : X.stack = X.env :: X.outer) (hf : X.env.frame = some X.env.locals) (tk : Takes X W)
    (hN : X.N.Nodup) (hi : X.N[i]? = some n) (hln : X.env.kindOf n = some .local) (hc : Names X x cv) (ck : ClsOK R cs c cv) (hsu : SuiteOK X R he (some i) (b₀ :: suite))
    (hb : ∀ (W : WX) (pn : List (Addr × Obj)) (xe : Value → Shared → Prop), Takes (X.tr pn xe) W → PassesOwn (model X.prog X.w) X.A X.env xe → PSs (X.tr pn xe) body (tS R W f)) :
    PS X (.Try body [.ExceptHandler (some (.Name x np)) (some n) (b₀ :: suite) pos'] [] [] pos) (tS R W fun env st => (f env st).tr fun x env st => hands cs x [.on c (some i) he] env st) := by
  refine PS.imp (ps_try_as hst hf hN hi hln hc tk hb hsu) fun D σ H q => ?_
  obtain ⟨hd, m, env, st, s, er, p⟩ := q
  refine ⟨hd, m, env, st, s, er, ?_⟩
  dsimp only at p
  cases e : f env st with
  | exc x env' st' =>
    rw [e] at p
    exact fun m1 H1 σ1 c dd x1 s1 er1 r1 => hands_as hx ck s1 er1 r1 (PostS.shift x1 p)
  | nx env' st' =>
    rw [e] at p
    exact p
  | brk env' st' =>
    rw [e] at p
    exact p
  | cont env' st' =>
    rw [e] at p
    exact p
  | ret d st' =>
    rw [e] at p
    exact p
  | bad =>
    rw [e] at p
    exact p
/-! ### suites -/
/-- return a constant -/
theorem suite_lit {d : Mini.D} {v : V} {io : Option Nat} {e : Expr} {pos : Pos} (he : ∀ a pn, PE (X.suite a pn) e (tC v)) (r : ∀ hd m st H, Rep (R.w hd) m st H d v) : SuiteOK X R (.lit d) io [.Return (some e) pos] := by
  intro a oe cls dd pn z hf
  refine PSs.imp (pss_cons (ps_ret (he a _)) pss_nil) fun D σ H ⟨_, hd, m, st, x, d', s, xr, e1, k⟩ => ?_
  cases e1
  exact k m H v Ext.refl s (r _ _ _ _)
theorem suite_nil {io : Option Nat} {pos pos' : Pos} : SuiteOK X R .nilL io [.Return (some (.List [] pos')) pos] := by
  intro a oe cls dd pn z hf
  refine PSs.imp (pss_cons (ps_ret (pe_lst pa_nil)) pss_nil) fun D σ H ⟨_, hd, m, st, x, d', s, xr, e1, k⟩ => ?_
  cases e1
  exact ⟨by simp, fun q hq => k m _ _ (Ext.new hq) (s.new hq) (.lst upd_same (s.notLive hq) .nil)⟩
/-- err.f in a suite -/
theorem suite_fld {c i : Nat} {f n : Str} {C : Addr} {q0 q1 : Pos} {a : Addr} {oe : Obj} {cls : Value} {dd : Option Addr} {pn : List (Addr × Obj)} (hC : R.ca c = some C) (T : XfC X.K C) (hno : PySem.W.findIn X.K (.ref C) f = some none) (hi : X.N[i]? = some n) (hv : Vis X.env.scope n)
    (hd1 : (n == ("__debug__" : Str)) = false) (hd2 : (n == ("__classdict__" : Str)) = false) (z : Zc cls dd oe) (hf : ∃ vs, oe.data = .fields vs) (hb : attributeBase (.Name n q0) f X.env (eval (.Name n q0) X.env) = eval (.Name n q0) X.env) :
    PE (X.suite a ((a, oe) :: pn)) (.Attribute (.Name n q0) f q1) (tXf a cls dd C f (tVar i)) := pe_xf T hno z hf (pe_var hi hv hd1 hd2) hb
theorem xf_of {c : Nat} {f : Str} {C : Addr} {s : Bool} {pre post : Chs} {x : Exc} {d : Mini.D} {m : List Addr} {st : Sto} {H : Hp} {cls : Value} {dd : Option Addr} (hC : R.ca c = some C) (xr : XRep R m st H x cls dd) (h : evH x (.fld c f s pre post) = some d) :
    cls = .ref C ∧ ∃ (d0 : Mini.D) (a : Chs) (da : Addr) (gs : List (Str × V)) (v : V), (if s then strD d0 else some d0) = some (.str a) ∧ pre.length + a.length + post.length ≤ sizeLine ∧ d = .str (pre ++ a ++ post) ∧ dd = some da ∧ H da = some (.xd gs) ∧ gs.lookup f = some v ∧ Rep R m st H d0 v := by
  obtain ⟨C', h1, rfl, h3⟩ := xr
  simp only [evH] at h
  split at h
  · rename_i e0
    rw [e0, hC] at h1
    cases h1
    refine ⟨rfl, ?_⟩
    split at h
    · rename_i g d0 ef
      split at h
      · rename_i eg
        subst eg
        split at h
        · rename_i a ea
          split at h
          · rename_i hl
            cases h
            rcases h3 with ⟨h4, _⟩ | ⟨da, gs, rfl, h5, h6, h7⟩
            · rw [h4] at ef
              cases ef
            · rw [ef] at h7
              cases h7 with
              | cons r t =>
                cases t
                exact ⟨d0, a, da, _, _, ea, hl, rfl, rfl, h5, by simp [List.lookup], r⟩
          · cases h
        · cases h
      · cases h
    · cases h
  · cases h
/-- return err.f -/
theorem suite_f0 {c i : Nat} {f n : Str} {C : Addr} {q0 q1 pos : Pos} (hC : R.ca c = some C) (T : XfC X.K C) (hno : PySem.W.findIn X.K (.ref C) f = some none) (hi : X.N[i]? = some n) (hv : Vis X.env.scope n)
    (hd1 : (n == ("__debug__" : Str)) = false) (hd2 : (n == ("__classdict__" : Str)) = false) (hb : attributeBase (.Name n q0) f X.env (eval (.Name n q0) X.env) = eval (.Name n q0) X.env) :
    SuiteOK X R (.fld c f false [] []) (some i) [.Return (some (.Attribute (.Name n q0) f q1)) pos] := by
  intro a oe cls dd pn z hf
  refine PSs.imp (pss_cons (ps_ret (suite_fld hC T hno hi hv hd1 hd2 z hf hb)) pss_nil) fun D σ H ⟨hi, hd, m, st, x, d', s, xr, e1, k⟩ => ?_
  obtain ⟨rfl, d0, t, da, gs, v, h1, h2, rfl, rfl, h5, h6, h7⟩ := xf_of (R := R.w hd) hC xr e1
  cases h1
  refine ⟨_, hi i rfl, rfl, rfl, da, gs, v, rfl, h5, h6, ?_⟩
  exact k m H v Ext.refl s (by simpa using h7)
/-- return pre + str(err.f) + post -/
theorem suite_f3 {c i : Nat} {f n : Str} {C : Addr} {q0 q1 q2 q3 q4 q5 q6 q7 pos : Pos} {j1 j2 : Nat} {pre post : Chs} {p1 p2 : Str} (ep1 : p1 = ⟨pre.toArray⟩) (ep2 : p2 = ⟨post.toArray⟩) (hC : R.ca c = some C) (T : XfC X.K C) (hno : PySem.W.findIn X.K (.ref C) f = some none) (hi : X.N[i]? = some n) (hv : Vis X.env.scope n)
    (hd1 : (n == ("__debug__" : Str)) = false) (hd2 : (n == ("__classdict__" : Str)) = false) (hb : attributeBase (.Name n q0) f X.env (eval (.Name n q0) X.env) = eval (.Name n q0) X.env) (hg : Gl X "str") (hm : X.mg "str" = none)
    (hs : starEach [.Attribute (.Name n q0) f q1] X.env = [(false, eval (.Attribute (.Name n q0) f q1) X.env)]) :
    SuiteOK X R (.fld c f true pre post) (some i) [.Return (some (.BinOp (.BinOp (.Constant (.str p1) j1 q2) .Add (.Call (.Name "str" q3) [.Attribute (.Name n q0) f q1] [] q4) q5) .Add (.Constant (.str p2) j2 q6) q7)) pos] := by
  subst ep1 ep2
  intro a oe cls dd pn z hf
  have hA : PA (X.suite a ((a, oe) :: pn)) [.Attribute (.Name n q0) f q1] (tCons (tXf a cls dd C f (tVar i)) tNil) := pa_cons (suite_fld hC T hno hi hv hd1 hd2 z hf hb) pa_nil hs
  have hS := pe_callTy (X := X.suite a ((a, oe) :: pn)) (p := q3) (pos := q4) call_strM hg hm (by decide +kernel) hA (by decide) (by decide) hs rfl
  refine PSs.imp (pss_cons (ps_ret (pe_op op_add_str (pe_op op_add_str pe_str hS) pe_str)) pss_nil) fun D σ H ⟨hi, hd, m, st, x, d', s, xr, e1, k⟩ => ?_
  obtain ⟨rfl, d0, t, da, gs, v, h1, h2, rfl, rfl, h5, h6, h7⟩ := xf_of (R := R.w hd) hC xr e1
  have h1 : strD d0 = some (.str t) := h1
  refine ⟨_, hi i rfl, rfl, rfl, da, gs, v, rfl, h5, h6, ?_⟩
  dsimp only [tNil, tC]
  refine sim_str (R := R.w hd) m st H [d0] [v] _ s (.cons h7 .nil) ?_
  have h8 : prim .str [d0] st = some (.str t, st) := by
    show oneR st (strD d0) = _
    rw [h1]
    rfl
  rw [h8]
  intro m1 H1 u x1 s1 r1
  obtain rfl := r1.inj_str
  refine ⟨_, _, rfl, rfl, by rw [len_str, len_str]; omega, ?_⟩
  rw [str_app]
  refine ⟨_, _, rfl, rfl, by rw [len_str, len_str, List.length_append]; omega, ?_⟩
  rw [str_app]
  exact k m1 H1 _ x1 s1 (.str _)
end
end Mini
end
section
set_option linter.all false
set_option autoImplicit false
set_option maxRecDepth 100000
set_option maxHeartbeats 1000000
/-! The checker: an expression of the program is the small language's. -/
namespace Mini
open PySem PySem.Spec PyProof.Rows L2
/-- what is known of the module -/
structure GI where
  fns : List (Str × Nat)
  cns : List (Str × Mini.D)
  bts : List Str
  pls : List (Str × Nat)
  ins : List (Str × Nat)
  ecs : List (Str × Nat)
  xfs : List (Nat × Str)
/-- the names of a def, the scope of the block -/
structure Ck where
  N : List Str
  sc : Scope
  fn : Bool
structure CkOk (X : Cx) (R : RC) (W : WX) (k : Nat) (cl : Call) (G : GI) (c : Ck) : Prop where
  K : R.K = X.K
  N : X.N = c.N
  nd : c.N.Nodup
  sc : X.env.scope = c.sc
  fn : c.fn = true → ∀ x, X.fn x = true
  calm : X.calm = true
  room : Room k X.A
  gd : X.A.guards = some []
  tk : Takes X W
  fns : ∀ x i, G.fns.lookup x = some i → ∃ f, X.mg x = some (.ref f) ∧ R.fa i = some f
  fna : ∀ i a, R.fa i = some a → FnAt X R k cl i
  cns : ∀ x d, G.cns.lookup x = some d → ∃ u v, X.mg x = some u ∧ RelV v u ∧ ∀ hd m st H, Rep (R.w hd) m st H d v
  bts : ∀ x, x ∈ G.bts → X.mg x = none
mutual
def beqD : D → D → Bool
  | .non, .non => true
  | .bl a, .bl b => a == b
  | .int a, .int b => a == b
  | .str a, .str b => a == b
  | .tup a, .tup b => beqDs a b
  | .lst a, .lst b => beqDs a b
  | .ro a, .ro b => beqDs a b
  | .ref a, .ref b => a == b
  | .fn a, .fn b => a == b
  | _, _ => false
def beqDs : List D → List D → Bool
  | [], [] => true
  | a :: as, b :: bs => beqD a b && beqDs as bs
  | _, _ => false
end
mutual
theorem beqD_eq : ∀ (a b : D), beqD a b = true → a = b
  | .non, .non, _ => rfl
  | .bl a, .bl b, h => by simp [beqD] at h; rw [h]
  | .int a, .int b, h => by simp [beqD] at h; rw [h]
  | .str a, .str b, h => by simp [beqD] at h; rw [h]
  | .tup a, .tup b, h => by
    simp only [beqD] at h
    rw [beqDs_eq a b h]
  | .lst a, .lst b, h => by
    simp only [beqD] at h
    rw [beqDs_eq a b h]
  | .ro a, .ro b, h => by
    simp only [beqD] at h
    rw [beqDs_eq a b h]
  | .ref a, .ref b, h => by simp [beqD] at h; rw [h]
  | .fn a, .fn b, h => by simp [beqD] at h; rw [h]
  | .non, .bl _, h => by simp [beqD] at h
  | .non, .int _, h => by simp [beqD] at h
  | .non, .str _, h => by simp [beqD] at h
  | .non, .tup _, h => by simp [beqD] at h
  | .non, .lst _, h => by simp [beqD] at h
  | .non, .ro _, h => by simp [beqD] at h
  | .non, .ref _, h => by simp [beqD] at h
  | .non, .fn _, h => by simp [beqD] at h
  | .bl _, .non, h => by simp [beqD] at h
  | .bl _, .int _, h => by simp [beqD] at h
  | .bl _, .str _, h => by simp [beqD] at h
  | .bl _, .tup _, h => by simp [beqD] at h
  | .bl _, .lst _, h => by simp [beqD] at h
  | .bl _, .ro _, h => by simp [beqD] at h
  | .bl _, .ref _, h => by simp [beqD] at h
  | .bl _, .fn _, h => by simp [beqD] at h
  | .int _, .non, h => by simp [beqD] at h
  | .int _, .bl _, h => by simp [beqD] at h
  | .int _, .str _, h => by simp [beqD] at h
  | .int _, .tup _, h => by simp [beqD] at h
  | .int _, .lst _, h => by simp [beqD] at h
  | .int _, .ro _, h => by simp [beqD] at h
  | .int _, .ref _, h => by simp [beqD] at h
  | .int _, .fn _, h => by simp [beqD] at h
  | .str _, .non, h => by simp [beqD] at h
  | .str _, .bl _, h => by simp [beqD] at h
  | .str _, .int _, h => by simp [beqD] at h
  | .str _, .tup _, h => by simp [beqD] at h
  | .str _, .lst _, h => by simp [beqD] at h
  | .str _, .ro _, h => by simp [beqD] at h
  | .str _, .ref _, h => by simp [beqD] at h
  | .str _, .fn _, h => by simp [beqD] at h
  | .tup _, .non, h => by simp [beqD] at h
  | .tup _, .bl _, h => by simp [beqD] at h
  | .tup _, .int _, h => by simp [beqD] at h
  | .tup _, .str _, h => by simp [beqD] at h
  | .tup _, .lst _, h => by simp [beqD] at h
  | .tup _, .ro _, h => by simp [beqD] at h
  | .tup _, .ref _, h => by simp [beqD] at h
  | .tup _, .fn _, h => by simp [beqD] at h
  | .lst _, .non, h => by simp [beqD] at h
  | .lst _, .bl _, h => by simp [beqD] at h
  | .lst _, .int _, h => by simp [beqD] at h
  | .lst _, .str _, h => by simp [beqD] at h
  | .lst _, .tup _, h => by simp [beqD] at h
  | .lst _, .ro _, h => by simp [beqD] at h
  | .lst _, .ref _, h => by simp [beqD] at h
  | .lst _, .fn _, h => by simp [beqD] at h
  | .ro _, .non, h => by simp [beqD] at h
  | .ro _, .bl _, h => by simp [beqD] at h
  | .ro _, .int _, h => by simp [beqD] at h
  | .ro _, .str _, h => by simp [beqD] at h
  | .ro _, .tup _, h => by simp [beqD] at h
  | .ro _, .lst _, h => by simp [beqD] at h
  | .ro _, .ref _, h => by simp [beqD] at h
  | .ro _, .fn _, h => by simp [beqD] at h
  | .ref _, .non, h => by simp [beqD] at h
  | .ref _, .bl _, h => by simp [beqD] at h
  | .ref _, .int _, h => by simp [beqD] at h
  | .ref _, .str _, h => by simp [beqD] at h
  | .ref _, .tup _, h => by simp [beqD] at h
  | .ref _, .lst _, h => by simp [beqD] at h
  | .ref _, .ro _, h => by simp [beqD] at h
  | .ref _, .fn _, h => by simp [beqD] at h
  | .fn _, .non, h => by simp [beqD] at h
  | .fn _, .bl _, h => by simp [beqD] at h
  | .fn _, .int _, h => by simp [beqD] at h
  | .fn _, .str _, h => by simp [beqD] at h
  | .fn _, .tup _, h => by simp [beqD] at h
  | .fn _, .lst _, h => by simp [beqD] at h
  | .fn _, .ro _, h => by simp [beqD] at h
  | .fn _, .ref _, h => by simp [beqD] at h
theorem beqDs_eq : ∀ (a b : List D), beqDs a b = true → a = b
  | [], [], _ => rfl
  | a :: as, b :: bs, h => by
    simp only [beqDs, Bool.and_eq_true] at h
    rw [beqD_eq a b h.1, beqDs_eq as bs h.2]
  | [], _ :: _, h => by simp [beqDs] at h
  | _ :: _, [], h => by simp [beqDs] at h
end
/-! ### names -/
def Ck.gl (c : Ck) (x : Str) : Bool := decide (c.sc.names.lookup x = some .globalImplicit)
def Ck.vis (c : Ck) (x : Str) : Bool := decide (c.sc.names.lookup x = some .local) || decide (c.sc.names.lookup x = some .cell) || decide (c.sc.names.lookup x = some .free)
def Ck.loc (c : Ck) (x : Str) : Bool := decide (c.sc.names.lookup x = some .local) || (c.fn && decide (c.sc.names.lookup x = some .cell))
def okN (x : Str) : Bool := !(x == ("__debug__" : Str)) && !(x == ("__classdict__" : Str)) && !(x == ("__name__" : Str))
theorem okN_d {x : Str} (h : okN x = true) : (x == ("__debug__" : Str)) = false := by
  unfold okN at h
  simp only [Bool.and_eq_true, Bool.not_eq_true'] at h
  exact h.1.1
theorem okN_c {x : Str} (h : okN x = true) : (x == ("__classdict__" : Str)) = false := by
  unfold okN at h
  simp only [Bool.and_eq_true, Bool.not_eq_true'] at h
  exact h.1.2
theorem okN_n {x : Str} (h : okN x = true) : x ≠ "__name__" := fun z => by
  unfold okN at h
  simp only [Bool.and_eq_true, Bool.not_eq_true'] at h
  rw [z] at h
  simp at h
section
variable {X : Cx} {R : RC} {W : WX} {k : Nat} {cl : Call} {G : GI} {c : Ck}
theorem CkOk.gl (o : CkOk X R W k cl G c) {x : Str} (h : c.gl x = true) : Gl X x := by
  unfold Ck.gl at h
  show X.env.scope.names.lookup x = _
  rw [o.sc]
  exact of_decide_eq_true h
theorem CkOk.vis (o : CkOk X R W k cl G c) {x : Str} (h : c.vis x = true) : Vis X.env.scope x := by
  unfold Ck.vis at h
  simp only [Bool.or_eq_true, decide_eq_true_eq] at h
  unfold Vis
  rw [o.sc]
  rcases h with (h | h) | h
  · exact .inl h
  · exact .inr (.inl h)
  · exact .inr (.inr h)
theorem CkOk.loc (o : CkOk X R W k cl G c) {x : Str} (h : c.loc x = true) : L2.Loc X.env.scope x ∧ (X.fn x = true ∨ X.env.scope.names.lookup x = some .local) := by
  unfold Ck.loc at h
  simp only [Bool.or_eq_true, Bool.and_eq_true, decide_eq_true_eq] at h
  unfold L2.Loc
  rw [o.sc]
  rcases h with h | ⟨h1, h2⟩
  · exact ⟨.inl h, .inr h⟩
  · exact ⟨.inr h2, .inl (o.fn h1 x)⟩
/-! ### argument lists -/
def noStar : Expr → Bool
  | .Starred _ _ => false
  | _ => true
def noStars (es : List Expr) : Bool := es.all noStar
theorem star1 {e : Expr} {es : List Expr} {env : PySem.Env} (h : noStar e = true) : starEach (e :: es) env = (false, eval e env) :: starEach es env := by
  cases e <;> first | (cases h; done) | simp [starEach]
theorem stars_plain : ∀ {es : List Expr} {env : PySem.Env} {pos : Pos}, noStars es = true → (backTo pos (starEach es env)).any (·.1) = false
  | [], _, _, _ => by simp [starEach, backTo]
  | e :: es, env, pos, h => by
    unfold noStars at h
    simp only [List.all_cons, Bool.and_eq_true] at h
    rw [star1 h.1]
    have ih := stars_plain (es := es) (env := env) (pos := pos) h.2
    unfold backTo at ih ⊢
    rw [List.map_cons, List.any_cons, ih]
    rfl
theorem stars_all {es : List Expr} {env : PySem.Env} {pos : Pos} (h : noStars es = true) : (backTo pos (starEach es env)).all (fun x => !x.1) = true := by
  have z := stars_plain (env := env) (pos := pos) h
  rw [List.any_eq_false] at z
  rw [List.all_eq_true]
  intro x hx
  have := z x hx
  simpa using this
def PEL (X : Cx) (R : RC) (W : WX) (cl : Call) : List Expr → Exs → Prop
  | [], .nil => True
  | e :: es, .cons x xs => PE X e (tE R W (evE cl x)) ∧ PEL X R W cl es xs
  | _, _ => False
theorem pel_pa : ∀ {es : List Expr} {xs : Exs}, noStars es = true → PEL X R W cl es xs → PA X es (tA R W (evEs cl xs))
  | [], .nil, _, _ => by
    have e : evEs cl .nil = fun _ st => .ok [] st := by funext env st; simp [evEs]
    rw [e]
    exact pa_n
  | e :: es, .cons x xs, h, q => by
    have e1 : evEs cl (.cons x xs) = fun env st => (evE cl x env st).bnd fun d st => (evEs cl xs env st).bnd fun ds st => .ok (d :: ds) st := by funext env st; simp [evEs]
    rw [e1]
    unfold noStars at h
    simp only [List.all_cons, Bool.and_eq_true] at h
    exact pa_c (star1 h.1) q.1 (pel_pa h.2 q.2)
  | [], .cons _ _, _, q => by cases q
  | _ :: _, .nil, _, q => by cases q
theorem pel1 {a : Expr} {es : Exs} (q : PEL X R W cl [a] es) : ∃ x, es = .cons x .nil ∧ PE X a (tE R W (evE cl x)) := by
  cases es with
  | nil => cases q
  | cons x xs =>
    cases xs with
    | nil => exact ⟨x, rfl, q.1⟩
    | cons => cases q.2
theorem pel2 {a b : Expr} {es : Exs} (q : PEL X R W cl [a, b] es) : ∃ x y, es = .cons x (.cons y .nil) ∧ PE X a (tE R W (evE cl x)) ∧ PE X b (tE R W (evE cl y)) := by
  cases es with
  | nil => cases q
  | cons x xs =>
    obtain ⟨y, rfl, h⟩ := pel1 q.2
    exact ⟨x, y, rfl, q.1, h⟩
theorem pel3 {a b d : Expr} {es : Exs} (q : PEL X R W cl [a, b, d] es) : ∃ x y z, es = .cons x (.cons y (.cons z .nil)) ∧ PE X a (tE R W (evE cl x)) ∧ PE X b (tE R W (evE cl y)) ∧ PE X d (tE R W (evE cl z)) := by
  cases es with
  | nil => cases q
  | cons x xs =>
    obtain ⟨y, z, rfl, h, h2⟩ := pel2 q.2
    exact ⟨x, y, z, rfl, q.1, h, h2⟩
theorem ev1 {p : Pr} {x : Ex} : evE cl (.pr p (.cons x .nil)) = f1 p (evE cl x) := by
  funext env st
  simp [evE, evEs, f1, bnd_assoc]
theorem ev2 {p : Pr} {x y : Ex} : evE cl (.pr p (.cons x (.cons y .nil))) = f2 p (evE cl x) (evE cl y) := by
  funext env st
  simp [evE, evEs, f2, bnd_assoc]
theorem ev3 {p : Pr} {x y z : Ex} : evE cl (.pr p (.cons x (.cons y (.cons z .nil)))) = f3 p (evE cl x) (evE cl y) (evE cl z) := by
  funext env st
  simp [evE, evEs, f3, bnd_assoc]
theorem evA {p : Pr} {es : Exs} : evE cl (.pr p es) = fA p (evEs cl es) := by
  funext env st
  simp [evE, fA]
end
/-! ### primitives by their syntax -/
def binP : Operator → Option Pr
  | .Add => some .add
  | .Sub => some .sub
  | .Mult => some .mul
  | .FloorDiv => some .fdiv
  | .Mod => some .mod
  | .Pow => some .pow
  | _ => none
def cmpP : CmpOp → Option Pr
  | .Eq => some .eq
  | .NotEq => some .ne
  | .Lt => some .lt
  | .LtE => some .le
  | .Gt => some .gt
  | .GtE => some .ge
  | .In => some .isin
  | .NotIn => some .notin
  | _ => none
def fnP : Pr → Option Str
  | .len => some "len"
  | .abs => some "abs"
  | .all => some "all"
  | .any => some "any"
  | .repr => some "repr"
  | .int => some "int"
  | .str => some "str"
  | .tuple => some "tuple"
  | .list => some "list"
  | _ => none
def tyNm : Ty → Option Str
  | .int => some "int"
  | .bool => some "bool"
  | .str => some "str"
  | .tuple => some "tuple"
  | .list => some "list"
  | _ => none
def isNoneE : Expr → Bool
  | .Constant .none _ _ => true
  | _ => false
def plainIx : Expr → Bool
  | .Slice _ _ _ _ => false
  | _ => true
def callParts (G : GI) (c : Ck) (p : Pr) (x : Str) (args : List Expr) : Option (List Expr) :=
  match p, args with
  | .isi [t], [a, .Name T _] => if x == ("isinstance" : Str) && decide (tyNm t = some T) && c.gl x && c.gl T && okN x && okN T && decide (x ∈ G.bts) && decide (T ∈ G.bts) && noStar a then some [a] else none
  | p, args => if decide (fnP p = some x) && c.gl x && okN x && decide (x ∈ G.bts) && noStars args && !args.isEmpty then some args else none
def prParts (G : GI) (c : Ck) (p : Pr) (e : Expr) : Option (List Expr) := match e with
  | .BinOp a op b _ => if decide (binP op = some p) then some [a, b] else none
  | .UnaryOp .USub a _ => if decide (p = .neg) then some [a] else none
  | .Compare a [op] [b] _ => if decide (op = .Is) && isNoneE b then (if decide (p = .isN) then some [a] else none)
      else if decide (op = .IsNot) && isNoneE b then (if decide (p = .notN) then some [a] else none)
      else if decide (cmpP op = some p) && !behindInMarks op b then some [a, b] else none
  | .Subscript a (.Slice lo hi none _) _ => match lo, hi with
    | none, none => if decide (p = .sl false false) then some [a] else none
    | some b, none => if decide (p = .sl true false) then some [a, b] else none
    | none, some b => if decide (p = .sl false true) then some [a, b] else none
    | some b, some d => if decide (p = .sl true true) then some [a, b, d] else none
  | .Subscript a b _ => if decide (p = .ix) && plainIx b then some [a, b] else none
  | .Call (.Name x _) args [] _ => callParts G c p x args
  | _ => none
mutual
def calmE : Ex → Bool
  | .lit _ => true
  | .var _ => true
  | .pr _ es => calmEs es
  | _ => false
def calmEs : Exs → Bool
  | .nil => true
  | .cons e es => calmE e && calmEs es
end
theorem bnd_exc_of {α β : Type} {r : Res α} {f : α → Sto → Res β} {x : Exc} {st : Sto} (h : r.bnd f = .exc x st) : r = .exc x st ∨ ∃ a s, r = .ok a s ∧ f a s = .exc x st := by
  cases r with
  | ok a s => exact .inr ⟨a, s, rfl, h⟩
  | exc y s =>
    cases h
    exact .inl rfl
  | bad => cases h
theorem liftP_no {r : Pm} {x : Exc} {st : Sto} : liftP r ≠ .exc x st := fun h => by
  cases r with
  | none => cases h
  | some y => cases h
mutual
theorem calmE_no (cl : Call) : ∀ (e : Ex), calmE e = true → ∀ env st x s, evE cl e env st ≠ .exc x s
  | .lit d, _, env, st, x, s, h => by simp [evE] at h
  | .var i, _, env, st, x, s, h => by
    simp only [evE] at h
    split at h <;> cases h
  | .pr p es, hc, env, st, x, s, h => by
    simp only [evE] at h
    simp only [calmE] at hc
    rcases bnd_exc_of h with h | ⟨a, s', h, h2⟩
    · exact calmEs_no cl es hc env st x s h
    · exact liftP_no h2
  | .tup _, hc, _, _, _, _, _ => by simp [calmE] at hc
  | .lst _, hc, _, _, _, _, _ => by simp [calmE] at hc
  | .vlst _, hc, _, _, _, _, _ => by simp [calmE] at hc
  | .mth _ _ _, hc, _, _, _, _, _ => by simp [calmE] at hc
  | .call _ _, hc, _, _, _, _, _ => by simp [calmE] at hc
  | .callv _ _, hc, _, _, _, _, _ => by simp [calmE] at hc
  | .andE _ _, hc, _, _, _, _, _ => by simp [calmE] at hc
  | .orE _ _, hc, _, _, _, _, _ => by simp [calmE] at hc
  | .notE _, hc, _, _, _, _, _ => by simp [calmE] at hc
  | .ife _ _ _, hc, _, _, _, _, _ => by simp [calmE] at hc
  | .chain _ _ _ _ _, hc, _, _, _, _, _ => by simp [calmE] at hc
  | .comp _ _ _ _ _ _, hc, _, _, _, _, _ => by simp [calmE] at hc
theorem calmEs_no (cl : Call) : ∀ (es : Exs), calmEs es = true → ∀ env st x s, evEs cl es env st ≠ .exc x s
  | .nil, _, env, st, x, s, h => by simp [evEs] at h
  | .cons e es, hc, env, st, x, s, h => by
    simp only [evEs] at h
    simp only [calmEs, Bool.and_eq_true] at hc
    rcases bnd_exc_of h with h | ⟨a, s', h, h2⟩
    · exact calmE_no cl e hc.1 env st x s h
    · rcases bnd_exc_of h2 with h2 | ⟨a2, s2, h2, h3⟩
      · exact calmEs_no cl es hc.2 env s' x s h2
      · cases h3
end
end Mini
end
section
set_option linter.all false
set_option autoImplicit false
set_option maxRecDepth 100000
set_option maxHeartbeats 1000000
/-! Primitives, methods by their syntax. -/
namespace Mini
open PySem PySem.Spec PyProof.Rows L2
/-! bools -/
theorem isBl_boolR {p : Pr} (h : ∀ ds st, (∃ o, prim p ds st = boolR st o) ∨ prim p ds st = none) : IsBl p := fun ds st d st' e => by
  rcases h ds st with ⟨o, h⟩ | h
  · rw [h] at e
    cases o with
    | none => cases e
    | some b =>
      cases e
      exact ⟨b, rfl⟩
  · rw [h] at e
    cases e
theorem two_of {p : Pr} {F : Sto → D → D → Pm} (h0 : ∀ x y st, prim p [x, y] st = F st x y) (hn : ∀ ds st, ds.length ≠ 2 → prim p ds st = none) (ds : List D) (st : Sto) : (∃ x y, ds = [x, y] ∧ prim p ds st = F st x y) ∨ prim p ds st = none := by
  rcases ds with _ | ⟨x, _ | ⟨y, _ | ⟨z, l⟩⟩⟩
  · exact .inr (hn _ _ (by simp))
  · exact .inr (hn _ _ (by simp))
  · exact .inl ⟨x, y, rfl, h0 x y st⟩
  · exact .inr (hn _ _ (by simp))
theorem isBl2 {p : Pr} {F : Sto → D → D → Option Bool} (h0 : ∀ x y st, prim p [x, y] st = boolR st (F st x y)) (hn : ∀ ds st, ds.length ≠ 2 → prim p ds st = none) : IsBl p := isBl_boolR fun ds st => by
  rcases two_of (F := fun st x y => boolR st (F st x y)) h0 hn ds st with ⟨x, y, rfl, h⟩ | h
  · exact .inl ⟨_, h⟩
  · exact .inr h
theorem isBl_eq : IsBl .eq := isBl2 (fun _ _ _ => rfl) (not2 rfl (fun x => by cases x <;> rfl) fun x y z l => by rfl)
theorem isBl_ne : IsBl .ne := isBl2 (F := fun st x y => (eqvD st x y).map not) (fun _ _ _ => rfl) (not2 rfl (fun x => by cases x <;> rfl) fun x y z l => by rfl)
theorem isBl_lt : IsBl .lt := isBl2 (F := fun _ x y => cmpD .lt x y) (fun _ _ _ => rfl) (not2 rfl (fun x => by cases x <;> rfl) fun x y z l => by rfl)
theorem isBl_le : IsBl .le := isBl2 (F := fun _ x y => cmpD .le x y) (fun _ _ _ => rfl) (not2 rfl (fun x => by cases x <;> rfl) fun x y z l => by rfl)
theorem isBl_gt : IsBl .gt := isBl2 (F := fun _ x y => cmpD .gt x y) (fun _ _ _ => rfl) (not2 rfl (fun x => by cases x <;> rfl) fun x y z l => by rfl)
theorem isBl_ge : IsBl .ge := isBl2 (F := fun _ x y => cmpD .ge x y) (fun _ _ _ => rfl) (not2 rfl (fun x => by cases x <;> rfl) fun x y z l => by rfl)
theorem isBl_in : IsBl .isin := isBl2 (F := fun st x y => inD st x y) (fun _ _ _ => rfl) (not2 rfl (fun x => by cases x <;> rfl) fun x y z l => by rfl)
theorem isBl_nin : IsBl .notin := isBl2 (F := fun st x y => (inD st x y).map not) (fun _ _ _ => rfl) (not2 rfl (fun x => by cases x <;> rfl) fun x y z l => by rfl)
section
variable {X : Cx} {R : RC} {W : WX} {k : Nat} {cl : Call} {G : GI} {c : Ck}
theorem CkOk.u64 (o : CkOk X R W k cl G c) : X.A.units + 64 < cLine := by
  have := o.room.un
  omega
theorem CkOk.u100 (o : CkOk X R W k cl G c) : X.A.units + 100 < cLine := by
  have := o.room.un
  omega
/-- a two-place comparison -/
structure CmpOK (X : Cx) (R : RC) (op : CmpOp) (p : Pr) : Prop where
  ex : ∃ r : R2, (∀ hd, Sim (R.w hd) p (l2 r)) ∧ OpR X (compareOp op) r
  bl : IsBl p
theorem cmp_ok (o : CkOk X R W k cl G c) : ∀ (op : CmpOp) (p : Pr), cmpP op = some p → CmpOK X R op p := by
  intro op p h
  cases op <;> first | (cases h; done) | (cases h)
  · exact ⟨⟨rEqD R.K, fun hd => sim_eq (R := R.w hd), by rw [o.K]; exact op_eqD o.u64⟩, isBl_eq⟩
  · exact ⟨⟨rNeD R.K, fun hd => sim_ne (R := R.w hd), by rw [o.K]; exact op_neD o.u64⟩, isBl_ne⟩
  · exact ⟨⟨rLtM, fun hd => sim_lt, op_ltM⟩, isBl_lt⟩
  · exact ⟨⟨rLeM, fun hd => sim_le, op_leM⟩, isBl_le⟩
  · exact ⟨⟨rGtM, fun hd => sim_gt, op_gtM⟩, isBl_gt⟩
  · exact ⟨⟨rGeM, fun hd => sim_ge, op_geM⟩, isBl_ge⟩
  · exact ⟨⟨rInM R.K false, fun hd => sim_in (R := R.w hd), by rw [o.K]; exact op_inM⟩, isBl_in⟩
  · exact ⟨⟨rInM R.K true, fun hd => sim_nin (R := R.w hd), by rw [o.K]; exact op_ninM⟩, isBl_nin⟩
theorem bin_ok (o : CkOk X R W k cl G c) {op : Operator} {p : Pr} (h : binP op = some p) : ∃ r : R2, (∀ hd, Sim (R.w hd) p (l2 r)) ∧ OpR X (binaryOp op) r := by
  cases op <;> first | (cases h; done) | (cases h)
  · exact ⟨rAddM R.K, fun hd => sim_add (R := R.w hd), by rw [o.K]; exact op_addM⟩
  · exact ⟨_, fun hd => sim_sub, op_sub⟩
  · exact ⟨_, fun hd => sim_mul, op_mulM⟩
  · exact ⟨_, fun hd => sim_mod, op_modN⟩
  · exact ⟨_, fun hd => sim_pow, op_pow⟩
  · exact ⟨_, fun hd => sim_fdiv, op_fdivZ⟩
def rTupM (K : PySem.W.Frag) : List V → Hp → VK → Prop := fun xs H Q => ∃ p ys, xs = [.ref p] ∧ ((SqL K H p ys ∧ ∀ l, H l = none → Q (.ref l) (upd H l (.tup ys))) ∨ (SqT K H p ys ∧ Q (.ref p) H))
def rLisM (K : PySem.W.Frag) : List V → Hp → VK → Prop := fun xs H Q => ∃ p ys, xs = [.ref p] ∧ (SqL K H p ys ∨ SqT K H p ys) ∧ ∀ l, H l = none → Q (.ref l) (upd H l (.lst ys))
theorem fn_ok (o : CkOk X R W k cl G c) {p : Pr} {x : Str} {q pos : Pos} {e : Expr} {es : List Expr} {g : Env → Sto → Res (List Mini.D)} (h : fnP p = some x) (hg : Gl X x) (hm : X.mg x = none) (hx : okN x = true) (hs : noStars (e :: es) = true) (ha : PA X (e :: es) (tA R W g)) :
    PE X (.Call (.Name x q) (e :: es) [] pos) (tE R W (fA p g)) := by
  have h1 : noStar e = true := by
    unfold noStars at hs
    simp only [List.all_cons, Bool.and_eq_true] at hs
    exact hs.1
  have h2 : noStars es = true := by
    unfold noStars at hs ⊢
    simp only [List.all_cons, Bool.and_eq_true] at hs
    exact hs.2
  have he := star1 (es := es) (env := X.env) h1
  have hpl := stars_plain (env := X.env) (pos := pos) h2
  cases p <;> first | (cases h; done) | (cases h)
  · exact pe_bfn (r := rLenM R.K) (fun hd => sim_len (R := R.w hd)) (by rw [o.K]; exact call_lenM) hg hm (by decide +kernel) ha (okN_n hx) (okN_d hx) he hpl
  · exact pe_bfn (fun hd => sim_abs) call_abs hg hm (by decide +kernel) ha (okN_n hx) (okN_d hx) he hpl
  · exact pe_bty (fun hd => sim_int) call_intM hg hm (by decide +kernel) ha (okN_n hx) (okN_d hx) he hpl
  · exact pe_bty (fun hd => sim_str) call_strM hg hm (by decide +kernel) ha (okN_n hx) (okN_d hx) he hpl
  · refine pe_bty (T := "tuple") (r := rTupM R.K) (fun hd => sim_tuple (R := R.w hd)) ?_ hg hm (by decide +kernel) ha (okN_n hx) (okN_d hx) he hpl
    rw [o.K]
    exact call_tuple_of
  · refine pe_bty (T := "list") (r := rLisM R.K) (fun hd => sim_list (R := R.w hd)) ?_ hg hm (by decide +kernel) ha (okN_n hx) (okN_d hx) he hpl
    rw [o.K]
    exact call_list_of
  · exact pe_bfn (r := rAll R.K) (fun hd => sim_all (R := R.w hd)) (by rw [o.K]; exact cr_all o.calm) hg hm (by decide +kernel) ha (okN_n hx) (okN_d hx) he hpl
  · exact pe_bfn (r := rAny R.K) (fun hd => sim_any (R := R.w hd)) (by rw [o.K]; exact cr_any o.calm) hg hm (by decide +kernel) ha (okN_n hx) (okN_d hx) he hpl
  · exact pe_bfn (r := l1 (rReprM R.K)) (fun hd => sim_repr (R := R.w hd)) (by rw [o.K]; exact call_reprM o.gd o.u100) hg hm (by decide +kernel) ha (okN_n hx) (okN_d hx) he hpl
theorem tyNm_ok {t : Ty} {T : Str} (h : tyNm t = some T) : ∃ n, tyN t = some n ∧ bootBuiltins T = some (.type n) := by
  cases t <;> first | (cases h; done) | (cases h)
  · exact ⟨"int", rfl, by decide +kernel⟩
  · exact ⟨"bool", rfl, by decide +kernel⟩
  · exact ⟨"str", rfl, by decide +kernel⟩
  · exact ⟨"tuple", rfl, by decide +kernel⟩
  · exact ⟨"list", rfl, by decide +kernel⟩
theorem plainIx_ok {b : Expr} (h : plainIx b = true) : PlainIx b := by
  cases b <;> first | (cases h; done) | exact fun _ _ => rfl
theorem isNone_ok {b : Expr} (h : isNoneE b = true) : ∃ j pos, b = .Constant .none j pos := by
  unfold isNoneE at h
  split at h
  · exact ⟨_, _, rfl⟩
  · cases h
theorem callParts_ok (o : CkOk X R W k cl G c) {p : Pr} {x : Str} {q pos : Pos} {args as : List Expr} {es : Exs} (h : callParts G c p x args = some as) (hq : PEL X R W cl as es) : PE X (.Call (.Name x q) args [] pos) (tE R W (evE cl (.pr p es))) := by
  unfold callParts at h
  split at h
  · rename_i t a T q2
    split at h
    · rename_i hc
      cases h
      simp only [Bool.and_eq_true, beq_iff_eq, decide_eq_true_eq] at hc
      obtain ⟨⟨⟨⟨⟨⟨⟨⟨h1, h2⟩, h3⟩, h4⟩, h5⟩, h6⟩, h7⟩, h8⟩, h9⟩ := hc
      subst h1
      obtain ⟨y, rfl, hy⟩ := pel1 hq
      obtain ⟨n, hn, hb⟩ := tyNm_ok h2
      rw [ev1]
      exact pe_isiM o.K hn (o.gl h3) (o.bts _ h7) (o.gl h4) (o.bts _ h8) hb (okN_n h6) (okN_d h6) hy (star1 h9)
    · cases h
  · split at h
    · rename_i hc
      cases h
      simp only [Bool.and_eq_true, Bool.not_eq_true', decide_eq_true_eq] at hc
      obtain ⟨⟨⟨⟨⟨h1, h2⟩, h3⟩, h4⟩, h5⟩, h6⟩ := hc
      cases args with
      | nil => cases h6
      | cons e rest =>
        rw [evA]
        exact fn_ok o h1 (o.gl h2) (o.bts _ h4) h3 h5 (pel_pa h5 hq)
    · cases h
theorem pr_ok (o : CkOk X R W k cl G c) {p : Pr} {e : Expr} {as : List Expr} {es : Exs} (h : prParts G c p e = some as) (hcm : p = .sl true true → calmEs es = true) (hq : PEL X R W cl as es) : PE X e (tE R W (evE cl (.pr p es))) := by
  unfold prParts at h
  split at h
  · split at h
    · rename_i hc
      cases h
      obtain ⟨x, y, rfl, hx, hy⟩ := pel2 hq
      obtain ⟨r, h1, h2⟩ := bin_ok o (of_decide_eq_true hc)
      rw [ev2]
      exact pe_bin h1 h2 hx hy
    · cases h
  · split at h
    · rename_i hc
      cases h
      obtain ⟨x, rfl, hx⟩ := pel1 hq
      obtain rfl := of_decide_eq_true hc
      rw [ev1]
      exact pe_unM (fun hd => sim_neg) un_neg hx
    · cases h
  · split at h
    · rename_i hc
      simp only [Bool.and_eq_true, decide_eq_true_eq] at hc
      obtain ⟨rfl, hb⟩ := hc
      obtain ⟨j, ps, rfl⟩ := isNone_ok hb
      split at h
      · rename_i hp
        cases h
        obtain rfl := of_decide_eq_true hp
        obtain ⟨x, rfl, hx⟩ := pel1 hq
        rw [ev1]
        exact pe_isNM hx
      · cases h
    · split at h
      · rename_i hc
        simp only [Bool.and_eq_true, decide_eq_true_eq] at hc
        obtain ⟨rfl, hb⟩ := hc
        obtain ⟨j, ps, rfl⟩ := isNone_ok hb
        split at h
        · rename_i hp
          cases h
          obtain rfl := of_decide_eq_true hp
          obtain ⟨x, rfl, hx⟩ := pel1 hq
          rw [ev1]
          exact pe_notNM hx
        · cases h
      · split at h
        · rename_i hc
          cases h
          simp only [Bool.and_eq_true, decide_eq_true_eq, Bool.not_eq_true'] at hc
          obtain ⟨x, y, rfl, hx, hy⟩ := pel2 hq
          obtain ⟨⟨r, h1, h2⟩, _⟩ := cmp_ok o _ _ hc.1
          rw [ev2]
          exact pe_cmpM h1 h2 hx hy hc.2
        · cases h
  · split at h
    · split at h
      · rename_i hc
        cases h
        obtain rfl := of_decide_eq_true hc
        obtain ⟨x, rfl, hx⟩ := pel1 hq
        rw [ev1]
        exact sl00 o.K hx
      · cases h
    · split at h
      · rename_i hc
        cases h
        obtain rfl := of_decide_eq_true hc
        obtain ⟨x, y, rfl, hx, hy⟩ := pel2 hq
        rw [ev2]
        exact sl10 o.K hx hy
      · cases h
    · split at h
      · rename_i hc
        cases h
        obtain rfl := of_decide_eq_true hc
        obtain ⟨x, y, rfl, hx, hy⟩ := pel2 hq
        rw [ev2]
        exact sl01 o.K hx hy
      · cases h
    · split at h
      · rename_i hc
        cases h
        obtain rfl := of_decide_eq_true hc
        obtain ⟨x, y, z, rfl, hx, hy, hz⟩ := pel3 hq
        have hcm := hcm rfl
        simp only [calmEs, Bool.and_eq_true] at hcm
        rw [ev3]
        exact sl11 o.K hx hy hz (calmE_no cl z hcm.2.2.1)
      · cases h
  · split at h
    · rename_i hc
      cases h
      simp only [Bool.and_eq_true, decide_eq_true_eq] at hc
      obtain ⟨rfl, hb⟩ := hc
      obtain ⟨x, y, rfl, hx, hy⟩ := pel2 hq
      rw [ev2]
      exact pe_ixM o.K (plainIx_ok hb) hx hy
    · cases h
  · exact callParts_ok o h hq
  · cases h
/-! as a test -/
def tPlain : Expr → Bool
  | .UnaryOp .Not _ _ => false
  | .BoolOp _ _ _ => false
  | .IfExp _ _ _ _ => false
  | .Compare _ _ _ _ => false
  | _ => true
theorem tPlain_ok {e : Expr} {env : PySem.Env} (h : tPlain e = true) : ∀ whole, isTrue e env whole = (do let v ← whole; standAt e.pos; holding [v] (truthy v)) := by
  intro whole
  cases e <;> first | (cases h; done) | (simp only [PySem.isTrue]; done) | skip
  rename_i op a pos
  cases op <;> first | (cases h; done) | simp only [PySem.isTrue]
theorem evT_pr {p : Pr} {es : Exs} : evT cl (.pr p es) = fun env st => (evE cl (.pr p es) env st).bnd truR := by
  funext env st
  simp [evT, evE, bnd_assoc]
theorem pr_test (o : CkOk X R W k cl G c) {p : Pr} {e : Expr} {as : List Expr} {es : Exs} (h : prParts G c p e = some as) (hcm : p = .sl true true → calmEs es = true) (hq : PEL X R W cl as es) : PT X e (tT R W (evT cl (.pr p es))) := by
  rw [evT_pr]
  by_cases ht : tPlain e = true
  · exact pt_tru o.K (pr_ok o h hcm hq) (tPlain_ok ht)
  · unfold prParts at h
    split at h
    · exact absurd rfl ht
    · exact absurd rfl ht
    · split at h
      · rename_i hc
        simp only [Bool.and_eq_true, decide_eq_true_eq] at hc
        obtain ⟨rfl, hb⟩ := hc
        obtain ⟨j, ps, rfl⟩ := isNone_ok hb
        split at h
        · rename_i hp
          cases h
          obtain rfl := of_decide_eq_true hp
          obtain ⟨x, rfl, hx⟩ := pel1 hq
          rw [ev1]
          exact pt_isNM hx
        · cases h
      · split at h
        · rename_i hc
          simp only [Bool.and_eq_true, decide_eq_true_eq] at hc
          obtain ⟨rfl, hb⟩ := hc
          obtain ⟨j, ps, rfl⟩ := isNone_ok hb
          split at h
          · rename_i hp
            cases h
            obtain rfl := of_decide_eq_true hp
            obtain ⟨x, rfl, hx⟩ := pel1 hq
            rw [ev1]
            exact pt_notNM hx
          · cases h
        · split at h
          · rename_i hc
            cases h
            simp only [Bool.and_eq_true, decide_eq_true_eq, Bool.not_eq_true'] at hc
            obtain ⟨x, y, rfl, hx, hy⟩ := pel2 hq
            obtain ⟨⟨r, h1, h2⟩, h3⟩ := cmp_ok o _ _ hc.1
            rw [ev2]
            exact pt_cmpM h3 h1 h2 hx hy hc.2
          · cases h
    · exact absurd rfl ht
    · exact absurd rfl ht
    · exact absurd rfl ht
    · cases h
end
end Mini
end
section
set_option linter.all false
set_option autoImplicit false
set_option maxRecDepth 100000
set_option maxHeartbeats 1000000
/-! The checker of expressions, and that it is right. -/
namespace Mini
open PySem PySem.Spec PyProof.Rows L2
def mtP : Pr → Option Str
  | .append => some "append"
  | .pop => some "pop"
  | .extend => some "extend"
  | .split => some "split"
  | .partition => some "partition"
  | .join => some "join"
  | _ => none
def plainBase : Expr → Bool
  | .Call (.Name _ _) [] [] _ => false
  | _ => true
theorem plainBase_ok {o : Expr} {m : Str} {env : PySem.Env} {w : Sem Value} (h : plainBase o = true) : attributeBase o m env w = w := by
  unfold attributeBase
  split
  · cases h
  · rfl
section
variable {X : Cx} {R : RC} {W : WX} {k : Nat} {cl : Call} {G : GI} {c : Ck}
theorem ev_mth {p : Pr} {o : Ex} {es : Exs} : evE cl (.mth p o es) = fM p (evE cl o) (evEs cl es) := by
  funext env st
  simp [evE, fM]
theorem rcv_str {p : Pr} (h : p = .split ∨ p = .partition ∨ p = .join) (d : Mini.D) (st : Sto) (q : rcv p d st = true) : ∃ a, d = .str a := by
  rcases h with rfl | rfl | rfl <;> (cases d <;> first | exact ⟨_, rfl⟩ | (simp [rcv] at q))
theorem rcv_lst {p : Pr} (h : p = .append ∨ p = .pop ∨ p = .extend) (d : Mini.D) (st : Sto) (q : rcv p d st = true) : ∃ (n : Nat) (xs : List Mini.D), d = .ref n ∧ st[n]? = some (.lst xs) := by
  rcases h with rfl | rfl | rfl <;> (cases d <;> first | (simp [rcv] at q; done) | skip)
  all_goals
    rename_i n
    unfold rcv at q
    dsimp only at q
    split at q
    · rename_i xs e
      exact ⟨n, xs, rfl, e⟩
    · cases q
theorem mth_any (o : CkOk X R W k cl G c) {p : Pr} {T id : String} {name : Str} {a : Expr} {args : List Expr} {apos cpos : Pos} {r : V → List V → Hp → VK → Prop} {f : Env → Sto → Res Mini.D} {es : Exs}
    (ty : ∀ hd, TyOK (R.w hd) T p) (sm : ∀ hd, Sim (R.w hd) p (lm r)) (pa : PlainAttrs T) (slot : Slot T name id) (hty : typeOf (.builtin id) = pure (.type "method_descriptor")) (hm : MtR X id r)
    (ho : PE X a (tE R W f)) (hb : plainBase a = true) (hl : (apos.endLine == cpos.line) = true) (hs : noStars args = true) (hn : args.length < 30) (hq : PEL X R W cl args es) : PE X (.Call (.Attribute a name apos) args [] cpos) (tE R W (fM p f (evEs cl es))) := by
  cases args with
  | nil =>
    cases es with
    | cons => cases hq
    | nil =>
      have e : evEs cl .nil = fun _ st => .ok [] st := by funext env st; simp [evEs]
      rw [e]
      exact pe_mt0 o.K ty sm pa slot hty hm ho (plainBase_ok hb) hl
  | cons e rest =>
    have h1 : noStar e = true := by
      unfold noStars at hs
      simp only [List.all_cons, Bool.and_eq_true] at hs
      exact hs.1
    have h2 : noStars rest = true := by
      unfold noStars at hs ⊢
      simp only [List.all_cons, Bool.and_eq_true] at hs
      exact hs.2
    refine pe_mtA o.K ty sm pa slot hty hm ho (pel_pa hs hq) (plainBase_ok hb) ?_ hl (star1 h1) (stars_plain h2)
    rw [stars_all hs]
    simp only [Bool.and_eq_true, decide_eq_true_eq]
    exact ⟨⟨trivial, by simp [keywordEach, backToKw]⟩, by simp only [List.length_nil, List.isEmpty_nil, if_true]; exact hn⟩
theorem mth_ok (o : CkOk X R W k cl G c) {p : Pr} {name : Str} {a : Expr} {args : List Expr} {apos cpos : Pos} {f : Env → Sto → Res Mini.D} {es : Exs} (h : mtP p = some name)
    (ho : PE X a (tE R W f)) (hb : plainBase a = true) (hl : (apos.endLine == cpos.line) = true) (hs : noStars args = true) (hn : args.length < 30) (hq : PEL X R W cl args es) : PE X (.Call (.Attribute a name apos) args [] cpos) (tE R W (fM p f (evEs cl es))) := by
  cases p <;> first | (cases h; done) | (cases h)
  · exact mth_any o (fun hd => tyOK_list (rcv_lst (.inl rfl))) (fun hd => sim_append) F.plainAttrs_list F.slot_list_append F.type_list_append mt_append ho hb hl hs hn hq
  · exact mth_any o (fun hd => tyOK_list (rcv_lst (.inr (.inl rfl)))) (fun hd => sim_pop) F.plainAttrs_list F.slot_list_pop F.type_list_pop mt_pop ho hb hl hs hn hq
  · exact mth_any o (fun hd => tyOK_list (rcv_lst (.inr (.inr rfl)))) (fun hd => sim_extend) F.plainAttrs_list F.slot_list_extend F.type_list_extend mt_extend ho hb hl hs hn hq
  · exact mth_any o (fun hd => tyOK_str (rcv_str (.inl rfl))) (fun hd => sim_split) F.plainAttrs_str F.slot_str_split F.type_str_split mt_split ho hb hl hs hn hq
  · exact mth_any o (fun hd => tyOK_str (rcv_str (.inr (.inl rfl)))) (fun hd => sim_partition) F.plainAttrs_str F.slot_str_partition F.type_str_partition mt_partition ho hb hl hs hn hq
  · refine mth_any (r := rJoinM R.K) o (fun hd => tyOK_str (rcv_str (.inr (.inr rfl)))) (fun hd => sim_join (R := R.w hd)) F.plainAttrs_str F.slot_str_join F.type_str_join ?_ ho hb hl hs hn hq
    rw [o.K]
    exact mt_join
/-! constants, names -/
def litOk (G : GI) (c : Ck) (d : Mini.D) (e : Expr) : Bool := match e, d with
  | .Constant .none _ _, .non => true
  | .Constant (.bool b) _ _, .bl b' => b == b'
  | .Constant (.int i) _ _, .int j => i == j
  | .Constant (.str s) _ _, .str a => s.cps.toList == a
  | .Name x _, .fn i => decide (G.fns.lookup x = some i) && c.gl x && okN x
  | .Name x _, d => (match G.cns.lookup x with
      | some d' => beqD d d'
      | none => false) && c.gl x && okN x
  | _, _ => false
theorem litOk_ok (o : CkOk X R W k cl G c) {d : Mini.D} {e : Expr} (h : litOk G c d e = true) : PE X e (tE R W (evE cl (.lit d))) := by
  have ev : evE cl (.lit d) = fun _ st => .ok d st := by funext env st; simp [evE]
  rw [ev]
  unfold litOk at h
  split at h
  · exact pe_lit pe_non fun hd m st H => .non
  · obtain rfl := eq_of_beq h
    exact pe_lit pe_bl fun hd m st H => .bl _
  · obtain rfl := eq_of_beq h
    exact pe_lit pe_int fun hd m st H => .int _
  · obtain rfl := eq_of_beq h
    exact pe_lit pe_str fun hd m st H => .of_str _
  · rename_i x q i
    simp only [Bool.and_eq_true, decide_eq_true_eq] at h
    obtain ⟨f, h1, h2⟩ := o.fns _ _ h.1.1
    exact pe_lit (pe_glob (v := .ref f) (o.gl h.1.2) h1 rfl (okN_d h.2)) fun hd m st H => .fn h2
  · rename_i x q d' _
    simp only [Bool.and_eq_true] at h
    obtain ⟨⟨h1, h2⟩, h3⟩ := h
    split at h1
    · rename_i d2 e2
      obtain rfl := beqD_eq _ _ h1
      obtain ⟨u, v, g1, g2, g3⟩ := o.cns _ _ e2
      exact pe_lit (pe_glob (o.gl h2) g1 g2 (okN_d h3)) g3
    · cases h1
  · cases h
/-! and, or -/
def restB (op : BoolOp) (r : List Expr) (pos : Pos) : Expr := match r with
  | [b] => b
  | r => .BoolOp op r pos
theorem restB_pe {op : BoolOp} {r : List Expr} {pos : Pos} {t : TE} (hr : r ≠ []) (h : PE X (restB op r pos) t) : PE X (.BoolOp op r pos) t := by
  unfold restB at h
  split at h
  · exact pe_one h
  · exact h
theorem restB_and {r : List Expr} {pos : Pos} {t : TT} (h : PT X (restB .And r pos) t) : PW X (.BoolOp .And r pos) t := by
  unfold restB at h
  split at h
  · exact pw_and1 h
  · exact PT.pw h
theorem restB_or {r : List Expr} {pos : Pos} {t : TT} (h : PT X (restB .Or r pos) t) : PW X (.BoolOp .Or r pos) t := by
  unfold restB at h
  split at h
  · exact pw_or1 h
  · exact PT.pw h
/-! calls -/
theorem call_ok (o : CkOk X R W k cl G c) {x : Str} {i : Nat} {p pos : Pos} {args : List Expr} {es : Exs} (h1 : G.fns.lookup x = some i) (h2 : c.gl x = true) (h3 : okN x = true) (hs : noStars args = true) (hq : PEL X R W cl args es) :
    PE X (.Call (.Name x p) args [] pos) (tE R W (evE cl (.call i es))) := by
  have ev : evE cl (.call i es) = fun env st => (evEs cl es env st).bnd fun ds st => cl i ds st := by funext env st; simp [evE]
  rw [ev]
  obtain ⟨f, hm, ha⟩ := o.fns _ _ h1
  obtain ⟨f', fd, ps, sp, g1, g2, g3, g4, g5⟩ := o.fna i f ha
  rw [ha] at g1
  cases g1
  cases args with
  | nil =>
    cases es with
    | cons => cases hq
    | nil =>
      have e : evEs cl .nil = fun _ st => .ok [] st := by funext env st; simp [evEs]
      rw [e]
      exact pe_callM0 (cl := cl i) g4 o.room o.gd g3 o.tk g5 (o.gl h2) hm g2 (okN_d h3)
  | cons e rest =>
    have n1 : noStar e = true := by
      unfold noStars at hs
      simp only [List.all_cons, Bool.and_eq_true] at hs
      exact hs.1
    have n2 : noStars rest = true := by
      unfold noStars at hs ⊢
      simp only [List.all_cons, Bool.and_eq_true] at hs
      exact hs.2
    exact pe_callM (cl := cl i) g4 o.room o.gd g3 o.tk g5 (o.gl h2) hm g2 (pel_pa hs hq) (okN_d h3) (star1 n1) (stars_plain n2)
theorem callv_ok (o : CkOk X R W k cl G c) {a b : Expr} {ps pos : Pos} {args : List Expr} {f : Ex} {es : Exs} (h0 : args.isEmpty = false) (hf : PE X (.Subscript a b ps) (tE R W (evE cl f))) (hs : noStars args = true) (hq : PEL X R W cl args es) :
    PE X (.Call (.Subscript a b ps) args [] pos) (tE R W (evE cl (.callv f es))) := by
  have ev : evE cl (.callv f es) = fun env st => (evE cl f env st).bnd fun d st => match d with
    | .fn i => (evEs cl es env st).bnd fun ds st => cl i ds st
    | _ => .bad := by
      funext env st
      simp only [evE]
      all_goals congr 1
  rw [ev]
  cases args with
  | nil => cases h0
  | cons e rest =>
    have n1 : noStar e = true := by
      unfold noStars at hs
      simp only [List.all_cons, Bool.and_eq_true] at hs
      exact hs.1
    have n2 : noStars rest = true := by
      unfold noStars at hs ⊢
      simp only [List.all_cons, Bool.and_eq_true] at hs
      exact hs.2
    exact pe_callvM hf o.room o.gd o.tk o.fna (pel_pa hs hq) (star1 n1) (stars_plain n2) (by rfl)
end
/-! ### targets -/
def tgNs (c : Ck) : List Expr → List Nat → Bool
  | [], [] => true
  | .Name x _ :: es, i :: is => decide (c.N[i]? = some x) && c.loc x && tgNs c es is
  | _, _ => false
def tgB (c : Ck) (e : Expr) (t : Tg) : Bool := match e, t with
  | .Name x _, .nm i => decide (c.N[i]? = some x) && c.loc x
  | .Tuple es _ _, .tp is => tgNs c es is
  | _, _ => false
section
variable {X : Cx} {R : RC} {W : WX} {k : Nat} {cl : Call} {G : GI} {c : Ck}
theorem tg_name (o : CkOk X R W k cl G c) {x : Str} {i : Nat} {p : Pos} (h1 : c.N[i]? = some x) (h2 : c.loc x = true) : PG X (.Name x p) (gName i) := by
  obtain ⟨h3, h4⟩ := o.loc h2
  exact pg_name (by rw [o.N]; exact o.nd) (by rw [o.N]; exact h1) h3 h4
theorem assign1 {x : Str} {p : Pos} {es : List Expr} {env : PySem.Env} : assignEach (.Name x p :: es) env = (false, assign (.Name x p) env) :: assignEach es env := by simp [assignEach]
theorem tg_names (o : CkOk X R W k cl G c) : ∀ (es : List Expr) (is : List Nat), tgNs c es is = true → PGs X es (gNs is) ∧ (assignEach es X.env).length = is.length ∧ (assignEach es X.env).findIdx? (·.1) = none
  | [], [], _ => ⟨pgs_nil, by simp [assignEach], by simp [assignEach]⟩
  | .Name x p :: es, i :: is, h => by
    unfold tgNs at h
    simp only [Bool.and_eq_true, decide_eq_true_eq] at h
    obtain ⟨h1, h2, h3⟩ := tg_names o es is h.2
    refine ⟨pgs_cons (tg_name o h.1.1 h.1.2) h1 (by rw [assign1, List.map_cons]), ?_, ?_⟩
    · rw [assign1, List.length_cons, List.length_cons, h2]
    · rw [assign1]
      simp only [List.findIdx?_cons, h3]
      rfl
  | [], _ :: _, h => by simp [tgNs] at h
  | .Name _ _ :: _, [], h => by simp [tgNs] at h
  | .BoolOp _ _ _ :: _, _, h => by simp [tgNs] at h
  | .NamedExpr _ _ _ :: _, _, h => by simp [tgNs] at h
  | .BinOp _ _ _ _ :: _, _, h => by simp [tgNs] at h
  | .UnaryOp _ _ _ :: _, _, h => by simp [tgNs] at h
  | .Lambda _ _ _ _ :: _, _, h => by simp [tgNs] at h
  | .IfExp _ _ _ _ :: _, _, h => by simp [tgNs] at h
  | .Dict _ _ _ :: _, _, h => by simp [tgNs] at h
  | .Set _ _ _ :: _, _, h => by simp [tgNs] at h
  | .ListComp _ _ _ _ :: _, _, h => by simp [tgNs] at h
  | .SetComp _ _ _ _ :: _, _, h => by simp [tgNs] at h
  | .DictComp _ _ _ _ _ :: _, _, h => by simp [tgNs] at h
  | .GeneratorExp _ _ _ _ :: _, _, h => by simp [tgNs] at h
  | .Await _ _ :: _, _, h => by simp [tgNs] at h
  | .Yield _ _ :: _, _, h => by simp [tgNs] at h
  | .YieldFrom _ _ :: _, _, h => by simp [tgNs] at h
  | .Compare _ _ _ _ :: _, _, h => by simp [tgNs] at h
  | .Call _ _ _ _ :: _, _, h => by simp [tgNs] at h
  | .FormattedValue _ _ _ _ :: _, _, h => by simp [tgNs] at h
  | .JoinedStr _ _ :: _, _, h => by simp [tgNs] at h
  | .Constant _ _ _ :: _, _, h => by simp [tgNs] at h
  | .Attribute _ _ _ :: _, _, h => by simp [tgNs] at h
  | .Subscript _ _ _ :: _, _, h => by simp [tgNs] at h
  | .Starred _ _ :: _, _, h => by simp [tgNs] at h
  | .List _ _ :: _, _, h => by simp [tgNs] at h
  | .Tuple _ _ _ :: _, _, h => by simp [tgNs] at h
  | .Slice _ _ _ _ :: _, _, h => by simp [tgNs] at h
theorem tg_ok (o : CkOk X R W k cl G c) {e : Expr} {t : Tg} (h : tgB c e t = true) : PG X e (gM R.K t) := by
  unfold tgB at h
  split at h
  · simp only [Bool.and_eq_true, decide_eq_true_eq] at h
    exact tg_name o h.1 h.2
  · obtain ⟨h1, h2, h3⟩ := tg_names o _ _ h
    show PG X _ (gTup R.K _ _)
    rw [o.K]
    exact pg_tup o.calm h1 h2 h3
  · cases h
end
end Mini
end
section
set_option linter.all false
set_option autoImplicit false
set_option maxRecDepth 100000
set_option maxHeartbeats 1000000
/-! The checker of expressions as one, and that it is right. -/
namespace Mini
open PySem PySem.Spec PyProof.Rows L2
def notSetE : Expr → Bool
  | .Set _ _ _ => false
  | _ => true
theorem notSet_ok {e : Expr} {env : PySem.Env} (h : notSetE e = true) : ∀ x, foldedSetIterable e env x = pure x := by
  intro x
  cases e <;> first | (cases h; done) | rfl
def ownOf (c : Ck) (wp : List Nat) : List (Str × Nat) := wp.filterMap fun i => (c.N[i]?).map fun x => (x, i)
/-- the block of a comprehension -/
def Ck.blk (c : Ck) (scope : Scope) : Ck := ⟨c.N, relS scope c.sc, false⟩
def blkOkB (c : Ck) (scope : Scope) (wp : List Nat) (t : Tg) : Bool := decide ((ownOf c wp).map (·.2) = wp) && blkC c.N c.sc scope (ownOf c wp) && (slotsT t).all fun i => decide (i ∈ wp)
mutual
def chkE (G : GI) : Ex → Ck → Expr → Bool
  | .lit d, c, e => litOk G c d e
  | .var i, c, e => match e with
    | .Name x _ => decide (c.N[i]? = some x) && c.vis x && okN x
    | _ => false
  | .tup es, c, e => match e with
    | .Tuple as _ _ => noStars as && chkEs G es c as
    | _ => false
  | .lst es, c, e => match e with
    | .List as _ => noStars as && chkEs G es c as
    | _ => false
  | .vlst es, c, e => match e with
    | .List as _ => noStars as && chkEs G es c as
    | _ => false
  | .pr p es, c, e => match prParts G c p e with
    | some as => (decide (p ≠ .sl true true) || calmEs es) && chkEs G es c as
    | none => false
  | .mth p o es, c, e => match e with
    | .Call (.Attribute a name apos) args [] cpos => decide (mtP p = some name) && plainBase a && (apos.endLine == cpos.line) && noStars args && decide (args.length < 30) && chkE G o c a && chkEs G es c args
    | _ => false
  | .call f es, c, e => match e with
    | .Call (.Name x _) args [] _ => decide (G.fns.lookup x = some f) && c.gl x && okN x && noStars args && chkEs G es c args
    | _ => false
  | .callv f es, c, e => match e with
    | .Call (.Subscript a b ps) args [] _ => !args.isEmpty && noStars args && chkE G f c (.Subscript a b ps) && chkEs G es c args
    | _ => false
  | .andE x y, c, e => match e with
    | .BoolOp .And (a :: b :: r) pos => chkE G x c a && chkE G y c (restB .And (b :: r) pos)
    | _ => false
  | .orE x y, c, e => match e with
    | .BoolOp .Or (a :: b :: r) pos => chkE G x c a && chkE G y c (restB .Or (b :: r) pos)
    | _ => false
  | .notE x, c, e => match e with
    | .UnaryOp .Not a _ => chkE G x c a
    | _ => false
  | .ife t x y, c, e => match e with
    | .IfExp t' x' y' _ => chkT G t c t' && chkE G x c x' && chkE G y c y'
    | _ => false
  | .chain p q x y z, c, e => match e with
    | .Compare x' [op, op'] [y', z'] _ => decide (cmpP op = some p) && decide (cmpP op' = some q) && !lastMarks [op, op'] [y', z'] && chkE G x c x' && chkE G y c y' && chkE G z c z'
    | _ => false
  | .comp v wp t it cs y, c, e => match e with
    | .ListComp elt [⟨tg, iter, ifs, 0⟩] scope _ => blkOkB c scope wp t && notSetE iter && tgB (c.blk scope) tg t && chkI G it c tg iter && chkC G cs (c.blk scope) ifs && chkE G y (c.blk scope) elt
    | _ => false
def chkT (G : GI) : Ex → Ck → Expr → Bool
  | .andE x y, c, e => match e with
    | .BoolOp .And (a :: b :: r) pos => chkT G x c a && chkT G y c (restB .And (b :: r) pos)
    | _ => false
  | .orE x y, c, e => match e with
    | .BoolOp .Or (a :: b :: r) pos => chkT G x c a && chkT G y c (restB .Or (b :: r) pos)
    | _ => false
  | .notE x, c, e => match e with
    | .UnaryOp .Not a _ => chkT G x c a
    | _ => false
  | .ife t x y, c, e => match e with
    | .IfExp t' x' y' _ => chkT G t c t' && chkT G x c x' && chkT G y c y'
    | _ => false
  | .pr p es, c, e => match prParts G c p e with
    | some as => (decide (p ≠ .sl true true) || calmEs es) && chkEs G es c as
    | none => false
  | .var i, c, e => match e with
    | .Name x _ => decide (c.N[i]? = some x) && c.vis x && okN x
    | _ => false
  | .call f es, c, e => match e with
    | .Call (.Name x _) args [] _ => decide (G.fns.lookup x = some f) && c.gl x && okN x && noStars args && chkEs G es c args
    | _ => false
  | .chain p q x y z, c, e => match e with
    | .Compare x' [op, op'] [y', z'] _ => decide (cmpP op = some p) && decide (cmpP op' = some q) && !lastMarks [op, op'] [y', z'] && chkE G x c x' && chkE G y c y' && chkE G z c z'
    | _ => false
  | _, _, _ => false
def chkEs (G : GI) : Exs → Ck → List Expr → Bool
  | .nil, _, as => as.isEmpty
  | .cons x xs, c, as => match as with
    | a :: as => chkE G x c a && chkEs G xs c as
    | [] => false
def chkC (G : GI) : Exs → Ck → List Expr → Bool
  | .nil, _, as => as.isEmpty
  | .cons x xs, c, as => match as, xs with
    | [a], .nil => chkT G x c a
    | _, _ => false
def chkI (G : GI) : It → Ck → Expr → Expr → Bool
  | .seq x, c, _, e => chkE G x c e
  | .rng es, c, _, e => match e with
    | .Call (.Name r _) args [] _ => (r == ("range" : Str)) && c.gl r && decide (r ∈ G.bts) && noStars args && (match args with
        | [_] => true
        | [_, _] => true
        | [_, _, _] => true
        | _ => false) && chkEs G es c args
    | _ => false
  | .enum x, c, tg, e => match tg, e with
    | .Tuple _ _ _, .Call (.Name r _) [a] [] _ => (r == ("enumerate" : Str)) && c.gl r && decide (r ∈ G.bts) && noStar a && chkE G x c a
    | _, _ => false
  | .zip x y, c, tg, e => match tg, e with
    | .Tuple _ _ _, .Call (.Name r _) [a, b] [] _ => (r == ("zip" : Str)) && c.gl r && decide (r ∈ G.bts) && noStar a && noStar b && chkE G x c a && chkE G y c b
    | _, _ => false
end
theorem ck_blk {X : Cx} {R : RC} {W : WX} {k : Nat} {cl : Call} {G : GI} {c : Ck} (o : CkOk X R W k cl G c) (scope : Scope) (s : Shared) (H : Hp) (C : Addr) (l : List (Str × Addr)) (fp : List Addr) :
    CkOk (X.blk s H scope (compEnvC scope l C X.env) fp) R W0 k cl G (c.blk scope) :=
  ⟨o.K, o.N, o.nd, by
    show relS scope X.env.scope = relS scope c.sc
    rw [o.sc], fun z => absurd z (by
    show ¬ (false = true)
    exact Bool.false_ne_true), o.calm, o.room, o.gd, takes_none5, o.fns, o.fna, o.cns, o.bts⟩
section
variable {R : RC} {k : Nat} {cl : Call} {G : GI}
theorem evT_of {e : Ex} (h : ∀ env st, evT cl e env st = (evE cl e env st).bnd truR) : evT cl e = fun env st => (evE cl e env st).bnd truR := by
  funext env st
  exact h env st
mutual
theorem chkE_ok : ∀ (e' : Ex) (c : Ck) (e : Expr) (X : Cx) (W : WX), CkOk X R W k cl G c → chkE G e' c e = true → PE X e (tE R W (evE cl e'))
  | .lit d, c, e, X, W, o, h => by
    simp only [chkE] at h
    exact litOk_ok o h
  | .var i, c, e, X, W, o, h => by
    simp only [chkE] at h
    split at h
    · simp only [Bool.and_eq_true, decide_eq_true_eq] at h
      have ev : evE cl (.var i) = fun env st => match getV env i with | some d => .ok d st | none => .bad := by
        funext env st
        simp only [evE]
        try first | rfl | (congr 1; done) | (congr 1; funext d st; cases d <;> rfl)
      rw [ev]
      exact pe_v (pe_var (by rw [o.N]; exact h.1.1) (o.vis h.1.2) (okN_d h.2) (okN_c h.2))
    · cases h
  | .tup es, c, e, X, W, o, h => by
    simp only [chkE] at h
    split at h
    · rw [Bool.and_eq_true] at h
      have ev : evE cl (.tup es) = fun env st => (evEs cl es env st).bnd fun ds st => if ds.length ≤ sizeLine then .ok (.tup ds) st else .bad := by
        funext env st
        simp only [evE]
        try first | rfl | (congr 1; done) | (congr 1; funext d st; cases d <;> rfl)
      rw [ev]
      exact pe_t (pel_pa h.1 (chkEs_ok es c _ X W o h.2))
    · cases h
  | .lst es, c, e, X, W, o, h => by
    simp only [chkE] at h
    split at h
    · rw [Bool.and_eq_true] at h
      have ev : evE cl (.lst es) = fun env st => (evEs cl es env st).bnd fun ds st => if ds.length ≤ sizeLine then .ok (.ref st.length) (st ++ [.lst ds]) else .bad := by
        funext env st
        simp only [evE]
        try first | rfl | (congr 1; done) | (congr 1; funext d st; cases d <;> rfl)
      rw [ev]
      exact pe_l (pel_pa h.1 (chkEs_ok es c _ X W o h.2))
    · cases h
  | .vlst es, c, e, X, W, o, h => by
    simp only [chkE] at h
    split at h
    · rw [Bool.and_eq_true] at h
      have ev : evE cl (.vlst es) = fun env st => (evEs cl es env st).bnd fun ds st => if ds.length ≤ sizeLine then .ok (.lst ds) st else .bad := by
        funext env st
        simp only [evE]
        try first | rfl | (congr 1; done) | (congr 1; funext d st; cases d <;> rfl)
      rw [ev]
      exact pe_vl (pel_pa h.1 (chkEs_ok es c _ X W o h.2))
    · cases h
  | .pr p es, c, e, X, W, o, h => by
    simp only [chkE] at h
    split at h
    · rename_i as ea
      simp only [Bool.and_eq_true, Bool.or_eq_true, decide_eq_true_eq] at h
      exact pr_ok o ea (fun z => h.1.elim (fun w => absurd z w) id) (chkEs_ok es c as X W o h.2)
    · cases h
  | .mth p ob es, c, e, X, W, o, h => by
    simp only [chkE] at h
    split at h
    · simp only [Bool.and_eq_true, decide_eq_true_eq] at h
      obtain ⟨⟨⟨⟨⟨⟨h1, h2⟩, h3⟩, h4⟩, h5⟩, h6⟩, h7⟩ := h
      rw [ev_mth]
      exact mth_ok o h1 (chkE_ok ob c _ X W o h6) h2 h3 h4 h5 (chkEs_ok es c _ X W o h7)
    · cases h
  | .call f es, c, e, X, W, o, h => by
    simp only [chkE] at h
    split at h
    · simp only [Bool.and_eq_true, decide_eq_true_eq] at h
      obtain ⟨⟨⟨⟨h1, h2⟩, h3⟩, h4⟩, h5⟩ := h
      exact call_ok o h1 h2 h3 h4 (chkEs_ok es c _ X W o h5)
    · cases h
  | .callv f es, c, e, X, W, o, h => by
    simp only [chkE] at h
    split at h
    · simp only [Bool.and_eq_true, Bool.not_eq_true'] at h
      obtain ⟨⟨⟨h1, h2⟩, h3⟩, h4⟩ := h
      exact callv_ok o h1 (chkE_ok f c _ X W o h3) h2 (chkEs_ok es c _ X W o h4)
    · cases h
  | .andE x y, c, e, X, W, o, h => by
    simp only [chkE] at h
    split at h
    · rw [Bool.and_eq_true] at h
      have ev : evE cl (.andE x y) = fun env st => (evE cl x env st).bnd fun d st => match d with
          | .bl true => evE cl y env st
          | .bl false => .ok (.bl false) st
          | _ => .bad := by
        funext env st
        simp only [evE]
        try first | rfl | (congr 1; done) | (congr 1; funext d st; cases d <;> rfl)
      rw [ev]
      exact pe_andM (chkE_ok x c _ X W o h.1) (restB_pe (by simp) (chkE_ok y c _ X W o h.2))
    · cases h
  | .orE x y, c, e, X, W, o, h => by
    simp only [chkE] at h
    split at h
    · rw [Bool.and_eq_true] at h
      have ev : evE cl (.orE x y) = fun env st => (evE cl x env st).bnd fun d st => match d with
          | .bl true => .ok (.bl true) st
          | .bl false => evE cl y env st
          | _ => .bad := by
        funext env st
        simp only [evE]
        try first | rfl | (congr 1; done) | (congr 1; funext d st; cases d <;> rfl)
      rw [ev]
      exact pe_orM (chkE_ok x c _ X W o h.1) (restB_pe (by simp) (chkE_ok y c _ X W o h.2))
    · cases h
  | .notE x, c, e, X, W, o, h => by
    simp only [chkE] at h
    split at h
    · have ev : evE cl (.notE x) = fun env st => (evE cl x env st).bnd fun d st => match d with
          | .bl b => .ok (.bl (!b)) st
          | _ => .bad := by
        funext env st
        simp only [evE]
        try first | rfl | (congr 1; done) | (congr 1; funext d st; cases d <;> rfl)
      rw [ev]
      exact pe_notM (chkE_ok x c _ X W o h)
    · cases h
  | .ife t x y, c, e, X, W, o, h => by
    simp only [chkE] at h
    split at h
    · simp only [Bool.and_eq_true] at h
      have ev : evE cl (.ife t x y) = fun env st => (evT cl t env st).bnd fun b st => if b = true then evE cl x env st else evE cl y env st := by
        funext env st
        simp only [evE]
        try first | rfl | (congr 1; done) | (congr 1; funext d st; cases d <;> rfl)
      rw [ev]
      exact pe_ifM (chkT_ok t c _ X W o h.1.1) (chkE_ok x c _ X W o h.1.2) (chkE_ok y c _ X W o h.2)
    · cases h
  | .chain p q x y z, c, e, X, W, o, h => by
    simp only [chkE] at h
    split at h
    · simp only [Bool.and_eq_true, decide_eq_true_eq, Bool.not_eq_true'] at h
      obtain ⟨⟨⟨⟨⟨h1, h2⟩, h3⟩, h4⟩, h5⟩, h6⟩ := h
      obtain ⟨⟨r, g1, g2⟩, _⟩ := cmp_ok o _ _ h1
      obtain ⟨⟨r', g3, g4⟩, _⟩ := cmp_ok o _ _ h2
      have ev : evE cl (.chain p q x y z) = fC p q (evE cl x) (evE cl y) (evE cl z) := by
        funext env st
        simp only [evE, fC]
        try first | rfl | (congr 1; done) | (congr 1; funext d st; cases d <;> rfl)
      rw [ev]
      exact pe_chainM g1 g3 g2 g4 (chkE_ok x c _ X W o h4) (chkE_ok y c _ X W o h5) (chkE_ok z c _ X W o h6) h3
    · cases h
  | .comp v wp t it cs y, c, e, X, W, o, h => by
    simp only [chkE] at h
    split at h
    · rename_i elt tg iter ifs scope pos
      simp only [Bool.and_eq_true] at h
      obtain ⟨⟨⟨⟨⟨h1, h2⟩, h3⟩, h4⟩, h5⟩, h6⟩ := h
      unfold blkOkB at h1
      simp only [Bool.and_eq_true, decide_eq_true_eq, List.all_eq_true] at h1
      obtain ⟨⟨h7, h8⟩, h9⟩ := h1
      have ev : evE cl (.comp v wp t it cs y) = fComp v wp t (evI cl it) (evC cl cs) (evE cl y) := by
        funext env st
        simp only [evE, fComp]
        try first | rfl | (congr 1; done) | (congr 1; funext d st; cases d <;> rfl)
      rw [ev, ← h7]
      refine pe_comp o.calm (by rw [o.N]; exact o.nd) (chkI_ok it c tg iter X W o h4) (by rw [o.N, o.sc]; exact blkOk_by h8) (fun s H C l fp => ?_) (fun s H C l fp => ?_) (fun s H C l fp => ?_) (notSet_ok h2) (by rw [h7]; exact h9)
      · exact tg_ok (ck_blk o scope s H C l fp) h3
      · exact chkC_ok cs (c.blk scope) ifs _ W0 (ck_blk o scope s H C l fp) h5
      · exact chkE_ok y (c.blk scope) elt _ W0 (ck_blk o scope s H C l fp) h6
    · cases h
theorem chkT_ok : ∀ (e' : Ex) (c : Ck) (e : Expr) (X : Cx) (W : WX), CkOk X R W k cl G c → chkT G e' c e = true → PT X e (tT R W (evT cl e'))
  | .andE x y, c, e, X, W, o, h => by
    simp only [chkT] at h
    split at h
    · rw [Bool.and_eq_true] at h
      have ev : evT cl (.andE x y) = fun env st => (evT cl x env st).bnd fun b st => if b = true then evT cl y env st else .ok false st := by
        funext env st
        simp only [evT]
        try first | rfl | (congr 1; done) | (congr 1; funext d st; cases d <;> rfl)
      rw [ev]
      exact pt_and (chkT_ok x c _ X W o h.1) (restB_and (chkT_ok y c _ X W o h.2))
    · cases h
  | .orE x y, c, e, X, W, o, h => by
    simp only [chkT] at h
    split at h
    · rw [Bool.and_eq_true] at h
      have ev : evT cl (.orE x y) = fun env st => (evT cl x env st).bnd fun b st => if b = true then .ok true st else evT cl y env st := by
        funext env st
        simp only [evT]
        try first | rfl | (congr 1; done) | (congr 1; funext d st; cases d <;> rfl)
      rw [ev]
      exact pt_or (chkT_ok x c _ X W o h.1) (restB_or (chkT_ok y c _ X W o h.2))
    · cases h
  | .notE x, c, e, X, W, o, h => by
    simp only [chkT] at h
    split at h
    · have ev : evT cl (.notE x) = fun env st => (evT cl x env st).bnd fun b st => .ok (!b) st := by
        funext env st
        simp only [evT]
        try first | rfl | (congr 1; done) | (congr 1; funext d st; cases d <;> rfl)
      rw [ev]
      exact pt_n (chkT_ok x c _ X W o h)
    · cases h
  | .ife t x y, c, e, X, W, o, h => by
    simp only [chkT] at h
    split at h
    · simp only [Bool.and_eq_true] at h
      have ev : evT cl (.ife t x y) = fun env st => (evT cl t env st).bnd fun b st => if b = true then evT cl x env st else evT cl y env st := by
        funext env st
        simp only [evT]
        try first | rfl | (congr 1; done) | (congr 1; funext d st; cases d <;> rfl)
      rw [ev]
      exact pt_ifM (chkT_ok t c _ X W o h.1.1) (chkT_ok x c _ X W o h.1.2) (chkT_ok y c _ X W o h.2)
    · cases h
  | .pr p es, c, e, X, W, o, h => by
    simp only [chkT] at h
    split at h
    · rename_i as ea
      simp only [Bool.and_eq_true, Bool.or_eq_true, decide_eq_true_eq] at h
      exact pr_test o ea (fun z => h.1.elim (fun w => absurd z w) id) (chkEs_ok es c as X W o h.2)
    · cases h
  | .var i, c, e, X, W, o, h => by
    simp only [chkT] at h
    split at h
    · rename_i x p
      have ev : evT cl (.var i) = fun env st => (evE cl (.var i) env st).bnd truR := evT_of fun env st => by
        simp only [evT, evE]
        cases getV env i <;> rfl
      rw [ev]
      refine pt_tru o.K ?_ (tPlain_ok rfl)
      simp only [Bool.and_eq_true, decide_eq_true_eq] at h
      have ev : evE cl (.var i) = fun env st => match getV env i with | some d => .ok d st | none => .bad := by
        funext env st
        simp only [evE]
        try first | rfl | (congr 1; done) | (congr 1; funext d st; cases d <;> rfl)
      rw [ev]
      exact pe_v (pe_var (by rw [o.N]; exact h.1.1) (o.vis h.1.2) (okN_d h.2) (okN_c h.2))
    · cases h
  | .call f es, c, e, X, W, o, h => by
    simp only [chkT] at h
    split at h
    · simp only [Bool.and_eq_true, decide_eq_true_eq] at h
      obtain ⟨⟨⟨⟨h1, h2⟩, h3⟩, h4⟩, h5⟩ := h
      have ev : evT cl (.call f es) = fun env st => (evE cl (.call f es) env st).bnd truR := evT_of fun env st => by
        simp only [evT, evE, bnd_assoc]
      rw [ev]
      exact pt_tru o.K (call_ok o h1 h2 h3 h4 (chkEs_ok es c _ X W o h5)) (tPlain_ok rfl)
    · cases h
  | .chain p q x y z, c, e, X, W, o, h => by
    simp only [chkT] at h
    split at h
    · simp only [Bool.and_eq_true, decide_eq_true_eq, Bool.not_eq_true'] at h
      obtain ⟨⟨⟨⟨⟨h1, h2⟩, h3⟩, h4⟩, h5⟩, h6⟩ := h
      obtain ⟨⟨r, g1, g2⟩, _⟩ := cmp_ok o _ _ h1
      obtain ⟨⟨r', g3, g4⟩, _⟩ := cmp_ok o _ _ h2
      have ev : evT cl (.chain p q x y z) = fCT p q (evE cl x) (evE cl y) (evE cl z) := by
        funext env st
        simp only [evT, fCT]
        try first | rfl | (congr 1; done) | (congr 1; funext d st; cases d <;> rfl)
      rw [ev]
      exact pt_chainM g1 g3 g2 g4 (chkE_ok x c _ X W o h4) (chkE_ok y c _ X W o h5) (chkE_ok z c _ X W o h6) h3
    · cases h
  | .lit _, _, _, _, _, _, h => by simp [chkT] at h
  | .tup _, _, _, _, _, _, h => by simp [chkT] at h
  | .lst _, _, _, _, _, _, h => by simp [chkT] at h
  | .vlst _, _, _, _, _, _, h => by simp [chkT] at h
  | .mth _ _ _, _, _, _, _, _, h => by simp [chkT] at h
  | .callv _ _, _, _, _, _, _, h => by simp [chkT] at h
  | .comp _ _ _ _ _ _, _, _, _, _, _, h => by simp [chkT] at h
theorem chkEs_ok : ∀ (es' : Exs) (c : Ck) (es : List Expr) (X : Cx) (W : WX), CkOk X R W k cl G c → chkEs G es' c es = true → PEL X R W cl es es'
  | .nil, c, es, X, W, o, h => by
    simp only [chkEs] at h
    cases es with
    | nil => exact trivial
    | cons => cases h
  | .cons x xs, c, es, X, W, o, h => by
    simp only [chkEs] at h
    cases es with
    | nil => cases h
    | cons a as =>
      dsimp only at h
      rw [Bool.and_eq_true] at h
      exact ⟨chkE_ok x c a X W o h.1, chkEs_ok xs c as X W o h.2⟩
theorem chkC_ok : ∀ (es' : Exs) (c : Ck) (es : List Expr) (X : Cx) (W : WX), CkOk X R W k cl G c → chkC G es' c es = true → PTs X es (tT R W (evC cl es'))
  | .nil, c, es, X, W, o, h => by
    simp only [chkC] at h
    cases es with
    | nil =>
      have ev : evC cl .nil = fun _ st => .ok true st := by
        funext env st
        simp only [evC]
        try first | rfl | (congr 1; done) | (congr 1; funext d st; cases d <;> rfl)
      rw [ev]
      exact ⟨fun pins s σ H Q I ⟨hd, m, env, st, sr, er, p⟩ => pts_nil.run pins s σ H Q I (p m H Ext.refl sr)⟩
    | cons => cases h
  | .cons x xs, c, es, X, W, o, h => by
    simp only [chkC] at h
    split at h
    · have ev : evC cl (.cons x .nil) = evT cl x := by
        funext env st
        simp only [evC]
        try first | rfl | (congr 1; done) | (congr 1; funext d st; cases d <;> rfl)
      rw [ev]
      exact pts_one (chkT_ok x c _ X W o h)
    · cases h
theorem chkI_ok : ∀ (it : It) (c : Ck) (tg e : Expr) (X : Cx) (W : WX), CkOk X R W k cl G c → chkI G it c tg e = true → PI X tg e (tI R W (evI cl it))
  | .seq x, c, tg, e, X, W, o, h => by
    simp only [chkI] at h
    have ev : evI cl (.seq x) = fun env st => (evE cl x env st).bnd fun d st => match itemsOf st d with
        | some ds => .ok (ds, srcOf st d) st
        | none => .bad := by
      funext env st
      simp only [evI]
      try first | rfl | (congr 1; done) | (congr 1; funext d st; cases d <;> rfl)
    rw [ev]
    exact pi_seqM o.K (chkE_ok x c e X W o h)
  | .rng es, c, tg, e, X, W, o, h => by
    simp only [chkI] at h
    split at h
    · rename_i r q args pos
      simp only [Bool.and_eq_true, decide_eq_true_eq, beq_iff_eq] at h
      obtain ⟨⟨⟨⟨⟨h1, h2⟩, h3⟩, h4⟩, h5⟩, h6⟩ := h
      subst h1
      have hq := chkEs_ok es c args X W o h6
      have ev : evI cl (.rng es) = fR es.len (evEs cl es) := by
        funext env st
        simp only [evI, fR]
        try first | rfl | (congr 1; done) | (congr 1; funext d st; cases d <;> rfl)
      rw [ev]
      have hpa := pel_pa h4 hq
      unfold noStars at h4
      split at h5
      · simp only [List.all_cons, Bool.and_eq_true] at h4
        obtain ⟨x, rfl, _⟩ := pel1 hq
        exact pi_r1 (o.gl h2) (o.bts _ h3) hpa (by rw [star1 h4.1]; simp [starEach])
      · simp only [List.all_cons, Bool.and_eq_true] at h4
        obtain ⟨x, y, rfl, _⟩ := pel2 hq
        exact pi_r2 (o.gl h2) (o.bts _ h3) hpa (by rw [star1 h4.1, star1 h4.2.1]; simp [starEach]) (by rw [star1 h4.2.1]; simp [starEach])
      · simp only [List.all_cons, Bool.and_eq_true] at h4
        obtain ⟨x, y, z, rfl, _⟩ := pel3 hq
        exact pi_r3 (o.gl h2) (o.bts _ h3) hpa (star1 h4.1) (stars_plain (by unfold noStars; simp [h4.2.1, h4.2.2.1]))
      · cases h5
    · cases h
  | .enum x, c, tg, e, X, W, o, h => by
    simp only [chkI] at h
    split at h
    · simp only [Bool.and_eq_true, decide_eq_true_eq, beq_iff_eq] at h
      obtain ⟨⟨⟨⟨h1, h2⟩, h3⟩, h4⟩, h5⟩ := h
      subst h1
      have ev : evI cl (.enum x) = fun env st => (evE cl x env st).bnd fun d st => match listOf st d with
          | some ds => .ok (enumL ds, srcOf st d) st
          | none => .bad := by
        funext env st
        simp only [evI]
        try first | rfl | (congr 1; done) | (congr 1; funext d st; cases d <;> rfl)
      rw [ev]
      exact pi_enumM o.K (o.gl h2) (o.bts _ h3) (chkE_ok x c _ X W o h5) (by rw [star1 h4]; simp [starEach])
    · cases h
  | .zip x y, c, tg, e, X, W, o, h => by
    simp only [chkI] at h
    split at h
    · simp only [Bool.and_eq_true, decide_eq_true_eq, beq_iff_eq] at h
      obtain ⟨⟨⟨⟨⟨⟨h1, h2⟩, h3⟩, h4⟩, h5⟩, h6⟩, h7⟩ := h
      subst h1
      have ev : evI cl (.zip x y) = fun env st => (evE cl x env st).bnd fun a st => (evE cl y env st).bnd fun b st => match listOf st a, listOf st b with
          | some xs, some ys => .ok (zipL xs ys, srcOf st a ++ srcOf st b) st
          | _, _ => .bad := by
        funext env st
        simp only [evI]
        try first | rfl | (congr 1; done) | (congr 1; funext d st; cases d <;> rfl)
      rw [ev]
      exact pi_zipM o.K (o.gl h2) (o.bts _ h3) (chkE_ok x c _ X W o h6) (chkE_ok y c _ X W o h7) (star1 h4) (star1 h5) (stars_plain (by unfold noStars; simp [h5]))
    · cases h
end
end
end Mini
end
section
set_option linter.all false
set_option autoImplicit false
set_option maxRecDepth 100000
set_option maxHeartbeats 1000000
/-! The checker of statements, and that it is right. -/
namespace Mini
open PySem PySem.Spec PyProof.Rows L2
/-! ### op= -/
def rIaddM : R2 := fun x y H Q => rI0 (fun i j => .int (i + j)) x y H Q ∨ ∃ i j, x = .str i ∧ y = .str j ∧ i.length + j.length ≤ sizeLine ∧ Q (.str (i ++ j)) H
theorem iop_addM {X : Cx} : OpR X (inplaceOp .Add) rIaddM := iop_add.or iop_add_str
theorem iop_mulM {X : Cx} : OpR X (inplaceOp .Mult) (rI CMulW fun i j => .int (i * j)) := opI fun _ _ _ _ _ _ _ hc q => imul_int q (CMulW.ok hc)
theorem sim_iadd {R : RC} : Sim R .iadd (l2 rIaddM) := by
  refine sim2 (not2 rfl (fun x => by cases x <;> rfl) fun x y z l => by cases x <;> (try rfl) <;> cases y <;> rfl) fun m st H d e v w Q s rd re p => ?_
  cases rd <;> first | exact p.elim | skip
  · cases re <;> first | exact p.elim | skip
    exact .inl ⟨_, _, rfl, rfl, p.here s (.int _)⟩
  · cases re <;> first | exact p.elim | skip
    obtain ⟨c, p⟩ := guardR_some p
    refine .inr ⟨_, _, rfl, rfl, by rw [len_str, len_str]; exact of_decide_eq_true c, ?_⟩
    rw [str_app]
    exact p.here s (.str _)
theorem sim_isub {R : RC} : Sim R .isub (l2 (rI0 fun i j => .int (i - j))) := by
  refine sim2 (not2 rfl (fun x => by cases x <;> rfl) fun x y z l => by cases x <;> (try rfl) <;> cases y <;> rfl) fun m st H d e v w Q s rd re p => ?_
  cases rd <;> first | exact p.elim | skip
  cases re <;> first | exact p.elim | skip
  exact ⟨_, _, rfl, rfl, p.here s (.int _)⟩
theorem sim_imul {R : RC} : Sim R .imul (l2 (rI CMulW fun i j => .int (i * j))) := by
  refine sim2 (not2 rfl (fun x => by cases x <;> rfl) fun x y z l => by cases x <;> (try rfl) <;> cases y <;> rfl) fun m st H d e v w Q s rd re p => ?_
  cases rd <;> first | exact p.elim | skip
  cases re <;> first | exact p.elim | skip
  obtain ⟨c, p⟩ := guardR_some p
  exact ⟨_, _, rfl, rfl, by
    unfold wide at c
    have z := of_decide_eq_true c
    exact z, p.here s (.int _)⟩
def augP : Operator → Option Pr
  | .Add => some .iadd
  | .Sub => some .isub
  | .Mult => some .imul
  | _ => none
theorem aug_ok {X : Cx} {R : RC} {op : Operator} {p : Pr} (h : augP op = some p) : ∃ r : R2, (∀ hd, Sim (R.w hd) p (l2 r)) ∧ OpR X (inplaceOp op) r := by
  cases op <;> first | (cases h; done) | (cases h)
  · exact ⟨_, fun hd => sim_iadd, iop_addM⟩
  · exact ⟨_, fun hd => sim_isub, iop_sub⟩
  · exact ⟨_, fun hd => sim_imul, iop_mulM⟩
/-! ### stores -/
def notComp : Expr → Bool
  | .ListComp _ _ _ _ => false
  | .SetComp _ _ _ _ => false
  | .DictComp _ _ _ _ _ => false
  | _ => true
theorem swaps_plain {e : Expr} {t : Option Expr} {l : Nat} {env : PySem.Env} (h : notComp e = true) : swapsWith e t l env = pure false := by
  cases e <;> first | (cases h; done) | rfl
def swC (c : Ck) (y : Str) (py : Pos) (scope : Scope) (vp : Pos) : Bool := decide (c.sc.kind = .function) && decide (c.sc.names.lookup y = some .local) && py.line == vp.line && !(scope.names.any fun (n, k) => n == y && (k == .local || k == .cell))
theorem swaps_comp {X : Cx} {c : Ck} (hs : X.env.scope = c.sc) {elt : Expr} {gens : List Comprehension} {scope : Scope} {vp py : Pos} {y : Str} {l : Nat} (h : swC c y py scope vp = true) : swapsWith (.ListComp elt gens scope vp) (some (.Name y py)) l X.env = pure true := by
  unfold swC at h
  simp only [Bool.and_eq_true, decide_eq_true_eq] at h
  obtain ⟨⟨⟨h1, h2⟩, h3⟩, h4⟩ := h
  have e : swapsWith (.ListComp elt gens scope vp) (some (.Name y py)) l X.env = pure (X.env.blockKind == .function && X.env.kindOf y == some .local && py.line == vp.line && !(scope.names.any fun (n, k) => n == y && (k == .local || k == .cell))) := rfl
  rw [e]
  have e1 : (X.env.blockKind == ScopeKind.function) = true := by
    unfold PySem.Env.blockKind
    rw [hs, h1]
    rfl
  have e2 : (X.env.kindOf y == some NameKind.local) = true := by
    show (X.env.scope.names.lookup y == _) = true
    rw [hs, h2]
    rfl
  rw [e1, e2, h3, h4]
  rfl
/-- a target and a value that are stored in the plain order -/
def swN (e : Expr) : Bool := match e with
  | .Tuple vs _ _ => vs.all (foldedForSure 8)
  | _ => true
theorem swN_tup {ts : List Expr} {kt : Nat} {pt : Pos} {e : Expr} {env : PySem.Env} (h : swN e = true) : swappedStores [.Tuple ts kt pt] e env = pure none := by
  unfold swN at h
  split at h
  · rename_i vs k2 p2
    unfold swappedStores
    dsimp only
    split
    · rfl
    · split
      · rfl
      · split
        · rfl
        · first
            | rfl
            | (split
               · rfl
               · rename_i z
                 exact absurd h z)
  · rename_i hn
    cases e <;> first | rfl | exact absurd rfl (hn _ _ _)
def parLine (ps : List Pos) : Bool := match ps with
  | p :: ps => ps.all fun q => q.line == p.line
  | [] => true
theorem blockFn {X : Cx} {c : Ck} (hs : X.env.scope = c.sc) (h : c.sc.kind = .function) : X.env.blockKind = .function := by
  unfold PySem.Env.blockKind
  rw [hs, h]
  rfl
theorem kindLoc {X : Cx} {c : Ck} (hs : X.env.scope = c.sc) {x : Str} (h : c.sc.names.lookup x = some .local) : X.env.kindOf x = some .local := by
  show X.env.scope.names.lookup x = _
  rw [hs, h]
theorem nostar_any {vs : List Expr} (h : noStars vs = true) : (vs.any fun | .Starred .. => true | _ => false) = false := by
  unfold noStars at h
  rw [List.all_eq_true] at h
  rw [List.any_eq_false]
  intro e he z
  have := h e he
  cases e <;> first | (cases this; done) | cases z
def isFolded (vs : List Expr) : Bool := vs.all (foldedForSure 8)
def isConst (vs : List Expr) : Bool := vs.all (constantsAlone 8)
theorem par2 {x y : Str} {px py pt pt2 : Pos} {kt k2 : Nat} {a b : Expr} {env : PySem.Env} (h1 : env.blockKind = .function) (h2 : env.kindOf x = some .local) (h3 : env.kindOf y = some .local) (hl : (py.line == px.line) = true) (hne : x ≠ y)
    (hs : noStars [a, b] = true) (hf : isFolded [a, b] = false) (hc : isConst [a, b] = false) : swappedStores [.Tuple [.Name x px, .Name y py] kt pt] (.Tuple [a, b] k2 pt2) env = pure (some [x, y]) := by
  unfold swappedStores
  dsimp only
  have n2 : (List.eraseDups [x, y]).length = 2 := by
    have z : (x == y) = false := by simpa using hne
    have z2 : (y == x) = false := by simpa using Ne.symm hne
    simp [List.eraseDups, List.eraseDupsBy, List.eraseDupsBy.loop, z, z2, hne, Ne.symm hne]
  unfold isFolded at hf
  unfold isConst at hc
  have hl := eq_of_beq hl
  have ns := nostar_any hs
  simp only [List.filterMap_cons, List.filterMap_nil, h2, h3, h1, ns, hf, hc, Expr.pos, List.head?_cons, Option.map_some, Option.getD_some, hl, BEq.rfl, Bool.and_self, if_true, n2]
  exact (if_neg (fun z => Bool.false_ne_true z)).trans ((if_neg fun z => Bool.false_ne_true (ns.symm.trans z)).trans rfl)
theorem par3 {x y z : Str} {px py pz pt pt2 : Pos} {kt k2 : Nat} {a b d : Expr} {env : PySem.Env} (h1 : env.blockKind = .function) (h2 : env.kindOf x = some .local) (h3 : env.kindOf y = some .local) (h4 : env.kindOf z = some .local) (hl : (py.line == px.line) = true) (hl2 : (pz.line == px.line) = true) (hne : x ≠ y) (hne2 : x ≠ z) (hne3 : y ≠ z)
    (hs : noStars [a, b, d] = true) (hf : isFolded [a, b, d] = false) (hc : isConst [a, b, d] = false) : swappedStores [.Tuple [.Name x px, .Name y py, .Name z pz] kt pt] (.Tuple [a, b, d] k2 pt2) env = pure (some [x, y, z]) := by
  unfold swappedStores
  dsimp only
  have n2 : (List.eraseDups [x, y, z]).length = 3 := by
    have z1 : (y == x) = false := by simpa using Ne.symm hne
    have z2 : (z == x) = false := by simpa using Ne.symm hne2
    have z3 : (z == y) = false := by simpa using Ne.symm hne3
    simp [List.eraseDups, List.eraseDupsBy, List.eraseDupsBy.loop, z1, z2, z3]
  unfold isFolded at hf
  unfold isConst at hc
  have hl := eq_of_beq hl
  have hl2 := eq_of_beq hl2
  have ns := nostar_any hs
  simp only [List.filterMap_cons, List.filterMap_nil, h2, h3, h4, h1, ns, hf, hc, Expr.pos, List.head?_cons, Option.map_some, Option.getD_some, hl, hl2, BEq.rfl, Bool.and_self, if_true, n2]
  exact (if_neg (fun z => Bool.false_ne_true z)).trans ((if_neg fun z => Bool.false_ne_true (ns.symm.trans z)).trans rfl)
end Mini
end
section
set_option linter.all false
set_option autoImplicit false
set_option maxRecDepth 100000
set_option maxHeartbeats 1000000
/-! The checker of statements as one, and that it is right. -/
namespace Mini
open PySem PySem.Spec PyProof.Rows L2
/-- an own exception class without own __init__ -/
structure PlX (K : PySem.W.Frag) (mg : Str → Option Value) (x : Str) (C : Addr) : Prop where
  ex : ∃ (B newId initId : String) (bmB : List Value), Nonempty (ExcBaseFacts B newId initId bmB) ∧ PySem.W.excIn K C bmB newId = true
  mg : mg x = some (.ref C)
  kC : PySem.W.keepIn K (.ref C) = true
  e1 : PySem.W.subIn K (.ref C) (.type "BaseException") = some true
  e2 : PySem.W.typeIn K (.ref C) = some (.type "type")
/-- the same place, as far as calls look -/
structure Alike (X Y : Cx) : Prop where
  prog : Y.prog = X.prog
  w : Y.w = X.w
  K : Y.K = X.K
  mg : Y.mg = X.mg
  base : Y.base = X.base
  A : Y.A = X.A
/-- an own exception class whose __init__ takes one argument and keeps it -/
def InX (X : Cx) (R : RC) (cs : Clss) (ci : Nat) (x : Str) : Prop := ∀ (Y : Cx), Alike X Y → Y.calm = true → Gl Y x → ∀ (W : WX) (g : Env → Sto → Res (List Mini.D)) (a : Expr) (p pos : Pos), Takes Y W → PA Y [a] (tA R W g) → noStar a = true →
  ∃ t, PMk Y (.Call (.Name x p) [a] [] pos) t ∧ ∀ σ H Q, tM R cs ci g σ H Q → t σ H Q
structure StOk (X : Cx) (R : RC) (cs : Clss) (G : GI) : Prop where
  hst : X.stack = X.env :: X.outer
  hf : X.env.frame = some X.env.locals
  hp : PassesOwn (model X.prog X.w) X.A X.env X.xe
  pls : ∀ x ci, G.pls.lookup x = some ci → ∃ C, R.ca ci = some C ∧ (∃ kk, cs[ci]? = some kk ∧ kk.flds = []) ∧ PlX X.K X.mg x C
  ins : ∀ x ci, G.ins.lookup x = some ci → InX X R cs ci x
  ecs : ∀ x ci, G.ecs.lookup x = some ci → ∃ cv, X.mg x = some cv ∧ ClsOK R cs ci cv
  xfs : ∀ ci f, G.xfs.lookup ci = some f → ∃ C, R.ca ci = some C ∧ XfC X.K C ∧ PySem.W.findIn X.K (.ref C) f = some none
def lit0 (d : Mini.D) (e : Expr) : Bool := match e, d with
  | .Constant .none _ _, .non => true
  | .Constant (.bool b) _ _, .bl b' => b == b'
  | .Constant (.int i) _ _, .int j => i == j
  | .Constant (.str s) _ _, .str a => s.cps.toList == a
  | _, _ => false
/-- the suite of an except clause; n the name that it binds -/
def chkH (G : GI) (c : Ck) (n : Option Str) (io : Option Nat) (h : He) (suite : List Stmt) : Bool := match h, suite with
  | .lit d, [.Return (some e) _] => lit0 d e
  | .nilL, [.Return (some (.List [] _)) _] => true
  | .fld ci f false [] [], [.Return (some (.Attribute (.Name m _) f' _)) _] => decide (n = some m) && decide (f = f') && decide (G.xfs.lookup ci = some f) && c.vis m && okN m && (match io with
      | some i => decide (c.N[i]? = some m)
      | none => false)
  | .fld ci f true pre post, [.Return (some (.BinOp (.BinOp (.Constant (.str p1) _ _) .Add (.Call (.Name s _) [.Attribute (.Name m _) f' _] [] _) _) .Add (.Constant (.str p2) _ _) _)) _] =>
      decide (n = some m) && decide (f = f') && decide (G.xfs.lookup ci = some f) && c.vis m && okN m && (p1.cps.toList == pre) && (p2.cps.toList == post) && (s == ("str" : Str)) && c.gl s && decide (s ∈ G.bts) && (match io with
      | some i => decide (c.N[i]? = some m)
      | none => false)
  | _, _ => false
def chkHs (G : GI) (c : Ck) : List ExceptHandler → List Hd → Bool
  | [], [] => true
  | .ExceptHandler (some (.Name x _)) none (b :: suite) _ :: hds, .on ci none he :: hs => decide (G.ecs.lookup x = some ci) && c.gl x && okN x && chkH G c none none he (b :: suite) && chkHs G c hds hs
  | _, _ => false
def chkTry (G : GI) (c : Ck) (hds : List ExceptHandler) (hs : List Hd) : Bool := match hds, hs with
  | [.ExceptHandler (some (.Name x _)) (some n) (b :: suite) _], [.on ci (some i) he] => decide (G.ecs.lookup x = some ci) && c.gl x && okN x && decide (c.N[i]? = some n) && decide (c.sc.names.lookup n = some .local) && chkH G c (some n) (some i) he (b :: suite)
  | h :: hds, hs => chkHs G c (h :: hds) hs
  | [], _ => false
def parB (c : Ck) (ts : List Expr) (vs : List Expr) (is : List Nat) : Bool := match ts, is, vs with
  | [.Name x px, .Name y py], [i, j], [a, b] => decide (c.sc.kind = .function) && decide (c.N[i]? = some x) && decide (c.N[j]? = some y) && decide (i ≠ j) && decide (x ≠ y) && decide (c.sc.names.lookup x = some .local) && decide (c.sc.names.lookup y = some .local) && (py.line == px.line) && noStars [a, b] && !isFolded [a, b] && !isConst [a, b]
  | [.Name x px, .Name y py, .Name z pz], [i, j, l], [a, b, d] => decide (c.sc.kind = .function) && decide (c.N[i]? = some x) && decide (c.N[j]? = some y) && decide (c.N[l]? = some z) && decide (i ≠ j) && decide (i ≠ l) && decide (j ≠ l) && decide (x ≠ y) && decide (x ≠ z) && decide (y ≠ z) && decide (c.sc.names.lookup x = some .local) && decide (c.sc.names.lookup y = some .local) && decide (c.sc.names.lookup z = some .local) && (py.line == px.line) && (pz.line == px.line) && noStars [a, b, d] && !isFolded [a, b, d] && !isConst [a, b, d]
  | _, _, _ => false
mutual
def chkS (G : GI) : Sm → Ck → Stmt → Bool
  | .asg t e', c, s => match s with
    | .Assign [tg] e _ => match tg with
      | .Name y py => match e, e' with
        | .ListComp elt [⟨tg1, iter, ifs, 0⟩] scope vp, .comp v wp t1 it cs y1 => (match t with
            | .nm i => decide (c.N[i]? = some y)
            | _ => false) && swC c y py scope vp && blkOkB c scope wp t1 && notSetE iter && tgB (c.blk scope) tg1 t1 && chkI G it c tg1 iter && chkC G cs (c.blk scope) ifs && chkE G y1 (c.blk scope) elt
        | e, e' => tgB c (.Name y py) t && notComp e && chkE G e' c e
      | .Tuple ts kt pt => tgB c (.Tuple ts kt pt) t && swN e && chkE G e' c e
      | _ => false
    | _ => false
  | .par is es', c, s => match s with
    | .Assign [.Tuple ts _ _] (.Tuple vs _ _) _ => parB c ts vs is && chkEs G es' c vs
    | _ => false
  | .asgIx o' i' e', c, s => match s with
    | .Assign [.Subscript o i _] e _ => plainIx i && chkE G e' c e && chkE G o' c o && chkE G i' c i
    | _ => false
  | .aug i p e', c, s => match s with
    | .AugAssign (.Name x _) op e _ => decide (augP op = some p) && decide (c.N[i]? = some x) && c.loc x && chkE G e' c e
    | _ => false
  | .ex e', c, s => match s with
    | .Expr e _ => notComp e && chkE G e' c e
    | _ => false
  | .ret _ e', c, s => match s with
    | .Return (some e) _ => chkE G e' c e
    | _ => false
  | .retN, _, s => match s with
    | .Return none _ => true
    | _ => false
  | .ife t a b, c, s => match s with
    | .If e p q _ => chkT G t c e && chkSs G a c p && chkSs G b c q
    | _ => false
  | .for_ t it b, c, s => match s with
    | .For tg iter body [] _ => notSetE iter && tgB c tg t && chkI G it c tg iter && chkSs G b c body
    | _ => false
  | .while_ t b, c, s => match s with
    | .While e body [] _ => chkT G t c e && chkSs G b c body
    | _ => false
  | .raise ci es', c, s => match s with
    | .Raise (some (.Call (.Name x _) [a] [] _)) none _ => match es' with
      | .nil => (match a with
          | .Constant (.str _) _ _ => true
          | _ => false) && decide (G.pls.lookup x = some ci) && c.gl x && okN x
      | .cons y ys => (match ys with
          | .nil => true
          | _ => false) && decide (G.ins.lookup x = some ci) && c.gl x && noStar a && chkE G y c a
    | _ => false
  | .try_ b hs, c, s => match s with
    | .Try body hds [] [] _ => chkTry G c hds hs && chkSs G b c body
    | _ => false
  | .pass, _, s => match s with
    | .Pass _ => true
    | _ => false
  | .brk, _, s => match s with
    | .Break _ => true
    | _ => false
  | .cont, _, s => match s with
    | .Continue _ => true
    | _ => false
def chkSs (G : GI) : Sms → Ck → List Stmt → Bool
  | .nil, _, ss => ss.isEmpty
  | .cons x xs, c, ss => match ss with
    | s :: ss => chkS G x c s && chkSs G xs c ss
    | [] => false
end
/-! ### suites -/
section
variable {X : Cx} {R : RC} {W : WX} {k : Nat} {cl : Call} {G : GI} {c : Ck} {cs : Clss}
theorem lit0_ok {io : Option Nat} {d : Mini.D} {e : Expr} {pos : Pos} (h : lit0 d e = true) : SuiteOK X R (.lit d) io [.Return (some e) pos] := by
  unfold lit0 at h
  split at h
  · exact suite_lit (fun a pn => pe_non) fun hd m st H => .non
  · obtain rfl := eq_of_beq h
    exact suite_lit (fun a pn => pe_bl) fun hd m st H => .bl _
  · obtain rfl := eq_of_beq h
    exact suite_lit (fun a pn => pe_int) fun hd m st H => .int _
  · obtain rfl := eq_of_beq h
    exact suite_lit (fun a pn => pe_str) fun hd m st H => .of_str _
  · cases h
theorem str_back (s : Str) : (⟨s.cps.toList.toArray⟩ : Str) = s := by
  obtain ⟨a⟩ := s
  simp
theorem chkH_ok (o : CkOk X R W k cl G c) (q : StOk X R cs G) {n : Option Str} {io : Option Nat} {h : He} {suite : List Stmt} (hh : chkH G c n io h suite = true) : SuiteOK X R h io suite := by
  unfold chkH at hh
  split at hh
  · exact lit0_ok hh
  · exact suite_nil
  · simp only [Bool.and_eq_true, decide_eq_true_eq] at hh
    obtain ⟨⟨⟨⟨⟨h1, h2⟩, h3⟩, h4⟩, h5⟩, h6⟩ := hh
    cases io with
    | none => cases h6
    | some i =>
      dsimp only at h6
      have h6 := of_decide_eq_true h6
      obtain ⟨C, g1, g2, g3⟩ := q.xfs _ _ h3
      subst h2
      exact suite_f0 g1 g2 g3 (by rw [o.N]; exact h6) (o.vis h4) (okN_d h5) (okN_c h5) (by rfl)
  · rename_i ci f pre post p1 k1 pos1 s pos2 m pos3 f' pos4 pos5 pos6 p2 k2 pos7 pos8 pos9
    simp only [Bool.and_eq_true, decide_eq_true_eq, beq_iff_eq] at hh
    obtain ⟨⟨⟨⟨⟨⟨⟨⟨⟨⟨h1, h2⟩, h3⟩, h4⟩, h5⟩, h6⟩, h7⟩, h8⟩, h9⟩, h10⟩, h11⟩ := hh
    cases io with
    | none => cases h11
    | some i =>
      dsimp only at h11
      have h11 := of_decide_eq_true h11
      obtain ⟨C, g1, g2, g3⟩ := q.xfs _ _ h3
      subst h2 h6 h7 h8
      exact suite_f3 (str_back p1).symm (str_back p2).symm g1 g2 g3 (by rw [o.N]; exact h11) (o.vis h4) (okN_d h5) (okN_c h5) (by rfl) (o.gl h9) (o.bts _ h10) (by rw [star1 rfl]; simp [starEach])
  · cases hh
theorem chkHs_ok (o : CkOk X R W k cl G c) (q : StOk X R cs G) : ∀ (hds : List ExceptHandler) (hs : List Hd), chkHs G c hds hs = true → ∃ l, HsOK X R cs hds hs l
  | [], [], _ => ⟨[], .nil⟩
  | .ExceptHandler (some (.Name x _)) none (b :: suite) _ :: hds, .on ci none he :: hs, h => by
    simp only [chkHs, Bool.and_eq_true, decide_eq_true_eq] at h
    obtain ⟨⟨⟨⟨h1, h2⟩, h3⟩, h4⟩, h5⟩ := h
    obtain ⟨l, hl⟩ := chkHs_ok o q hds hs h5
    obtain ⟨cv, g1, g2⟩ := q.ecs _ _ h1
    exact ⟨_, .cons ⟨o.gl h2, okN_d h3, .inl g1⟩ g2 (chkH_ok o q h4) hl⟩
  | [], _ :: _, h => by simp [chkHs] at h
  | .ExceptHandler none _ _ _ :: _, _, h => by simp [chkHs] at h
  | .ExceptHandler (some (.Name _ _)) (some _) _ _ :: _, _, h => by simp [chkHs] at h
  | .ExceptHandler (some (.Name _ _)) none [] _ :: _, _, h => by simp [chkHs] at h
  | .ExceptHandler (some (.Name _ _)) none (_ :: _) _ :: _, [], h => by simp [chkHs] at h
  | .ExceptHandler (some (.Name _ _)) none (_ :: _) _ :: _, .on _ (some _) _ :: _, h => by simp [chkHs] at h
  | .ExceptHandler (some (.BoolOp _ _ _)) _ _ _ :: _, _, h => by simp [chkHs] at h
  | .ExceptHandler (some (.NamedExpr _ _ _)) _ _ _ :: _, _, h => by simp [chkHs] at h
  | .ExceptHandler (some (.BinOp _ _ _ _)) _ _ _ :: _, _, h => by simp [chkHs] at h
  | .ExceptHandler (some (.UnaryOp _ _ _)) _ _ _ :: _, _, h => by simp [chkHs] at h
  | .ExceptHandler (some (.Lambda _ _ _ _)) _ _ _ :: _, _, h => by simp [chkHs] at h
  | .ExceptHandler (some (.IfExp _ _ _ _)) _ _ _ :: _, _, h => by simp [chkHs] at h
  | .ExceptHandler (some (.Dict _ _ _)) _ _ _ :: _, _, h => by simp [chkHs] at h
  | .ExceptHandler (some (.Set _ _ _)) _ _ _ :: _, _, h => by simp [chkHs] at h
  | .ExceptHandler (some (.ListComp _ _ _ _)) _ _ _ :: _, _, h => by simp [chkHs] at h
  | .ExceptHandler (some (.SetComp _ _ _ _)) _ _ _ :: _, _, h => by simp [chkHs] at h
  | .ExceptHandler (some (.DictComp _ _ _ _ _)) _ _ _ :: _, _, h => by simp [chkHs] at h
  | .ExceptHandler (some (.GeneratorExp _ _ _ _)) _ _ _ :: _, _, h => by simp [chkHs] at h
  | .ExceptHandler (some (.Await _ _)) _ _ _ :: _, _, h => by simp [chkHs] at h
  | .ExceptHandler (some (.Yield _ _)) _ _ _ :: _, _, h => by simp [chkHs] at h
  | .ExceptHandler (some (.YieldFrom _ _)) _ _ _ :: _, _, h => by simp [chkHs] at h
  | .ExceptHandler (some (.Compare _ _ _ _)) _ _ _ :: _, _, h => by simp [chkHs] at h
  | .ExceptHandler (some (.Call _ _ _ _)) _ _ _ :: _, _, h => by simp [chkHs] at h
  | .ExceptHandler (some (.FormattedValue _ _ _ _)) _ _ _ :: _, _, h => by simp [chkHs] at h
  | .ExceptHandler (some (.JoinedStr _ _)) _ _ _ :: _, _, h => by simp [chkHs] at h
  | .ExceptHandler (some (.Constant _ _ _)) _ _ _ :: _, _, h => by simp [chkHs] at h
  | .ExceptHandler (some (.Attribute _ _ _)) _ _ _ :: _, _, h => by simp [chkHs] at h
  | .ExceptHandler (some (.Subscript _ _ _)) _ _ _ :: _, _, h => by simp [chkHs] at h
  | .ExceptHandler (some (.Starred _ _)) _ _ _ :: _, _, h => by simp [chkHs] at h
  | .ExceptHandler (some (.List _ _)) _ _ _ :: _, _, h => by simp [chkHs] at h
  | .ExceptHandler (some (.Tuple _ _ _)) _ _ _ :: _, _, h => by simp [chkHs] at h
  | .ExceptHandler (some (.Slice _ _ _ _)) _ _ _ :: _, _, h => by simp [chkHs] at h
theorem ck_tr (o : CkOk X R W k cl G c) {pn : List (Addr × Obj)} {xe : Value → Shared → Prop} {W' : WX} (tk : Takes (X.tr pn xe) W') : CkOk (X.tr pn xe) R W' k cl G c :=
  ⟨o.K, o.N, o.nd, o.sc, o.fn, o.calm, o.room, o.gd, tk, o.fns, o.fna, o.cns, o.bts⟩
theorem st_tr (q : StOk X R cs G) {pn : List (Addr × Obj)} {xe : Value → Shared → Prop} (hp : PassesOwn (model X.prog X.w) X.A X.env xe) : StOk (X.tr pn xe) R cs G :=
  ⟨q.hst, q.hf, hp, q.pls, fun x ci h Y a => q.ins x ci h Y ⟨a.prog, a.w, a.K, a.mg, a.base, a.A⟩, q.ecs, q.xfs⟩
theorem alike_refl : Alike X X := ⟨rfl, rfl, rfl, rfl, rfl, rfl⟩
theorem assign_ix {o i : Expr} {pos : Pos} {env : PySem.Env} (h : plainIx i = true) : ∀ v, assign (.Subscript o i pos) env v = (do
      let ov ← holding [v] (eval o env)
      let iv ← holding [v, ov] (eval i env)
      standAt pos
      holding [v, ov, iv] (setItem ov iv v)
      release [v, ov, iv] []) := by
  intro v
  cases i <;> first | (cases h; done) | rfl
theorem try_ok {f : Env → Sto → Out} (o : CkOk X R W k cl G c) (q : StOk X R cs G) {body : List Stmt} {hds : List ExceptHandler} {hs : List Hd} {pos : Pos} (h : chkTry G c hds hs = true)
    (hb : ∀ (Y : Cx) (W' : WX), CkOk Y R W' k cl G c → StOk Y R cs G → PSs Y body (tS R W' f)) : PS X (.Try body hds [] [] pos) (tS R W fun env st => (f env st).tr fun x env st => hands cs x hs env st) := by
  have hb' : ∀ (W : WX) (pn : List (Addr × Obj)) (xe : Value → Shared → Prop), Takes (X.tr pn xe) W → PassesOwn (model X.prog X.w) X.A X.env xe → PSs (X.tr pn xe) body (tS R W f) := fun W' pn xe tk hp => hb _ W' (ck_tr o tk) (st_tr q hp)
  unfold chkTry at h
  split at h
  · simp only [Bool.and_eq_true, decide_eq_true_eq] at h
    obtain ⟨⟨⟨⟨⟨h1, h2⟩, h3⟩, h4⟩, h5⟩, h6⟩ := h
    obtain ⟨cv, g1, g2⟩ := q.ecs _ _ h1
    exact ps_tryAsM o.K q.hst q.hf o.tk (by rw [o.N]; exact o.nd) (by rw [o.N]; exact h4) (kindLoc o.sc h5) ⟨o.gl h2, okN_d h3, .inl g1⟩ g2 (chkH_ok o q h6) hb'
  · obtain ⟨l, hl⟩ := chkHs_ok o q _ _ h
    exact ps_tryM o.K q.hst q.hf o.tk hb' hl
  · cases h
theorem par_ok (o : CkOk X R W k cl G c) {ts vs : List Expr} {is : List Nat} {es : Exs} {kt k2 : Nat} {pt pt2 pos : Pos} (h : parB c ts vs is = true) (hq : PEL X R W cl vs es) :
    PS X (.Assign [.Tuple ts kt pt] (.Tuple vs k2 pt2) pos) (tS R W fun env st => (evEs cl es env st).out env fun ds st => nxO (setN is ds env) st) := by
  unfold parB at h
  split at h
  · simp only [Bool.and_eq_true, decide_eq_true_eq, Bool.not_eq_true'] at h
    obtain ⟨⟨⟨⟨⟨⟨⟨⟨⟨⟨h1, h2⟩, h3⟩, h4⟩, h5⟩, h6⟩, h7⟩, h8⟩, h9⟩, h10⟩, h11⟩ := h
    exact ps_parM o.calm (by rw [o.N]; exact o.nd) (by rw [o.N]; exact h2) (by rw [o.N]; exact h3) h4 (kindLoc o.sc h6) (kindLoc o.sc h7) (pel_pa h9 hq) (par2 (blockFn o.sc h1) (kindLoc o.sc h6) (kindLoc o.sc h7) h8 h5 h9 h10 h11) rfl
  · simp only [Bool.and_eq_true, decide_eq_true_eq, Bool.not_eq_true'] at h
    obtain ⟨⟨⟨⟨⟨⟨⟨⟨⟨⟨⟨⟨⟨⟨⟨⟨⟨h1, h2⟩, h3⟩, h4⟩, h5⟩, h6⟩, h7⟩, h8⟩, h9⟩, h10⟩, h11⟩, h12⟩, h13⟩, h14⟩, h15⟩, h16⟩, h17⟩, h18⟩ := h
    exact ps_parM3 o.calm (by rw [o.N]; exact o.nd) (by rw [o.N]; exact h2) (by rw [o.N]; exact h3) (by rw [o.N]; exact h4) h5 h6 h7 (kindLoc o.sc h11) (kindLoc o.sc h12) (kindLoc o.sc h13) (pel_pa h16 hq)
      (par3 (blockFn o.sc h1) (kindLoc o.sc h11) (kindLoc o.sc h12) (kindLoc o.sc h13) h14 h15 h8 h9 h10 h16 h17 h18) rfl
  · cases h
end
end Mini
end
section
set_option linter.all false
set_option autoImplicit false
set_option maxRecDepth 100000
set_option maxHeartbeats 1000000
/-! The checker of statements is right. -/
namespace Mini
open PySem PySem.Spec PyProof.Rows L2
section
variable {R : RC} {k : Nat} {cl : Call} {G : GI} {cs : Clss}
theorem ps_eq {X : Cx} {s : Stmt} {W : WX} {f g : Env → Sto → Out} (h : PS X s (tS R W f)) (e : ∀ env st, g env st = f env st) : PS X s (tS R W g) := by
  have z : g = f := funext fun env => funext fun st => e env st
  rw [z]
  exact h
theorem pss_eq {X : Cx} {s : List Stmt} {W : WX} {f g : Env → Sto → Out} (h : PSs X s (tS R W f)) (e : ∀ env st, g env st = f env st) : PSs X s (tS R W g) := by
  have z : g = f := funext fun env => funext fun st => e env st
  rw [z]
  exact h
theorem swC_loc {c : Ck} {y : Str} {py vp : Pos} {scope : Scope} (h : swC c y py scope vp = true) : c.sc.names.lookup y = some .local := by
  unfold swC at h
  simp only [Bool.and_eq_true, decide_eq_true_eq] at h
  exact h.1.1.2
theorem swaps_tup {ts : List Expr} {kt : Nat} {pt : Pos} {e : Expr} {l : Nat} {env : PySem.Env} : swapsWithSole [.Tuple ts kt pt] e l env = pure false := by
  cases e <;> rfl
theorem swaps_ix {o i : Expr} {pt : Pos} {e : Expr} {l : Nat} {env : PySem.Env} : swapsWithSole [.Subscript o i pt] e l env = pure false := by
  cases e <;> rfl
theorem swap_ix {o i : Expr} {pt : Pos} {e : Expr} {env : PySem.Env} : swappedStores [.Subscript o i pt] e env = pure none := by
  cases e <;> rfl
mutual
theorem chkS_ok : ∀ (s' : Sm) (c : Ck) (s : Stmt) (X : Cx) (W : WX), CkOk X R W k cl G c → StOk X R cs G → chkS G s' c s = true → PS X s (tS R W (exS cs cl s'))
  | .asg t e', c, s, X, W, o, q, h => by
    simp only [chkS] at h
    split at h
    · split at h
      · split at h
        · rename_i elt tg1 iter ifs scope vp v wp t1 it cs1 y1
          cases t with
          | tp is => simp at h
          | nm i =>
            simp only [Bool.and_eq_true, decide_eq_true_eq] at h
            obtain ⟨⟨⟨⟨⟨⟨⟨h0, h00⟩, h1⟩, h2⟩, h3⟩, h4⟩, h5⟩, h6⟩ := h
            unfold blkOkB at h1
            simp only [Bool.and_eq_true, decide_eq_true_eq, List.all_eq_true] at h1
            obtain ⟨⟨h7, h8⟩, h9⟩ := h1
            have hyl := swC_loc h00
            refine ps_eq (ps_compM (v := v) (own := ownOf c wp) o.calm (by rw [o.N]; exact o.nd) (by rw [o.N]; exact h0) (kindLoc o.sc hyl) (swaps_comp o.sc h00) (chkI_ok it c tg1 iter X W o h4) (by rw [o.N, o.sc]; exact blkOk_by h8)
              (fun s H C l fp => tg_ok (ck_blk o scope s H C l fp) h3) (fun s H C l fp => chkC_ok cs1 (c.blk scope) ifs _ W0 (ck_blk o scope s H C l fp) h5) (fun s H C l fp => chkE_ok y1 (c.blk scope) elt _ W0 (ck_blk o scope s H C l fp) h6) (notSet_ok h2) (by rw [h7]; exact h9)) fun env st => ?_
            rw [h7]
            simp only [exS]
            have ev : evE cl (.comp v wp t1 it cs1 y1) env st = fComp v wp t1 (evI cl it) (evC cl cs1) (evE cl y1) env st := by
              simp only [evE, fComp]
              try first | rfl | (congr 1; done)
            rw [ev]
        · simp only [Bool.and_eq_true] at h
          obtain ⟨⟨h1, h2⟩, h3⟩ := h
          cases t with
          | tp is => simp [tgB] at h1
          | nm i =>
            unfold tgB at h1
            simp only [Bool.and_eq_true, decide_eq_true_eq] at h1
            obtain ⟨g1, g2⟩ := o.loc h1.2
            exact ps_eq (ps_setM (by rw [o.N]; exact o.nd) (by rw [o.N]; exact h1.1) g1 (chkE_ok e' c _ X W o h3) (swaps_plain h2) g2) (by intro env st; simp only [exS, exSs]; try first | rfl | (congr 1; done))
      · simp only [Bool.and_eq_true] at h
        obtain ⟨⟨h1, h2⟩, h3⟩ := h
        exact ps_eq (ps_asgM (chkE_ok e' c _ X W o h3) (tg_ok o h1) swaps_tup (swN_tup h2) (by simp [assignEach])) (by intro env st; simp only [exS, exSs]; try first | rfl | (congr 1; done))
      · cases h
    · cases h
  | .par is es', c, s, X, W, o, q, h => by
    simp only [chkS] at h
    split at h
    · rw [Bool.and_eq_true] at h
      exact ps_eq (par_ok o h.1 (chkEs_ok es' c _ X W o h.2)) (by intro env st; simp only [exS, exSs]; try first | rfl | (congr 1; done))
    · cases h
  | .asgIx o' i' e', c, s, X, W, o, q, h => by
    simp only [chkS] at h
    split at h
    · rename_i ob i p1 e p2
      simp only [Bool.and_eq_true] at h
      obtain ⟨⟨⟨h1, h2⟩, h3⟩, h4⟩ := h
      have ho := chkE_ok o' c ob X W o h3
      have hi := chkE_ok i' c i X W o h4
      exact ps_eq (ps_asgIxM ho hi (chkE_ok e' c e X W o h2) (pg_sub ho hi set_list (assign_ix h1)) swaps_ix swap_ix (by simp [assignEach])) (by intro env st; simp only [exS, exSs]; try first | rfl | (congr 1; done))
    · cases h
  | .aug i p e', c, s, X, W, o, q, h => by
    simp only [chkS] at h
    split at h
    · simp only [Bool.and_eq_true, decide_eq_true_eq] at h
      obtain ⟨⟨⟨h1, h2⟩, h3⟩, h4⟩ := h
      obtain ⟨r, g1, g2⟩ := aug_ok (X := X) (R := R) h1
      obtain ⟨g3, g4⟩ := o.loc h3
      exact ps_eq (ps_augM g1 g2 (by rw [o.N]; exact o.nd) (by rw [o.N]; exact h2) g3 (chkE_ok e' c _ X W o h4) g4) (by intro env st; simp only [exS, exSs]; try first | rfl | (congr 1; done))
    · cases h
  | .ex e', c, s, X, W, o, q, h => by
    simp only [chkS] at h
    split at h
    · rw [Bool.and_eq_true] at h
      exact ps_eq (ps_exM (chkE_ok e' c _ X W o h.2) (swaps_plain h.1)) (by intro env st; simp only [exS, exSs]; try first | rfl | (congr 1; done))
    · cases h
  | .ret fz e', c, s, X, W, o, q, h => by
    simp only [chkS] at h
    split at h
    · exact ps_eq (ps_retM (fz := fz) (chkE_ok e' c _ X W o h)) (by intro env st; simp only [exS, exSs]; try first | rfl | (congr 1; done))
    · cases h
  | .retN, c, s, X, W, o, q, h => by
    simp only [chkS] at h
    split at h
    · exact ps_eq ps_retNM (by intro env st; simp only [exS, exSs]; try first | rfl | (congr 1; done))
    · cases h
  | .ife t a b, c, s, X, W, o, q, h => by
    simp only [chkS] at h
    split at h
    · simp only [Bool.and_eq_true] at h
      exact ps_eq (ps_ifM (chkT_ok t c _ X W o h.1.1) (chkSs_ok a c _ X W o q h.1.2) (chkSs_ok b c _ X W o q h.2)) (by intro env st; simp only [exS, exSs]; try first | rfl | (congr 1; done))
    · cases h
  | .for_ t it b, c, s, X, W, o, q, h => by
    simp only [chkS] at h
    split at h
    · simp only [Bool.and_eq_true] at h
      obtain ⟨⟨⟨h1, h2⟩, h3⟩, h4⟩ := h
      exact ps_eq (ps_forM q.hp o.calm (chkI_ok it c _ _ X W o h3) (tg_ok o h2) (chkSs_ok b c _ X W o q h4) (notSet_ok h1)) (by intro env st; simp only [exS, exSs]; try first | rfl | (congr 1; done))
    · cases h
  | .while_ t b, c, s, X, W, o, q, h => by
    simp only [chkS] at h
    split at h
    · simp only [Bool.and_eq_true] at h
      exact ps_eq (ps_whileM q.hp (chkT_ok t c _ X W o h.1) (chkSs_ok b c _ X W o q h.2)) (by intro env st; simp only [exS, exSs]; try first | rfl | (congr 1; done))
    · cases h
  | .raise ci es', c, s, X, W, o, q, h => by
    simp only [chkS] at h
    split at h
    · cases es' with
      | nil =>
        dsimp only at h
        simp only [Bool.and_eq_true, decide_eq_true_eq] at h
        obtain ⟨⟨⟨h1, h2⟩, h3⟩, h4⟩ := h
        split at h1
        · obtain ⟨C, g1, ⟨kk, g2, g3⟩, g4⟩ := q.pls _ _ h2
          obtain ⟨B, ni, ii, bmB, ⟨F⟩, g5⟩ := g4.ex
          refine ps_eq (ps_raiseM (cs := cs) (c := ci) (g := fun _ st => .ok [] st) o.calm o.tk (pmk_own F g5 g4.mg g4.kC (raises_own g4.e1 g4.e2) (o.gl h3) (okN_d h4)) fun σ H Q z => tM_none g2 g3 g1 z) fun env st => ?_
          simp only [exS, evEs]
          try first | rfl | (congr 1; done)
        · cases h1
      | cons y ys =>
        dsimp only at h
        simp only [Bool.and_eq_true, decide_eq_true_eq] at h
        obtain ⟨⟨⟨⟨h1, h2⟩, h3⟩, h4⟩, h5⟩ := h
        split at h1
        · have ha : PA X [_] (tA R W (evEs cl (.cons y .nil))) := pel_pa (by unfold noStars; simp [h4]) ⟨chkE_ok y c _ X W o h5, trivial⟩
          obtain ⟨t, g1, g2⟩ := q.ins _ _ h2 X alike_refl o.calm (o.gl h3) W (evEs cl (.cons y .nil)) _ _ _ o.tk ha h4
          exact ps_eq (ps_raiseM o.calm o.tk g1 g2) (by intro env st; simp only [exS, exSs]; try first | rfl | (congr 1; done))
        · cases h1
    · cases h
  | .try_ b hs, c, s, X, W, o, q, h => by
    simp only [chkS] at h
    split at h
    · rw [Bool.and_eq_true] at h
      exact ps_eq (try_ok o q h.1 fun Y W' o' q' => chkSs_ok b c _ Y W' o' q' h.2) (by intro env st; simp only [exS, exSs]; try first | rfl | (congr 1; done))
    · cases h
  | .pass, c, s, X, W, o, q, h => by
    simp only [chkS] at h
    split at h
    · exact ps_eq ps_passM (by intro env st; simp only [exS, exSs]; try first | rfl | (congr 1; done))
    · cases h
  | .brk, c, s, X, W, o, q, h => by
    simp only [chkS] at h
    split at h
    · exact ps_eq ps_brkM (by intro env st; simp only [exS, exSs]; try first | rfl | (congr 1; done))
    · cases h
  | .cont, c, s, X, W, o, q, h => by
    simp only [chkS] at h
    split at h
    · exact ps_eq ps_contM (by intro env st; simp only [exS, exSs]; try first | rfl | (congr 1; done))
    · cases h
theorem chkSs_ok : ∀ (ss' : Sms) (c : Ck) (ss : List Stmt) (X : Cx) (W : WX), CkOk X R W k cl G c → StOk X R cs G → chkSs G ss' c ss = true → PSs X ss (tS R W (exSs cs cl ss'))
  | .nil, c, ss, X, W, o, q, h => by
    simp only [chkSs] at h
    cases ss with
    | nil => exact pss_eq pss_n (by intro env st; simp only [exS, exSs]; try first | rfl | (congr 1; done))
    | cons => cases h
  | .cons x xs, c, ss, X, W, o, q, h => by
    simp only [chkSs] at h
    cases ss with
    | nil => cases h
    | cons s ss =>
      dsimp only at h
      rw [Bool.and_eq_true] at h
      exact pss_eq (pss_c (chkS_ok x c s X W o q h.1) (chkSs_ok xs c ss X W o q h.2)) (by intro env st; simp only [exS, exSs]; try first | rfl | (congr 1; done))
end
end
end Mini
end
section
set_option linter.all false
set_option autoImplicit false
set_option maxRecDepth 100000
set_option maxHeartbeats 1000000
/-! Defs: what the program's functions give is what the defs give. -/
namespace Mini
open PySem PySem.Spec PyProof.Rows L2
section
variable {R : RC} {m m' : List Addr} {st st' : Sto} {H H' : Hp}
theorem FReps.shrink {n : Nat} : ∀ {fs : List (Str × D)} {gs : List (Str × V)}, FReps R m st H fs gs → Mini.belows n (fs.map (·.2)) = true → FReps R (m.take n) (st.take n) H fs gs
  | _, _, .nil, _ => .nil
  | _, _, .cons h t, b => by
    simp only [List.map_cons, Mini.belows, Bool.and_eq_true] at b
    exact .cons (Rep.shrink _ _ h b.1) (FReps.shrink t b.2)
theorem XRep.shrink {n : Nat} {x : Exc} {c : Value} {dd : Option Addr} (h : XRep R m st H x c dd) (b : Mini.belows n (x.flds.map (·.2)) = true) : XRep R (m.take n) (st.take n) H x c dd := by
  obtain ⟨C, h1, h2, h3⟩ := h
  refine ⟨C, h1, h2, ?_⟩
  rcases h3 with h3 | ⟨d, gs, e1, e2, e3, e4⟩
  · exact .inl h3
  · exact .inr ⟨d, gs, e1, e2, e3.take, e4.shrink b⟩
end
/-- the end of a def -/
theorem finish_ok {R : RC} {m : List Addr} {st : Sto} {H : Hp} {o : Out} {Q : VK} {E : XK} (s : SR R m st H) (p : Post R m st H (finish st o) Q E) : PostS R m st H o { nx := fun _ H' => Q .non H', rt := Q } (fun cls d _ H => E cls d H) := by
  have tk : ∀ {m' : List Addr} {st' : Sto} {H' : Hp}, Ext m st H m' st' H' → m'.take st.length = m := fun x => by
    rw [← s.len]
    exact pre_take x.pre
  cases o with
  | nx env st' =>
    intro m' H' σ' x s' er
    simp only [finish] at p
    split at p
    · rename_i c
      exact p m H' _ (Ext.cut x s) (SR.cut x s s' c) .non
    · exact p m' H' _ x s' .non
  | ret d st' =>
    intro m' H' v x s' r
    simp only [finish] at p
    split at p
    · rename_i c
      have r2 := Rep.shrink (n := st.length) _ _ r c.2
      rw [tk x] at r2
      exact p m H' _ (Ext.cut x s) (SR.cut x s s' c.1) r2
    · exact p m' H' _ x s' r
  | exc y env st' =>
    intro m' H' σ' cv dd x s' er r
    simp only [finish] at p
    split at p
    · rename_i c
      have r2 := XRep.shrink (n := st.length) r c.2
      rw [tk x] at r2
      exact p m H' _ _ (Ext.cut x s) (SR.cut x s s' c.1) r2
    · exact p m' H' _ _ x s' r
  | brk env st' => exact p.elim
  | cont env st' => exact p.elim
  | bad => exact p.elim
theorem start_ok {R : RC} {m : List Addr} {st : Sto} {H : Hp} {N : List Str} {ds : List D} {vs : List V} (r : Reps R m st H ds vs) (h : vs.length ≤ N.length) : ER R m st H (start N vs) (startE N.length ds) := by
  have hl := r.length
  refine ⟨by unfold L2.start startE; simp; omega, fun i d e => ?_⟩
  unfold startE at e
  by_cases hi : i < ds.length
  · rw [List.getElem?_append_left (by simpa using hi), List.getElem?_map] at e
    cases q : ds[i]? with
    | none =>
      rw [q] at e
      cases e
    | some d' =>
      rw [q] at e
      cases e
      obtain ⟨v, h1, h2⟩ := r.get q
      refine ⟨v, ?_, h2⟩
      unfold L2.start
      rw [List.getElem?_append_left (by simp; omega), List.getElem?_map, h1]
      rfl
  · rw [List.getElem?_append_right (by simp; omega), List.getElem?_replicate] at e
    split at e <;> cases e
def spF (P : Prog) (R : RC) (np : Nat) (k i : Nat) : Sp := fun vs H Q E => ∃ hd m st ds, SR (R.w hd) m st H ∧ Reps (R.w hd) m st H ds vs ∧ ds.length = np ∧ Post (R.w hd) m st H (callF P k i ds st) Q E
/-- a def of the text is a def of the small language -/
structure DefOK (K : PySem.W.Frag) (G : GI) (fn : Fn) (f : Addr) (fd : FuncData) (ps : List Str) : Prop where
  ex : ∃ (name qual : Str) (params : Arguments) (body : List Stmt) (scope : Scope) (dV kV doc pm cdv ct oc : Value) (an od : Option Addr) (osl : Array (Option Value)) (N : List Str),
    fd = PySem.W.fnOf name qual params body scope dV kV doc pm an cdv ct ∧ K.lookup f = some ⟨oc, od, .func fd, osl⟩ ∧ PySem.W.codeIn K cdv qual = true ∧ FnScope N ps scope ∧ N.length = fn.nn ∧ chkSs G fn.body ⟨N, scope, true⟩ body = true
  np : ps.length = fn.np
  keep : PySem.W.keepIn K (.ref f) = true
  binds : Binds K fd ps []
structure ProgOk (prg : Program) (w : World) (K : PySem.W.Frag) (mg : Str → Option Value) (base : Heap) (R : RC) (P : Prog) (G : GI) : Prop where
  hK : R.K = K
  dfs : ∀ i f, R.fa i = some f → ∃ fn fd ps, P.fns[i]? = some fn ∧ DefOK K G fn f fd ps
  fns : ∀ x i, G.fns.lookup x = some i → ∃ f, mg x = some (.ref f) ∧ R.fa i = some f
  cns : ∀ x d, G.cns.lookup x = some d → ∃ u v, mg x = some u ∧ RelV v u ∧ ∀ hd m st H, Rep (R.w hd) m st H d v
  bts : ∀ x, x ∈ G.bts → mg x = none
  pls : ∀ x ci, G.pls.lookup x = some ci → ∃ C, R.ca ci = some C ∧ (∃ kk, P.cs[ci]? = some kk ∧ kk.flds = []) ∧ PlX K mg x C
  ins : ∀ x ci, G.ins.lookup x = some ci → ∀ X : Cx, X.prog = prg → X.w = w → X.K = K → X.mg = mg → X.base = base → Room 2 X.A → InX X R P.cs ci x
  ecs : ∀ x ci, G.ecs.lookup x = some ci → ∃ cv, mg x = some cv ∧ ClsOK R P.cs ci cv
  xfs : ∀ ci f, G.xfs.lookup ci = some f → ∃ C, R.ca ci = some C ∧ XfC K C ∧ PySem.W.findIn K (.ref C) f = some none
section
variable {prg : Program} {w : World} {K : PySem.W.Frag} {mg : Str → Option Value} {base : Heap} {R : RC} {P : Prog} {G : GI}
theorem fn_step (PO : ProgOk prg w K mg base R P G) {k i : Nat} {f : Addr} {fn : Fn} {fd : FuncData} {ps : List Str} (hi : P.fns[i]? = some fn) (D : DefOK K G fn f fd ps)
    (ih : ∀ i f, R.fa i = some f → ∃ fn fd ps, P.fns[i]? = some fn ∧ DefOK K G fn f fd ps ∧ FnG prg w K mg base (k + 2) f fd ps (spF P R ps.length k i)) : FnG prg w K mg base (k + 3) f fd ps (spF P R ps.length (k + 1) i) := by
  obtain ⟨name, qual, params, body, scope, dV, kV, doc, pm, cdv, ct, oc, an, od, osl, N, rfl, lk, hcd, S, hN, hck⟩ := D.ex
  have len : ∀ vs H Q E, spF P R ps.length (k + 1) i vs H Q E → vs.length = ps.length := fun vs H Q E ⟨hd, m, st, ds, s, r, hl, p⟩ => by
    rw [← r.length]
    exact hl
  refine ⟨len, fun A outer s H args us vs Q E hr hg e0 hb r hsp => ?_⟩
  have hl := len _ _ _ _ hsp
  have KX : K.In s.heap := e0.mod.kin.keeps fun b o e => (e0.bs b o e).1
  have lim : s.heap.NoLimit := e0.mod.nolimit.keeps fun b o e => (e0.bs b o e).1
  have hkind : ∀ y ∈ ps.zip us, scope.names.lookup y.1 = some .local ∨ (scope.names.lookup y.1 = some .cell ∧ ((cellsFrom (s.heap.objs.size + 1) scope.names []).lookup y.1).isSome = true) := fun ⟨n, v⟩ hy => by
    rcases S.par n (List.of_mem_zip hy).1 with q | q
    · exact .inl q
    · exact .inr ⟨q, PySem.W.cellsFrom_some _ _ _ (.inl q)⟩
  refine codeAny_call_function hr.depth (KX _ _ lk) rfl S.co S.gen rfl (PySem.W.codeRec_of KX hcd) (hb _ _ _ _ ?_)
  refine wpAny_newFunctionEnv_cells S.kind hkind fun env he s1 x => ?_
  subst he
  refine ⟨lim.keeps x.toInCall.keep, codeAny_func ?_⟩
  obtain ⟨X, hX⟩ : ∃ X, X = cxOf (L2.CX prg w) prg w K mg base N qual scope f cdv A outer s H E := ⟨_, rfl⟩
  have I : Inv (cxOf (L2.CX prg w) prg w K mg base N qual scope f cdv A outer s H E) [] (start N vs) H s1 := inv_start S hr.hd e0 hl r x
  have room : Room (k + 2) (A.deeper (envOfC qual scope s.heap.objs.size f cdv)) := hr.deeper _
  have o : CkOk (cxOf (L2.CX prg w) prg w K mg base N qual scope f cdv A outer s H E) R (fun cls d _ H => E cls d H) (k + 2) (callF P k) G ⟨N, scope, true⟩ := {
    K := PO.hK
    N := rfl
    nd := S.nd
    sc := rfl
    fn := fun _ _ => rfl
    calm := rfl
    room := room
    gd := hg
    tk := takes_of rfl rfl rfl rfl
    fns := PO.fns
    fna := fun j g hj => by
      obtain ⟨fn', fd', ps', h1, h2, h3⟩ := ih j g hj
      refine ⟨g, fd', ps', _, hj, h2.keep, h2.binds, h3, fun hd m st H ds vs Q E sr rr pp => ?_⟩
      refine ⟨hd, m, st, ds, sr, rr, ?_, pp⟩
      by_cases hn : ds.length = ps'.length
      · exact hn
      · exfalso
        cases k with
        | zero => exact pp
        | succ k =>
          unfold callF at pp
          rw [h1] at pp
          dsimp only at pp
          rw [if_neg (by rw [← h2.np]; exact hn)] at pp
          exact pp
    cns := PO.cns
    bts := PO.bts }
  have q : StOk (cxOf (L2.CX prg w) prg w K mg base N qual scope f cdv A outer s H E) R P.cs G := {
    hst := rfl
    hf := rfl
    hp := passes_of rfl
    pls := PO.pls
    ins := fun y ci h => PO.ins y ci h _ rfl rfl rfl rfl rfl (room.mono (by omega))
    ecs := PO.ecs
    xfs := PO.xfs }
  have ht := chkSs_ok fn.body ⟨N, scope, true⟩ body _ _ o q hck
  obtain ⟨hd, m, st, ds, sr, rr, hdl, pp⟩ := hsp
  have hq : tS R (fun cls d _ H => E cls d H) (exSs P.cs (callF P k) fn.body) { nx := fun _ H' => Q .non H', rt := Q } (start N vs) H := by
    have hle : vs.length ≤ N.length := by
      have := congrArg List.length S.pre
      rw [List.length_take] at this
      omega
    refine ⟨hd, m, startE N.length ds, st, sr, start_ok rr hle, finish_ok sr ?_⟩
    unfold callF at pp
    rw [hi] at pp
    dsimp only at pp
    rw [if_pos (by rw [← D.np]; exact hdl)] at pp
    rw [hN]
    exact pp
  refine wpAny_mono (ht.run [] s1 (start N vs) H _ I hq) (fun fl s' hs => ?_) fun e s' hs => hs
  have fin : ∀ {σ' : L2.St} {H' : Hp} {v : V} {u : Value}, Inv (cxOf (L2.CX prg w) prg w K mg base N qual scope f cdv A outer s H E) [] σ' H' s' → RelV v u → Q v H' → CE outer prg w H s Q u s' :=
    fun {σ' H' v u} J rv q => ⟨v, H', J.os, J.bare, J.base, J.hok, rv, q⟩
  cases fl with
  | ret u =>
    obtain ⟨v, σ', H', J, rv, q⟩ := hs
    exact fin J rv q
  | next =>
    obtain ⟨σ', H', J, q⟩ := hs
    exact fin (v := V.non) (u := Value.none) J rfl q
  | brk =>
    obtain ⟨_, _, _, q⟩ := hs
    exact False.elim q
  | cont =>
    obtain ⟨_, _, _, q⟩ := hs
    exact False.elim q
theorem fn_all (PO : ProgOk prg w K mg base R P G) : ∀ (k i : Nat) (f : Addr), R.fa i = some f → ∃ fn fd ps, P.fns[i]? = some fn ∧ DefOK K G fn f fd ps ∧ FnG prg w K mg base (k + 2) f fd ps (spF P R ps.length k i)
  | 0, i, f, h => by
    obtain ⟨fn, fd, ps, h1, h2⟩ := PO.dfs i f h
    exact ⟨fn, fd, ps, h1, h2, fun vs H Q E ⟨_, _, _, _, _, _, _, p⟩ => p.elim, fun A outer s H args us vs Q E hr hg e0 hb r ⟨_, _, _, _, _, _, _, p⟩ => p.elim⟩
  | k + 1, i, f, h => by
    obtain ⟨fn, fd, ps, h1, h2⟩ := PO.dfs i f h
    exact ⟨fn, fd, ps, h1, h2, fn_step PO h1 h2 (fn_all PO k)⟩
end
end Mini
end
section
set_option linter.all false
set_option autoImplicit false
set_option maxRecDepth 100000
set_option maxHeartbeats 1000000
/-! The end of a law. -/
namespace Mini
open PySem PySem.Spec PyProof.Rows L2
section
variable {prg : Program} {w : World} {K : PySem.W.Frag} {mg mb : Str → Option Value} {k : Nat} {fa a : Addr} {sp : Sp} {s₁ : Shared} {us : List Value} {zs : List Int}
/-- the call of the law's def, the script alone being tracked -/
theorem lawG_at (kin : K.In s₁.heap) (nsg : s₁.heap.Ns mainGlobals mg) (nsb : s₁.heap.Ns builtinsNs mb) (boot : ∀ x : Str, x ≠ "__name__" → mb x = bootBuiltins x) (nl : s₁.heap.NoLimit) (gens : s₁.gens = #[])
    (at_ : s₁.heap.get? a = some { cls := .type "list", data := .seq us.toArray }) (rm : Room k callerA)
    (F : ∀ base : Heap, K.In base → base.Ns mainGlobals mg → ∃ (fd : FuncData) (ps : List Str), FnG prg w K mg base k fa fd ps sp ∧ Binds K fd ps [] ∧ ps.length = 1)
    (H : Hp) (only : Only H) (prom : sp [.ref a] H (fun v _ => v = .bl true) fun _ _ _ => False) (hok : HOk prg w H s₁.heap) (alone : ∀ b, H b ≠ none → b = a) (fresh : H a ≠ none → K.lookup a = none) :
    codeAny (model prg w) callerA (.call (.ref fa) ⟨[.ref a], []⟩) (fun r s' => r = .ok (.ret (.bool true)) ∧ OldK s₁.heap s'.heap ∧ s'.os = s₁.os ∧ AllBare s'.gens) s₁ := by
  have dictFree : ∀ {b : Addr} {o : Obj} {es : Array DictEntry} {ep : Nat}, s₁.heap.get? b = some o → o.data = .dict es ep → H b = none := fun {b o es ep} e d => by
    rcases only b with z | ⟨ob, xs, z⟩
    · exact z
    · have hb : b = a := alone b (by rw [z]; simp)
      rw [hb, at_] at e
      cases e
      cases d
  have toBase : ∀ {b : Addr} {m : Str → Option Value}, s₁.heap.Ns b m → (hidT s₁.heap H).Ns b m := fun {b m} ⟨o, es, ep, e, d, r⟩ => ⟨o, es, ep, hidT_get e (dictFree e d), d, r⟩
  have kinB : K.In (hidT s₁.heap H) := fun b o e => hidT_get (kin b o e) (by
    rcases only b with z | ⟨ob, xs, z⟩
    · exact z
    · have ne : H b ≠ none := by
        rw [z]
        simp
      have hb : b = a := alone b ne
      subst hb
      rw [fresh ne] at e
      cases e)
  have md : Mod K mg (hidT s₁.heap H) := ⟨kinB, toBase nsg, ⟨mb, toBase nsb, boot⟩, by
    obtain ⟨mc, h1, h2⟩ := nl
    exact ⟨mc, toBase h1, h2⟩⟩
  have env : Env0 prg w K mg (hidT s₁.heap H) callerA [] s₁ H := ⟨rfl, md, fun _ _ e => of_hidT e, Nat.le_of_eq (hidT_size _ _), trivial, fun b hb => absurd (show b ∈ ([] : List Addr) from hb) (by simp), hok, .of_eq gens⟩
  obtain ⟨fd, ps, G, B, l1⟩ := F _ kinB (toBase nsg)
  have bt := B s₁ [.ref a] kin (by rw [l1]; rfl)
  rw [List.append_nil] at bt
  refine codeAny_mono (G.run callerA [] s₁ H ⟨[.ref a], []⟩ [.ref a] [.ref a] _ _ rm rfl env bt (.cons rfl .nil) prom) ?_
  intro r s' out
  cases r with
  | error e =>
    obtain ⟨_, _, _, _, _, _, _, _, _, _, _, _, bad⟩ := out
    exact bad.elim
  | ok fl =>
    cases fl with
    | ret u =>
      obtain ⟨v, H', os, bare, un, hok', rv, ev⟩ := out
      have ev : v = .bl true := ev
      subst ev
      obtain rfl : u = Value.bool true := rv
      refine ⟨rfl, OldK.of_keep fun b o e => ?_, os, bare⟩
      rcases only b with z | ⟨ob, xs, z⟩
      · exact un.keep b o e z (fun y => absurd (show b ∈ ([] : List Addr) from y) (by simp)) (by simp)
      · obtain ⟨e1, _⟩ := hok b _ z
        obtain ⟨e2, _⟩ := hok' b _ (un.frzs b ob _ z)
        rw [e] at e1
        cases e1
        exact e2
    | next => exact False.elim out
    | brk => exact False.elim out
    | cont => exact False.elim out
theorem lawG (kin : K.In s₁.heap) (nsg : s₁.heap.Ns mainGlobals mg) (nsb : s₁.heap.Ns builtinsNs mb) (boot : ∀ x : Str, x ≠ "__name__" → mb x = bootBuiltins x) (nl : s₁.heap.NoLimit) (gens : s₁.gens = #[])
    (at_ : s₁.heap.get? a = some { cls := .type "list", data := .seq us.toArray }) (hin : IntsAre us zs) (short : zs.length ≤ sizeLine) (rm : Room k callerA)
    (F : ∀ base : Heap, K.In base → base.Ns mainGlobals mg → ∃ (fd : FuncData) (ps : List Str), FnG prg w K mg base k fa fd ps sp ∧ Binds K fd ps [] ∧ ps.length = 1)
    (prom : ∀ H : Hp, SqL K H a (zs.map V.int) → sp [.ref a] H (fun v _ => v = .bl true) fun _ _ _ => False) :
    codeAny (model prg w) callerA (.call (.ref fa) ⟨[.ref a], []⟩) (fun r s' => r = .ok (.ret (.bool true)) ∧ OldK s₁.heap s'.heap ∧ s'.os = s₁.os ∧ AllBare s'.gens) s₁ := by
  have vals := vals_ints hin
  have same := hin.length
  cases known : K.lookup a with
  | some o =>
    have e := kin a o known
    rw [at_] at e
    cases e
    refine lawG_at kin nsg nsb boot nl gens at_ rm F (fun _ => none) (fun _ => .inl rfl) (prom _ (.inr ⟨_, us.toArray, _, known, rfl, rfl, rfl, by rw [List.size_toArray, same]; exact short, by simpa using vals⟩)) (fun b u z => nomatch (show (none : Option HO) = some u from z)) (fun _ z => absurd rfl z) fun z => absurd rfl z
  | none =>
    obtain ⟨T, hT⟩ : ∃ T : HO, T = .frz { cls := .type "list", data := .seq us.toArray } (.lst (zs.map V.int)) := ⟨_, rfl⟩
    have isA : (fun b => if b = a then some T else none : Hp) a = some T := if_pos rfl
    have notA : ∀ {b : Addr}, b ≠ a → (fun b => if b = a then some T else none : Hp) b = none := fun h => if_neg h
    refine lawG_at kin nsg nsb boot nl gens at_ rm F (fun b => if b = a then some T else none) (fun b => ?_) (prom _ (.inl (.inr ⟨{ cls := .type "list", data := .seq us.toArray }, by rw [← hT]; exact isA⟩))) (fun b u z => ?_) (fun b z => ?_) fun _ => known
    · by_cases h : b = a
      · exact .inr ⟨{ cls := .type "list", data := .seq us.toArray }, zs.map V.int, by rw [h, ← hT]; exact isA⟩
      · exact .inl (notA h)
    · by_cases h : b = a
      · subst h
        rw [isA] at z
        cases z
        subst hT
        exact ⟨at_, by rw [List.length_map]; exact short, us, _, vals, at_⟩
      · rw [notA h] at z
        cases z
    · by_cases h : b = a
      · exact h
      · exact absurd (notA h) z
end
/-- the script as the law's def has it -/
theorem script_SR {R : RC} {H : Hp} : SR (R.w []) [] [] H := ⟨rfl, List.nodup_nil, fun n a e => (by simp at e), fun a h => (by cases h), fun n a e => (by simp at e), fun n a xs e => (by simp at e)⟩
theorem ints_rep {R : RC} {m : List Addr} {st : Sto} {H : Hp} : ∀ zs : List Int, Reps R m st H (zs.map Mini.D.int) (zs.map V.int)
  | [] => .nil
  | z :: zs => .cons (.int z) (ints_rep zs)
theorem law_prom {P : Prog} {R : RC} {k i : Nat} {zs : List Int} {a : Addr} {st : Sto} (h : callF P k i [.ro (zs.map .int)] [] = .ok (.bl true) st) {K : PySem.W.Frag} (hK : R.K = K) (H : Hp) (hS : SqL K H a (zs.map V.int)) :
    spF P R 1 k i [.ref a] H (fun v _ => v = .bl true) fun _ _ _ => False := by
  refine ⟨[], [], [], [.ro (zs.map .int)], script_SR, .cons (.ro ?_ (ints_rep zs)) .nil, rfl, ?_⟩
  · rcases hS with hS | hS
    · exact .inl ⟨hS, fun n e => (by simp at e), (by
        show a ∉ ([] : List Addr)
        simp)⟩
    · refine .inr ?_
      show KLst R.K a _
      rw [hK]
      exact hS
  · rw [h]
    intro m' H' v x s r
    cases r
    rfl
/-- the walk of a law by the small language -/
theorem walkM {l : PySem.W.OpenLaw} {n k : Nat} {q : Program} {loose : List Str} {XP : (Str → Option Value) → Heap → Prop} {YP : World → Heap → Prop} {d : DefRec} {P : Prog} {i : Nat} {fn : Fn}
    (hn : l.most = some n) (hn2 : n ≤ sizeLine) (hdf : d.params.defaults = []) (hr : Room (k + 2) callerA) (hi : P.fns[i]? = some fn) (h1 : fn.np = 1)
    (F : ∀ (w : World) (mg : Str → Option Value) (fa : Addr) (h : Heap), YP w h → h.Ns mainGlobals mg → mg d.name = some (.ref fa) →
      ∃ (K : PySem.W.Frag) (R : RC) (G : GI), K.In h ∧ R.fa i = some fa ∧ ∀ base : Heap, K.In base → base.Ns mainGlobals mg → ProgOk l.prog w K mg base R P G)
    (plain : ∀ zs : List Int, zs.length ≤ n → (∀ z ∈ zs, Builtin.Int.intBits z ≤ 1048576) → ∃ st, callF P k i [.ro (zs.map .int)] [] = .ok (.bl true) st) :
    PySem.W.WalkO q loose XP YP l.row.toRowW d [] (fun f vs => PySem.call f vs) := by
  refine Att.attach_callB hn hdf fun w s₀ s₁ mg mb fa o pm cd doc a vs ns T Y ho hd hcd hmg hobj hints hlen hbits hg => ?_
  obtain ⟨K, R, G, kin, hfa, po⟩ := F w mg fa _ Y T.T.g hmg
  obtain ⟨st, hst⟩ := plain ns hlen hbits
  refine lawG (k := k + 2) (sp := spF P R 1 k i) kin T.T.g T.T.b T.T.builtins T.T.nolimit hg hobj hints (Nat.le_trans hlen hn2) hr (fun base kb nb => ?_) fun H hS => ?_
  · obtain ⟨fn', fd, ps, g1, g2, g3⟩ := fn_all (po base kb nb) k i fa hfa
    rw [hi] at g1
    cases g1
    have l1 : ps.length = 1 := by rw [g2.np, h1]
    rw [l1] at g3
    exact ⟨fd, ps, g3, g2.binds, l1⟩
  · by_cases hb : ∃ base : Heap, K.In base ∧ base.Ns mainGlobals mg
    · obtain ⟨base, kb, nb⟩ := hb
      exact law_prom hst (po base kb nb).hK H hS
    · exact absurd ⟨_, kin, T.T.g⟩ hb
end Mini
end
section
set_option linter.all false
set_option autoImplicit false
set_option maxRecDepth 100000
set_option maxHeartbeats 1000000
/-! The head's facts, as the small language needs them. -/
namespace Mini
open PySem PySem.Spec PyProof.Rows L2 _root_.He
def rcOf (K : PySem.W.Frag) (fn : List DefD) (cls : List Str) : RC := { K := K, fa := fun i => (fn[i]?).map fun d => fAd K d.at_, ca := fun i => (cls[i]?).map (ga K) }
abbrev SupV : Type := Option (Str × Str × Arguments × FuncBody × Scope × Addr × List Str × Addr × Value)
/-- the __init__ of an own class -/
def supV (K : PySem.W.Frag) (x : Str) : SupV := match K.lookup (ma K (ga K x) "__init__") with
  | some ⟨_, _, .func fd, _⟩ => some (fd.name, fd.qualname, fd.params, fd.body, fd.scope, fd.globals, fd.closure.map (·.1), fd.builtins, fd.defaults)
  | _ => none
/-- a class and its __init__: the name, the text -/
structure SupD where
  x : Str
  qual : Str
  params : Arguments
  body : List Stmt
  scope : Scope
def SupD.val (d : SupD) : SupV := some ("__init__", d.qual, d.params, .stmts d.body, d.scope, mainGlobals, ["__class__"], builtinsNs, .none)
abbrev AlM : Type := AlD × List SupV
def valM (fn : List DefD) (sp : List SupD) : AlM := (valD fn, sp.map SupD.val)
def obsM (chk : PySem.W.Frag → Bool) (fn : List DefD) (sp : List SupD) (K : PySem.W.Frag) : AlM := ((chk K && fn.all fun d => d.ok K, fn.map fun d => fnW K d.at_), sp.map fun d => supV K d.x)
def obsMG (n : Nat) (chk : PySem.W.Frag → Bool) (fn : List DefD) (sp : List SupD) (g : Addr → Option Obj) : AlM := obsM chk fn sp (frG g (cStatics :: asD g n))
def hookM (n : Nat) (chk : PySem.W.Frag → Bool) (fn : List DefD) (sp : List SupD) : PySem.W.Hook where
  α := AlM
  obs := fun s => obsMG n chk fn sp s.heap.get?
  val := fun _ => valM fn sp
  says := fun _ h => ∃ K : PySem.W.Frag, K.In h ∧ obsM chk fn sp K = valM fn sp
  of := fun _ _ e => ⟨_, frG_in, e⟩
  keeps := fun _ _ _ ⟨K, hK, c⟩ k => ⟨K, PySem.W.Frag.In.keeps hK k, c⟩
theorem obsMG_eq {n : Nat} {chk : PySem.W.Frag → Bool} {fn : List DefD} {sp : List SupD} {g : Addr → Option Obj} {s : Shared} (h : ∀ a, g a = s.heap.get? a) : obsMG n chk fn sp g = (hookM n chk fn sp).obs s := by
  have e : g = s.heap.get? := funext h
  rw [e] <;> rfl
/-! ### the facts -/
/-- a constant of the module: a number, a text, a tuple of such -/
def conB (K : PySem.W.Frag) (x : Str) (d : Mini.D) : Bool := match d with
  | .int i => (Fa.int x i).ok K
  | .str s => (Fa.str x ⟨s.toArray⟩).ok K
  | .tup xs => (Fa.glo x).ok K && xs.all flatD && (match K.lookup (ga K x) with
      | some ⟨.type c, _, .seq its _, _⟩ => decide (c = "tuple") && (decide (its.size ≤ sizeLine) && relAll (xs.map fun d => match d with
          | .int i => V.int i
          | .str s => .str ⟨s.toArray⟩
          | .bl b => .bl b
          | _ => .non) its.toList)
      | _ => false)
  | _ => false
theorem conB_ok {K : PySem.W.Frag} {h : Heap} {mg : Str → Option Value} (X : K.In h) (Gn : h.Ns mainGlobals mg) {x : Str} {d : Mini.D} (c : conB K x d = true) {R : RC} (hR : R.K = K) : ∃ u v, mg x = some u ∧ RelV v u ∧ ∀ hd m st H, Rep (R.w hd) m st H d v := by
  unfold conB at c
  split at c
  · obtain ⟨t, e⟩ := int_ok X Gn c
    exact ⟨_, .int _, e, ⟨t, rfl⟩, fun hd m st H => .int _⟩
  · obtain ⟨t, e⟩ := str_ok X Gn c
    exact ⟨_, .str _, e, ⟨t, rfl⟩, fun hd m st H => .str _⟩
  · rename_i xs
    simp only [Bool.and_eq_true] at c
    obtain ⟨⟨c1, c2⟩, c3⟩ := c
    refine ⟨_, .ref (ga K x), glo_ok X Gn c1, rfl, fun hd m st H => ?_⟩
    split at c3
    · rename_i c0 d0 its n0 sl q
      simp only [Bool.and_eq_true, decide_eq_true_eq] at c3
      obtain ⟨h1, h2, h3⟩ := c3
      subst h1
      refine .tup (vs := xs.map fun d => match d with
          | .int i => V.int i
          | .str s => .str ⟨s.toArray⟩
          | .bl b => .bl b
          | _ => .non) (.inr ?_) ?_
      · show KTup R.K _ _
        rw [hR]
        exact ⟨_, its, n0, q, rfl, rfl, h2, relAll_ok h3⟩
      · have gen : ∀ l : List Mini.D, l.all flatD = true → Reps (R.w hd) m st H l (l.map fun d => match d with
            | .int i => V.int i
            | .str s => .str ⟨s.toArray⟩
            | .bl b => .bl b
            | _ => .non) := fun l => by
          induction l with
          | nil => exact fun _ => .nil
          | cons y ys ih =>
            intro hl
            simp only [List.all_cons, Bool.and_eq_true] at hl
            refine .cons ?_ (ih hl.2)
            cases y <;> first | exact .non | exact .int _ | exact .str _ | exact .bl _ | (simp [flatD] at hl)
        exact gen xs c2
    · cases c3
  · cases c
def pairsOf (cls : List Str) : List (Str × Nat) := cls.zipIdx
/-- what is asked of the module, but own classes with an own __init__ -/
def facB (cs : Clss) (G : GI) (cls : List Str) (K : PySem.W.Frag) : Bool :=
  (G.fns.all fun p => (Fa.glo p.1).ok K) && (G.bts.all fun x => (Fa.free x).ok K) && (G.cns.all fun p => conB K p.1 p.2) && (G.pls.all fun p => decide (cls[p.2]? = some p.1) && (Fa.glo p.1).ok K && (Fa.exc p.1).ok K && (match cs[p.2]? with
    | some kk => kk.flds.isEmpty
    | none => false)) && (G.ecs.all fun p => (Fa.glo p.1).ok K && cls.zipIdx.all fun q => (Fa.exm q.1 p.1 (isA cs q.2 p.2)).ok K) &&
  (G.xfs.all fun p => match cls[p.1]? with
    | some x => xfB K (ga K x) && decide (PySem.W.findIn K (.ref (ga K x)) p.2 = some none)
    | none => false)
/-- a def's own conditions -/
structure DefS (G : GI) (d : DefD) (f : Fn) : Prop where
  ex : ∃ N ps : List Str, chkSs G f.body ⟨N, d.scope, true⟩ d.body = true ∧ C8.scC N ps d.scope = true ∧ N.length = f.nn ∧ ps.length = f.np ∧ d.dfl = [] ∧ d.kwd = [] ∧
    ∀ (kV doc pm : Value) (an : Option Addr) (cdv ct : Value) (us : List Value), us.length = ps.length → bindArgs (PySem.W.fnOf d.name d.qual d.params d.body d.scope .none kV doc pm an cdv ct) ⟨us, []⟩ = pure (ps.zip us)
inductive DefsS (G : GI) : List DefD → List Fn → Prop
  | nil : DefsS G [] []
  | cons {d : DefD} {f : Fn} {ds : List DefD} {fs : List Fn} : DefS G d f → DefsS G ds fs → DefsS G (d :: ds) (f :: fs)
theorem DefsS.get {G : GI} : ∀ {ds : List DefD} {fs : List Fn} {i : Nat} {d : DefD}, DefsS G ds fs → ds[i]? = some d → ∃ f, fs[i]? = some f ∧ DefS G d f
  | _ :: _, _ :: _, 0, _, .cons h _, e => by
    simp at e
    subst e
    exact ⟨_, rfl, h⟩
  | _ :: _, _ :: _, i + 1, _, .cons _ t, e => by
    obtain ⟨f, h1, h2⟩ := DefsS.get (i := i) t (by simpa using e)
    exact ⟨f, by simpa using h1, h2⟩
theorem lookup_mem {α : Type} : ∀ {l : List (Str × α)} {x : Str} {v : α}, l.lookup x = some v → (x, v) ∈ l
  | [], _, _, h => by cases h
  | (y, u) :: l, x, v, h => by
    rw [List.lookup_cons] at h
    split at h
    · rename_i e
      cases h
      rw [eq_of_beq e]
      exact List.mem_cons_self
    · exact List.mem_cons_of_mem _ (lookup_mem h)
theorem lookup_memN {α : Type} : ∀ {l : List (Nat × α)} {x : Nat} {v : α}, l.lookup x = some v → (x, v) ∈ l
  | [], _, _, h => by cases h
  | (y, u) :: l, x, v, h => by
    rw [List.lookup_cons] at h
    split at h
    · rename_i e
      cases h
      rw [eq_of_beq e]
      exact List.mem_cons_self
    · exact List.mem_cons_of_mem _ (lookup_memN h)
theorem progOk {prg : Program} {w : World} {K : PySem.W.Frag} {mg : Str → Option Value} {base : Heap} {fn : List DefD} {cls : List Str} {P : Prog} {G : GI} {chk : PySem.W.Frag → Bool} {sp : List SupD} (X : K.In base) (Gn : base.Ns mainGlobals mg) (c : obsM chk fn sp K = valM fn sp) (hf : chk K = true → facB P.cs G cls K = true)
    (hd : DefsS G fn P.fns) (hn : ∀ x i, G.fns.lookup x = some i → ∃ d, fn[i]? = some d ∧ d.at_ = (x, none))
    (hi : ∀ x ci, G.ins.lookup x = some ci → ∀ Y : Cx, Y.prog = prg → Y.w = w → Y.K = K → Y.mg = mg → Y.base = base → Room 2 Y.A → InX Y (rcOf K fn cls) P.cs ci x) : ProgOk prg w K mg base (rcOf K fn cls) P G := by
  have c0 := ba (show (chk K && fn.all fun d => d.ok K) = true from congrArg (fun z : AlM => z.1.1) c)
  have e0 : fn.map (fun d => fnW K d.at_) = fn.map DefD.val := congrArg (fun z : AlM => z.1.2) c
  have f0 := hf c0.1
  unfold facB at f0
  simp only [Bool.and_eq_true, List.all_eq_true] at f0
  obtain ⟨⟨⟨⟨⟨f1, f2⟩, f3⟩, f4⟩, f5⟩, f6⟩ := f0
  refine ⟨rfl, fun i f h => ?_, fun x i h => ?_, fun x d h => ?_, fun x h => ?_, fun x ci h => ?_, hi, fun x ci h => ?_, fun ci f h => ?_⟩
  · have h : (fn[i]?).map (fun d => fAd K d.at_) = some f := h
    cases hdi : fn[i]? with
    | none =>
      rw [hdi] at h
      cases h
    | some d =>
      rw [hdi] at h
      cases h
      obtain ⟨g, h1, h2⟩ := hd.get hdi
      obtain ⟨N, ps, k1, k2, k3, k4, k5, k6, k7⟩ := h2.ex
      have e2 : (fn.map fun d => fnW K d.at_)[i]? = (fn.map DefD.val)[i]? := by rw [e0]
      rw [List.getElem?_map, List.getElem?_map, hdi] at e2
      obtain ⟨fd, F⟩ := DefD.funD (Option.some.inj e2) (List.all_eq_true.mp c0.2 d (List.mem_of_getElem? hdi))
      have d1 : d.dvs K = [] := by
        unfold DefD.dvs
        rw [k5]
        rfl
      have d2 : d.kws K = [] := by
        unfold DefD.kws
        rw [k6]
        rfl
      rw [d1, d2] at F
      have bn : Binds K fd ps [] := F.bindsN k7
      obtain ⟨oc, od, dV, kV, doc, pm, an, cdv, ct, osl, q1, q2, q3, _, _⟩ := F.ex
      exact ⟨g, fd, ps, h1, ⟨⟨_, _, _, _, _, dV, kV, doc, pm, cdv, ct, oc, an, od, osl, N, q1, q2, q3, C8.fnScope_by k2, k3, k1⟩, k4, F.kp, bn⟩⟩
  · obtain ⟨d, h1, h2⟩ := hn x i h
    refine ⟨ga K x, glo_ok X Gn (f1 _ (lookup_mem h)), ?_⟩
    show (fn[i]?).map _ = _
    rw [h1]
    show some (fAd K d.at_) = _
    rw [h2]
    rfl
  · exact conB_ok X Gn (f3 _ (lookup_mem h)) rfl
  · exact free_ok X Gn (f2 _ h)
  · have z := f4 _ (lookup_mem h)
    obtain ⟨⟨⟨z1, z2⟩, z3⟩, z4⟩ := z
    have z1 := of_decide_eq_true z1
    refine ⟨ga K x, ?_, ?_, ?_⟩
    · show (cls[ci]?).map (ga K) = _
      have z1 : cls[ci]? = some x := z1
      rw [z1]
      rfl
    · dsimp only at z4
      split at z4
      · rename_i kk ek
        exact ⟨kk, ek, by simpa using z4⟩
      · cases z4
    · obtain ⟨g1, g2, g3, g4⟩ := exc_ok z3
      exact ⟨⟨_, _, _, _, ⟨F.excBase_ValueError⟩, g1⟩, glo_ok X Gn z2, g2, g3, g4⟩
  · obtain ⟨z1, z2⟩ := f5 _ (lookup_mem h)
    refine ⟨_, glo_ok X Gn z1, fun j C hj => ?_⟩
    have hj : (cls[j]?).map (ga K) = some C := hj
    cases hc : cls[j]? with
    | none =>
      rw [hc] at hj
      cases hj
    | some y =>
      rw [hc] at hj
      cases hj
      exact exm_ok (z2 (y, j) (by
        rw [List.mem_zipIdx_iff_getElem?]
        exact hc))
  · have z := f6 _ (lookup_memN h)
    dsimp only at z
    split at z
    · rename_i x ex
      simp only [Bool.and_eq_true, decide_eq_true_eq] at z
      refine ⟨ga K x, ?_, xfB_ok z.1, z.2⟩
      show (cls[ci]?).map (ga K) = _
      rw [ex]
      rfl
    · cases z
end Mini
end
section
set_option linter.all false
set_option autoImplicit false
set_option maxRecDepth 100000
set_option maxHeartbeats 1000000
/-! An own exception under a class over ValueError whose __init__ says super().__init__(x): ValueError.__init__ bound. -/
namespace Mini
namespace VE
open PySem PySem.Spec PySem.W PySem.Calls PyProof.Rows PySem.HandSPX
/-- ValueError.__init__ bound to an instance -/
abbrev mw (e : Addr) : Obj := { cls := .type "method-wrapper", dict := none, data := .fields #[.builtin "ValueError.__init__", .ref e], slots := #[] }
theorem isWD : typeOf (.builtin "ValueError.__init__") = pure (.type "wrapper_descriptor") := by
  show builtinType _ = _
  rw [builtinType_eq_fast]
  kernel_rfl
theorem nameOf : (kfb_private% "nameAndClass") (Value.builtin "ValueError.__init__") = (pure (("__init__" : Str), Value.type "ValueError") : Sem (Str × Value)) := by
  kernel_rfl
theorem argsWD (u v z : Value) : argsOk "wrapper_descriptor.__get__" ⟨[u, v, z], []⟩ := by
  unfold argsOk
  kernel_rfl
section
variable {prog : Program} {w : World} {M : Model} {A : Around} {E : Value → Shared → Prop} {hp : Heap} {g : Array GenState} {d : Drawn} {t : Nat} {os : OsState}
theorem getWD {e C : Addr} {P : Fin → Shared → Prop} (isin : W.Looks M hp (isInstance (.ref e) (.type "ValueError")) true) (q : P (.done (.ret (.ref hp.objs.size))) ⟨hp.push (mw e), g, d, t, os⟩) :
    wpAny M A (Builtin.«wrapper_descriptor.__get__» ⟨[.builtin "ValueError.__init__", .ref e, .ref C], []⟩) P E ⟨hp, g, d, t, os⟩ := by
  unfold Builtin.«wrapper_descriptor.__get__»
  refine wpAny_bind (wpAny_of_eq (a := (.builtin "ValueError.__init__", some (.ref e), some (.ref C))) (by first | rfl | kernel_rfl) ?_)
  show wpAny M A ((kfb_private% "checkInstance") (.builtin "ValueError.__init__") (.ref e) >>= fun _ => newFields "method-wrapper" [.builtin "ValueError.__init__", .ref e] >>= fun r => ret r) P E _
  refine wpAny_bind ?_
  show wpAny M A ((kfb_private% "nameAndClass") (.builtin "ValueError.__init__") >>= _) _ E _
  refine wpAny_bind (wpAny_of_eq nameOf ?_)
  show wpAny M A (isInstance (.ref e) (.type "ValueError") >>= _) _ E _
  refine wpAny_bind (isin.at (KFB.if_not rfl (wpAny_pure ?_)))
  exact wpAny_bind (wpAny_newObj_type (wpAny_pure q))
/-- the look of a super object for __init__ -/
theorem superGet {so D e C : Addr} {l₀ l : List Value} {K : Frag} {name : Str} {tk : Tok} {Q : Fin → Shared → Prop} (sup : hp.get? so = some { cls := .type "super", dict := none, data := .fields #[.ref D, .ref e, .ref C], slots := #[] })
    (opq : W.Looks (model prog w) hp (opaqueClassAbove (.ref C)) none) (mro : W.Looks (model prog w) hp (mroOf (.ref C)) l₀) (cut : (l₀.dropWhile (· != .ref D)).drop 1 = l) (kin : K.In hp) (found : alongIn K name l = some (some (.builtin "ValueError.__init__")))
    (ne : e ≠ C) (nc : (name == ("__class__" : Str)) = false) (isin : W.Looks (model prog w) hp (isInstance (.ref e) (.type "ValueError")) true) (q : Q (.done (.ret (.ref hp.objs.size))) ⟨hp.push (mw e), g, d, t, os⟩) :
    wpAny (model prog w) A (Builtin.«super.__getattribute__» ⟨[.ref so, .str name tk], []⟩) Q E ⟨hp, g, d, t, os⟩ := by
  have wd := ESX.slot_wd.lookup
  have neB : (Value.ref e == Value.ref C) = false := by
    simp [ne]
  have ty := isWD
  have tyS : Shared.TypeIs ⟨hp, g, d, t, os⟩ (.builtin "ValueError.__init__") "wrapper_descriptor" := isWD
  have dat : ({ cls := .type "super", dict := none, data := .fields #[.ref D, .ref e, .ref C], slots := #[] } : Obj).data = .fields #[.ref D, .ref e, .ref C] := rfl
  have at0 : (#[.ref D, .ref e, .ref C] : Array Value)[0]? = some (.ref D) := rfl
  have at1 : (#[.ref D, .ref e, .ref C] : Array Value)[1]? = some (.ref e) := rfl
  have at2 : (#[.ref D, .ref e, .ref C] : Array Value)[2]? = some (.ref C) := rfl
  unfold Builtin.«super.__getattribute__»
  repeat (first
    | (with_reducible refine wpAny_field sup dat at0 ?_)
    | (with_reducible refine wpAny_field sup dat at1 ?_)
    | (with_reducible refine wpAny_field sup dat at2 ?_)
    | (with_reducible refine ks_wpAny_notOpaque opq ?_)
    | (with_reducible refine Looks.at mro ?_; rw [cut])
    | (refine ks_forIn_along kin (fun _ _ => rfl) rfl ?_ found)
    | (with_reducible refine wpAny_call_entry ESX.slot_wd tyS ESX.entry_wd ?_ (argsWD _ _ _))
    | (with_reducible refine getWD isin ?_)
    | (with_reducible refine ⟨_, rfl, ?_⟩)
    | (simp only [nc, neB, Bool.or_false, Bool.false_eq_true, if_false])
    | wp_step
    | dsimp only)
  all_goals exact q
theorem superMeth {so D e C : Addr} {l₀ l : List Value} {K : Frag} {name : Str} {pl : Sem Bool} {Q : Value × List Value → Shared → Prop} (sup : hp.get? so = some { cls := .type "super", dict := none, data := .fields #[.ref D, .ref e, .ref C], slots := #[] })
    (opq : W.Looks (model prog w) hp (opaqueClassAbove (.ref C)) none) (mro : W.Looks (model prog w) hp (mroOf (.ref C)) l₀) (cut : (l₀.dropWhile (· != .ref D)).drop 1 = l) (kin : K.In hp) (found : alongIn K name l = some (some (.builtin "ValueError.__init__")))
    (ne : e ≠ C) (nc : (name == ("__class__" : Str)) = false) (isin : W.Looks (model prog w) hp (isInstance (.ref e) (.type "ValueError")) true) (q : Q (.ref hp.objs.size, []) ⟨hp.push (mw e), g, d, t + 1, os⟩) :
    wpAny (model prog w) A (getMethod (.ref so) name pl) Q E ⟨hp, g, d, t, os⟩ := by
  have lk := F.ks_slot_super_ga.lookup
  have can := F.ks_canon_super_ga
  have tyS : ∀ t', (⟨hp, g, d, t', os⟩ : Shared).TypeIs (.ref so) "super" := fun _ => ⟨_, sup, rfl⟩
  unfold getMethod
  refine wpAny_bind (wpAny_specialOf (tyS _) lk ?_)
  show wpAny _ _ (if (Manifest.canonical "super.__getattribute__" != "object.__getattribute__") = true then _ else _) _ _ _
  rw [if_pos can]
  unfold getAttr getAttrBy
  refine wpAny_bind (wpAny_bind (wpAny_mkText (wpAny_holding (wpAny_bind (wpAny_typeOf (tyS _) (wpAny_bind (wpAny_of_eq lk ?_)))))))
  show wpAny _ _ (getAttrByItsOwn (.ref so) (.str name t) (.type "super") (.builtin "super.__getattribute__") true false) _ _ _
  unfold getAttrByItsOwn hookBefore callGetattribute boundAndCalled
  refine wpAny_bind (wpAny_of_eq (show (if onTheHeap (.type "super") then typeLookup (.type "super") "__getattr__" else pure none) = pure none from rfl) (wpAny_bind (wpAny_attempt (wpAny_holding ?_))))
  show wpAny _ _ (bindSpecial (.builtin "super.__getattribute__") (.ref so) >>= _) _ _ _
  refine wpAny_bind (wpAny_of_eq (F.ks_slot_super_ga.bind _) ?_)
  have run := superGet (A := A.in1.in1) (E := fun _ _ => False) (g := g) (d := d) (t := t + 1) (os := os) (tk := t) (Q := fun f s' => f = .done (.ret (.ref hp.objs.size)) ∧ s' = ⟨hp.push (mw e), g, d, t + 1, os⟩) sup opq mro cut kin found ne nc isin ⟨rfl, rfl⟩
  refine wpAny_mono (Q := fun v s' => v = .ref hp.objs.size ∧ s' = ⟨hp.push (mw e), g, d, t + 1, os⟩) (E := fun _ _ => False)
    (wpAny_call_entry F.ks_slot_super_ga (tyS _) F.ks_entry_super_ga (superGet sup opq mro cut kin found ne nc isin ⟨_, rfl, rfl, rfl⟩) (F.ks_gaArgs_super _ _)) (fun v s' hv => ?_) fun _ _ z => z.elim
  obtain ⟨rfl, rfl⟩ := hv
  exact wpAny_pure (wpAny_pure q)
end
section
variable {prog : Program} {w : World} {M : Model} {A : Around} {E : Value → Shared → Prop} {s : Shared}
theorem callMW {pos : Pos} {u e : Addr} {args : List (Bool × Sem Value)} {Q : Value → Shared → Prop} (plain : args.any (·.1) = false)
    (h : wpAny M A (evalArgs (.ref u) true args []) (fun a s₁ => s₁.heap.get? u = some (mw e) ∧ wpAny M A (call (.ref u) ([] ++ a.pos) a.kw) Q E s₁) E s) : wpAny M A (callWith pos (.ref u) [] args []) Q E s := by
  unfold callWith
  refine wpAny_bind (wpAny_holding (wpAny_mono h (fun a s₁ got => wpAny_bind (wpAny_standAt ?_)) fun _ _ z => z))
  obtain ⟨ho, run⟩ := got
  simp only [plain, List.any_nil, Bool.or_false]
  refine wpAny_bind (m := keeperOf (.ref u)) ?_
  unfold keeperOf
  refine wpAny_bind (wpAny_load ho ?_)
  simp only [mw, show (Value.type "method-wrapper" != Value.type "method") = true by decide,
    show (Value.type "method-wrapper" == Value.type "builtin_function_or_method" || Value.type "method-wrapper" == Value.type "method-wrapper") = true by decide, if_true]
  refine wpAny_pure (wpAny_bind (wpAny_mono run (fun r s₂ got => ?_) fun _ _ z => z))
  exact wpAny_bind (wpAny_holding (wpAny_point (wpAny_pure got)))
end
section
variable {prog : Program} {w : World} {A : Around} {E : Value → Shared → Prop} {hp : Heap} {g : Array GenState} {d : Drawn} {t : Nat} {os : OsState}
variable {nm q : Str} {C N : Addr} {bs bm : List Value} {hdct : Bool} {sn : List Str} {sub : List Value} {ab : Bool} {col : Option Bool} {dd : Option Addr} {k0 k1 k2 k3 k5 : Option Value}
theorem runMW {u e t0 : Addr} {rest : List Value} {Q : Value → Shared → Prop} (hC : hp.get? C = some (excClassObj nm q C N bs bm hdct sn sub ab col dd k0 k1 k2 k3 k5 "ValueError.__new__")) (he : hp.get? e = some (excO C t0)) (hu : hp.get? u = some (mw e)) (few : rest.length ≤ sizeLine)
    (k : ∀ h' t1, (∀ b o, b ≠ e → hp.get? b = some o → h'.get? b = some o) → h'.get? e = some (excO C t1) → Q .none ⟨h', g, d, t, os⟩) : wpAny (model prog w) A (call (.ref u) rest) Q E ⟨hp, g, d, t, os⟩ := by
  refine wpAny_call (codeAny_of_tree ?_)
  show wpAny _ A.in1 (callAny (.ref u) ⟨rest, []⟩) _ _ _
  simp only [callAny]
  refine wpAny_bind (wpAny_load hu ?_)
  simp only [mw, show (Value.type "method-wrapper" == Value.type "method" || Value.type "method-wrapper" == Value.type "builtin_function_or_method" || Value.type "method-wrapper" == Value.type "method-wrapper") = true by decide, if_true]
  refine W.KFB.if_so (by decide) (wpAny_bind (ESX.check_bound F.excBase_ValueError hC he rfl ?_))
  refine wpAny_bind (wpAny_pure (wpAny_pure ⟨Code.quiet_builtin _ (by decide +kernel), codeAny_builtin F.excBase_ValueError.initEntry ?_⟩))
  rw [Around.under_plainId F.excBase_ValueError.init.plain _]
  wp_walk
  refine k _ hp.objs.size (fun b o hb ho => ?_) ?_
  · rw [Heap.get?_update_other _ _ (Ne.symm hb)]
    exact Heap.get?_push_of_some _ ho
  · rw [Heap.get?_update_self _ (Heap.get?_push_of_some _ he) rfl]
    rfl
end
end VE
end Mini
end
section
set_option linter.all false
set_option autoImplicit false
set_option maxRecDepth 100000
set_option maxHeartbeats 1000000
/-! .. its __init__, walked; the exception that it makes. -/
namespace Mini
namespace VE
open PySem PySem.Spec PySem.W PySem.Calls PyProof.Rows PySem.HandSPX
/-- def __init__(self, pn): super().__init__(arg); self.fld = pn -/
def supBody (fld pn : Str) (arg : Expr) (p0 p1 p2 p3 p4 p5 p6 p7 p8 : Pos) : List Stmt := [.Expr (.Call (.Attribute (.Call (.Name "super" p0) [] [] p1) "__init__" p2) [arg] [] p3) p4, .Assign [.Attribute (.Name "self" p5) fld p6] (.Name pn p7) p8]
/-- the argument of super().__init__: it is read at pn's value v, and nothing changes but counts -/
def ArgOk (prog : Program) (w : World) (mg : Str → Option Value) (arg : Expr) (pn : Str) (sc : Scope) (v : Value) : Prop := ∀ (A : Around) (E : Value → Shared → Prop) (Q : Value → Shared → Prop) (env : PySem.Env) (m mb : Str → Option Value) (s : Shared), env.scope = sc →
  s.heap.Ns env.locals m → m pn = some v → s.heap.Ns env.globals mg → s.heap.Ns env.builtins mb → (∀ x : Str, x ≠ "__name__" → mb x = bootBuiltins x) → (∀ u t, Q u { s with toks := t }) → wpAny (model prog w) A (eval arg env) Q E s
structure SupT (prog : Program) (K : Frag) (C fI cda cc : Addr) (fld pn : Str) (arg : Expr) (sc : Scope) : Prop where
  oex : L2.OexC K C
  iC : findIn K (.ref C) "__init__" = some (some (.ref fI))
  tI : typeIn K (.ref fI) = some (.type "function")
  fn : ∃ (oc : Value) (od : Option Addr) (osl : Array (Option Value)) (fd : FuncData) (p0 p1 p2 p3 p4 p5 p6 p7 p8 : Pos) (ar : Arg), K.lookup fI = some ⟨oc, od, .func fd, osl⟩ ∧ fd.body = .stmts (supBody fld pn arg p0 p1 p2 p3 p4 p5 p6 p7 p8) ∧ fd.code = .ref cda ∧ codeIn K fd.code fd.qualname = true ∧
    fd.closure = [(("__class__" : Str), cc)] ∧ fd.globals = mainGlobals ∧ fd.builtins = builtinsNs ∧ fd.scope = sc ∧ sc.kind = .function ∧ sc.isCoroutine = false ∧ sc.isGenerator = false ∧ (∀ x ∈ sc.names, x.2 ≠ .cell) ∧ sc.names.lookup ("self" : Str) = some .local ∧ sc.names.lookup pn = some .local ∧
    sc.names.lookup ("super" : Str) = some .globalImplicit ∧ sc.names.lookup ("__class__" : Str) = some .free ∧ (fd.params.posonlyargs ++ fd.params.args).head? = some ar ∧ ar.arg = "self" ∧ (∀ x v : Value, bindArgs fd ⟨[x, v], []⟩ = pure [(("self" : Str), x), (pn, v)]) ∧ (∀ env, starEach [arg] env = [(false, eval arg env)]) ∧ (p2.endLine == p3.line) = true
  code : ∃ (ccl : Value) (cdd : Option Addr) (vs : Array Value) (ccs : Array (Option Value)) (file : Str) (tf : Tok), K.lookup cda = some ⟨ccl, cdd, .fields vs, ccs⟩ ∧ vs[2]? = some (.str file tf) ∧ ((prog.main.file : Str) == file) = true
  cell : ∃ (cl : Value) (cld : Option Addr) (csl : Array (Option Value)), K.lookup cc = some ⟨cl, cld, .cell (some (.ref C)), csl⟩
  sub : mroIn K C (.ref C) = some true
  sup : ks_superIn K C C "__init__" = some (some (.builtin "ValueError.__init__"))
  ve : mroIn K C (.type "ValueError") = some true
  opq : nsIn K cStatics "thirdparty.any" = some none
  noF : findIn K (.ref C) fld = some none
  pn2 : pn ≠ "self" ∧ (pn == ("__debug__" : Str)) = false
  top : (prog.main.scope.names.lookup ("super" : Str)).isSome = false
theorem ns_but {h h' : Heap} {L x : Addr} {m : Str → Option Value} {C t0 : Addr} (n : h.Ns L m) (hx : h.get? x = some (excO C t0)) (k : ∀ b o, b ≠ x → h.get? b = some o → h'.get? b = some o) : h'.Ns L m := by
  obtain ⟨o, es, ep, e, d, r⟩ := n
  refine ⟨o, es, ep, k L o (fun z => ?_) e, d, r⟩
  rw [z, hx] at e
  cases e
  cases d
theorem kin_but {K : Frag} {h h' : Heap} {x : Addr} (kin : K.In h) (hx : K.lookup x = none) (k : ∀ b o, b ≠ x → h.get? b = some o → h'.get? b = some o) : K.In h' := fun a o e => k a o (fun z => by
  rw [z, hx] at e
  cases e) (kin a o e)
section
variable {prog : Program} {w : World} {A : Around} {E : Value → Shared → Prop} {R : Result → Shared → Prop} {s : Shared} {K : Frag} {mg mb : Str → Option Value} {C fI cda cc : Addr} {fld pn : Str} {arg : Expr} {sc : Scope}
theorem supInit (T : SupT prog K C fI cda cc fld pn arg sc) {x t0 : Addr} {v : Value} (kin : K.In s.heap) (nsg : s.heap.Ns mainGlobals mg) (nsb : s.heap.Ns builtinsNs mb) (boot : ∀ x : Str, x ≠ "__name__" → mb x = bootBuiltins x) (noS : mg "super" = none) (nl : s.heap.NoLimit)
    (hx : s.heap.get? x = some (excO C t0)) (nx : K.lookup x = none) (room : A.depth < recursionLimit) (ha : ArgOk prog w mg arg pn sc v)
    (hq : ∀ h' tk dx t1, (∀ b o, b ≠ x → s.heap.get? b = some o → h'.get? b = some o) → h'.get? x = some { cls := .ref C, dict := some dx, data := .fields #[.ref t1, .none, .none, .none, .bool false, .none] } → s.heap.objs.size ≤ dx → dx ≠ x →
      h'.Ns1 dx (fun y => if y = fld then some v else none) → R (.ok (.ret .none)) { s with heap := h', toks := tk }) :
    codeAny (model prog w) A (.call (.ref fI) ⟨[.ref x, v], []⟩) R s := by
  obtain ⟨oc, od, osl, fd, p0, p1, p2, p3, p4, p5, p6, p7, p8, ar, ho, hbody, hcode, hcodeIn, hclo, hglob, hblt, hsc, hkind, hco, hgen, hcell, hself, hpn, hsup, hcls, hhead, har, hbind, hstar, hline⟩ := T.fn
  subst hsc
  obtain ⟨ccl, cdd, vs, ccs, file, tf, hcda, hvs, hfile⟩ := T.code
  obtain ⟨cl, cld, csl, hcc⟩ := T.cell
  obtain ⟨nm, q, N, bs, bm, sn, sub, ab, col, dd, k0, k1, k2, k3, k5, hC, hbm⟩ := T.oex.cls
  have hcl : clsIn K C = some { name := nm, bases := bs, mro := .ref C :: bm, ns := N, qualname := q, hasDict := true, slotNames := sn, subclasses := sub, abstract := ab, collection := col, hasDel := false } := by
    unfold clsIn
    rw [hC] <;> rfl
  refine ks_codeAny_call_defAt (binds := [(("self" : Str), .ref x), (pn, v)]) room (kin _ _ ho) rfl nl (codeRec_of kin hcodeIn) hbody (BindsTo.of_eq (hbind _ _)) hcell (fun y hy => ?_) (fun h₁ hn k₁ => ?_) hco hgen hkind
  · rcases List.mem_cons.mp hy with e | hy
    · rw [e]
      exact hself
    · rw [List.mem_singleton.mp hy]
      exact hpn
  have kin₁ : K.In h₁ := kin.keeps k₁
  have hx₁ := k₁ _ _ hx
  have neL : s.heap.objs.size ≠ x := Nat.ne_of_gt (Heap.lt_size hx)
  have mSelf : (fun y => ([(("self" : Str), Value.ref x), (pn, v)] : List (Str × Value)).reverse.lookup y) ("self" : Str) = some (.ref x) := by
    have z : ((("self" : Str)) == pn) = false := by simpa using (Ne.symm T.pn2.1)
    simp [List.lookup, z]
  have mPn : (fun y => ([(("self" : Str), Value.ref x), (pn, v)] : List (Str × Value)).reverse.lookup y) pn = some v := by
    simp [List.lookup]
  have inC : h₁.get? C = some _ := kin₁ _ _ hC
  have xneC : x ≠ C := fun z => by
    rw [z, inC] at hx₁
    cases hx₁
  have instVE : ∀ h' : Heap, K.In h' → h'.get? x = some (excO C t0) → W.Looks (model prog w) h' (isInstance (.ref x) (.type "ValueError")) true := fun h' k' e =>
    (show W.Looks (model prog w) h' (typeOf (.ref x)) (.ref C) from fun A Q E s k q => wpAny_typeOf_ref (k _ _ e) q).andThen (looks_mroIn k' T.ve)
  have inter : interactive (callEnv fd s.heap.objs.size fI) = false := by
    have z : (callEnv fd s.heap.objs.size fI).scope.kind = .function := hkind
    simp [interactive, z]
  unfold supBody
  refine ks_wpAt_execs_cons (ks_wpAt_Expr_any ?_ inter rfl)
  have few : methodCallForm 1 (backTo p3 (starEach [arg] (callEnv fd s.heap.objs.size fI))) [] = true := by
    rw [hstar]
    rfl
  refine ks_wpAt_MethodCall (pl := L2.plainOf (.Call (.Name "super" p0) [] [] p1) (callEnv fd s.heap.objs.size fI)) ?_ ?_
  rotate_left
  · show (do
      let ov ← attributeBase (.Call (.Name "super" p0) [] [] p1) "__init__" (callEnv fd s.heap.objs.size fI) (eval (.Call (.Name "super" p0) [] [] p1) (callEnv fd s.heap.objs.size fI))
      standAt p2.atName
      methodCall (.Call (.Name "super" p0) [] [] p1) "__init__" p2 p3 (callEnv fd s.heap.objs.size fI) ov 1 (backTo p3 (starEach [arg] (callEnv fd s.heap.objs.size fI))) []) = _
    simp only [L2.mcall_line few hline]
  refine ks_wpAt_super_base (f := fI) (cc := cda) (vs := vs) hsup hcls (by decide +kernel) rfl (kin₁ _ _ ho) rfl hhead hcode (kin₁ _ _ hcda) rfl hvs hfile T.top ?_
  have nsg₁ : h₁.Ns (callEnv fd s.heap.objs.size fI).globals mg := by
    show h₁.Ns fd.globals mg
    rw [hglob]
    obtain ⟨o, es, ep, e, d, r⟩ := nsg
    exact ⟨o, es, ep, k₁ _ _ e, d, r⟩
  have nsb₁ : h₁.Ns (callEnv fd s.heap.objs.size fI).builtins mb := by
    show h₁.Ns fd.builtins mb
    rw [hblt]
    obtain ⟨o, es, ep, e, d, r⟩ := nsb
    exact ⟨o, es, ep, k₁ _ _ e, d, r⟩
  refine ks_loadName_global hkind hsup (loadGlobal_builtin nsg₁ noS nsb₁ ((boot _ (by decide +kernel)).trans (show bootBuiltins "super" = some (.type "super") by decide +kernel)) ⟨rfl, ?_⟩)
  refine wpAny_loadName_free hkind hcls (c := cc) (by
    show fd.closure.lookup ("__class__" : Str) = some cc
    rw [hclo]
    rfl) (v := .ref C) ⟨_, kin₁ _ _ hcc, rfl⟩ ?_
  refine wpAny_loadName_local hkind (by
    rw [har]
    exact hself) hn (v := .ref x) (by
    rw [har]
    exact mSelf) ?_
  refine ks_wpAny_isType_cls inC rfl ⟨rfl, ?_⟩
  refine ks_wpAny_call_super inC rfl hx₁ rfl (fun c e => nomatch e) (looks_mroIn kin₁ T.sub) (fun h₂ hs₂ k₂ => ?_)
  -- the method of the super object
  have kin₂ : K.In h₂ := kin₁.keeps k₂
  have hx₂ := k₂ _ _ hx₁
  have sup := T.sup
  unfold ks_superIn at sup
  rw [hcl] at sup
  refine superMeth (l₀ := .ref C :: bm) hs₂ (looks_opaque kin₂ T.opq) (fun A Q E s k q => wpAny_bind ((looks_clsIn kin₂ hcl) A _ E s k (wpAny_pure q))) rfl kin₂ sup xneC (by decide +kernel) (instVE _ kin₂ hx₂) ?_
  rw [hstar]
  show wpAny _ _ (callWith p3 (.ref h₂.objs.size) [] [(false, if false = true then _ else eval arg _)] []) _ _ _
  refine callMW (e := x) rfl (evalArgs_plain (spliced_cons ?_))
  have k₃ : ∀ b o, h₂.get? b = some o → (h₂.push (mw x)).get? b = some o := fun b o e => Heap.get?_push_of_some _ e
  have up : ∀ {b : Addr} {m : Str → Option Value}, h₁.Ns b m → (h₂.push (mw x)).Ns b m := fun ⟨o, es, ep, e, d, r⟩ => ⟨o, es, ep, k₃ _ _ (k₂ _ _ e), d, r⟩
  refine ha _ _ _ _ _ mb _ rfl (up hn) mPn (up nsg₁) (up nsb₁) boot fun u t => ?_
  refine spliced_nil ⟨Heap.get?_push_size _ rfl, ?_⟩
  refine runMW (e := x) (t0 := t0) (k₃ _ _ (k₂ _ _ inC)) (k₃ _ _ hx₂) (Heap.get?_push_size _ rfl) (by
    show 1 ≤ sizeLine
    rw [sizeLine_eq]
    omega) (fun h₄ t1 k₄ hx₄ => ?_)
  -- self.fld = pn
  have all : ∀ b o, b ≠ x → h₁.get? b = some o → h₄.get? b = some o := fun b o hb e => k₄ b o hb (k₃ _ _ (k₂ _ _ e))
  have kin₄ : K.In h₄ := kin_but kin₁ nx all
  have hn₄ := ns_but hn hx₁ all
  refine wpAt_of_wpAny (wpAny_execs_cons (plainObj_wpAny_Assign_Attribute ?_))
  refine wpAny_Name (wpAny_loadName_local hkind hpn hn₄ mPn ?_) T.pn2.2
  refine wpAny_Name (wpAny_loadName_local hkind hself hn₄ mSelf ?_) (by decide)
  refine set_plain kin₄ (ox := excO C t1) (od := none) ⟨hx₄, rfl, rfl, trivial⟩ T.oex.sa ?_
  refine exc_osa kin₄ hx₄ hcl (show refsVE (.ref C :: bm) = true from hbm) rfl T.noF (fun h₅ tk₅ dx k₅ dn dne hx₅ hn₅ => ?_)
  have z : s.heap.objs.size ≤ h₄.objs.size := by
    have a1 := hn.lt
    obtain ⟨o, es, ep, e, _, _⟩ := hn₄
    exact Nat.le_of_lt (Heap.lt_size e)
  exact wpAny_execs_nil (hq h₅ tk₅ dx t1 (fun b o hb e => k₅ b o hb (all b o hb (k₁ b o e))) hx₅ (Nat.le_trans z dn) dne hn₅)
end
end VE
end Mini
end
section
set_option linter.all false
set_option autoImplicit false
set_option maxRecDepth 100000
set_option maxHeartbeats 1000000
/-! .. raised. -/
namespace Mini
namespace VE
open PySem PySem.Spec PySem.W PySem.Calls PyProof.Rows PySem.HandSPX
/-- a made one, its dict at d -/
structure MadeX (h h' : Heap) (e C d : Addr) (fld : Str) (v : Value) : Prop where
  keep : ∀ b o, h.get? b = some o → h'.get? b = some o
  new : h.objs.size ≤ e
  obj : ∃ oe vs, h'.get? e = some oe ∧ oe.cls = .ref C ∧ oe.dict = some d ∧ oe.data = .fields vs ∧ vs[1]? = some .none
  dnew : h.objs.size ≤ d
  dne : d ≠ e
  ns : h'.Ns1 d (fun y => if y = fld then some v else none)
section
variable {prog : Program} {w : World} {A : Around} {R : Result → Shared → Prop} {s : Shared} {K : Frag} {mg mb : Str → Option Value} {C fI cda cc : Addr} {fld pn : Str} {arg : Expr} {sc : Scope}
theorem supMade (T : SupT prog K C fI cda cc fld pn arg sc) {v : Value} (kin : K.In s.heap) (nsg : s.heap.Ns mainGlobals mg) (nsb : s.heap.Ns builtinsNs mb) (boot : ∀ x : Str, x ≠ "__name__" → mb x = bootBuiltins x) (noS : mg "super" = none) (nl : s.heap.NoLimit) (room : A.depth + 1 < recursionLimit)
    (ha : ArgOk prog w mg arg pn sc v) (hq : ∀ h' tk e d, MadeX s.heap h' e C d fld v → R (.ok (.ret (.ref e))) { s with heap := h', toks := tk }) : codeAny (model prog w) A (.call (.ref C) ⟨[v], []⟩) R s := by
  obtain ⟨nm, q, N, bs, bm, sn, sub, ab, col, dd, k0, k1, k2, k3, k5, hC, hbm⟩ := T.oex.cls
  obtain ⟨hp, g, dr, tk, os⟩ := s
  have up : ∀ b o, hp.get? b = some o → ((hp.push (kdv_tup [v])).push (excO C hp.objs.size)).get? b = some o := fun b o e => Heap.get?_push_of_some _ (Heap.get?_push_of_some _ e)
  have at_ : ((hp.push (kdv_tup [v])).push (excO C hp.objs.size)).get? (hp.objs.size + 1) = some (excO C hp.objs.size) := by heap_get
  have out : K.lookup (hp.objs.size + 1) = none := by
    cases e : K.lookup (hp.objs.size + 1) with
    | none => rfl
    | some o => exact absurd (Nat.lt_of_succ_lt (Heap.lt_size (show hp.get? (hp.objs.size + 1) = some o from kin _ _ e))) (Nat.lt_irrefl _)
  have nsUp : ∀ {b : Addr} {m : Str → Option Value}, hp.Ns b m → ((hp.push (kdv_tup [v])).push (excO C hp.objs.size)).Ns b m := fun ⟨o, es, ep, e, d, r⟩ => ⟨o, es, ep, up _ _ e, d, r⟩
  refine call_own F.excBase_ValueError (fun X => refsVE_contains X bm hbm) (kin _ _ hC) (looks_findIn kin T.iC) (fun self => bind_fn kin self T.tI) (by
    show 1 ≤ sizeLine
    rw [sizeLine_eq]
    omega) ?_
  refine supInit (s := ⟨(hp.push (kdv_tup [v])).push (excO C hp.objs.size), g, dr, tk, os⟩) (mb := mb) T (kin.keeps up) (nsUp nsg) (nsUp nsb) boot noS (nl.keeps up) at_ out (by
    rw [L2.make_depth]
    exact room) ha fun h' tk' dx t1 k' hx dn dne hns => ?_
  have old : ∀ b o, hp.get? b = some o → h'.get? b = some o := fun b o e => k' b o (Nat.ne_of_lt (Nat.lt_succ_of_lt (Heap.lt_size e))) (up b o e)
  have big : hp.objs.size ≤ dx := Nat.le_trans (Nat.le_of_lt (Nat.lt_of_succ_lt (Heap.lt_size at_))) dn
  exact ⟨rfl, hq h' tk' (hp.objs.size + 1) dx ⟨old, Nat.le_succ _, ⟨_, _, hx, rfl, rfl, rfl, rfl⟩, big, dne, hns⟩⟩
end
end VE
open PySem PySem.Spec PyProof.Rows L2
theorem relO_one {fld : Str} {v : V} {u : Value} (r : RelV v u) (f : Str) : RelO (List.lookup f [(fld, v)]) (if f = fld then some u else none) := by
  rw [lookup_put]
  by_cases h : f = fld
  · rw [if_pos h, if_pos h]
    exact r
  · rw [if_neg h, if_neg h]
    exact True.intro
/-- C(e): the reading -/
def tSup (C : Addr) (fld : Str) (ok : V → Prop) (ta : TA) : L2.St → Hp → XK → Prop := fun σ H Q => ta σ H fun vs H1 => ∃ v, vs = [v] ∧ ok v ∧ ∀ d, H1 d = none → Q (.ref C) (some d) (upd H1 d (.xd [(fld, v)]))
theorem pmk_sup {X : Cx} {C fI cda cc : Addr} {fld pn x : Str} {arg a : Expr} {sc : Scope} {ok : V → Prop} {ta : TA} {p pos : Pos} {k : Nat} (T : VE.SupT X.prog X.K C fI cda cc fld pn arg sc) (hr : Room k X.A) (hm : X.mg x = some (.ref C)) (noS : X.mg "super" = none)
    (hok : ∀ v u, ok v → RelV v u → VE.ArgOk X.prog X.w X.mg arg pn sc u) (ha : PA X [a] ta) (hg : Gl X x) (hdb : (x == ("__debug__" : Str)) = false) (he : starEach [a] X.env = (false, eval a X.env) :: starEach [] X.env) :
    PMk X (.Call (.Name x p) [a] [] pos) (tSup C fld ok ta) := by
  intro pins s σ H Q I h
  refine wpAny_Call_Name_kw (ld_glob I hg hm ?_ hdb)
  refine PySem.W.callWith_K (h₀ := X.base) I.ok.mod.kin T.oex.kC (thn (ha.run pos pins s σ H _ I h) fun us s1 got => ?_) he rfl
  obtain ⟨vs, H1, I1, rel, v, ev, hv, q1⟩ := got
  subst ev
  refine ⟨I1.kIn, ?_⟩
  obtain ⟨u, rfl, ru⟩ := rel.one
  show wpAny _ _ (call (.ref C) [u]) _ _ _
  have lim := I1.nolimit
  have nsg : s1.heap.Ns mainGlobals X.mg := I1.mod.glob.keeps I1.bk
  obtain ⟨mb, nb, boot⟩ := I1.mod.blt
  have nsb : s1.heap.Ns builtinsNs mb := nb.keeps I1.bk
  obtain ⟨hp, g, dr, tk, os⟩ := s1
  refine wpAny_call (VE.supMade T I1.kIn nsg nsb boot noS lim (by have := hr.dp; omega) (hok v u hv ru) fun h' tk' e d M => ?_)
  show MkP X pins σ Q (.ref e) ⟨h', g, dr, tk', os⟩
  obtain ⟨oe, fv, hoe, hcl, hd, hdat, h1⟩ := M.obj
  have hns := M.ns
  obtain ⟨B, b1, b2⟩ := restrict h' fun b => decide (b ≠ e)
  have bk : ∀ b, b ≠ e → B.get? b = h'.get? b := fun b hb => b1 b (decide_eq_true hb)
  have be : B.get? e = none := b2 e (by simp)
  have old : ∀ b o, hp.get? b = some o → B.get? b = some o := fun b o z => (bk b (Nat.ne_of_lt (Nat.lt_of_lt_of_le (Heap.lt_size z) M.new))).trans (M.keep b o z)
  have obk : ObjOk X.prog X.w (upd H1 d (.xd [(fld, v)])) B d (.xd [(fld, v)]) := ⟨_, hns.at (fun o z => (bk d M.dne).trans z), fun f => relO_one ru f⟩
  have J : Inv X pins σ (upd H1 d (.xd [(fld, v)])) ⟨B, g, dr, tk', os⟩ := I1.laid (t' := tk') old M.dnew obk
  refine ⟨e, oe, fv, ⟨B, g, dr, tk', os⟩, _, .ref C, some d, rfl, J, fun b o z => ?_, be, hoe, ⟨hcl, hd⟩, hdat, h1, ?_, rfl, I1.bare, raises_own T.oex.exC T.oex.tyC, q1 d (I1.hok.fresh M.dnew)⟩
  · by_cases hb : b = e
    · have z : B.get? b = some o := z
      rw [hb, be] at z
      cases z
    · exact (bk b hb).symm.trans z
  · rw [upd_ne (Ne.symm M.dne)]
    exact I1.hok.fresh M.new
/-- the program's raise of such a class -/
theorem tM_sup {R : RC} {W : WX} {cs : Clss} {ci : Nat} {C : Addr} {k : Cls} {fld : Str} {ok : V → Prop} {g : Env → Sto → Res (List Mini.D)} (hk : cs[ci]? = some k) (hf : k.flds = [fld]) (hC : R.ca ci = some C)
    (hv : ∀ (R : RC) m st H d v, Rep R m st H d v → numOk k [d] = true → ok v) {σ : L2.St} {H : Hp} {Q : XK} (h : tM R cs ci g σ H Q) : tSup C fld ok (tA R W g) σ H Q := by
  obtain ⟨hd, m, env, st, s, er, q⟩ := h
  refine ⟨hd, m, env, st, s, er, ?_⟩
  cases e : g env st with
  | bad =>
    rw [e] at q
    exact q.elim
  | exc x st1 =>
    rw [e] at q
    exact q.elim
  | ok ds st1 =>
    rw [e] at q
    obtain ⟨k', fs, e1, en, e2, q⟩ := q
    rw [hk] at e1
    cases e1
    rw [hf] at e2
    rcases ds with _ | ⟨d, _ | ⟨d2, l⟩⟩
    · cases e2
    · cases e2
      intro m1 H1 vs x1 s1 r1
      obtain ⟨v, rfl, rv⟩ := r1.one
      refine ⟨v, rfl, hv _ _ _ _ _ _ rv en, fun a ha => ?_⟩
      have xn : Ext m1 st1 H1 m1 st1 (upd H1 a (.xd [(fld, v)])) := Ext.new ha
      exact q m1 _ _ _ (x1.trans xn) (s1.new ha) ⟨C, hC, rfl, .inr ⟨a, _, rfl, upd_same, s1.notLive ha, .cons (Rep.mono xn _ _ rv) .nil⟩⟩
    · cases e2
end Mini
end
section
set_option linter.all false
set_option autoImplicit false
set_option maxRecDepth 100000
set_option maxHeartbeats 1000000
/-! .. by facts about the module. -/
namespace Mini
open PySem PySem.Spec PyProof.Rows L2 _root_.He
/-! ### the argument of super().__init__ -/
theorem argOk_name {prog : Program} {w : World} {mg : Str → Option Value} {pn : Str} {p : Pos} {sc : Scope} {v : Value} (hk : sc.kind = .function) (hl : sc.names.lookup pn = some .local) (hd : (pn == ("__debug__" : Str)) = false) : VE.ArgOk prog w mg (.Name pn p) pn sc v := by
  intro A E Q env m mb s hs hn hm _ _ _ hq
  exact wpAny_Name (wpAny_loadName_local (by rw [hs]; exact hk) (by show env.scope.names.lookup pn = _; rw [hs]; exact hl) hn hm (hq v s.toks)) hd
theorem argOk_str {prog : Program} {w : World} {mg : Str → Option Value} {pn pre : Str} {j : Nat} {p1 p2 p3 p4 p5 : Pos} {sc : Scope} {i : Int} {t0 : Tok} (hk : sc.kind = .function) (hl : sc.names.lookup pn = some .local) (hd : (pn == ("__debug__" : Str)) = false) (hs : sc.names.lookup ("str" : Str) = some .globalImplicit) (hm : mg "str" = none)
    (hi : i.natAbs.log2 < 1920) (hz : pre.length + (toString i : Str).length ≤ sizeLine) : VE.ArgOk prog w mg (.BinOp (.Constant (.str pre) j p1) .Add (.Call (.Name "str" p2) [.Name pn p3] [] p4) p5) pn sc (.int i t0) := by
  intro A E Q env m mb s hsc hn hmm hg hb boot hq
  have kind : env.scope.kind = .function := by rw [hsc]; exact hk
  refine wpAny_BinOp (Calls.Constant_str ?_)
  refine wpAny_Call_Name_kw (Calls.Name_function_global kind (by show env.scope.names.lookup _ = _; rw [hsc]; exact hs) (Calls.loadGlobal_builtin hg hm hb ((boot _ (by decide)).trans (show bootBuiltins "str" = some (.type "str") by decide +kernel)) ?_) (by decide))
  refine PyProof.Rows.callWith_type1 (Calls.spliced_cons ?_) (by rfl) (by rfl)
  refine wpAny_Name (wpAny_loadName_local kind (by show env.scope.names.lookup pn = _; rw [hsc]; exact hl) hn hmm ?_) hd
  refine Calls.spliced_nil (PySem.P.str_of_int hi ?_)
  exact add_str (fun t' tk => hq _ _) hz
/-! ### the facts -/
def oexB (K : PySem.W.Frag) (C : Addr) : Bool := (match K.lookup C with
  | some ⟨.type "type", _, .cls cd, sl⟩ => (match cd.mro, sl.toList with
    | .ref C' :: bm, [_, _, _, _, some (.builtin n), _] => C' == C && n == "ValueError.__new__" && !cd.hasDel && cd.hasDict && PySem.HandSPX.refsVE bm
    | _, _ => false)
  | _ => false) && (decide (PySem.W.findIn K (.ref C) "__setattr__" = some (some (.builtin "object.__setattr__"))) && (decide (PySem.W.subIn K (.ref C) (.type "BaseException") = some true) &&
    (decide (PySem.W.typeIn K (.ref C) = some (.type "type")) && PySem.W.keepIn K (.ref C))))
theorem oexB_ok {K : PySem.W.Frag} {C : Addr} (h : oexB K C = true) : OexC K C := by
  unfold oexB at h
  simp only [Bool.and_eq_true, decide_eq_true_eq] at h
  obtain ⟨h1, h2, h3, h4, h5⟩ := h
  refine ⟨?_, h2, h3, h4, h5⟩
  split at h1
  · rename_i dd cd sl q
    split at h1
    · rename_i C' bm k0 k1 k2 k3 n k5 hm hs
      simp only [Bool.and_eq_true, beq_iff_eq, Bool.not_eq_true'] at h1
      obtain ⟨⟨⟨⟨rfl, rfl⟩, hdel⟩, hdct⟩, hbm⟩ := h1
      obtain ⟨nm, bs, mro, ns, qn, hd, sn, sub, ab, col, del⟩ := cd
      dsimp only at hm hdel hdct
      subst hm hdel hdct
      obtain ⟨l⟩ := sl
      dsimp only at hs
      subst hs
      exact ⟨nm, qn, ns, bs, bm, sn, sub, ab, col, dd, k0, k1, k2, k3, k5, q, hbm⟩
    · cases h1
  · cases h1
def supB (prog : Program) (K : PySem.W.Frag) (x fld : Str) : Bool :=
  oexB K (ga K x) && (decide (PySem.W.findIn K (.ref (ga K x)) "__init__" = some (some (.ref (ma K (ga K x) "__init__")))) && (decide (PySem.W.typeIn K (.ref (ma K (ga K x) "__init__")) = some (.type "function")) && ((match K.lookup (ma K (ga K x) "__init__") with
    | some ⟨_, _, .func fd, _⟩ => PySem.W.codeIn K fd.code fd.qualname && ((match fd.code with
        | .ref cda => (match K.lookup cda with
          | some ⟨_, _, .fields vs, _⟩ => (match (vs[2]? : Option Value) with
            | some (Value.str file _) => (prog.main.file : Str) == file
            | _ => false)
          | _ => false)
        | _ => false) && (match fd.closure with
        | [(_, cc)] => (match K.lookup cc with
          | some ⟨_, _, .cell (some (.ref D)), _⟩ => decide (D = ga K x)
          | _ => false)
        | _ => false))
    | _ => false) && (decide (PySem.W.mroIn K (ga K x) (.ref (ga K x)) = some true) && (decide (PySem.W.ks_superIn K (ga K x) (ga K x) "__init__" = some (some (.builtin "ValueError.__init__"))) && (decide (PySem.W.mroIn K (ga K x) (.type "ValueError") = some true) &&
    (decide (PySem.W.nsIn K cStatics "thirdparty.any" = some none) && (decide (PySem.W.findIn K (.ref (ga K x)) fld = some none) && ((Fa.free "super").ok K && (Fa.glo x).ok K)))))))))
/-- a look at the scope -/
def supSc (sc : Scope) (pn : Str) : Bool := decide (sc.kind = .function) && !sc.isCoroutine && !sc.isGenerator && sc.names.all (fun y => !decide (y.2 = .cell)) && decide (sc.names.lookup ("self" : Str) = some .local) && decide (sc.names.lookup pn = some .local) &&
  decide (sc.names.lookup ("super" : Str) = some .globalImplicit) && decide (sc.names.lookup ("__class__" : Str) = some .free) && !(pn == ("__debug__" : Str)) && decide (pn ≠ ("self" : Str))
theorem supT_of {prog : Program} {K : PySem.W.Frag} {d : SupD} {fld pn : Str} {arg : Expr} {p0 p1 p2 p3 p4 p5 p6 p7 p8 : Pos} {ar : Arg} (hb : supB prog K d.x fld = true) (hv : supV K d.x = d.val) (hbody : d.body = VE.supBody fld pn arg p0 p1 p2 p3 p4 p5 p6 p7 p8) (hsc : supSc d.scope pn = true)
    (hhead : (d.params.posonlyargs ++ d.params.args).head? = some ar) (har : ar.arg = "self") (hbind : ∀ fd : FuncData, fd.params = d.params → fd.defaults = .none → ∀ x v : Value, bindArgs fd ⟨[x, v], []⟩ = pure [(("self" : Str), x), (pn, v)]) (hstar : ∀ env, starEach [arg] env = [(false, eval arg env)]) (hline : (p2.endLine == p3.line) = true)
    (htop : (prog.main.scope.names.lookup ("super" : Str)).isSome = false) : ∃ cda cc, VE.SupT prog K (ga K d.x) (ma K (ga K d.x) "__init__") cda cc fld pn arg d.scope := by
  unfold supB at hb
  simp only [Bool.and_eq_true, decide_eq_true_eq] at hb
  obtain ⟨b1, b2, b3, b4, b5, b6, b7, b8, b9, b10⟩ := hb
  unfold supSc at hsc
  simp only [Bool.and_eq_true, decide_eq_true_eq, Bool.not_eq_true', List.all_eq_true, decide_eq_false_iff_not] at hsc
  obtain ⟨⟨⟨⟨⟨⟨⟨⟨⟨s1, s2⟩, s3⟩, s4⟩, s5⟩, s6⟩, s7⟩, s8⟩, s9⟩, s10⟩ := hsc
  unfold supV at hv
  split at b4
  · rename_i oc od fd sl q
    rw [q] at hv
    simp only [SupD.val, Option.some.injEq, Prod.mk.injEq] at hv
    obtain ⟨v1, v2, v3, v4, v5, v6, v7, v8, v9⟩ := hv
    simp only [Bool.and_eq_true] at b4
    obtain ⟨c1, c2, c3⟩ := b4
    split at c2
    · rename_i cda hcd
      split at c2
      · rename_i ccl cdd vs ccs hq
        split at c2
        · rename_i file tf hvs
          split at c3
          · rename_i nm cc hclo
            split at c3
            · rename_i cl cld D csl hcc
              have c3 := of_decide_eq_true c3
              subst c3
              have hn : nm = "__class__" := by
                rw [hclo] at v7
                simpa using v7
              subst hn
              refine ⟨cda, cc, ⟨oexB_ok b1, b2, b3, ?_, ⟨ccl, cdd, vs, ccs, file, tf, hq, hvs, c2⟩, ⟨cl, cld, csl, hcc⟩, b5, b6, b7, b8, b9, ⟨s10, s9⟩, htop⟩⟩
              exact ⟨oc, od, sl, fd, p0, p1, p2, p3, p4, p5, p6, p7, p8, ar, q, by rw [v4, hbody], hcd, by rw [← hcd] at *; exact c1, hclo, v6, v8, v5, s1, s2, s3, s4, s5, s6, s7, s8, by rw [v3]; exact hhead, har, hbind fd v3 v9, hstar, hline⟩
            · cases c3
          · cases c3
        · cases c2
      · cases c2
    · cases c2
  · cases b4
/-- such a class, raised in a def -/
theorem inX_of {K : PySem.W.Frag} {base : Heap} {prg : Program} {w : World} {mg : Str → Option Value} {d : SupD} {fld pn : Str} {arg : Expr} {cda cc : Addr} {fn : List DefD} {cls : List Str} {cs : Clss} {ci : Nat} {kk : Cls} {ok : V → Prop} (X : K.In base) (Gn : base.Ns mainGlobals mg) (hb : supB prg K d.x fld = true)
    (T : VE.SupT prg K (ga K d.x) (ma K (ga K d.x) "__init__") cda cc fld pn arg d.scope) (hci : cls[ci]? = some d.x) (hk : cs[ci]? = some kk) (hf : kk.flds = [fld]) (hx : okN d.x = true)
    (hok : ∀ v u, ok v → RelV v u → VE.ArgOk prg w mg arg pn d.scope u) (hv : ∀ (R : RC) m st H y v, Rep R m st H y v → numOk kk [y] = true → ok v) (Z : Cx) (z1 : Z.prog = prg) (z2 : Z.w = w) (z3 : Z.K = K) (z4 : Z.mg = mg) (z5 : Z.base = base) (hr : Room 2 Z.A) : InX Z (rcOf K fn cls) cs ci d.x := by
  intro Y al hc hg W g a p pos tk ha hs
  subst z1 z2 z3 z4 z5
  have gx : Z.mg d.x = some (.ref (ga Z.K d.x)) ∧ Z.mg "super" = none := by
    unfold supB at hb
    simp only [Bool.and_eq_true, decide_eq_true_eq] at hb
    obtain ⟨b1, b2, b3, b4, b5, b6, b7, b8, b9, b10, b11⟩ := hb
    exact ⟨glo_ok X Gn b11, free_ok X Gn b10⟩
  refine ⟨_, pmk_sup (X := Y) (k := 2) (C := ga Z.K d.x) (fI := ma Z.K (ga Z.K d.x) "__init__") (cda := cda) (cc := cc) (fld := fld) (pn := pn) (arg := arg) (sc := d.scope) (ok := ok) ?_ ?_ ?_ ?_ ?_ ha hg (okN_d hx) (star1 hs), fun σ H Q h => tM_sup hk hf ?_ hv h⟩
  · rw [al.prog, al.K]
    exact T
  · rw [al.A]
    exact hr
  · rw [al.mg]
    exact gx.1
  · rw [al.mg]
    exact gx.2
  · intro v u h1 h2
    rw [al.prog, al.w, al.mg]
    exact hok v u h1 h2
  · show (cls[ci]?).map (ga Z.K) = _
    rw [hci]
    rfl
def atsB (G : GI) (fn : List DefD) : Bool := G.fns.all fun p => match fn[p.2]? with
  | some d => decide (d.at_ = (p.1, none))
  | none => false
theorem ats_ok {G : GI} {fn : List DefD} (h : atsB G fn = true) : ∀ x i, G.fns.lookup x = some i → ∃ d, fn[i]? = some d ∧ d.at_ = (x, none) := by
  intro x i e
  unfold atsB at h
  rw [List.all_eq_true] at h
  have z := h _ (lookup_mem e)
  dsimp only at z
  split at z
  · rename_i d ed
    exact ⟨d, ed, of_decide_eq_true z⟩
  · cases z
/-- an int argument whose text is told -/
def okNum (v : V) : Prop := ∃ i : Int, v = .int i ∧ i.natAbs.log2 < 1920 ∧ (toString i : Str).length ≤ 1000
end Mini
end
section
set_option linter.all false
set_option autoImplicit false
set_option maxRecDepth 100000
set_option maxHeartbeats 1000000
/-! Lemmas to run the small language by simp. -/
namespace Mini
open PySem
theorem canCut_refl (st : Sto) : canCut st st := ⟨Nat.le_refl _, fun _ _ => .inl rfl⟩
@[simp] theorem finish_ret (st : Sto) (d : D) : finish st (.ret d st) = .ok d st := by
  simp only [finish]
  split
  · rw [List.take_length]
  · rfl
@[simp] theorem finish_nx (st : Sto) (env : Env) : finish st (.nx env st) = .ok .non st := by
  simp only [finish]
  split
  · rw [List.take_length]
  · rfl
@[simp] theorem finish_exc (st : Sto) (x : Exc) (env : Env) : finish st (.exc x env st) = .exc x st := by
  simp only [finish]
  split
  · rw [List.take_length]
  · rfl
theorem callF_at {P : Prog} {k f : Nat} {fn : Fn} {ds : List D} {st : Sto} (h : P.fns[f]? = some fn) (hl : ds.length = fn.np) : callF P (k + 1) f ds st = finish st (exSs P.cs (callF P k) fn.body (startE fn.nn ds) st) := by
  simp only [callF, h, hl, if_true]
/-! values -/
@[simp] theorem truR_bl' (b : Bool) (st : Sto) : truR (.bl b) st = .ok b st := rfl
@[simp] theorem truR_int (i : Int) (st : Sto) : truR (.int i) st = .ok (i != 0) st := rfl
@[simp] theorem tr_ret (d : D) (st : Sto) (h : Exc → Env → Sto → Out) : (Out.ret d st).tr h = .ret d st := rfl
@[simp] theorem tr_exc (x : Exc) (env : Env) (st : Sto) (h : Exc → Env → Sto → Out) : (Out.exc x env st).tr h = h x env st := rfl
@[simp] theorem noExc_ok' {α : Type} (a : α) (st : Sto) : noExc (.ok a st) = .ok a st := rfl
/-! while -/
theorem loopN_up {c : Env → Sto → Res Bool} {b : Env → Sto → Out} : ∀ {n : Nat} {env : Env} {st : Sto}, loopN c b n env st ≠ .bad → loopN c b (n + 1) env st = loopN c b n env st
  | 0, env, st, h => absurd rfl h
  | n + 1, env, st, h => by
    unfold loopN at h
    rw [loopN]
    conv => rhs; rw [loopN]
    cases e : c env st with
    | bad => rfl
    | exc x s => rfl
    | ok x s =>
      rw [e] at h
      cases x with
      | false => rfl
      | true =>
        dsimp only at h ⊢
        cases eb : b env s with
        | nx env' s' =>
          rw [eb] at h
          exact loopN_up h
        | cont env' s' =>
          rw [eb] at h
          exact loopN_up h
        | brk env' s' => rfl
        | ret d s' => rfl
        | exc x env' s' => rfl
        | bad => rfl
theorem loopN_add {c : Env → Sto → Res Bool} {b : Env → Sto → Out} {n : Nat} {env : Env} {st : Sto} (h : loopN c b n env st ≠ .bad) (k : Nat) : loopN c b (n + k) env st = loopN c b n env st := by
  induction k with
  | zero => rfl
  | succ k ih => rw [Nat.add_succ, loopN_up (by rw [ih]; exact h), ih]
theorem loopN_one {c : Env → Sto → Res Bool} {b : Env → Sto → Out} {n m : Nat} {env : Env} {st : Sto} (h1 : loopN c b n env st ≠ .bad) (h2 : loopN c b m env st ≠ .bad) : loopN c b n env st = loopN c b m env st := by
  rcases Nat.le_total n m with h | h
  · obtain ⟨k, rfl⟩ := Nat.exists_eq_add_of_le h
    rw [loopN_add h1]
  · obtain ⟨k, rfl⟩ := Nat.exists_eq_add_of_le h
    rw [loopN_add h2]
/-- a loop by its steps -/
theorem loopW_of {c : Env → Sto → Res Bool} {b : Env → Sto → Out} {env : Env} {st : Sto} {o : Out} (n : Nat) (h : loopN c b n env st = o) (ho : o ≠ .bad) : loopW c b env st = o := by
  have ex : ∃ n, loopN c b n env st ≠ .bad := ⟨n, by rw [h]; exact ho⟩
  unfold loopW
  rw [dif_pos ex, loopN_one ex.choose_spec (show loopN c b n env st ≠ .bad by rw [h]; exact ho), h]
theorem loopW_done {c : Env → Sto → Res Bool} {b : Env → Sto → Out} {env : Env} {st st' : Sto} (h : c env st = .ok false st') : loopW c b env st = .nx env st' := loopW_of 1 (by rw [loopN, h]) (by simp)
theorem loopW_step {c : Env → Sto → Res Bool} {b : Env → Sto → Out} {env env' : Env} {st st1 st' : Sto} {o : Out} (h : c env st = .ok true st1) (hb : b env st1 = .nx env' st') (k : loopW c b env' st' = o) (ho : o ≠ .bad) : loopW c b env st = o := by
  unfold loopW at k
  split at k
  · rename_i ex
    refine loopW_of (ex.choose + 1) ?_ ho
    rw [loopN, h]
    dsimp only
    rw [hb]
    exact k
  · exact absurd k.symm ho
/-! for -/
theorem forL_cons {t : Tg} {b : Env → Sto → Out} {d : D} {ds : List D} {env : Env} {st : Sto} : forL [] t b (d :: ds) env st = match setT t d env with
      | some env => match b env st with
        | .nx env st => forL [] t b ds env st
        | .cont env st => forL [] t b ds env st
        | .brk env st => .nx env st
        | o => o
      | none => .bad := by
  rw [forL]
  exact if_pos (srcOK_nil _)
@[simp] theorem forL_nil {t : Tg} {b : Env → Sto → Out} {env : Env} {st : Sto} : forL [] t b [] env st = .nx env st := by
  rw [forL]
  exact if_pos (srcOK_nil _)
/-- a loop whose turns go on -/
theorem forL_go {t : Tg} {b : Env → Sto → Out} (I : Nat → Env → Sto → Prop) : ∀ (ds : List D) (i : Nat) (env : Env) (st : Sto), I i env st → (∀ j d env st, ds[j]? = some d → I (i + j) env st → ∃ env1, setT t d env = some env1 ∧ ∃ env2 st2, b env1 st = .nx env2 st2 ∧ I (i + j + 1) env2 st2) →
    ∃ env' st', forL [] t b ds env st = .nx env' st' ∧ I (i + ds.length) env' st'
  | [], i, env, st, h, _ => ⟨env, st, forL_nil, h⟩
  | d :: ds, i, env, st, h, s => by
    obtain ⟨env1, e1, env2, st2, e2, h2⟩ := s 0 d env st rfl h
    obtain ⟨env', st', e3, h3⟩ := forL_go I ds (i + 1) env2 st2 h2 fun j d env st hj hI => by
      have := s (j + 1) d env st (by simpa using hj) (by simpa [Nat.add_assoc, Nat.add_comm, Nat.add_left_comm] using hI)
      simpa [Nat.add_assoc, Nat.add_comm, Nat.add_left_comm] using this
    refine ⟨env', st', ?_, by simpa [Nat.add_assoc, Nat.add_comm, Nat.add_left_comm] using h3⟩
    rw [forL_cons, e1]
    dsimp only
    rw [e2]
    exact e3
end Mini
namespace Mini
open PySem
/-! == by data -/
theorem eqv_int (st : Sto) (a b : Int) : eqvD st (.int a) (.int b) = some (a == b) := by
  simp [eqvD, toPD, SeqAt.shaped, PyData.canLay0, PyData.depth, PyData.eqv]
theorem str_beq (a b : Chs) : ((⟨a.toArray⟩ : Str) == ⟨b.toArray⟩) = (a == b) := by
  by_cases h : a = b
  · subst h
    simp
  · have h1 : (a == b) = false := by simpa using h
    rw [h1]
    have h2 : (⟨a.toArray⟩ : Str) ≠ ⟨b.toArray⟩ := fun z => h (by
      have := congrArg (fun s : Str => s.cps.toList) z
      simpa using this)
    simpa using h2
abbrev sOk (a : Chs) : Prop := PyData.strOk ⟨a.toArray⟩ = true
theorem eqv_str (st : Sto) (a b : Chs) (ha : sOk a) (hb : sOk b) : eqvD st (.str a) (.str b) = some (a == b) := by
  simp only [eqvD, toPD, SeqAt.shaped, PyData.canLay0, PyData.depth, PyData.eqv]
  rw [str_beq]
  simp [ha, hb]
theorem eqv_bl (st : Sto) (a b : Bool) : eqvD st (.bl a) (.bl b) = some (a == b) := by
  simp [eqvD, toPD, SeqAt.shaped, PyData.canLay0, PyData.depth, PyData.eqv]
theorem eqv_pair (st : Sto) (a b c d : Int) : eqvD st (.tup [.int a, .int b]) (.tup [.int c, .int d]) = some (a == c && b == d) := by
  simp [eqvD, toPD, SeqAt.shaped, PyData.canLay0, PyData.canLayAll0, PyData.depth, PyData.depthAll, PyData.eqv, PyData.eqvAll]
theorem eqv_str_int (st : Sto) (a : Chs) (c : Int) (ha : sOk a) : eqvD st (.str a) (.int c) = some false := by
  simp [eqvD, toPD, SeqAt.shaped, PyData.canLay0, PyData.canLayAll0, PyData.depth, PyData.depthAll, PyData.eqv, PyData.eqvAll, ha]
theorem eqv_int_str (st : Sto) (a : Chs) (c : Int) (ha : sOk a) : eqvD st (.int c) (.str a) = some false := by
  simp [eqvD, toPD, SeqAt.shaped, PyData.canLay0, PyData.canLayAll0, PyData.depth, PyData.depthAll, PyData.eqv, PyData.eqvAll, ha]
theorem eqv_str_pair (st : Sto) (a : Chs) (c d : Int) (ha : sOk a) : eqvD st (.str a) (.tup [.int c, .int d]) = some false := by
  simp [eqvD, toPD, SeqAt.shaped, PyData.canLay0, PyData.canLayAll0, PyData.depth, PyData.depthAll, PyData.eqv, PyData.eqvAll, ha]
theorem eqv_pair_str (st : Sto) (a : Chs) (c d : Int) (ha : sOk a) : eqvD st (.tup [.int c, .int d]) (.str a) = some false := by
  simp [eqvD, toPD, SeqAt.shaped, PyData.canLay0, PyData.canLayAll0, PyData.depth, PyData.depthAll, PyData.eqv, PyData.eqvAll, ha]
end Mini
namespace Mini
open PySem
section
variable (st : Sto) (i j : Int) (a b : Chs) (x y : D) (xs ys : List D)
@[simp] theorem p_add_ii : prim .add [.int i, .int j] st = some (.int (i + j), st) := rfl
@[simp] theorem p_add_ss : prim .add [.str a, .str b] st = guardR (decide (a.length + b.length ≤ sizeLine)) (some (.str (a ++ b), st)) := rfl
@[simp] theorem p_add_ll : prim .add [.lst xs, .lst ys] st = guardR (decide (xs.length + ys.length ≤ sizeLine)) (some (.lst (xs ++ ys), st)) := rfl
@[simp] theorem p_sub : prim .sub [.int i, .int j] st = some (.int (i - j), st) := rfl
@[simp] theorem p_mul_ii : prim .mul [.int i, .int j] st = guardR (wide i j) (some (.int (i * j), st)) := rfl
@[simp] theorem p_mul_li : prim .mul [.lst xs, .int j] st = guardR (decide (-(2 ^ 63) ≤ j) && decide (j < 2 ^ 63) && decide (xs.length * j.toNat ≤ sizeLine)) (some (.lst (List.replicate j.toNat xs).flatten, st)) := rfl
@[simp] theorem p_fdiv : prim .fdiv [.int i, .int j] st = guardR (decide (j ≠ 0) && decide (j.natAbs.log2 < 9000)) (some (.int (i.fdiv j), st)) := rfl
@[simp] theorem p_mod : prim .mod [.int i, .int j] st = guardR (decide (j ≠ 0)) (some (.int (i.fmod j), st)) := rfl
@[simp] theorem p_pow : prim .pow [.int i, .int j] st = guardR (decide (0 ≤ j) && decide (j ≤ 1000000) && decide (i.natAbs < 2 ^ 64)) (some (.int (i ^ j.toNat), st)) := rfl
@[simp] theorem p_neg : prim .neg [.int i] st = some (.int (-i), st) := rfl
@[simp] theorem p_eq : prim .eq [x, y] st = boolR st (eqvD st x y) := rfl
@[simp] theorem p_ne : prim .ne [x, y] st = boolR st ((eqvD st x y).map not) := rfl
@[simp] theorem p_lt : prim .lt [.int i, .int j] st = some (.bl (decide (i < j)), st) := rfl
@[simp] theorem p_le : prim .le [.int i, .int j] st = some (.bl (decide (i ≤ j)), st) := rfl
@[simp] theorem p_gt : prim .gt [.int i, .int j] st = some (.bl (decide (j < i)), st) := rfl
@[simp] theorem p_ge : prim .ge [.int i, .int j] st = some (.bl (decide (j ≤ i)), st) := rfl
@[simp] theorem p_isin : prim .isin [x, y] st = boolR st (inD st x y) := rfl
@[simp] theorem p_notin : prim .notin [x, y] st = boolR st ((inD st x y).map not) := rfl
@[simp] theorem p_ix : prim .ix [x, .int i] st = oneR st (atD st x i) := rfl
@[simp] theorem p_sl00 : prim (.sl false false) [x] st = oneR st (slD st x none none) := rfl
@[simp] theorem p_sl10 : prim (.sl true false) [x, .int i] st = oneR st (slD st x (some i) none) := rfl
@[simp] theorem p_sl01 : prim (.sl false true) [x, .int i] st = oneR st (slD st x none (some i)) := rfl
@[simp] theorem p_sl11 : prim (.sl true true) [x, .int i, .int j] st = oneR st (slD st x (some i) (some j)) := rfl
@[simp] theorem p_len : prim .len [x] st = oneR st (lenD st x) := rfl
@[simp] theorem p_abs : prim .abs [.int i] st = some (.int (if i < 0 then -i else i), st) := rfl
@[simp] theorem p_int : prim .int [x] st = oneR st (intD x) := rfl
@[simp] theorem p_str : prim .str [x] st = oneR st (strD x) := rfl
@[simp] theorem p_tuple : prim .tuple [x] st = oneR st (tupD st x) := rfl
@[simp] theorem p_list : prim .list [x] st = oneR st (lisD st x) := rfl
@[simp] theorem p_all : prim .all [x] st = boolR st (((listOf st x).bind bools).map fun bs => bs.all id) := rfl
@[simp] theorem p_any : prim .any [x] st = boolR st (((listOf st x).bind bools).map fun bs => bs.any id) := rfl
@[simp] theorem p_isi (ts : List Ty) : prim (.isi ts) [x] st = boolR st (isiD st ts x) := rfl
@[simp] theorem p_repr : prim .repr [x] st = oneR st (reprD st x) := rfl
@[simp] theorem p_split : prim .split [.str a, .str b] st = guardR (!b.isEmpty && decide (a.length + 2 ≤ sizeLine)) (some (.lst ((splitC a b).map .str), st)) := rfl
@[simp] theorem p_partition : prim .partition [.str a, .str b] st = guardR (!b.isEmpty && decide (a.length ≤ sizeLine)) (some (.tup [.str (partC a b).1, .str (partC a b).2.1, .str (partC a b).2.2], st)) := rfl
@[simp] theorem boolR_some' (k : Bool) : boolR st (some k) = some (.bl k, st) := rfl
@[simp] theorem oneR_some' : oneR st (some x) = some (x, st) := rfl
@[simp] theorem guardR_true (r : Pm) : guardR true r = r := rfl
@[simp] theorem at_tup : atD st (.tup xs) i = L2.atI xs i := rfl
@[simp] theorem at_lst : atD st (.lst xs) i = L2.atI xs i := rfl
@[simp] theorem at_ref (n : Nat) : atD st (.ref n) i = (listOf st (.ref n)).bind fun xs => L2.atI xs i := rfl
@[simp] theorem len_tup : lenD st (.tup xs) = some (.int xs.length) := rfl
@[simp] theorem len_lst : lenD st (.lst xs) = some (.int xs.length) := rfl
@[simp] theorem listOf_lst : listOf st (.lst xs) = some xs := rfl
@[simp] theorem listOf_ro : listOf st (.ro xs) = some xs := rfl
@[simp] theorem getV_0 (o : Option D) (env : Env) : getV (o :: env) 0 = o := by simp [getV]
@[simp] theorem getV_s (o : Option D) (env : Env) (n : Nat) : getV (o :: env) (n + 1) = getV env n := by simp [getV]
@[simp] theorem nxO_some' (env : Env) : nxO (some env) st = .nx env st := rfl
@[simp] theorem setT_nm (n : Nat) (d : D) (env : Env) : setT (.nm n) d env = some (env.set n (some d)) := rfl
@[simp] theorem setT_tp (is : List Nat) (env : Env) : setT (.tp is) (.tup xs) env = setN is xs env := rfl
@[simp] theorem setN_nil (env : Env) : setN [] [] env = some env := rfl
@[simp] theorem setN_cons (n : Nat) (is : List Nat) (env : Env) : setN (n :: is) (x :: xs) env = setN is xs (env.set n (some x)) := rfl
@[simp] theorem frz_false (d : D) : frz false d st = .ret d st := rfl
end
theorem sl_str {st : Sto} {s : Chs} (lo hi : Option Int) (h : s.length ≤ sizeLine) : slD st (.str s) lo hi = some (.str (cutL s lo hi)) := by
  simp only [slD]
  rw [if_pos h]
theorem len_str' {st : Sto} {s : Chs} (h : s.length ≤ sizeLine) : lenD st (.str s) = some (.int s.length) := by
  simp only [lenD]
  rw [if_pos h]
theorem at_str {st : Sto} {s : Chs} (i : Int) (h : s.length ≤ sizeLine) : atD st (.str s) i = (L2.atI s i).map fun c => .str [c] := by
  simp only [atD]
  rw [if_pos h]
theorem compL_map {f : D → Sto → Res (Option D)} {g : D → D} {st : Sto} : ∀ (ds acc : List D), (∀ d ∈ ds, f d st = .ok (some (g d)) st) → acc.length + ds.length ≤ sizeLine → compL [] f ds acc st = .ok (acc ++ ds.map g) st
  | [], acc, _, _ => by
    rw [compL, if_pos (srcOK_nil _)]
    simp
  | d :: ds, acc, h, hl => by
    rw [compL, if_pos (srcOK_nil _), h d List.mem_cons_self]
    dsimp only
    rw [List.length_cons] at hl
    rw [if_pos (by omega), compL_map ds (acc ++ [g d]) (fun e he => h e (List.mem_cons_of_mem _ he)) (by simp only [List.length_append, List.length_singleton]; omega)]
    simp
theorem bools_map (l : List Bool) : bools (l.map .bl) = some l := by
  induction l with
  | nil => rfl
  | cons b l ih =>
    rw [List.map_cons]
    show (bools (l.map .bl)).map (b :: ·) = _
    rw [ih]
    rfl
/-- one turn of a comprehension -/
noncomputable def turnC (cl : Call) (wp : List Nat) (t : Tg) (cs : Exs) (y : Ex) (env : Env) (d : D) (st : Sto) : Res (Option D) := match setT t d (wipeE wp env) with
        | some env' => noExc ((evC cl cs env' st).bnd fun b st => if b = true then (evE cl y env' st).bnd fun z st => .ok (some z) st else .ok none st)
        | none => .bad
theorem comp_eq (cl : Call) (v : Bool) (wp : List Nat) (t : Tg) (it : It) (cs : Exs) (y : Ex) (env : Env) (st : Sto) : evE cl (.comp v wp t it cs y) env st = (evI cl it env st).bnd fun ig st =>
      (compL ig.2 (turnC cl wp t cs y env) ig.1 [] st).bnd fun ys st => if v then .ok (.lst ys) st else .ok (.ref st.length) (st ++ [.lst ys]) := by
  simp only [evE]
  rfl
theorem turnC_of {cl : Call} {wp : List Nat} {t : Tg} {cs : Exs} {y : Ex} {env env' : Env} {d : D} {st : Sto} (h : setT t d (wipeE wp env) = some env') : turnC cl wp t cs y env d st = noExc ((evC cl cs env' st).bnd fun b st => if b = true then (evE cl y env' st).bnd fun z st => .ok (some z) st else .ok none st) := by
  unfold turnC
  rw [h]
theorem while_eq (cs : Clss) (cl : Call) (c : Ex) (b : Sms) (env : Env) (st : Sto) : exS cs cl (.while_ c b) env st = loopW (evT cl c) (exSs cs cl b) env st := by simp only [exS]
end Mini
end
section
set_option linter.all false
set_option autoImplicit false
set_option maxRecDepth 100000
set_option maxHeartbeats 1000000
namespace K09
open PySem Mini

/-- is_whole: 0 value -/
def b_is_whole : Sms := (.cons 
  (.ret false (.andE (.pr (.isi [.int]) (.cons (.var 0) .nil)) (.notE (.pr (.isi [.bool]) (.cons (.var 0) .nil))))) .nil)
def f_is_whole : Fn := ⟨1, 1, b_is_whole⟩
/-- read_whole: 0 text 1 body 2 sign -/
def l_read_whole_0i : Ex := (.andE (.pr .eq (.cons (.pr .ix (.cons (.var 1) (.cons (.lit (.int 0)) .nil))) (.cons (.lit (.str [48])) .nil))) (.pr .ne (.cons (.var 0) (.cons (.lit (.str [48])) .nil))))
def l_read_whole_1e : Ex := (.pr .isin (.cons (.var 2) (.cons (.lit (.str [48, 49, 50, 51, 52, 53, 54, 55, 56, 57])) .nil)))
def l_read_whole_1q : Ex := .comp true [2] (.nm 2) (.seq (.var 1)) .nil l_read_whole_1e
def l_read_whole_2i : Ex := (.orE (.pr .lt (.cons (.pr .len (.cons (.var 1) .nil)) (.cons (.lit (.int 1)) .nil))) (.orE (.pr .gt (.cons (.pr .len (.cons (.var 1) .nil)) (.cons (.lit (.int 4000)) .nil))) (.notE (.pr .all (.cons l_read_whole_1q .nil)))))
def l_read_whole_3i : Ex := (.notE (.pr (.isi [.str]) (.cons (.var 0) .nil)))
def b_read_whole : Sms := (.cons 
  (.ife l_read_whole_3i (.cons 
   (.raise 2 (.cons (.lit (.int 0)) .nil)) .nil) .nil) (.cons 
  (.asg (.nm 1) (.ife (.pr .eq (.cons (.pr (.sl false true) (.cons (.var 0) (.cons (.lit (.int 1)) .nil))) (.cons (.lit (.str [45])) .nil))) (.pr (.sl true false) (.cons (.var 0) (.cons (.lit (.int 1)) .nil))) (.var 0))) (.cons 
  (.ife l_read_whole_2i (.cons 
   (.raise 2 (.cons (.lit (.int 0)) .nil)) .nil) .nil) (.cons 
  (.ife l_read_whole_0i (.cons 
   (.raise 2 (.cons (.lit (.int 0)) .nil)) .nil) .nil) (.cons 
  (.ret false (.pr .int (.cons (.var 0) .nil))) .nil)))))
def f_read_whole : Fn := ⟨1, 3, b_read_whole⟩
/-- common: 0 a 1 b -/
def l_common_0c : Ex := (.pr .ne (.cons (.var 1) (.cons (.lit (.int 0)) .nil)))
def l_common_0b : Sms := (.cons 
  (.par [0, 1] (.cons (.var 1) (.cons (.pr .mod (.cons (.var 0) (.cons (.var 1) .nil))) .nil))) .nil)
def b_common : Sms := (.cons 
  (.par [0, 1] (.cons (.pr .abs (.cons (.var 0) .nil)) (.cons (.pr .abs (.cons (.var 1) .nil)) .nil))) (.cons 
  (.while_ l_common_0c l_common_0b) (.cons 
  (.ret false (.var 0)) .nil)))
def f_common : Fn := ⟨2, 2, b_common⟩
/-- lowest: 0 n 1 d 2 g -/
def l_lowest_0i : Ex := (.pr .lt (.cons (.var 1) (.cons (.lit (.int 0)) .nil)))
def b_lowest : Sms := (.cons 
  (.asg (.nm 2) (.call 2 (.cons (.var 0) (.cons (.var 1) .nil)))) (.cons 
  (.ife l_lowest_0i (.cons 
   (.asg (.nm 2) (.pr .neg (.cons (.var 2) .nil))) .nil) .nil) (.cons 
  (.ret false (.tup (.cons (.pr .fdiv (.cons (.var 0) (.cons (.var 2) .nil))) (.cons (.pr .fdiv (.cons (.var 1) (.cons (.var 2) .nil))) .nil)))) .nil)))
def f_lowest : Fn := ⟨2, 3, b_lowest⟩
/-- ratio: 0 n 1 d -/
def l_ratio_0i : Ex := (.orE (.notE (.call 0 (.cons (.var 0) .nil))) (.orE (.notE (.call 0 (.cons (.var 1) .nil))) (.pr .eq (.cons (.var 1) (.cons (.lit (.int 0)) .nil)))))
def b_ratio : Sms := (.cons 
  (.ife l_ratio_0i (.cons 
   (.raise 1 .nil) .nil) .nil) (.cons 
  (.ret false (.call 3 (.cons (.var 0) (.cons (.var 1) .nil)))) .nil))
def f_ratio : Fn := ⟨2, 2, b_ratio⟩
/-- is_ratio: 0 value -/
def l_is_ratio_0i : Ex := (.orE (.notE (.pr (.isi [.tuple]) (.cons (.var 0) .nil))) (.orE (.pr .ne (.cons (.pr .len (.cons (.var 0) .nil)) (.cons (.lit (.int 2)) .nil))) (.orE (.notE (.call 0 (.cons (.pr .ix (.cons (.var 0) (.cons (.lit (.int 0)) .nil))) .nil))) (.notE (.call 0 (.cons (.pr .ix (.cons (.var 0) (.cons (.lit (.int 1)) .nil))) .nil))))))
def b_is_ratio : Sms := (.cons 
  (.ife l_is_ratio_0i (.cons 
   (.ret false (.lit (.bl false))) .nil) .nil) (.cons 
  (.ret false (.andE (.pr .gt (.cons (.pr .ix (.cons (.var 0) (.cons (.lit (.int 1)) .nil))) (.cons (.lit (.int 0)) .nil))) (.pr .eq (.cons (.call 2 (.cons (.pr .ix (.cons (.var 0) (.cons (.lit (.int 0)) .nil))) (.cons (.pr .ix (.cons (.var 0) (.cons (.lit (.int 1)) .nil))) .nil))) (.cons (.lit (.int 1)) .nil))))) .nil))
def f_is_ratio : Fn := ⟨1, 1, b_is_ratio⟩
/-- plus: 0 a 1 b -/
def b_plus : Sms := (.cons 
  (.ret false (.call 3 (.cons (.pr .add (.cons (.pr .mul (.cons (.pr .ix (.cons (.var 0) (.cons (.lit (.int 0)) .nil))) (.cons (.pr .ix (.cons (.var 1) (.cons (.lit (.int 1)) .nil))) .nil))) (.cons (.pr .mul (.cons (.pr .ix (.cons (.var 1) (.cons (.lit (.int 0)) .nil))) (.cons (.pr .ix (.cons (.var 0) (.cons (.lit (.int 1)) .nil))) .nil))) .nil))) (.cons (.pr .mul (.cons (.pr .ix (.cons (.var 0) (.cons (.lit (.int 1)) .nil))) (.cons (.pr .ix (.cons (.var 1) (.cons (.lit (.int 1)) .nil))) .nil))) .nil)))) .nil)
def f_plus : Fn := ⟨2, 2, b_plus⟩
/-- minus: 0 a 1 b -/
def b_minus : Sms := (.cons 
  (.ret false (.call 3 (.cons (.pr .sub (.cons (.pr .mul (.cons (.pr .ix (.cons (.var 0) (.cons (.lit (.int 0)) .nil))) (.cons (.pr .ix (.cons (.var 1) (.cons (.lit (.int 1)) .nil))) .nil))) (.cons (.pr .mul (.cons (.pr .ix (.cons (.var 1) (.cons (.lit (.int 0)) .nil))) (.cons (.pr .ix (.cons (.var 0) (.cons (.lit (.int 1)) .nil))) .nil))) .nil))) (.cons (.pr .mul (.cons (.pr .ix (.cons (.var 0) (.cons (.lit (.int 1)) .nil))) (.cons (.pr .ix (.cons (.var 1) (.cons (.lit (.int 1)) .nil))) .nil))) .nil)))) .nil)
def f_minus : Fn := ⟨2, 2, b_minus⟩
/-- times: 0 a 1 b -/
def b_times : Sms := (.cons 
  (.ret false (.call 3 (.cons (.pr .mul (.cons (.pr .ix (.cons (.var 0) (.cons (.lit (.int 0)) .nil))) (.cons (.pr .ix (.cons (.var 1) (.cons (.lit (.int 0)) .nil))) .nil))) (.cons (.pr .mul (.cons (.pr .ix (.cons (.var 0) (.cons (.lit (.int 1)) .nil))) (.cons (.pr .ix (.cons (.var 1) (.cons (.lit (.int 1)) .nil))) .nil))) .nil)))) .nil)
def f_times : Fn := ⟨2, 2, b_times⟩
/-- over: 0 a 1 b -/
def l_over_0i : Ex := (.pr .eq (.cons (.pr .ix (.cons (.var 1) (.cons (.lit (.int 0)) .nil))) (.cons (.lit (.int 0)) .nil)))
def b_over : Sms := (.cons 
  (.ife l_over_0i (.cons 
   (.raise 1 .nil) .nil) .nil) (.cons 
  (.ret false (.call 3 (.cons (.pr .mul (.cons (.pr .ix (.cons (.var 0) (.cons (.lit (.int 0)) .nil))) (.cons (.pr .ix (.cons (.var 1) (.cons (.lit (.int 1)) .nil))) .nil))) (.cons (.pr .mul (.cons (.pr .ix (.cons (.var 0) (.cons (.lit (.int 1)) .nil))) (.cons (.pr .ix (.cons (.var 1) (.cons (.lit (.int 0)) .nil))) .nil))) .nil)))) .nil))
def f_over : Fn := ⟨2, 2, b_over⟩
/-- below: 0 a 1 b -/
def b_below : Sms := (.cons 
  (.ret false (.pr .lt (.cons (.pr .mul (.cons (.pr .ix (.cons (.var 0) (.cons (.lit (.int 0)) .nil))) (.cons (.pr .ix (.cons (.var 1) (.cons (.lit (.int 1)) .nil))) .nil))) (.cons (.pr .mul (.cons (.pr .ix (.cons (.var 1) (.cons (.lit (.int 0)) .nil))) (.cons (.pr .ix (.cons (.var 0) (.cons (.lit (.int 1)) .nil))) .nil))) .nil)))) .nil)
def f_below : Fn := ⟨2, 2, b_below⟩
/-- total: 0 items 1 found 2 item -/
def l_total_0i : Ex := (.pr .ne (.cons (.pr .ix (.cons (.var 2) (.cons (.lit (.int 0)) .nil))) (.cons (.lit (.int 0)) .nil)))
def l_total_1b : Sms := (.cons 
  (.ife l_total_0i (.cons 
   (.asg (.nm 1) (.call 6 (.cons (.var 1) (.cons (.var 2) .nil)))) .nil) .nil) .nil)
def b_total : Sms := (.cons 
  (.asg (.nm 1) (.lit (.tup [.int 0, .int 1]))) (.cons 
  (.for_ (.nm 2) (.seq (.var 0)) l_total_1b) (.cons 
  (.ret false (.var 1)) .nil)))
def f_total : Fn := ⟨1, 3, b_total⟩
/-- lesser: 0 a 1 b -/
def b_lesser : Sms := (.cons 
  (.ret false (.ife (.call 10 (.cons (.var 1) (.cons (.var 0) .nil))) (.var 1) (.var 0))) .nil)
def f_lesser : Fn := ⟨2, 2, b_lesser⟩
/-- greater: 0 a 1 b -/
def b_greater : Sms := (.cons 
  (.ret false (.ife (.call 10 (.cons (.var 0) (.cons (.var 1) .nil))) (.var 1) (.var 0))) .nil)
def f_greater : Fn := ⟨2, 2, b_greater⟩
/-- ratio_text: 0 a -/
def b_ratio_text : Sms := (.cons 
  (.ret false (.ife (.pr .eq (.cons (.pr .ix (.cons (.var 0) (.cons (.lit (.int 1)) .nil))) (.cons (.lit (.int 1)) .nil))) (.pr .str (.cons (.pr .ix (.cons (.var 0) (.cons (.lit (.int 0)) .nil))) .nil)) (.pr .add (.cons (.pr .add (.cons (.pr .str (.cons (.pr .ix (.cons (.var 0) (.cons (.lit (.int 0)) .nil))) .nil)) (.cons (.lit (.str [47])) .nil))) (.cons (.pr .str (.cons (.pr .ix (.cons (.var 0) (.cons (.lit (.int 1)) .nil))) .nil)) .nil))))) .nil)
def f_ratio_text : Fn := ⟨1, 1, b_ratio_text⟩
/-- read_ratio: 0 text 1 top 2 line 3 bottom 4 found -/
def l_read_ratio_0i : Ex := (.orE (.notE (.call 5 (.cons (.var 4) .nil))) (.andE (.pr .ne (.cons (.var 2) (.cons (.lit (.str [])) .nil))) (.pr .eq (.cons (.pr .ix (.cons (.var 4) (.cons (.lit (.int 1)) .nil))) (.cons (.lit (.int 1)) .nil)))))
def l_read_ratio_1i : Ex := (.notE (.pr (.isi [.str]) (.cons (.var 0) .nil)))
def b_read_ratio : Sms := (.cons 
  (.ife l_read_ratio_1i (.cons 
   (.raise 2 (.cons (.lit (.int 0)) .nil)) .nil) .nil) (.cons 
  (.asg (.tp [1, 2, 3]) (.mth .partition (.var 0) (.cons (.lit (.str [47])) .nil))) (.cons 
  (.asg (.nm 4) (.tup (.cons (.call 1 (.cons (.var 1) .nil)) (.cons (.ife (.pr .ne (.cons (.var 2) (.cons (.lit (.str [])) .nil))) (.call 1 (.cons (.var 3) .nil)) (.lit (.int 1))) .nil)))) (.cons 
  (.ife l_read_ratio_0i (.cons 
   (.raise 2 (.cons (.lit (.int 0)) .nil)) .nil) .nil) (.cons 
  (.ret false (.var 4)) .nil)))))
def f_read_ratio : Fn := ⟨1, 5, b_read_ratio⟩
/-- _law_draw: 0 script 1 seed 2 cell -/
def l__law_draw_0e : Ex := (.pr .abs (.cons (.pr .int (.cons (.var 2) .nil)) .nil))
def l__law_draw_0q : Ex := .comp true [2] (.nm 2) (.seq (.var 0)) .nil l__law_draw_0e
def l__law_draw_1b : Sms := (.cons 
  (.asg (.nm 1) (.pr .mod (.cons (.pr .int (.cons (.pr .add (.cons (.pr .add (.cons (.pr .mul (.cons (.var 1) (.cons (.lit (.int 48271)) .nil))) (.cons (.pr .mod (.cons (.pr .abs (.cons (.pr .int (.cons (.var 2) .nil)) .nil)) (.cons (.lit (.int 65521)) .nil))) .nil))) (.cons (.lit (.int 1)) .nil))) .nil)) (.cons (.lit (.int 2147483647)) .nil)))) .nil)
def b__law_draw : Sms := (.cons 
  (.asg (.nm 1) (.lit (.int 7))) (.cons 
  (.for_ (.nm 2) (.seq (.var 0)) l__law_draw_1b) (.cons 
  (.ret false (.lst (.cons l__law_draw_0q (.cons (.pr .neg (.cons (.lit (.int 1)) .nil)) (.cons (.lit (.int 0)) (.cons (.var 1) .nil)))))) .nil)))
def f__law_draw : Fn := ⟨1, 3, b__law_draw⟩
/-- _law_take: 0 draw 1 many 2 found -/
def l__law_take_0i : Ex := (.pr .eq (.cons (.pr .ix (.cons (.var 0) (.cons (.lit (.int 2)) .nil))) (.cons (.lit (.int 0)) .nil)))
def l__law_take_1i : Ex := (.pr .eq (.cons (.pr .ix (.cons (.var 0) (.cons (.lit (.int 2)) .nil))) (.cons (.lit (.int 0)) .nil)))
def l__law_take_2i : Ex := (.pr .lt (.cons (.pr .ix (.cons (.var 0) (.cons (.lit (.int 1)) .nil))) (.cons (.pr .len (.cons (.pr .ix (.cons (.var 0) (.cons (.lit (.int 0)) .nil))) .nil)) .nil)))
def b__law_take : Sms := (.cons 
  (.ife l__law_take_0i (.cons 
   (.asgIx (.var 0) (.lit (.int 1)) (.pr .add (.cons (.pr .ix (.cons (.var 0) (.cons (.lit (.int 1)) .nil))) (.cons (.lit (.int 1)) .nil)))) (.cons 
   (.ife l__law_take_2i (.cons 
    (.asgIx (.var 0) (.lit (.int 2)) (.pr .ix (.cons (.pr .ix (.cons (.var 0) (.cons (.lit (.int 0)) .nil))) (.cons (.pr .ix (.cons (.var 0) (.cons (.lit (.int 1)) .nil))) .nil)))) .nil) .nil) (.cons 
   (.ife l__law_take_1i (.cons 
    (.asgIx (.var 0) (.lit (.int 3)) (.pr .mod (.cons (.pr .int (.cons (.pr .add (.cons (.pr .mul (.cons (.pr .ix (.cons (.var 0) (.cons (.lit (.int 3)) .nil))) (.cons (.lit (.int 48271)) .nil))) (.cons (.lit (.int 11)) .nil))) .nil)) (.cons (.lit (.int 2147483647)) .nil)))) (.cons 
    (.asgIx (.var 0) (.lit (.int 2)) (.pr .ix (.cons (.var 0) (.cons (.lit (.int 3)) .nil)))) .nil)) .nil) .nil))) .nil) (.cons 
  (.asg (.nm 2) (.pr .mod (.cons (.pr .int (.cons (.pr .ix (.cons (.var 0) (.cons (.lit (.int 2)) .nil))) .nil)) (.cons (.var 1) .nil)))) (.cons 
  (.asgIx (.var 0) (.lit (.int 2)) (.pr .fdiv (.cons (.pr .ix (.cons (.var 0) (.cons (.lit (.int 2)) .nil))) (.cons (.var 1) .nil)))) (.cons 
  (.ret false (.var 2)) .nil))))
def f__law_take : Fn := ⟨2, 3, b__law_take⟩
/-- _law_low: 0 n 1 d 2 a 3 b -/
def l__law_low_0c : Ex := (.pr .ne (.cons (.var 3) (.cons (.lit (.int 0)) .nil)))
def l__law_low_0b : Sms := (.cons 
  (.par [2, 3] (.cons (.var 3) (.cons (.pr .mod (.cons (.var 2) (.cons (.var 3) .nil))) .nil))) .nil)
def b__law_low : Sms := (.cons 
  (.par [2, 3] (.cons (.pr .abs (.cons (.var 0) .nil)) (.cons (.pr .abs (.cons (.var 1) .nil)) .nil))) (.cons 
  (.while_ l__law_low_0c l__law_low_0b) (.cons 
  (.ret false (.ife (.pr .gt (.cons (.var 1) (.cons (.lit (.int 0)) .nil))) (.tup (.cons (.pr .fdiv (.cons (.var 0) (.cons (.var 2) .nil))) (.cons (.pr .fdiv (.cons (.var 1) (.cons (.var 2) .nil))) .nil))) (.tup (.cons (.pr .fdiv (.cons (.pr .sub (.cons (.lit (.int 0)) (.cons (.var 0) .nil))) (.cons (.var 2) .nil))) (.cons (.pr .fdiv (.cons (.pr .sub (.cons (.lit (.int 0)) (.cons (.var 1) .nil))) (.cons (.var 2) .nil))) .nil))))) .nil)))
def f__law_low : Fn := ⟨2, 4, b__law_low⟩
/-- _law_number: 0 draw 1 size -/
def b__law_number : Sms := (.cons 
  (.asg (.nm 1) (.pr .ix (.cons (.vlst (.cons (.lit (.int 3)) (.cons (.lit (.int 20)) (.cons (.lit (.int 1000)) (.cons (.pr .pow (.cons (.lit (.int 10)) (.cons (.lit (.int 18)) .nil))) (.cons (.pr .pow (.cons (.lit (.int 10)) (.cons (.lit (.int 40)) .nil))) .nil)))))) (.cons (.call 17 (.cons (.var 0) (.cons (.lit (.int 5)) .nil))) .nil)))) (.cons 
  (.ret false (.ife (.pr .gt (.cons (.call 17 (.cons (.var 0) (.cons (.lit (.int 6)) .nil))) (.cons (.lit (.int 0)) .nil))) (.pr .mul (.cons (.pr .add (.cons (.call 17 (.cons (.var 0) (.cons (.var 1) .nil))) (.cons (.lit (.int 1)) .nil))) (.cons (.ife (.pr .eq (.cons (.call 17 (.cons (.var 0) (.cons (.lit (.int 2)) .nil))) (.cons (.lit (.int 0)) .nil))) (.lit (.int 1)) (.pr .neg (.cons (.lit (.int 1)) .nil))) .nil))) (.lit (.int 0)))) .nil))
def f__law_number : Fn := ⟨1, 2, b__law_number⟩
/-- _law_text: 0 value -/
def b__law_text : Sms := (.cons 
  (.ret false (.ife (.pr .eq (.cons (.pr .ix (.cons (.var 0) (.cons (.lit (.int 1)) .nil))) (.cons (.lit (.int 1)) .nil))) (.pr .str (.cons (.pr .ix (.cons (.var 0) (.cons (.lit (.int 0)) .nil))) .nil)) (.pr .add (.cons (.pr .add (.cons (.pr .str (.cons (.pr .ix (.cons (.var 0) (.cons (.lit (.int 0)) .nil))) .nil)) (.cons (.lit (.str [47])) .nil))) (.cons (.pr .str (.cons (.pr .ix (.cons (.var 0) (.cons (.lit (.int 1)) .nil))) .nil)) .nil))))) .nil)
def f__law_text : Fn := ⟨1, 1, b__law_text⟩
/-- _law_read: 0 which 1 text 2 fault -/
def b__law_read : Sms := (.cons 
  (.try_ (.cons 
   (.ret false (.callv (.pr .ix (.cons (.vlst (.cons (.lit (.fn 1)) (.cons (.lit (.fn 15)) .nil))) (.cons (.var 0) .nil))) (.cons (.var 1) .nil))) .nil) [.on 2 (some 2) (.fld 2 "at" true [60] [62])]) .nil)
def f__law_read : Fn := ⟨2, 3, b__law_read⟩
/-- _law_ask: 0 which 1 one 2 two -/
def b__law_ask : Sms := (.cons 
  (.try_ (.cons 
   (.ret false (.callv (.pr .ix (.cons (.vlst (.cons (.lit (.fn 4)) (.cons (.lit (.fn 9)) .nil))) (.cons (.var 0) .nil))) (.cons (.var 1) (.cons (.var 2) .nil)))) .nil) [.on 1 none (.lit (.str [60, 109, 97, 108, 102, 111, 114, 109, 101, 100, 62]))]) .nil)
def f__law_ask : Fn := ⟨3, 3, b__law_ask⟩
/-- _law_digits: 0 text 1 sign -/
def l__law_digits_0e : Ex := (.pr .isin (.cons (.var 1) (.cons (.lit (.str [48, 49, 50, 51, 52, 53, 54, 55, 56, 57])) .nil)))
def l__law_digits_0q : Ex := .comp true [1] (.nm 1) (.seq (.var 0)) .nil l__law_digits_0e
def b__law_digits : Sms := (.cons 
  (.ret false (.andE (.pr .ne (.cons (.var 0) (.cons (.lit (.str [])) .nil))) (.andE (.pr .all (.cons l__law_digits_0q .nil)) (.orE (.pr .eq (.cons (.var 0) (.cons (.lit (.str [48])) .nil))) (.pr .ne (.cons (.pr .ix (.cons (.var 0) (.cons (.lit (.int 0)) .nil))) (.cons (.lit (.str [48])) .nil))))))) .nil)
def f__law_digits : Fn := ⟨1, 2, b__law_digits⟩
/-- _law_good_whole: 0 text -/
def b__law_good_whole : Sms := (.cons 
  (.ret false (.andE (.pr (.isi [.str]) (.cons (.var 0) .nil)) (.andE (.pr .ne (.cons (.var 0) (.cons (.lit (.str [45, 48])) .nil))) (.call 23 (.cons (.ife (.pr .eq (.cons (.pr (.sl false true) (.cons (.var 0) (.cons (.lit (.int 1)) .nil))) (.cons (.lit (.str [45])) .nil))) (.pr (.sl true false) (.cons (.var 0) (.cons (.lit (.int 1)) .nil))) (.var 0)) .nil))))) .nil)
def f__law_good_whole : Fn := ⟨1, 1, b__law_good_whole⟩
/-- _law_good_ratio: 0 text 1 parts -/
def l__law_good_ratio_0i : Ex := (.orE (.pr .ne (.cons (.pr .len (.cons (.var 1) .nil)) (.cons (.lit (.int 2)) .nil))) (.orE (.notE (.call 24 (.cons (.pr .ix (.cons (.var 1) (.cons (.lit (.int 0)) .nil))) .nil))) (.orE (.notE (.call 23 (.cons (.pr .ix (.cons (.var 1) (.cons (.lit (.int 1)) .nil))) .nil))) (.pr .isin (.cons (.pr .ix (.cons (.var 1) (.cons (.lit (.int 1)) .nil))) (.cons (.vlst (.cons (.lit (.str [48])) (.cons (.lit (.str [49])) .nil))) .nil))))))
def l__law_good_ratio_1i : Ex := (.pr .eq (.cons (.pr .len (.cons (.var 1) .nil)) (.cons (.lit (.int 1)) .nil)))
def l__law_good_ratio_2i : Ex := (.notE (.pr (.isi [.str]) (.cons (.var 0) .nil)))
def b__law_good_ratio : Sms := (.cons 
  (.ife l__law_good_ratio_2i (.cons 
   (.ret false (.lit (.bl false))) .nil) .nil) (.cons 
  (.asg (.nm 1) (.mth .split (.var 0) (.cons (.lit (.str [47])) .nil))) (.cons 
  (.ife l__law_good_ratio_1i (.cons 
   (.ret false (.call 24 (.cons (.var 0) .nil))) .nil) .nil) (.cons 
  (.ife l__law_good_ratio_0i (.cons 
   (.ret false (.lit (.bl false))) .nil) .nil) (.cons 
  (.ret false (.pr .eq (.cons (.call 18 (.cons (.pr .int (.cons (.pr .ix (.cons (.var 1) (.cons (.lit (.int 0)) .nil))) .nil)) (.cons (.pr .int (.cons (.pr .ix (.cons (.var 1) (.cons (.lit (.int 1)) .nil))) .nil)) .nil))) (.cons (.tup (.cons (.pr .int (.cons (.pr .ix (.cons (.var 1) (.cons (.lit (.int 0)) .nil))) .nil)) (.cons (.pr .int (.cons (.pr .ix (.cons (.var 1) (.cons (.lit (.int 1)) .nil))) .nil)) .nil))) .nil)))) .nil)))))
def f__law_good_ratio : Fn := ⟨1, 2, b__law_good_ratio⟩
/-- law: 0 script 1 draw 2 found 3 turn 4 due 5 n 6 d 7 sums 8 less 9 a 10 b 11 value 12 texts 13 text 14 good -/
def l_law_0i : Ex := (.pr .ne (.cons (.call 21 (.cons (.lit (.int 1)) (.cons (.var 13) .nil))) (.cons (.ife (.notE (.var 14)) (.lit (.str [60, 48, 62])) (.tup (.cons (.pr .int (.cons (.pr .ix (.cons (.mth .split (.var 13) (.cons (.lit (.str [47])) .nil)) (.cons (.lit (.int 0)) .nil))) .nil)) (.cons (.ife (.pr .isin (.cons (.lit (.str [47])) (.cons (.var 13) .nil))) (.pr .int (.cons (.pr .ix (.cons (.mth .split (.var 13) (.cons (.lit (.str [47])) .nil)) (.cons (.lit (.int 1)) .nil))) .nil)) (.lit (.int 1))) .nil)))) .nil)))
def l_law_1i : Ex := (.pr .ne (.cons (.call 21 (.cons (.lit (.int 0)) (.cons (.var 13) .nil))) (.cons (.ife (.call 24 (.cons (.var 13) .nil)) (.pr .int (.cons (.var 13) .nil)) (.lit (.str [60, 48, 62]))) .nil)))
def l_law_2b : Sms := (.cons 
  (.ife l_law_1i (.cons 
   (.ret false (.lit (.bl false))) .nil) .nil) (.cons 
  (.asg (.nm 14) (.call 25 (.cons (.var 13) .nil))) (.cons 
  (.ife l_law_0i (.cons 
   (.ret false (.lit (.bl false))) .nil) .nil) .nil)))
def l_law_3e : Ex := (.call 0 (.cons (.var 11) .nil))
def l_law_3q : Ex := .comp true [11] (.nm 11) (.seq (.vlst (.cons (.lit (.int 0)) (.cons (.pr .neg (.cons (.lit (.int 7)) .nil)) (.cons (.lit (.bl true)) (.cons (.lit (.bl false)) (.cons (.lit (.non)) (.cons (.lit (.str [48])) (.cons (.tup (.cons (.lit (.int 1)) .nil)) .nil))))))))) .nil l_law_3e
def l_law_4i : Ex := (.pr .ne (.cons l_law_3q (.cons (.vlst (.cons (.lit (.bl true)) (.cons (.lit (.bl true)) (.cons (.lit (.bl false)) (.cons (.lit (.bl false)) (.cons (.lit (.bl false)) (.cons (.lit (.bl false)) (.cons (.lit (.bl false)) .nil)))))))) .nil)))
def l_law_5i : Ex := (.pr .ne (.cons (.call 5 (.cons (.var 11) .nil)) (.cons (.andE (.pr .eq (.cons (.var 11) (.cons (.tup (.cons (.lit (.int 0)) (.cons (.lit (.int 1)) .nil))) .nil))) (.pr (.isi [.tuple]) (.cons (.var 11) .nil))) .nil)))
def l_law_6b : Sms := (.cons 
  (.ife l_law_5i (.cons 
   (.ret false (.lit (.bl false))) .nil) .nil) .nil)
def l_law_7i : Ex := (.orE (.pr .ne (.cons (.call 11 (.cons (.var 2) .nil)) (.cons (.var 7) .nil))) (.orE (.pr .ne (.cons (.call 11 (.cons (.pr .tuple (.cons (.var 2) .nil)) .nil)) (.cons (.var 7) .nil))) (.pr .ne (.cons (.call 11 (.cons (.vlst .nil) .nil)) (.cons (.tup (.cons (.lit (.int 0)) (.cons (.lit (.int 1)) .nil))) .nil)))))
def l_law_8b : Sms := (.cons 
  (.asg (.nm 7) (.call 18 (.cons (.pr .add (.cons (.pr .mul (.cons (.pr .ix (.cons (.var 7) (.cons (.lit (.int 0)) .nil))) (.cons (.pr .ix (.cons (.var 9) (.cons (.lit (.int 1)) .nil))) .nil))) (.cons (.pr .mul (.cons (.pr .ix (.cons (.var 9) (.cons (.lit (.int 0)) .nil))) (.cons (.pr .ix (.cons (.var 7) (.cons (.lit (.int 1)) .nil))) .nil))) .nil))) (.cons (.pr .mul (.cons (.pr .ix (.cons (.var 7) (.cons (.lit (.int 1)) .nil))) (.cons (.pr .ix (.cons (.var 9) (.cons (.lit (.int 1)) .nil))) .nil))) .nil)))) .nil)
def l_law_9i : Ex := (.orE (.pr .ne (.cons (.call 14 (.cons (.var 9) .nil)) (.cons (.call 20 (.cons (.var 9) .nil)) .nil))) (.pr .ne (.cons (.call 21 (.cons (.lit (.int 1)) (.cons (.call 20 (.cons (.var 9) .nil)) .nil))) (.cons (.var 9) .nil))))
def l_law_10i : Ex := (.orE (.pr .ne (.cons (.call 10 (.cons (.var 9) (.cons (.var 10) .nil))) (.cons (.var 8) .nil))) (.orE (.pr .ne (.cons (.call 12 (.cons (.var 9) (.cons (.var 10) .nil))) (.cons (.ife (.var 8) (.var 9) (.var 10)) .nil))) (.pr .ne (.cons (.call 13 (.cons (.var 9) (.cons (.var 10) .nil))) (.cons (.ife (.var 8) (.var 10) (.var 9)) .nil)))))
def l_law_11i : Ex := (.pr .ne (.cons (.pr .repr (.cons (.vlst (.cons (.call 6 (.cons (.var 9) (.cons (.var 10) .nil))) (.cons (.call 8 (.cons (.var 9) (.cons (.var 10) .nil))) (.cons (.call 14 (.cons (.var 9) .nil)) .nil)))) .nil)) (.cons (.pr .repr (.cons (.pr .add (.cons (.var 7) (.cons (.vlst (.cons (.call 20 (.cons (.var 9) .nil)) .nil)) .nil))) .nil)) .nil)))
def l_law_12i : Ex := (.orE (.pr .ne (.cons (.call 8 (.cons (.var 9) (.cons (.var 10) .nil))) (.cons (.call 18 (.cons (.pr .mul (.cons (.pr .ix (.cons (.var 9) (.cons (.lit (.int 0)) .nil))) (.cons (.pr .ix (.cons (.var 10) (.cons (.lit (.int 0)) .nil))) .nil))) (.cons (.pr .mul (.cons (.pr .ix (.cons (.var 9) (.cons (.lit (.int 1)) .nil))) (.cons (.pr .ix (.cons (.var 10) (.cons (.lit (.int 1)) .nil))) .nil))) .nil))) .nil))) (.pr .ne (.cons (.call 22 (.cons (.lit (.int 1)) (.cons (.var 9) (.cons (.var 10) .nil)))) (.cons (.ife (.pr .eq (.cons (.pr .ix (.cons (.var 10) (.cons (.lit (.int 0)) .nil))) (.cons (.lit (.int 0)) .nil))) (.lit (.str [60, 109, 97, 108, 102, 111, 114, 109, 101, 100, 62])) (.call 18 (.cons (.pr .mul (.cons (.pr .ix (.cons (.var 9) (.cons (.lit (.int 0)) .nil))) (.cons (.pr .ix (.cons (.var 10) (.cons (.lit (.int 1)) .nil))) .nil))) (.cons (.pr .mul (.cons (.pr .ix (.cons (.var 9) (.cons (.lit (.int 1)) .nil))) (.cons (.pr .ix (.cons (.var 10) (.cons (.lit (.int 0)) .nil))) .nil))) .nil)))) .nil))))
def l_law_13i : Ex := (.orE (.pr .ne (.cons (.call 6 (.cons (.var 9) (.cons (.var 10) .nil))) (.cons (.call 18 (.cons (.pr .add (.cons (.pr .mul (.cons (.pr .ix (.cons (.var 9) (.cons (.lit (.int 0)) .nil))) (.cons (.pr .ix (.cons (.var 10) (.cons (.lit (.int 1)) .nil))) .nil))) (.cons (.pr .mul (.cons (.pr .ix (.cons (.var 10) (.cons (.lit (.int 0)) .nil))) (.cons (.pr .ix (.cons (.var 9) (.cons (.lit (.int 1)) .nil))) .nil))) .nil))) (.cons (.pr .mul (.cons (.pr .ix (.cons (.var 9) (.cons (.lit (.int 1)) .nil))) (.cons (.pr .ix (.cons (.var 10) (.cons (.lit (.int 1)) .nil))) .nil))) .nil))) .nil))) (.pr .ne (.cons (.call 7 (.cons (.var 9) (.cons (.var 10) .nil))) (.cons (.call 18 (.cons (.pr .sub (.cons (.pr .mul (.cons (.pr .ix (.cons (.var 9) (.cons (.lit (.int 0)) .nil))) (.cons (.pr .ix (.cons (.var 10) (.cons (.lit (.int 1)) .nil))) .nil))) (.cons (.pr .mul (.cons (.pr .ix (.cons (.var 10) (.cons (.lit (.int 0)) .nil))) (.cons (.pr .ix (.cons (.var 9) (.cons (.lit (.int 1)) .nil))) .nil))) .nil))) (.cons (.pr .mul (.cons (.pr .ix (.cons (.var 9) (.cons (.lit (.int 1)) .nil))) (.cons (.pr .ix (.cons (.var 10) (.cons (.lit (.int 1)) .nil))) .nil))) .nil))) .nil))))
def l_law_14b : Sms := (.cons 
  (.par [9, 10] (.cons (.pr .ix (.cons (.var 2) (.cons (.call 17 (.cons (.var 1) (.cons (.pr .len (.cons (.var 2) .nil)) .nil))) .nil))) (.cons (.pr .ix (.cons (.var 2) (.cons (.call 17 (.cons (.var 1) (.cons (.pr .len (.cons (.var 2) .nil)) .nil))) .nil))) .nil))) (.cons 
  (.ife l_law_13i (.cons 
   (.ret false (.lit (.bl false))) .nil) .nil) (.cons 
  (.ife l_law_12i (.cons 
   (.ret false (.lit (.bl false))) .nil) .nil) (.cons 
  (.asg (.nm 7) (.vlst (.cons (.call 18 (.cons (.pr .add (.cons (.pr .mul (.cons (.pr .ix (.cons (.var 9) (.cons (.lit (.int 0)) .nil))) (.cons (.pr .ix (.cons (.var 10) (.cons (.lit (.int 1)) .nil))) .nil))) (.cons (.pr .mul (.cons (.pr .ix (.cons (.var 10) (.cons (.lit (.int 0)) .nil))) (.cons (.pr .ix (.cons (.var 9) (.cons (.lit (.int 1)) .nil))) .nil))) .nil))) (.cons (.pr .mul (.cons (.pr .ix (.cons (.var 9) (.cons (.lit (.int 1)) .nil))) (.cons (.pr .ix (.cons (.var 10) (.cons (.lit (.int 1)) .nil))) .nil))) .nil))) (.cons (.call 18 (.cons (.pr .mul (.cons (.pr .ix (.cons (.var 9) (.cons (.lit (.int 0)) .nil))) (.cons (.pr .ix (.cons (.var 10) (.cons (.lit (.int 0)) .nil))) .nil))) (.cons (.pr .mul (.cons (.pr .ix (.cons (.var 9) (.cons (.lit (.int 1)) .nil))) (.cons (.pr .ix (.cons (.var 10) (.cons (.lit (.int 1)) .nil))) .nil))) .nil))) .nil)))) (.cons 
  (.ife l_law_11i (.cons 
   (.ret false (.lit (.bl false))) .nil) .nil) (.cons 
  (.asg (.nm 8) (.pr .lt (.cons (.pr .mul (.cons (.pr .ix (.cons (.var 9) (.cons (.lit (.int 0)) .nil))) (.cons (.pr .ix (.cons (.var 10) (.cons (.lit (.int 1)) .nil))) .nil))) (.cons (.pr .mul (.cons (.pr .ix (.cons (.var 10) (.cons (.lit (.int 0)) .nil))) (.cons (.pr .ix (.cons (.var 9) (.cons (.lit (.int 1)) .nil))) .nil))) .nil)))) (.cons 
  (.ife l_law_10i (.cons 
   (.ret false (.lit (.bl false))) .nil) .nil) (.cons 
  (.ife l_law_9i (.cons 
   (.ret false (.lit (.bl false))) .nil) .nil) .nil))))))))
def l_law_15i : Ex := (.orE (.pr .ne (.cons (.call 22 (.cons (.lit (.int 0)) (.cons (.var 5) (.cons (.var 6) .nil)))) (.cons (.var 4) .nil))) (.pr .ne (.cons (.call 5 (.cons (.tup (.cons (.var 5) (.cons (.var 6) .nil))) .nil)) (.cons (.andE (.pr .gt (.cons (.var 6) (.cons (.lit (.int 0)) .nil))) (.pr .eq (.cons (.var 4) (.cons (.tup (.cons (.var 5) (.cons (.var 6) .nil))) .nil)))) .nil))))
def l_law_16b : Sms := (.cons 
  (.par [5, 6] (.cons (.call 19 (.cons (.var 1) .nil)) (.cons (.call 19 (.cons (.var 1) .nil)) .nil))) (.cons 
  (.asg (.nm 4) (.ife (.pr .eq (.cons (.var 6) (.cons (.lit (.int 0)) .nil))) (.lit (.str [60, 109, 97, 108, 102, 111, 114, 109, 101, 100, 62])) (.call 18 (.cons (.var 5) (.cons (.var 6) .nil))))) (.cons 
  (.ife l_law_15i (.cons 
   (.ret false (.lit (.bl false))) .nil) .nil) (.cons 
  (.asg (.nm 2) (.pr .add (.cons (.var 2) (.cons (.ife (.pr .ne (.cons (.var 6) (.cons (.lit (.int 0)) .nil))) (.vlst (.cons (.var 4) .nil)) (.vlst .nil)) .nil)))) .nil))))
def b_law : Sms := (.cons 
  (.asg (.nm 1) (.call 16 (.cons (.var 0) .nil))) (.cons 
  (.asg (.nm 2) (.vlst .nil)) (.cons 
  (.for_ (.nm 3) (.rng (.cons (.lit (.int 6)) .nil)) l_law_16b) (.cons 
  (.asg (.nm 2) (.pr .add (.cons (.var 2) (.cons (.vlst (.cons (.tup (.cons (.lit (.int 0)) (.cons (.lit (.int 1)) .nil))) (.cons (.tup (.cons (.lit (.int 1)) (.cons (.lit (.int 1)) .nil))) (.cons (.tup (.cons (.pr .sub (.cons (.lit (.int 0)) (.cons (.lit (.int 1)) .nil))) (.cons (.lit (.int 3)) .nil))) .nil)))) .nil)))) (.cons 
  (.for_ (.nm 3) (.rng (.cons (.lit (.int 8)) .nil)) l_law_14b) (.cons 
  (.asg (.nm 7) (.tup (.cons (.lit (.int 0)) (.cons (.lit (.int 1)) .nil)))) (.cons 
  (.for_ (.nm 9) (.seq (.var 2)) l_law_8b) (.cons 
  (.ife l_law_7i (.cons 
   (.ret false (.lit (.bl false))) .nil) .nil) (.cons 
  (.for_ (.nm 11) (.seq (.vlst (.cons (.lit (.non)) (.cons (.lit (.str [49])) (.cons (.tup (.cons (.lit (.int 1)) .nil)) (.cons (.tup (.cons (.lit (.int 1)) (.cons (.lit (.int 2)) (.cons (.lit (.int 3)) .nil)))) (.cons (.vlst (.cons (.lit (.int 1)) (.cons (.lit (.int 2)) .nil))) (.cons (.tup (.cons (.lit (.bl true)) (.cons (.lit (.int 2)) .nil))) (.cons (.tup (.cons (.lit (.int 2)) (.cons (.lit (.bl true)) .nil))) (.cons (.tup (.cons (.lit (.int 1)) (.cons (.lit (.int 0)) .nil))) (.cons (.tup (.cons (.lit (.int 2)) (.cons (.lit (.int 4)) .nil))) (.cons (.tup (.cons (.lit (.int 1)) (.cons (.pr .sub (.cons (.lit (.int 0)) (.cons (.lit (.int 2)) .nil))) .nil))) (.cons (.tup (.cons (.lit (.int 0)) (.cons (.lit (.int 2)) .nil))) (.cons (.tup (.cons (.lit (.int 0)) (.cons (.lit (.int 1)) .nil))) .nil)))))))))))))) l_law_6b) (.cons 
  (.ife l_law_4i (.cons 
   (.ret false (.lit (.bl false))) .nil) .nil) (.cons 
  (.asg (.nm 12) (.vlst (.cons (.lit (.str [])) (.cons (.lit (.str [45])) (.cons (.lit (.str [48])) (.cons (.lit (.str [45, 48])) (.cons (.lit (.str [48, 48])) (.cons (.lit (.str [48, 55])) (.cons (.lit (.str [55])) (.cons (.lit (.str [45, 55])) (.cons (.lit (.str [43, 55])) (.cons (.lit (.str [32, 55])) (.cons (.lit (.str [55, 32])) (.cons (.lit (.str [49, 47, 50])) (.cons (.lit (.str [50, 47, 52])) (.cons (.lit (.str [49, 47, 49])) (.cons (.lit (.str [45, 49, 47, 50])) (.cons (.lit (.str [49, 47, 45, 50])) (.cons (.lit (.str [49, 47, 48])) (.cons (.lit (.str [48, 47, 50])) (.cons (.lit (.str [49, 47, 48, 50])) (.cons (.lit (.str [49, 47, 47, 50])) (.cons (.lit (.str [47, 50])) (.cons (.lit (.str [49, 47])) (.cons (.lit (.str [97])) (.cons (.lit (.non)) (.cons (.lit (.int 5)) (.cons (.lit (.str [45, 51, 47, 48, 55])) .nil)))))))))))))))))))))))))))) (.cons 
  (.for_ (.nm 13) (.seq (.pr .add (.cons (.var 12) (.cons (.vlst (.cons (.pr .add (.cons (.call 20 (.cons (.pr .ix (.cons (.var 2) (.cons (.lit (.int 0)) .nil))) .nil)) (.cons (.pr .ix (.cons (.vlst (.cons (.lit (.str [])) (.cons (.lit (.str [48])) (.cons (.lit (.str [47])) (.cons (.lit (.str [45])) .nil))))) (.cons (.call 17 (.cons (.var 1) (.cons (.lit (.int 4)) .nil))) .nil))) .nil))) .nil)) .nil)))) l_law_2b) (.cons 
  (.ret false (.pr .eq (.cons (.vlst (.cons (.call 22 (.cons (.lit (.int 0)) (.cons (.lit (.int 1)) (.cons (.lit (.int 0)) .nil)))) (.cons (.call 22 (.cons (.lit (.int 0)) (.cons (.lit (.bl true)) (.cons (.lit (.int 1)) .nil)))) (.cons (.call 22 (.cons (.lit (.int 0)) (.cons (.lit (.int 1)) (.cons (.lit (.non)) .nil)))) (.cons (.call 22 (.cons (.lit (.int 0)) (.cons (.lit (.str [49])) (.cons (.lit (.int 2)) .nil)))) (.cons (.call 22 (.cons (.lit (.int 1)) (.cons (.tup (.cons (.lit (.int 1)) (.cons (.lit (.int 2)) .nil))) (.cons (.tup (.cons (.lit (.int 0)) (.cons (.lit (.int 1)) .nil))) .nil)))) .nil)))))) (.cons (.pr .mul (.cons (.vlst (.cons (.lit (.str [60, 109, 97, 108, 102, 111, 114, 109, 101, 100, 62])) .nil)) (.cons (.lit (.int 5)) .nil))) .nil)))) .nil)))))))))))))
def f_law : Fn := ⟨1, 15, b_law⟩
def cs : Clss := [⟨[0], [], false⟩, ⟨[1, 0], [], false⟩, ⟨[2, 0], ["at"], true⟩]
def P : Prog := ⟨cs, [f_is_whole, f_read_whole, f_common, f_lowest, f_ratio, f_is_ratio, f_plus, f_minus, f_times, f_over, f_below, f_total, f_lesser, f_greater, f_ratio_text, f_read_ratio, f__law_draw, f__law_take, f__law_low, f__law_number, f__law_text, f__law_read, f__law_ask, f__law_digits, f__law_good_whole, f__law_good_ratio, f_law]⟩
end K09
end
section
set_option linter.all false
set_option autoImplicit false
namespace K09
/-! ### lowest terms, plainly -/
def low (n d : Int) : Int × Int := if 0 < d then (n / (Int.gcd n d : Int), d / (Int.gcd n d : Int)) else (-(n / (Int.gcd n d : Int)), -(d / (Int.gcd n d : Int)))
def Red (x : Int × Int) : Prop := 0 < x.2 ∧ Int.gcd x.1 x.2 = 1
theorem gcd_pos {n d : Int} (h : d ≠ 0) : 0 < Int.gcd n d := Int.gcd_pos_iff.mpr (.inr h)
theorem fdiv_dvd {n g : Int} (hg : 0 < g) (h : g ∣ n) : n.fdiv g = n / g := by
  rw [Int.fdiv_eq_ediv_of_nonneg _ (Int.le_of_lt hg)]
theorem fdiv_neg' {n g : Int} (hg : 0 < g) (h : g ∣ n) : n.fdiv (-g) = -(n / g) := by
  obtain ⟨c, rfl⟩ := h
  have hne : g ≠ 0 := by omega
  have e : g * c = (-g) * (-c) := by
    rw [Int.neg_mul_neg]
  rw [e, Int.mul_fdiv_cancel_left _ (by omega), Int.neg_mul_neg, Int.mul_ediv_cancel_left _ hne]
theorem low_red {n d : Int} (h : d ≠ 0) : Red (low n d) := by
  have hp := gcd_pos (n := n) h
  have hc : Int.gcd (n / (Int.gcd n d : Int)) (d / (Int.gcd n d : Int)) = 1 := Int.gcd_ediv_gcd_ediv_gcd hp
  have hd : (Int.gcd n d : Int) ∣ d := Int.gcd_dvd_right ..
  unfold low Red
  split
  · rename_i h0
    exact ⟨Int.ediv_pos_of_pos_of_dvd h0 (by omega) hd, hc⟩
  · rename_i h0
    refine ⟨?_, by
      show Int.gcd (-_) (-_) = 1
      rw [Int.neg_gcd, Int.gcd_neg]
      exact hc⟩
    have : 0 < (-d) / (Int.gcd n d : Int) := Int.ediv_pos_of_pos_of_dvd (by omega) (by omega) (Int.dvd_neg.mpr hd)
    rw [Int.neg_ediv_of_dvd hd] at this
    exact this
theorem low_of_red {x : Int × Int} (h : Red x) : low x.1 x.2 = x := by
  unfold low
  rw [if_pos h.1, h.2]
  simp
/-- it is its own lowest form just then -/
theorem low_self {n d : Int} (h : 0 < d) : (low n d = (n, d)) ↔ Int.gcd n d = 1 := by
  constructor
  · intro e
    have := (low_red (n := n) (d := d) (by omega)).2
    rw [e] at this
    exact this
  · exact fun e => low_of_red (x := (n, d)) ⟨h, e⟩
theorem low_le {n d : Int} (h : d ≠ 0) : (low n d).1.natAbs ≤ n.natAbs ∧ (low n d).2.natAbs ≤ d.natAbs := by
  have e1 : (n / (Int.gcd n d : Int)).natAbs ≤ n.natAbs := by
    rw [Int.natAbs_ediv_of_dvd (Int.gcd_dvd_left ..)]
    exact Nat.div_le_self _ _
  have e2 : (d / (Int.gcd n d : Int)).natAbs ≤ d.natAbs := by
    rw [Int.natAbs_ediv_of_dvd (Int.gcd_dvd_right ..)]
    exact Nat.div_le_self _ _
  unfold low
  split
  · exact ⟨e1, e2⟩
  · exact ⟨by rw [Int.natAbs_neg]; exact e1, by rw [Int.natAbs_neg]; exact e2⟩
end K09
end
section
set_option linter.all false
set_option autoImplicit false
set_option maxRecDepth 100000
set_option maxHeartbeats 1000000
namespace K09
open PySem Mini
theorem is_whole_of (k : Nat) (st : Sto) (d : Mini.D) (b : Bool) (h : (match d with
    | .int _ => some true
    | .bl _ => some false
    | .non => some false
    | .str _ => some false
    | .tup _ => some false
    | _ => none) = some b) : callF P (k + 1) 0 [d] st = .ok (.bl b) st := by
  rw [callF_at (fn := f_is_whole) rfl rfl]
  cases d <;> simp only [Option.some.injEq] at h <;> first | (subst h) | (cases h)
  all_goals simp [exSs, exS, evE, evEs, evT, evC, evI, eqv_int, eqv_bl, eqv_pair, sizeLine_eq, L2.atI, L2.ixN, f_is_whole, b_is_whole, startE, isiD, isK, kindD]
/-! ### Euclid -/
def eN (i : Nat) (j : Nat) : Mini.Env := [some (.int (i : Int)), some (.int (j : Int))]
theorem euclid (cl : Call) (st : Sto) : ∀ (b a : Nat), loopW (evT cl l_common_0c) (exSs cs cl l_common_0b) (eN a b) st = .nx (eN (Nat.gcd a b) 0) st := by
  intro b
  induction b using Nat.strongRecOn with
  | _ b ih =>
    intro a
    by_cases h : b = 0
    · subst h
      rw [Nat.gcd_zero_right]
      exact loopW_done (st' := st) (by simp [exSs, exS, evE, evEs, evT, evC, evI, eqv_int, eqv_bl, eqv_pair, sizeLine_eq, L2.atI, L2.ixN, eN, l_common_0c])
    · have hb : ((b : Int) == 0) = false := by simpa [exSs, exS, evE, evEs, evT, evC, evI, eqv_int, eqv_bl, eqv_pair, sizeLine_eq, L2.atI, L2.ixN] using h
      refine loopW_step (st1 := st) (st' := st) (env' := eN b (a % b)) ?_ ?_ ?_ (by simp [exSs, exS, evE, evEs, evT, evC, evI, eqv_int, eqv_bl, eqv_pair, sizeLine_eq, L2.atI, L2.ixN])
      · simp [exSs, exS, evE, evEs, evT, evC, evI, eqv_int, eqv_bl, eqv_pair, sizeLine_eq, L2.atI, L2.ixN, eN, hb, l_common_0c]
      · simp [exSs, exS, evE, evEs, evT, evC, evI, eqv_int, eqv_bl, eqv_pair, sizeLine_eq, L2.atI, L2.ixN, eN, h, l_common_0b, Int.fmod_eq_emod_of_nonneg]
      · rw [ih (a % b) (Nat.mod_lt a (Nat.pos_of_ne_zero h)) b]
        congr 2
        rw [Nat.gcd_comm b (a % b), ← Nat.gcd_rec, Nat.gcd_comm]
theorem abs_is (i : Int) : (if i < 0 then -i else i) = (i.natAbs : Int) := by split <;> omega
theorem common_is (k : Nat) (st : Sto) (a b : Int) : callF P (k + 1) 2 [.int a, .int b] st = .ok (.int (Int.gcd a b)) st := by
  rw [callF_at (fn := f_common) rfl rfl]
  have key := euclid (callF P k) st b.natAbs a.natAbs
  unfold eN at key
  simp [exSs, exS, evE, evEs, evT, evC, evI, eqv_int, eqv_bl, eqv_pair, sizeLine_eq, L2.atI, L2.ixN, f_common, b_common, startE, abs_is]
  rw [show P.cs = cs from rfl, key]
  simp [exSs, exS, evE, evEs, evT, evC, evI, eqv_int, eqv_bl, eqv_pair, sizeLine_eq, L2.atI, L2.ixN]
  rfl

theorem log2_lt_of {n k : Nat} (hk : 0 < k) (h : n < 2 ^ k) : n.log2 < k := by
  by_cases h0 : n = 0
  · subst h0
    simpa [exSs, exS, evE, evEs, evT, evC, evI, eqv_int, eqv_bl, eqv_pair, sizeLine_eq, L2.atI, L2.ixN] using hk
  · exact (Nat.log2_lt h0).mpr h
theorem wide_of {i j : Int} {a b : Nat} (ha : 0 < a) (hb : 0 < b) (h1 : i.natAbs < 2 ^ a) (h2 : j.natAbs < 2 ^ b) (h : a + b ≤ 1000000) : wide i j = true := by
  unfold wide
  have := log2_lt_of ha h1
  have := log2_lt_of hb h2
  exact decide_eq_true (by omega)
/-- a pair of numbers -/
def pD (x : Int × Int) : Mini.D := .tup [.int x.1, .int x.2]
theorem gcd_lt {n d : Int} {k : Nat} (h : d ≠ 0) (hb : d.natAbs < 2 ^ k) : Int.gcd n d < 2 ^ k := by
  have : Int.gcd n d ≤ d.natAbs := Nat.le_of_dvd (Int.natAbs_pos.mpr h) (Int.natAbs_dvd_natAbs.mpr (Int.gcd_dvd_right ..))
  omega
theorem lowest_is (k : Nat) (st : Sto) (n d : Int) (h : d ≠ 0) (hb : d.natAbs < 2 ^ 8000) : callF P (k + 2) 3 [.int n, .int d] st = .ok (pD (low n d)) st := by
  have hp := gcd_pos (n := n) h
  have hg := log2_lt_of (by decide) (gcd_lt (n := n) h hb)
  have h9 : (Int.gcd n d).log2 < 9000 := by omega
  have hne : (Int.gcd n d : Int) ≠ 0 := by omega
  have e1 : (n.fdiv (Int.gcd n d : Int)) = n / (Int.gcd n d : Int) := fdiv_dvd (by omega) (Int.gcd_dvd_left ..)
  have e2 : (d.fdiv (Int.gcd n d : Int)) = d / (Int.gcd n d : Int) := fdiv_dvd (by omega) (Int.gcd_dvd_right ..)
  have e3 : (n.fdiv (-(Int.gcd n d : Int))) = -(n / (Int.gcd n d : Int)) := fdiv_neg' (by omega) (Int.gcd_dvd_left ..)
  have e4 : (d.fdiv (-(Int.gcd n d : Int))) = -(d / (Int.gcd n d : Int)) := fdiv_neg' (by omega) (Int.gcd_dvd_right ..)
  have hne2 : Int.gcd n d ≠ 0 := by omega
  rw [callF_at (fn := f_lowest) rfl rfl]
  by_cases hd : d < 0
  · simp [exSs, exS, evE, evEs, evT, evC, evI, eqv_int, eqv_bl, eqv_pair, sizeLine_eq, L2.atI, L2.ixN, f_lowest, b_lowest, l_lowest_0i, startE, common_is, hd, h9, hne, hne2, e3, e4, pD, low, show ¬ (0 < d) by omega]
  · simp [exSs, exS, evE, evEs, evT, evC, evI, eqv_int, eqv_bl, eqv_pair, sizeLine_eq, L2.atI, L2.ixN, f_lowest, b_lowest, l_lowest_0i, startE, common_is, hd, h9, hne, hne2, e1, e2, pD, low, show 0 < d by omega]

/-! _law_low -/
theorem lowloop (cl : Call) (st : Sto) (n d : Int) : ∀ (b a : Nat), loopW (evT cl l__law_low_0c) (exSs cs cl l__law_low_0b) [some (.int n), some (.int d), some (.int (a : Int)), some (.int (b : Int))] st = .nx [some (.int n), some (.int d), some (.int (Nat.gcd a b : Int)), some (.int 0)] st := by
  intro b
  induction b using Nat.strongRecOn with
  | _ b ih =>
    intro a
    by_cases h : b = 0
    · subst h
      rw [Nat.gcd_zero_right]
      exact loopW_done (st' := st) (by simp [exSs, exS, evE, evEs, evT, evC, evI, eqv_int, eqv_bl, eqv_pair, sizeLine_eq, L2.atI, L2.ixN, l__law_low_0c])
    · have hb : ((b : Int) == 0) = false := by simpa [exSs, exS, evE, evEs, evT, evC, evI, eqv_int, eqv_bl, eqv_pair, sizeLine_eq, L2.atI, L2.ixN] using h
      refine loopW_step (st1 := st) (st' := st) (env' := [some (.int n), some (.int d), some (.int (b : Int)), some (.int ((a % b : Nat) : Int))]) ?_ ?_ ?_ (by simp [exSs, exS, evE, evEs, evT, evC, evI, eqv_int, eqv_bl, eqv_pair, sizeLine_eq, L2.atI, L2.ixN])
      · simp [exSs, exS, evE, evEs, evT, evC, evI, eqv_int, eqv_bl, eqv_pair, sizeLine_eq, L2.atI, L2.ixN, hb, l__law_low_0c]
      · simp [exSs, exS, evE, evEs, evT, evC, evI, eqv_int, eqv_bl, eqv_pair, sizeLine_eq, L2.atI, L2.ixN, h, l__law_low_0b, Int.fmod_eq_emod_of_nonneg]
      · rw [ih (a % b) (Nat.mod_lt a (Nat.pos_of_ne_zero h)) b]
        rw [Nat.gcd_comm b (a % b), ← Nat.gcd_rec, Nat.gcd_comm]
theorem low_is (k : Nat) (st : Sto) (n d : Int) (h : d ≠ 0) (hb : d.natAbs < 2 ^ 8000) : callF P (k + 1) 18 [.int n, .int d] st = .ok (pD (low n d)) st := by
  have hp := gcd_pos (n := n) h
  have hg := log2_lt_of (by decide) (gcd_lt (n := n) h hb)
  have h9 : (Int.gcd n d).log2 < 9000 := by omega
  have h9' : (Nat.gcd n.natAbs d.natAbs).log2 < 9000 := h9
  have hne : (Int.gcd n d : Int) ≠ 0 := by omega
  have hne2 : Nat.gcd n.natAbs d.natAbs ≠ 0 := fun z => hne (by exact_mod_cast z)
  have e1 : (n.fdiv (Int.gcd n d : Int)) = n / (Int.gcd n d : Int) := fdiv_dvd (by omega) (Int.gcd_dvd_left ..)
  have e2 : (d.fdiv (Int.gcd n d : Int)) = d / (Int.gcd n d : Int) := fdiv_dvd (by omega) (Int.gcd_dvd_right ..)
  have e3 : ((-n).fdiv (Int.gcd n d : Int)) = -(n / (Int.gcd n d : Int)) := by
    rw [fdiv_dvd (by omega) (Int.dvd_neg.mpr (Int.gcd_dvd_left ..)), Int.neg_ediv_of_dvd (Int.gcd_dvd_left ..)]
  have e4 : ((-d).fdiv (Int.gcd n d : Int)) = -(d / (Int.gcd n d : Int)) := by
    rw [fdiv_dvd (by omega) (Int.dvd_neg.mpr (Int.gcd_dvd_right ..)), Int.neg_ediv_of_dvd (Int.gcd_dvd_right ..)]
  rw [callF_at (fn := f__law_low) rfl rfl]
  have key := lowloop (callF P k) st n d d.natAbs n.natAbs
  have gg : (Nat.gcd n.natAbs d.natAbs : Int) = (Int.gcd n d : Int) := rfl
  rw [gg] at key
  by_cases hd : 0 < d
  · simp [exSs, exS, evE, evEs, evT, evC, evI, eqv_int, eqv_bl, eqv_pair, sizeLine_eq, L2.atI, L2.ixN, f__law_low, b__law_low, startE, abs_is, show P.cs = cs from rfl, key, h9, hne, e1, e2, pD, low, hd, show Int.gcd n d ≠ 0 by omega]
  · simp [exSs, exS, evE, evEs, evT, evC, evI, eqv_int, eqv_bl, eqv_pair, sizeLine_eq, L2.atI, L2.ixN, f__law_low, b__law_low, startE, abs_is, show P.cs = cs from rfl, key, h9, hne, e3, e4, pD, low, hd, show Int.gcd n d ≠ 0 by omega]

/-! ratio, is_ratio, the four rules -/
theorem ratio_is (k : Nat) (st : Sto) (n d : Int) (h : d ≠ 0) (hb : d.natAbs < 2 ^ 8000) : callF P (k + 3) 4 [.int n, .int d] st = .ok (pD (low n d)) st := by
  rw [callF_at (fn := f_ratio) rfl rfl]
  have h0 : (d == 0) = false := by simpa [exSs, exS, evE, evEs, evT, evC, evI, eqv_int, eqv_bl, eqv_pair, sizeLine_eq, L2.atI, L2.ixN] using h
  simp [exSs, exS, evE, evEs, evT, evC, evI, eqv_int, eqv_bl, eqv_pair, sizeLine_eq, L2.atI, L2.ixN, f_ratio, b_ratio, l_ratio_0i, startE, is_whole_of (k + 1) st (.int n) true rfl, is_whole_of (k + 1) st (.int d) true rfl, h0, lowest_is k st n d h hb]
def malf : Exc := ⟨1, []⟩
theorem ratio_no (k : Nat) (st : Sto) (n : Int) : callF P (k + 3) 4 [.int n, .int 0] st = .exc malf st := by
  rw [callF_at (fn := f_ratio) rfl rfl]
  simp [exSs, exS, evE, evEs, evT, evC, evI, eqv_int, eqv_bl, eqv_pair, sizeLine_eq, L2.atI, L2.ixN, f_ratio, b_ratio, l_ratio_0i, startE, is_whole_of (k + 1) st (.int n) true rfl, is_whole_of (k + 1) st (.int 0) true rfl, show P.cs = cs from rfl, cs, zipF, numOk, malf]
theorem is_ratio_is (k : Nat) (st : Sto) (n d : Int) : callF P (k + 2) 5 [pD (n, d)] st = .ok (.bl (decide (0 < d) && decide (Int.gcd n d = 1))) st := by
  rw [callF_at (fn := f_is_ratio) rfl rfl]
  by_cases hd : 0 < d
  · by_cases hg : Int.gcd n d = 1
    · simp [exSs, exS, evE, evEs, evT, evC, evI, eqv_int, eqv_bl, eqv_pair, sizeLine_eq, L2.atI, L2.ixN, f_is_ratio, b_is_ratio, l_is_ratio_0i, startE, pD, isiD, isK, kindD, is_whole_of (k) st (.int n) true rfl, is_whole_of (k) st (.int d) true rfl, common_is k st n d, hd, hg]
    · have hg2 : (((Int.gcd n d : Nat) : Int) == 1) = false := by
        have : ((Int.gcd n d : Nat) : Int) ≠ 1 := by omega
        simpa [exSs, exS, evE, evEs, evT, evC, evI, eqv_int, eqv_bl, eqv_pair, sizeLine_eq, L2.atI, L2.ixN] using this
      simp [exSs, exS, evE, evEs, evT, evC, evI, eqv_int, eqv_bl, eqv_pair, sizeLine_eq, L2.atI, L2.ixN, f_is_ratio, b_is_ratio, l_is_ratio_0i, startE, pD, isiD, isK, kindD, is_whole_of (k) st (.int n) true rfl, is_whole_of (k) st (.int d) true rfl, common_is k st n d, hd, hg, hg2]
  · simp [exSs, exS, evE, evEs, evT, evC, evI, eqv_int, eqv_bl, eqv_pair, sizeLine_eq, L2.atI, L2.ixN, f_is_ratio, b_is_ratio, l_is_ratio_0i, startE, pD, isiD, isK, kindD, is_whole_of (k) st (.int n) true rfl, is_whole_of (k) st (.int d) true rfl, common_is k st n d, hd]
/-- numbers of that many bits -/
def Bd (k : Nat) (x : Int × Int) : Prop := x.1.natAbs < 2 ^ k ∧ x.2.natAbs < 2 ^ k
theorem Bd.mono {j k : Nat} {x : Int × Int} (h : Bd j x) (l : j ≤ k) : Bd k x := by
  have := Nat.pow_le_pow_right (n := 2) (by decide) l
  exact ⟨by have := h.1; omega, by have := h.2; omega⟩
theorem mul_lt {i j : Int} {a b : Nat} (h1 : i.natAbs < 2 ^ a) (h2 : j.natAbs < 2 ^ b) : (i * j).natAbs < 2 ^ (a + b) := by
  rw [Int.natAbs_mul, Nat.pow_add]
  exact Nat.mul_lt_mul'' h1 h2
theorem add_lt {i j : Int} {a : Nat} (h1 : i.natAbs < 2 ^ a) (h2 : j.natAbs < 2 ^ a) : (i + j).natAbs < 2 ^ (a + 1) := by
  have := Int.natAbs_add_le i j
  rw [Nat.pow_succ]
  omega
theorem sub_lt {i j : Int} {a : Nat} (h1 : i.natAbs < 2 ^ a) (h2 : j.natAbs < 2 ^ a) : (i - j).natAbs < 2 ^ (a + 1) := by
  have := Int.natAbs_sub_le i j
  rw [Nat.pow_succ]
  omega
theorem lt8000 {i : Int} {a : Nat} (h : i.natAbs < 2 ^ a) (l : a ≤ 8000) : i.natAbs < 2 ^ 8000 := by
  have := Nat.pow_le_pow_right (n := 2) (by decide) l
  omega
section
variable (k : Nat) (st : Sto) (a b : Int × Int) {m n : Nat} (ha : Bd m a) (hb : Bd n b) (hm : 0 < m) (hn : 0 < n) (hl : m + n ≤ 8000)
include ha hb hm hn hl
theorem w00 : wide a.1 b.1 = true := wide_of hm hn ha.1 hb.1 (by omega)
theorem w01 : wide a.1 b.2 = true := wide_of hm hn ha.1 hb.2 (by omega)
theorem w10 : wide b.1 a.2 = true := wide_of hn hm hb.1 ha.2 (by omega)
theorem w20 : wide a.2 b.1 = true := wide_of hm hn ha.2 hb.1 (by omega)
theorem w11 : wide a.2 b.2 = true := wide_of hm hn ha.2 hb.2 (by omega)
theorem plus_is (h : a.2 * b.2 ≠ 0) : callF P (k + 3) 6 [pD a, pD b] st = .ok (pD (low (a.1 * b.2 + b.1 * a.2) (a.2 * b.2))) st := by
  rw [callF_at (fn := f_plus) rfl rfl]
  simp [exSs, exS, evE, evEs, evT, evC, evI, eqv_int, eqv_bl, eqv_pair, sizeLine_eq, L2.atI, L2.ixN, f_plus, b_plus, startE, pD, w01 a b ha hb hm hn hl, w10 a b ha hb hm hn hl, w11 a b ha hb hm hn hl]
  rw [lowest_is k st _ _ h (lt8000 (mul_lt ha.2 hb.2) hl)]
  simp [exSs, exS, evE, evEs, evT, evC, evI, eqv_int, eqv_bl, eqv_pair, sizeLine_eq, L2.atI, L2.ixN, pD]
theorem minus_is (h : a.2 * b.2 ≠ 0) : callF P (k + 3) 7 [pD a, pD b] st = .ok (pD (low (a.1 * b.2 - b.1 * a.2) (a.2 * b.2))) st := by
  rw [callF_at (fn := f_minus) rfl rfl]
  simp [exSs, exS, evE, evEs, evT, evC, evI, eqv_int, eqv_bl, eqv_pair, sizeLine_eq, L2.atI, L2.ixN, f_minus, b_minus, startE, pD, w01 a b ha hb hm hn hl, w10 a b ha hb hm hn hl, w11 a b ha hb hm hn hl]
  rw [lowest_is k st _ _ h (lt8000 (mul_lt ha.2 hb.2) hl)]
  simp [exSs, exS, evE, evEs, evT, evC, evI, eqv_int, eqv_bl, eqv_pair, sizeLine_eq, L2.atI, L2.ixN, pD]
theorem times_is (h : a.2 * b.2 ≠ 0) : callF P (k + 3) 8 [pD a, pD b] st = .ok (pD (low (a.1 * b.1) (a.2 * b.2))) st := by
  rw [callF_at (fn := f_times) rfl rfl]
  simp [exSs, exS, evE, evEs, evT, evC, evI, eqv_int, eqv_bl, eqv_pair, sizeLine_eq, L2.atI, L2.ixN, f_times, b_times, startE, pD, w00 a b ha hb hm hn hl, w11 a b ha hb hm hn hl]
  rw [lowest_is k st _ _ h (lt8000 (mul_lt ha.2 hb.2) hl)]
  simp [exSs, exS, evE, evEs, evT, evC, evI, eqv_int, eqv_bl, eqv_pair, sizeLine_eq, L2.atI, L2.ixN, pD]
theorem over_is (h : a.2 * b.1 ≠ 0) : callF P (k + 3) 9 [pD a, pD b] st = .ok (pD (low (a.1 * b.2) (a.2 * b.1))) st := by
  rw [callF_at (fn := f_over) rfl rfl]
  have h0 : (b.1 == 0) = false := by
    have : b.1 ≠ 0 := fun z => h (by rw [z, Int.mul_zero])
    simpa [exSs, exS, evE, evEs, evT, evC, evI, eqv_int, eqv_bl, eqv_pair, sizeLine_eq, L2.atI, L2.ixN] using this
  simp [exSs, exS, evE, evEs, evT, evC, evI, eqv_int, eqv_bl, eqv_pair, sizeLine_eq, L2.atI, L2.ixN, f_over, b_over, l_over_0i, startE, pD, w01 a b ha hb hm hn hl, w20 a b ha hb hm hn hl, h0]
  rw [lowest_is k st _ _ h (lt8000 (mul_lt ha.2 hb.1) hl)]
  simp [exSs, exS, evE, evEs, evT, evC, evI, eqv_int, eqv_bl, eqv_pair, sizeLine_eq, L2.atI, L2.ixN, pD]
theorem over_no (h : b.1 = 0) : callF P (k + 3) 9 [pD a, pD b] st = .exc malf st := by
  rw [callF_at (fn := f_over) rfl rfl]
  simp [exSs, exS, evE, evEs, evT, evC, evI, eqv_int, eqv_bl, eqv_pair, sizeLine_eq, L2.atI, L2.ixN, f_over, b_over, l_over_0i, startE, pD, h, show P.cs = cs from rfl, cs, zipF, numOk, malf]
theorem below_is : callF P (k + 1) 10 [pD a, pD b] st = .ok (.bl (decide (a.1 * b.2 < b.1 * a.2))) st := by
  rw [callF_at (fn := f_below) rfl rfl]
  simp [exSs, exS, evE, evEs, evT, evC, evI, eqv_int, eqv_bl, eqv_pair, sizeLine_eq, L2.atI, L2.ixN, f_below, b_below, startE, pD, w01 a b ha hb hm hn hl, w10 a b ha hb hm hn hl]
theorem lesser_is : callF P (k + 2) 12 [pD a, pD b] st = .ok (pD (if b.1 * a.2 < a.1 * b.2 then b else a)) st := by
  rw [callF_at (fn := f_lesser) rfl rfl]
  have e := below_is k st b a hb ha hn hm (by omega)
  by_cases h : b.1 * a.2 < a.1 * b.2
  · simp [exSs, exS, evE, evEs, evT, evC, evI, eqv_int, eqv_bl, eqv_pair, sizeLine_eq, L2.atI, L2.ixN, f_lesser, b_lesser, startE, e, h]
  · simp [exSs, exS, evE, evEs, evT, evC, evI, eqv_int, eqv_bl, eqv_pair, sizeLine_eq, L2.atI, L2.ixN, f_lesser, b_lesser, startE, e, h]
theorem greater_is : callF P (k + 2) 13 [pD a, pD b] st = .ok (pD (if a.1 * b.2 < b.1 * a.2 then b else a)) st := by
  rw [callF_at (fn := f_greater) rfl rfl]
  have e := below_is k st a b ha hb hm hn hl
  by_cases h : a.1 * b.2 < b.1 * a.2
  · simp [exSs, exS, evE, evEs, evT, evC, evI, eqv_int, eqv_bl, eqv_pair, sizeLine_eq, L2.atI, L2.ixN, f_greater, b_greater, startE, e, h]
  · simp [exSs, exS, evE, evEs, evT, evC, evI, eqv_int, eqv_bl, eqv_pair, sizeLine_eq, L2.atI, L2.ixN, f_greater, b_greater, startE, e, h]
end
end K09
end
section
set_option linter.all false
set_option autoImplicit false
set_option maxRecDepth 100000
set_option maxHeartbeats 1000000
namespace K09
open PySem Mini
/-! ### texts -/
theorem cut01 {α : Type} (s : List α) : cutL s none (some 1) = s.take 1 := by
  unfold cutL HT.sIx
  cases s <;> simp [exSs, exS, evE, evEs, evT, evC, evI, eqv_int, eqv_bl, eqv_pair, sizeLine_eq, L2.atI, L2.ixN]
theorem cut10 {α : Type} (s : List α) : cutL s (some 1) none = s.drop 1 := by
  unfold cutL HT.sIx
  cases s <;> simp [exSs, exS, evE, evEs, evT, evC, evI, eqv_int, eqv_bl, eqv_pair, sizeLine_eq, L2.atI, L2.ixN]
theorem strI_nat (n : Nat) : strI (n : Int) = TL.numL n := TL.tl_num n
theorem strI_neg (n : Nat) (h : 0 < n) : strI (-(n : Int)) = 45 :: TL.numL n := by
  have e := PyProof.Rows.toString_neg (n := -(n : Int)) (by omega)
  have z : 0 - -(n : Int) = n := by omega
  rw [z] at e
  unfold strI
  rw [e, ← strI_nat]
  unfold strI
  simp [exSs, exS, evE, evEs, evT, evC, evI, eqv_int, eqv_bl, eqv_pair, sizeLine_eq, L2.atI, L2.ixN, Str.ofString_eq_toList]
abbrev dig : Chs := [48, 49, 50, 51, 52, 53, 54, 55, 56, 57]
def isDig (c : Nat) : Bool := decide (c ∈ dig)
theorem isDig_iff (c : Nat) : isDig c = true ↔ 48 ≤ c ∧ c ≤ 57 := by
  unfold isDig dig
  simp [exSs, exS, evE, evEs, evT, evC, evI, eqv_int, eqv_bl, eqv_pair, sizeLine_eq, L2.atI, L2.ixN]
  omega
def bodyT (t : Chs) : Chs := if t.take 1 = [45] then t.drop 1 else t
/-- [sign in DIGITS for sign in text] -/
theorem signs_in (cl : Call) (i j : Nat) (env : Mini.Env) (st : Sto) (b : Chs) (el : Ex) (hel : el = (.pr .isin (.cons (.var i) (.cons (.lit (.str dig)) .nil)))) (hi : i < env.length) (hj : getV env j = some (.str b)) (hl : b.length ≤ 16777216) :
    evE cl (.comp true [i] (.nm i) (.seq (.var j)) .nil el) env st = .ok (.lst ((b.map isDig).map .bl)) st := by
  have key : compL [] (turnC cl [i] (.nm i) .nil el env) (b.map fun c => .str [c]) [] st = .ok ((b.map isDig).map .bl) st := by
    rw [compL_map (g := fun d => match d with
      | .str [c] => .bl (isDig c)
      | d => d)]
    · simp [exSs, exS, evE, evEs, evT, evC, evI, eqv_int, eqv_bl, eqv_pair, sizeLine_eq, L2.atI, L2.ixN, List.map_map, Function.comp_def]
    · intro d hd
      obtain ⟨c, hc, rfl⟩ := List.mem_map.mp hd
      subst hel
      have hg : getV (((wipeE [i] env).set i (some (.str [c])))) i = some (.str [c]) := by
        unfold getV
        rw [List.getElem?_set_self (by simpa [exSs, exS, evE, evEs, evT, evC, evI, eqv_int, eqv_bl, eqv_pair, sizeLine_eq, L2.atI, L2.ixN, wipeE] using hi)]
        rfl
      rw [turnC_of rfl]
      simp [exSs, exS, evE, evEs, evT, evC, evI, eqv_int, eqv_bl, eqv_pair, sizeLine_eq, L2.atI, L2.ixN, hg, inD, isDig]
    · simp [exSs, exS, evE, evEs, evT, evC, evI, eqv_int, eqv_bl, eqv_pair, sizeLine_eq, L2.atI, L2.ixN]
      exact hl
  rw [comp_eq]
  simp only [evI, evE, hj, bnd_ok, itemsOf, srcOf]
  rw [key]
  rfl
def noText : Exc := ⟨2, [("at", .int 0)]⟩
theorem numOk0 : numOk ⟨[2, 0], ["at"], true⟩ [.int 0] = true := by decide +kernel
theorem raise0 (st : Sto) (env : Mini.Env) (cl : Call) : exS cs cl (.raise 2 (.cons (.lit (.int 0)) .nil)) env st = .exc noText env st := by
  simp [exSs, exS, evE, evEs, evT, evC, evI, eqv_int, eqv_bl, eqv_pair, sizeLine_eq, L2.atI, L2.ixN, cs, numOk0, zipF, noText]
def okW (t : Chs) : Bool := !(bodyT t).isEmpty && (bodyT t).all isDig && !((bodyT t).head? == some 48 && t != [48])
def valT (t : Chs) : Int := if t.take 1 = [45] then -((NumText.digitsVal (t.drop 1) : Nat) : Int) else ((NumText.digitsVal t : Nat) : Int)
theorem allDigits_of {b : Chs} (h : b.all isDig = true) : NumText.AllDigits b := fun c hc => (isDig_iff c).mp (List.all_eq_true.mp h c hc)
theorem intText_at {t : Chs} (hl : t.length ≤ 640) (h1 : (bodyT t).isEmpty = false) (h2 : (bodyT t).all isDig = true) : intText? ⟨t.toArray⟩ = some (valT t) := by
  unfold bodyT at h1 h2
  unfold valT
  split at h1
  · rename_i h0
    rw [if_pos h0] at h2
    rw [if_pos h0]
    refine PySem.intText_neg (x := ⟨t.toArray⟩) (cs := t.drop 1) ?_ (allDigits_of h2) (by simpa [exSs, exS, evE, evEs, evT, evC, evI, eqv_int, eqv_bl, eqv_pair, sizeLine_eq, L2.atI, L2.ixN] using h1) (by rw [len_str]; omega)
    cases t with
    | nil => cases h0
    | cons c r =>
      simp [exSs, exS, evE, evEs, evT, evC, evI, eqv_int, eqv_bl, eqv_pair, sizeLine_eq, L2.atI, L2.ixN] at h0
      simp [exSs, exS, evE, evEs, evT, evC, evI, eqv_int, eqv_bl, eqv_pair, sizeLine_eq, L2.atI, L2.ixN, h0]
  · rename_i h0
    rw [if_neg h0] at h2
    rw [if_neg h0]
    have z := PySem.intText_digits (x := ⟨t.toArray⟩) (by simpa [exSs, exS, evE, evEs, evT, evC, evI, eqv_int, eqv_bl, eqv_pair, sizeLine_eq, L2.atI, L2.ixN] using allDigits_of h2) (by simpa [exSs, exS, evE, evEs, evT, evC, evI, eqv_int, eqv_bl, eqv_pair, sizeLine_eq, L2.atI, L2.ixN] using h1) (by rw [len_str]; omega)
    simpa [exSs, exS, evE, evEs, evT, evC, evI, eqv_int, eqv_bl, eqv_pair, sizeLine_eq, L2.atI, L2.ixN] using z
theorem read_whole_no (k : Nat) (st : Sto) (d : Mini.D) (h : d = .non ∨ ∃ i, d = .int i) : callF P (k + 1) 1 [d] st = .exc noText st := by
  rw [callF_at (fn := f_read_whole) rfl rfl]
  rcases h with rfl | ⟨i, rfl⟩ <;> simp [exSs, exS, evE, evEs, evT, evC, evI, eqv_int, eqv_bl, eqv_pair, sizeLine_eq, L2.atI, L2.ixN, f_read_whole, b_read_whole, l_read_whole_3i, startE, isiD, isK, kindD, show P.cs = cs from rfl, cs, numOk0, zipF, noText]
theorem bodyT_le (t : Chs) : (bodyT t).length ≤ t.length := by
  unfold bodyT
  split
  · simp [exSs, exS, evE, evEs, evT, evC, evI, eqv_int, eqv_bl, eqv_pair, sizeLine_eq, L2.atI, L2.ixN]
  · exact Nat.le_refl _
theorem sOk_sub {t u : Chs} (h : sOk t) (s : ∀ c ∈ u, c ∈ t) : sOk u := by
  have hs' : (⟨t.toArray⟩ : Str).cps.all (· < 0x110000) = true := h
  show (⟨u.toArray⟩ : Str).cps.all (· < 0x110000) = true
  simp only [List.all_toArray, List.all_eq_true] at hs' ⊢
  exact fun c hc => hs' c (s c hc)
theorem all_id (l : List Bool) : l.all id = l.all (fun b => b) := rfl
theorem read_whole_is (k : Nat) (st : Sto) (t : Chs) (hl : t.length ≤ 640) (hs : sOk t) : callF P (k + 1) 1 [.str t] st = if okW t = true then .ok (.int (valT t)) st else .exc noText st := by
  rw [callF_at (fn := f_read_whole) rfl rfl]
  have hz : t.length ≤ sizeLine := by rw [sizeLine_eq]; omega
  have lb := bodyT_le t
  have hzb : (bodyT t).length ≤ sizeLine := by omega
  have e1 := sl_str (st := st) (s := t) none (some 1) hz
  have e2 := sl_str (st := st) (s := t) (some 1) none hz
  rw [cut01] at e1
  rw [cut10] at e2
  have e3 : eqvD st (.str (t.take 1)) (.str [45]) = some (t.take 1 == [45]) := eqv_str st _ _ (sOk_sub hs fun c hc => List.mem_of_mem_take hc) (by decide +kernel)
  have e4 : eqvD st (.str t) (.str [48]) = some (t == [48]) := eqv_str st _ _ hs (by decide +kernel)
  have len1 := len_str' (st := st) hzb
  have q1 : evT (callF P k) l_read_whole_3i [some (.str t), none, none] st = .ok false st := by
    simp [exSs, exS, evE, evEs, evT, evC, evI, eqv_int, eqv_bl, eqv_pair, sizeLine_eq, L2.atI, L2.ixN, l_read_whole_3i, isiD, isK, kindD]
  have q2 : evE (callF P k) (.ife (.pr .eq (.cons (.pr (.sl false true) (.cons (.var 0) (.cons (.lit (.int 1)) .nil))) (.cons (.lit (.str [45])) .nil))) (.pr (.sl true false) (.cons (.var 0) (.cons (.lit (.int 1)) .nil))) (.var 0)) [some (.str t), none, none] st = .ok (.str (bodyT t)) st := by
    simp only [List.drop_one] at e2
    simp [exSs, exS, evE, evEs, evT, evC, evI, eqv_int, eqv_bl, eqv_pair, sizeLine_eq, L2.atI, L2.ixN, e1, e3, e2]
    unfold bodyT
    split
    · rw [List.drop_one]
    · rfl
  have sg : evE (callF P k) l_read_whole_1q [some (.str t), some (.str (bodyT t)), none] st = .ok (.lst (((bodyT t).map isDig).map .bl)) st := signs_in _ 2 1 _ st (bodyT t) l_read_whole_1e rfl (by simp [exSs, exS, evE, evEs, evT, evC, evI, eqv_int, eqv_bl, eqv_pair, sizeLine_eq, L2.atI, L2.ixN]) (by simp [exSs, exS, evE, evEs, evT, evC, evI, eqv_int, eqv_bl, eqv_pair, sizeLine_eq, L2.atI, L2.ixN]) (by omega)
  have q3 : evT (callF P k) l_read_whole_2i [some (.str t), some (.str (bodyT t)), none] st = .ok ((bodyT t).isEmpty || !(bodyT t).all isDig) st := by
    by_cases c1 : bodyT t = []
    · have l0 : lenD st (.str []) = some (.int 0) := len_str' (by simp [exSs, exS, evE, evEs, evT, evC, evI, eqv_int, eqv_bl, eqv_pair, sizeLine_eq, L2.atI, L2.ixN])
      simp [exSs, exS, evE, evEs, evT, evC, evI, eqv_int, eqv_bl, eqv_pair, sizeLine_eq, L2.atI, L2.ixN, l_read_whole_2i, c1, l0]
    · have c0 : ¬ ((bodyT t).length : Int) < 1 := by
        have := List.length_pos_iff.mpr c1
        omega
      have c2 : ¬ (4000 : Int) < ((bodyT t).length : Int) := by omega
      have c3 : (bodyT t).isEmpty = false := by simpa [exSs, exS, evE, evEs, evT, evC, evI, eqv_int, eqv_bl, eqv_pair, sizeLine_eq, L2.atI, L2.ixN] using c1
      have bm : bools (List.map (D.bl ∘ isDig) (bodyT t)) = some ((bodyT t).map isDig) := by
        rw [← List.map_map]
        exact bools_map _
      simp [exSs, exS, evE, evEs, evT, evC, evI, eqv_int, eqv_bl, eqv_pair, sizeLine_eq, L2.atI, L2.ixN, l_read_whole_2i, len1, c0, c2, sg, bm, c3]
  have q4 : (bodyT t).isEmpty = false → (bodyT t).all isDig = true → evT (callF P k) l_read_whole_0i [some (.str t), some (.str (bodyT t)), none] st = .ok ((bodyT t).head? == some 48 && t != [48]) st := by
    intro c1 c3
    cases q : bodyT t with
    | nil =>
      rw [q] at c1
      cases c1
    | cons x l =>
      have xd : isDig x = true := by
        rw [q] at c3
        simp only [List.all_cons, Bool.and_eq_true] at c3
        exact c3.1
      have sx : sOk [x] := by
        have := (isDig_iff x).mp xd
        show (⟨[x].toArray⟩ : Str).cps.all (· < 0x110000) = true
        simp [exSs, exS, evE, evEs, evT, evC, evI, eqv_int, eqv_bl, eqv_pair, sizeLine_eq, L2.atI, L2.ixN]
        omega
      have a0 := at_str (st := st) (s := x :: l) 0 (by rw [← q]; exact hzb)
      have e5 : eqvD st (.str [x]) (.str [48]) = some ([x] == [48]) := eqv_str st _ _ sx (by decide +kernel)
      simp [exSs, exS, evE, evEs, evT, evC, evI, eqv_int, eqv_bl, eqv_pair, sizeLine_eq, L2.atI, L2.ixN, l_read_whole_0i, a0, e5, e4]
      by_cases hx : x = 48
      · subst hx
        cases hh : t == [48] <;> simp [exSs, exS, evE, evEs, evT, evC, evI, eqv_int, eqv_bl, eqv_pair, sizeLine_eq, L2.atI, L2.ixN, hh, bne]
      · simp [exSs, exS, evE, evEs, evT, evC, evI, eqv_int, eqv_bl, eqv_pair, sizeLine_eq, L2.atI, L2.ixN, hx]
  simp only [f_read_whole, b_read_whole, show startE 3 [D.str t] = [some (.str t), none, none] from rfl, show P.cs = cs from rfl, exSs, exS, q1, out_ok, sq_nx, Bool.false_eq_true, if_false, q2, nxO_some', setT_nm, List.set_cons_succ, List.set_cons_zero, q3]
  by_cases c1 : (bodyT t).isEmpty = true
  · have k0 : okW t = false := by simp [exSs, exS, evE, evEs, evT, evC, evI, eqv_int, eqv_bl, eqv_pair, sizeLine_eq, L2.atI, L2.ixN, okW, c1]
    simp [exSs, exS, evE, evEs, evT, evC, evI, eqv_int, eqv_bl, eqv_pair, sizeLine_eq, L2.atI, L2.ixN, c1, k0, cs, numOk0, zipF, noText]
  · have c1 : (bodyT t).isEmpty = false := by simpa [exSs, exS, evE, evEs, evT, evC, evI, eqv_int, eqv_bl, eqv_pair, sizeLine_eq, L2.atI, L2.ixN] using c1
    by_cases c3 : (bodyT t).all isDig = true
    · have q5 := q4 c1 c3
      simp only [c1, c3, Bool.not_true, Bool.or_false, Bool.false_eq_true, if_false, sq_nx, q5, out_ok]
      cases hh : ((bodyT t).head? == some 48 && t != [48]) with
      | true =>
        have k0 : okW t = false := by simp only [okW, hh]; simp [exSs, exS, evE, evEs, evT, evC, evI, eqv_int, eqv_bl, eqv_pair, sizeLine_eq, L2.atI, L2.ixN]
        simp [exSs, exS, evE, evEs, evT, evC, evI, eqv_int, eqv_bl, eqv_pair, sizeLine_eq, L2.atI, L2.ixN, k0, cs, numOk0, zipF, noText]
      | false =>
        have k0 : okW t = true := by simp only [okW, hh, c1, c3]; simp [exSs, exS, evE, evEs, evT, evC, evI, eqv_int, eqv_bl, eqv_pair, sizeLine_eq, L2.atI, L2.ixN]
        have iv : intD (.str t) = some (.int (valT t)) := by
          simp only [intD]
          rw [if_pos hl, intText_at hl c1 c3]
          rfl
        simp [exSs, exS, evE, evEs, evT, evC, evI, eqv_int, eqv_bl, eqv_pair, sizeLine_eq, L2.atI, L2.ixN, k0, iv]
    · have c3 : (bodyT t).all isDig = false := by simpa [exSs, exS, evE, evEs, evT, evC, evI, eqv_int, eqv_bl, eqv_pair, sizeLine_eq, L2.atI, L2.ixN] using c3
      have k0 : okW t = false := by simp only [okW, c3]; simp [exSs, exS, evE, evEs, evT, evC, evI, eqv_int, eqv_bl, eqv_pair, sizeLine_eq, L2.atI, L2.ixN]
      simp [exSs, exS, evE, evEs, evT, evC, evI, eqv_int, eqv_bl, eqv_pair, sizeLine_eq, L2.atI, L2.ixN, c1, c3, k0, cs, numOk0, zipF, noText]
/-! the law's own look at a text -/
def digT (t : Chs) : Bool := !t.isEmpty && t.all isDig && (t == [48] || t.head? != some 48)
theorem digits_is (k : Nat) (st : Sto) (t : Chs) (hl : t.length ≤ 640) (hs : sOk t) : callF P (k + 1) 23 [.str t] st = .ok (.bl (digT t)) st := by
  rw [callF_at (fn := f__law_digits) rfl rfl]
  have hz : t.length ≤ sizeLine := by rw [sizeLine_eq]; omega
  have e4 : eqvD st (.str t) (.str [48]) = some (t == [48]) := eqv_str st _ _ hs (by decide +kernel)
  have e0 : eqvD st (.str t) (.str []) = some (t == []) := eqv_str st _ _ hs (by decide +kernel)
  have sg : evE (callF P k) l__law_digits_0q [some (.str t), none] st = .ok (.lst ((t.map isDig).map .bl)) st := signs_in _ 1 0 _ st t l__law_digits_0e rfl (by simp [exSs, exS, evE, evEs, evT, evC, evI, eqv_int, eqv_bl, eqv_pair, sizeLine_eq, L2.atI, L2.ixN]) (by simp [exSs, exS, evE, evEs, evT, evC, evI, eqv_int, eqv_bl, eqv_pair, sizeLine_eq, L2.atI, L2.ixN]) (by omega)
  have bm : bools (List.map (D.bl ∘ isDig) t) = some (t.map isDig) := by
    rw [← List.map_map]
    exact bools_map _
  cases q : t with
  | nil =>
    subst q
    simp [exSs, exS, evE, evEs, evT, evC, evI, eqv_int, eqv_bl, eqv_pair, sizeLine_eq, L2.atI, L2.ixN, f__law_digits, b__law_digits, startE, e0, digT]
  | cons x l =>
    rw [← q]
    have ne : (t == []) = false := by rw [q]; rfl
    have c1 : t.isEmpty = false := by rw [q]; rfl
    by_cases c3 : t.all isDig = true
    · have xd : isDig x = true := by
        rw [q] at c3
        simp only [List.all_cons, Bool.and_eq_true] at c3
        exact c3.1
      have sx : sOk [x] := by
        have := (isDig_iff x).mp xd
        show (⟨[x].toArray⟩ : Str).cps.all (· < 0x110000) = true
        simp [exSs, exS, evE, evEs, evT, evC, evI, eqv_int, eqv_bl, eqv_pair, sizeLine_eq, L2.atI, L2.ixN]
        omega
      have a0 : atD st (.str t) 0 = some (.str [x]) := by
        rw [at_str (st := st) 0 hz, q]
        simp [exSs, exS, evE, evEs, evT, evC, evI, eqv_int, eqv_bl, eqv_pair, sizeLine_eq, L2.atI, L2.ixN]
      have e5 : eqvD st (.str [x]) (.str [48]) = some ([x] == [48]) := eqv_str st _ _ sx (by decide +kernel)
      have hd : t.head? = some x := by rw [q]; rfl
      by_cases h48 : t = [48]
      · have : (t == [48]) = true := by simpa [exSs, exS, evE, evEs, evT, evC, evI, eqv_int, eqv_bl, eqv_pair, sizeLine_eq, L2.atI, L2.ixN] using h48
        simp [exSs, exS, evE, evEs, evT, evC, evI, eqv_int, eqv_bl, eqv_pair, sizeLine_eq, L2.atI, L2.ixN, f__law_digits, b__law_digits, startE, e0, ne, sg, bm, c3, e4, this, digT, c1]
      · have h48' : (t == [48]) = false := by simpa [exSs, exS, evE, evEs, evT, evC, evI, eqv_int, eqv_bl, eqv_pair, sizeLine_eq, L2.atI, L2.ixN] using h48
        simp [exSs, exS, evE, evEs, evT, evC, evI, eqv_int, eqv_bl, eqv_pair, sizeLine_eq, L2.atI, L2.ixN, f__law_digits, b__law_digits, startE, e0, ne, sg, bm, c3, e4, h48', digT, c1, a0, e5, hd]
        by_cases hx : x = 48
        · subst hx
          rfl
        · simp [exSs, exS, evE, evEs, evT, evC, evI, eqv_int, eqv_bl, eqv_pair, sizeLine_eq, L2.atI, L2.ixN, hx, bne]
    · have c3 : t.all isDig = false := by simpa [exSs, exS, evE, evEs, evT, evC, evI, eqv_int, eqv_bl, eqv_pair, sizeLine_eq, L2.atI, L2.ixN] using c3
      simp [exSs, exS, evE, evEs, evT, evC, evI, eqv_int, eqv_bl, eqv_pair, sizeLine_eq, L2.atI, L2.ixN, f__law_digits, b__law_digits, startE, e0, ne, sg, bm, c3, digT, c1]
def goodW (t : Chs) : Bool := t != [45, 48] && digT (bodyT t)
theorem goodW_eq (t : Chs) : goodW t = okW t := by
  unfold goodW okW digT bodyT
  by_cases h : t.take 1 = [45]
  · rw [if_pos h]
    cases t with
    | nil => cases h
    | cons c r =>
      simp [exSs, exS, evE, evEs, evT, evC, evI, eqv_int, eqv_bl, eqv_pair, sizeLine_eq, L2.atI, L2.ixN] at h
      subst h
      cases r with
      | nil => rfl
      | cons x l =>
        by_cases hx : x = 48
        · subst hx
          cases l <;> simp [exSs, exS, evE, evEs, evT, evC, evI, eqv_int, eqv_bl, eqv_pair, sizeLine_eq, L2.atI, L2.ixN, isDig]
        · have e1 : (x == 48) = false := by simpa [exSs, exS, evE, evEs, evT, evC, evI, eqv_int, eqv_bl, eqv_pair, sizeLine_eq, L2.atI, L2.ixN] using hx
          simp [exSs, exS, evE, evEs, evT, evC, evI, eqv_int, eqv_bl, eqv_pair, sizeLine_eq, L2.atI, L2.ixN, bne, e1]
  · rw [if_neg h]
    cases t with
    | nil => rfl
    | cons c r =>
      have hc : c ≠ 45 := by simpa [exSs, exS, evE, evEs, evT, evC, evI, eqv_int, eqv_bl, eqv_pair, sizeLine_eq, L2.atI, L2.ixN] using h
      by_cases hx : c = 48
      · subst hx
        cases r <;> simp [exSs, exS, evE, evEs, evT, evC, evI, eqv_int, eqv_bl, eqv_pair, sizeLine_eq, L2.atI, L2.ixN, isDig]
      · have e1 : (c == 48) = false := by simpa [exSs, exS, evE, evEs, evT, evC, evI, eqv_int, eqv_bl, eqv_pair, sizeLine_eq, L2.atI, L2.ixN] using hx
        have e2 : (c == 45) = false := by simpa [exSs, exS, evE, evEs, evT, evC, evI, eqv_int, eqv_bl, eqv_pair, sizeLine_eq, L2.atI, L2.ixN] using hc
        simp [exSs, exS, evE, evEs, evT, evC, evI, eqv_int, eqv_bl, eqv_pair, sizeLine_eq, L2.atI, L2.ixN, bne, e1, e2]
end K09
end
section
set_option linter.all false
set_option autoImplicit false
set_option maxRecDepth 100000
set_option maxHeartbeats 1000000
namespace K09
open PySem Mini
theorem good_whole_is (k : Nat) (st : Sto) (t : Chs) (hl : t.length ≤ 640) (hs : sOk t) : callF P (k + 2) 24 [.str t] st = .ok (.bl (okW t)) st := by
  rw [callF_at (fn := f__law_good_whole) rfl rfl, ← goodW_eq]
  have hz : t.length ≤ sizeLine := by rw [sizeLine_eq]; omega
  have lb := bodyT_le t
  have e1 := sl_str (st := st) (s := t) none (some 1) hz
  have e2 := sl_str (st := st) (s := t) (some 1) none hz
  rw [cut01] at e1
  rw [cut10, List.drop_one] at e2
  have e3 : eqvD st (.str (t.take 1)) (.str [45]) = some (t.take 1 == [45]) := eqv_str st _ _ (sOk_sub hs fun c hc => List.mem_of_mem_take hc) (by decide +kernel)
  have e4 : eqvD st (.str t) (.str [45, 48]) = some (t == [45, 48]) := eqv_str st _ _ hs (by decide +kernel)
  have ht : sOk t.tail := sOk_sub hs fun c hc => List.mem_of_mem_tail hc
  have hlt : t.tail.length ≤ 640 := by
    rw [List.length_tail]
    omega
  have d1 := digits_is k st t hl hs
  have d2 := digits_is k st t.tail hlt ht
  cases h0 : t == [45, 48] with
  | true => simp [exSs, exS, evE, evEs, evT, evC, evI, eqv_int, eqv_bl, eqv_pair, sizeLine_eq, L2.atI, L2.ixN, f__law_good_whole, b__law_good_whole, startE, isiD, isK, kindD, e4, h0, goodW, bne]
  | false =>
    by_cases h : t.take 1 = [45]
    · rw [h] at e3 e1
      simp [exSs, exS, evE, evEs, evT, evC, evI, eqv_int, eqv_bl, eqv_pair, sizeLine_eq, L2.atI, L2.ixN, f__law_good_whole, b__law_good_whole, startE, isiD, isK, kindD, e4, h0, goodW, bne, e1, e3, h, e2, d2, bodyT]
    · have h' : (t.take 1 == [45]) = false := by simpa [exSs, exS, evE, evEs, evT, evC, evI, eqv_int, eqv_bl, eqv_pair, sizeLine_eq, L2.atI, L2.ixN] using h
      simp [exSs, exS, evE, evEs, evT, evC, evI, eqv_int, eqv_bl, eqv_pair, sizeLine_eq, L2.atI, L2.ixN, f__law_good_whole, b__law_good_whole, startE, isiD, isK, kindD, e4, h0, goodW, bne, e1, e3, h, h', d1, bodyT]
theorem good_whole_no (k : Nat) (st : Sto) (d : Mini.D) (h : d = .non ∨ ∃ i, d = .int i) : callF P (k + 2) 24 [d] st = .ok (.bl false) st := by
  rw [callF_at (fn := f__law_good_whole) rfl rfl]
  rcases h with rfl | ⟨i, rfl⟩ <;> simp [exSs, exS, evE, evEs, evT, evC, evI, eqv_int, eqv_bl, eqv_pair, sizeLine_eq, L2.atI, L2.ixN, f__law_good_whole, b__law_good_whole, startE, isiD, isK, kindD]
/-! at a bar -/
theorem part_no {t : Chs} (h : 47 ∉ t) : partC t [47] = (t, [], []) := by
  have e := TL.partition_none (y := ⟨#[47]⟩) (s := 47) (S := []) rfl (a := ⟨t.toArray⟩) (by simpa [exSs, exS, evE, evEs, evT, evC, evI, eqv_int, eqv_bl, eqv_pair, sizeLine_eq, L2.atI, L2.ixN, TL.tl] using h)
  unfold partC
  have z : (⟨[47].toArray⟩ : Str) = ⟨#[47]⟩ := rfl
  rw [z, e]
  simp [exSs, exS, evE, evEs, evT, evC, evI, eqv_int, eqv_bl, eqv_pair, sizeLine_eq, L2.atI, L2.ixN, Str.empty]
theorem part_yes {p r : Chs} (h : 47 ∉ p) : partC (p ++ 47 :: r) [47] = (p, [47], r) := by
  have e := TL.partition_app (y := ⟨#[47]⟩) (s := 47) (S := []) rfl (a := ⟨p.toArray⟩) (b := ⟨r.toArray⟩) (by simpa [exSs, exS, evE, evEs, evT, evC, evI, eqv_int, eqv_bl, eqv_pair, sizeLine_eq, L2.atI, L2.ixN, TL.tl] using h)
  unfold partC
  have z : (⟨[47].toArray⟩ : Str) = ⟨#[47]⟩ := rfl
  have z2 : (⟨(p ++ 47 :: r).toArray⟩ : Str) = ⟨p.toArray⟩ ++ ⟨#[47]⟩ ++ ⟨r.toArray⟩ := by
    rw [show (⟨#[47]⟩ : Str) = ⟨[47].toArray⟩ from rfl, str_app, str_app]
    simp [exSs, exS, evE, evEs, evT, evC, evI, eqv_int, eqv_bl, eqv_pair, sizeLine_eq, L2.atI, L2.ixN]
  rw [z, z2, e]
theorem split_is (t : Chs) : splitC t [47] = TL.spl [47] 0 [] t := by
  have e := TL.split_spl ⟨t.toArray⟩ ⟨#[47]⟩ (by simp [exSs, exS, evE, evEs, evT, evC, evI, eqv_int, eqv_bl, eqv_pair, sizeLine_eq, L2.atI, L2.ixN, TL.tl]) (TL.kind_ok (by decide +kernel))
  have z2 : TL.tl ⟨t.toArray⟩ = t := TL.tl_mk t
  rw [z2] at e
  exact e
theorem split_no {t : Chs} (h : 47 ∉ t) : splitC t [47] = [t] := by
  rw [split_is, TL.spl_last1 h]
  rfl
theorem split_yes {p r : Chs} (h : 47 ∉ p) : splitC (p ++ 47 :: r) [47] = p :: splitC r [47] := by
  rw [split_is, split_is]
  have e := TL.spl_part1 (s := 47) (S := []) (p := p) (rest := r) (acc := []) h
  simpa [exSs, exS, evE, evEs, evT, evC, evI, eqv_int, eqv_bl, eqv_pair, sizeLine_eq, L2.atI, L2.ixN] using e
theorem first47 : ∀ {t : Chs}, 47 ∈ t → ∃ p r, t = p ++ 47 :: r ∧ 47 ∉ p
  | c :: t, h => by
    by_cases e : c = 47
    · subst e
      exact ⟨[], t, rfl, by simp [exSs, exS, evE, evEs, evT, evC, evI, eqv_int, eqv_bl, eqv_pair, sizeLine_eq, L2.atI, L2.ixN]⟩
    · have h2 : 47 ∈ t := (List.mem_cons.mp h).resolve_left (Ne.symm e)
      obtain ⟨p, r, e2, h3⟩ := first47 h2
      refine ⟨c :: p, r, by rw [e2]; rfl, fun z => ?_⟩
      rcases List.mem_cons.mp z with z | z
      · exact e z.symm
      · exact h3 z
theorem split_ne (t : Chs) : ∃ a l, splitC t [47] = a :: l := by
  by_cases h : 47 ∈ t
  · obtain ⟨p, r, e, hp⟩ := first47 h
    exact ⟨p, splitC r [47], by rw [e, split_yes hp]⟩
  · exact ⟨t, [], split_no h⟩
theorem split_two {r : Chs} (h : 47 ∈ r) : ∃ a b l, splitC r [47] = a :: b :: l := by
  obtain ⟨p, q, e, hp⟩ := first47 h
  obtain ⟨a, l, e2⟩ := split_ne q
  exact ⟨p, a, l, by rw [e, split_yes hp, e2]⟩
/-! the numbers that digits tell -/
theorem fold_lt : ∀ (cs : List Nat) (a : Nat), NumText.AllDigits cs → cs.foldl (fun acc c => acc * 10 + (c - 48)) a < (a + 1) * 10 ^ cs.length
  | [], a, _ => by simp [exSs, exS, evE, evEs, evT, evC, evI, eqv_int, eqv_bl, eqv_pair, sizeLine_eq, L2.atI, L2.ixN]
  | c :: cs, a, h => by
    have hc := h.head
    have := fold_lt cs (a * 10 + (c - 48)) h.tail
    rw [List.foldl_cons, List.length_cons, Nat.pow_succ]
    have z : a * 10 + (c - 48) + 1 ≤ (a + 1) * 10 := by omega
    calc _ < (a * 10 + (c - 48) + 1) * 10 ^ cs.length := this
      _ ≤ ((a + 1) * 10) * 10 ^ cs.length := Nat.mul_le_mul_right _ z
      _ = _ := by rw [Nat.mul_assoc, Nat.mul_comm 10]
theorem digitsVal_lt {cs : List Nat} (h : NumText.AllDigits cs) : NumText.digitsVal cs < 10 ^ cs.length := by
  have := fold_lt cs 0 h
  unfold NumText.digitsVal
  omega
theorem pow_10_2 (n : Nat) : 10 ^ n ≤ 2 ^ (4 * n) := by
  rw [Nat.pow_mul]
  exact Nat.pow_le_pow_left (by decide) n
theorem valT_lt {t : Chs} (h : (bodyT t).all isDig = true) (hl : t.length ≤ 640) : (valT t).natAbs < 2 ^ 2560 := by
  have key : ∀ b : Chs, b.all isDig = true → b.length ≤ 640 → NumText.digitsVal b < 2 ^ 2560 := fun b hb hl => by
    have h1 := digitsVal_lt (allDigits_of hb)
    have h2 : (10 : Nat) ^ b.length ≤ 10 ^ 640 := Nat.pow_le_pow_right (by decide) hl
    have h3 := pow_10_2 640
    omega
  unfold bodyT at h
  unfold valT
  split at h
  · rename_i h0
    rw [if_pos h0, Int.natAbs_neg, Int.natAbs_natCast]
    exact key _ h (by rw [List.length_drop]; omega)
  · rename_i h0
    rw [if_neg h0, Int.natAbs_natCast]
    exact key _ h hl
/-- the lower number of a fraction's text -/
def lowT (r : Chs) : Bool := okW r && decide (0 < valT r) && !decide (valT r = 1)
theorem lowT_eq (r : Chs) : lowT r = (digT r && r != [48] && r != [49]) := by
  unfold lowT okW bodyT valT
  by_cases h : r.take 1 = [45]
  · have hd : digT r = false := by
      cases r with
      | nil => cases h
      | cons c l =>
        simp [exSs, exS, evE, evEs, evT, evC, evI, eqv_int, eqv_bl, eqv_pair, sizeLine_eq, L2.atI, L2.ixN] at h
        subst h
        simp [exSs, exS, evE, evEs, evT, evC, evI, eqv_int, eqv_bl, eqv_pair, sizeLine_eq, L2.atI, L2.ixN, digT, isDig, dig]
    rw [if_pos h, if_pos h, hd]
    have z : decide ((0 : Int) < -((NumText.digitsVal (r.drop 1) : Nat) : Int)) = false := decide_eq_false (by omega)
    rw [z]
    simp only [Bool.and_false, Bool.false_and]
  · rw [if_neg h, if_neg h]
    cases r with
    | nil => rfl
    | cons c l =>
      by_cases hc : c = 48
      · subst hc
        cases l with
        | nil => simp [exSs, exS, evE, evEs, evT, evC, evI, eqv_int, eqv_bl, eqv_pair, sizeLine_eq, L2.atI, L2.ixN, digT, NumText.digitsVal]
        | cons d l => simp [exSs, exS, evE, evEs, evT, evC, evI, eqv_int, eqv_bl, eqv_pair, sizeLine_eq, L2.atI, L2.ixN, digT, isDig, bne]
      · have e1 : (c == 48) = false := by simpa [exSs, exS, evE, evEs, evT, evC, evI, eqv_int, eqv_bl, eqv_pair, sizeLine_eq, L2.atI, L2.ixN] using hc
        by_cases ha : (c :: l).all isDig = true
        · have had := allDigits_of ha
          have hh := had.head
          have hp : 0 < NumText.digitsVal (c :: l) := NumText.digitsVal_pos (by omega)
          have hp' : (0 : Int) < ((NumText.digitsVal (c :: l) : Nat) : Int) := by omega
          have one : (((NumText.digitsVal (c :: l) : Nat) : Int) = 1) ↔ c :: l = [49] := by
            constructor
            · intro e
              cases l with
              | nil =>
                have e3 : NumText.digitsVal [c] = c - 48 := by
                  show 0 * 10 + (c - 48) = c - 48
                  omega
                rw [e3] at e
                have : c = 49 := by omega
                rw [this]
              | cons d l =>
                exfalso
                have := NumText.foldl_ge l ((0 * 10 + (c - 48)) * 10 + (d - 48))
                have z : NumText.digitsVal (c :: d :: l) = l.foldl (fun acc c => acc * 10 + (c - 48)) ((0 * 10 + (c - 48)) * 10 + (d - 48)) := rfl
                rw [z] at e
                omega
            · intro e
              rw [e]
              rfl
          have d2 : decide (((NumText.digitsVal (c :: l) : Nat) : Int) = 1) = (c :: l == [49]) := by
            by_cases q : c :: l = [49]
            · rw [decide_eq_true (one.mpr q), q]
              rfl
            · rw [decide_eq_false (fun e => q (one.mp e))]
              have z : (c :: l == [49]) = false := by simpa [exSs, exS, evE, evEs, evT, evC, evI, eqv_int, eqv_bl, eqv_pair, sizeLine_eq, L2.atI, L2.ixN] using q
              rw [z]
          rw [d2]
          simp only [digT, ha, e1, hp', bne]
          simp [exSs, exS, evE, evEs, evT, evC, evI, eqv_int, eqv_bl, eqv_pair, sizeLine_eq, L2.atI, L2.ixN, hc, e1]
        · have ha : (c :: l).all isDig = false := by simpa [exSs, exS, evE, evEs, evT, evC, evI, eqv_int, eqv_bl, eqv_pair, sizeLine_eq, L2.atI, L2.ixN] using ha
          simp only [digT, ha]
          simp [exSs, exS, evE, evEs, evT, evC, evI, eqv_int, eqv_bl, eqv_pair, sizeLine_eq, L2.atI, L2.ixN]
end K09
end
section
set_option linter.all false
set_option autoImplicit false
set_option maxRecDepth 100000
set_option maxHeartbeats 1000000
namespace K09
open PySem Mini
theorem eqv_str' (st : Sto) (a b : Chs) (ha : sOk a) (hb : sOk b) : eqvD st (.str a) (.str b) = some (decide (a = b)) := by
  rw [eqv_str st a b ha hb]
  congr 1
  by_cases h : a = b
  · simp [exSs, exS, evE, evEs, evT, evC, evI, eqv_int, eqv_bl, eqv_pair, sizeLine_eq, L2.atI, L2.ixN, h]
  · simp [exSs, exS, evE, evEs, evT, evC, evI, eqv_int, eqv_bl, eqv_pair, sizeLine_eq, L2.atI, L2.ixN, h]
theorem empty_ne (st : Sto) : eqvD st (.str []) (.str []) = some true := by
  rw [eqv_str st [] [] (by decide +kernel) (by decide +kernel)]
  rfl
theorem bar_ne (st : Sto) : eqvD st (.str [47]) (.str []) = some false := by
  rw [eqv_str st [47] [] (by decide +kernel) (by decide +kernel)]
  rfl
theorem gcd_one (n : Int) : Int.gcd n 1 = 1 := by simp [exSs, exS, evE, evEs, evT, evC, evI, eqv_int, eqv_bl, eqv_pair, sizeLine_eq, L2.atI, L2.ixN]
theorem read_no (k : Nat) (st : Sto) (t : Chs) (hl : t.length ≤ 640) (hs : sOk t) (h : 47 ∉ t) : callF P (k + 3) 15 [.str t] st = if okW t = true then .ok (pD (valT t, 1)) st else .exc noText st := by
  rw [callF_at (fn := f_read_ratio) rfl rfl]
  have hz : t.length ≤ 16777216 := by omega
  have rw1 := read_whole_is (k + 1) st t hl hs
  have ir := is_ratio_is k st (valT t) 1
  unfold pD at ir
  cases q : okW t with
  | true =>
    rw [q] at rw1
    simp [exSs, exS, evE, evEs, evT, evC, evI, eqv_int, eqv_bl, eqv_pair, sizeLine_eq, L2.atI, L2.ixN, f_read_ratio, b_read_ratio, l_read_ratio_0i, l_read_ratio_1i, startE, isiD, isK, kindD, rcv, hz, part_no h, rw1, empty_ne, ir, pD]
  | false =>
    rw [q] at rw1
    simp [exSs, exS, evE, evEs, evT, evC, evI, eqv_int, eqv_bl, eqv_pair, sizeLine_eq, L2.atI, L2.ixN, f_read_ratio, b_read_ratio, l_read_ratio_0i, l_read_ratio_1i, startE, isiD, isK, kindD, rcv, hz, part_no h, rw1, empty_ne]
theorem read_yes (k : Nat) (st : Sto) (p r : Chs) (hl : (p ++ 47 :: r).length ≤ 640) (hs : sOk (p ++ 47 :: r)) (h : 47 ∉ p) :
    callF P (k + 3) 15 [.str (p ++ 47 :: r)] st = if (okW p && lowT r && decide (Int.gcd (valT p) (valT r) = 1)) = true then .ok (pD (valT p, valT r)) st else .exc noText st := by
  rw [callF_at (fn := f_read_ratio) rfl rfl]
  have hz : (p ++ 47 :: r).length ≤ 16777216 := by omega
  have hz2 : p.length + (r.length + 1) ≤ 16777216 := by
    simp only [List.length_append, List.length_cons] at hz
    omega
  have lp : p.length ≤ 640 := by
    simp only [List.length_append, List.length_cons] at hl
    omega
  have lr : r.length ≤ 640 := by
    simp only [List.length_append, List.length_cons] at hl
    omega
  have sp : sOk p := sOk_sub hs fun c hc => List.mem_append_left _ hc
  have sr : sOk r := sOk_sub hs fun c hc => List.mem_append_right _ (List.mem_cons_of_mem _ hc)
  have rw1 := read_whole_is (k + 1) st p lp sp
  have rw2 := read_whole_is (k + 1) st r lr sr
  have ir := is_ratio_is k st (valT p) (valT r)
  unfold pD at ir
  unfold lowT
  cases q : okW p with
  | false =>
    rw [q] at rw1
    simp [exSs, exS, evE, evEs, evT, evC, evI, eqv_int, eqv_bl, eqv_pair, sizeLine_eq, L2.atI, L2.ixN, f_read_ratio, b_read_ratio, l_read_ratio_0i, l_read_ratio_1i, startE, isiD, isK, kindD, rcv, hz2, part_yes h, rw1, bar_ne]
  | true =>
    rw [q] at rw1
    cases q2 : okW r with
    | false =>
      rw [q2] at rw2
      simp [exSs, exS, evE, evEs, evT, evC, evI, eqv_int, eqv_bl, eqv_pair, sizeLine_eq, L2.atI, L2.ixN, f_read_ratio, b_read_ratio, l_read_ratio_0i, l_read_ratio_1i, startE, isiD, isK, kindD, rcv, hz2, part_yes h, rw1, rw2, bar_ne]
    | true =>
      rw [q2] at rw2
      by_cases c1 : 0 < valT r
      · by_cases c2 : Int.gcd (valT p) (valT r) = 1
        · by_cases c3 : valT r = 1
          · have c4 : (valT r == 1) = true := by simpa [exSs, exS, evE, evEs, evT, evC, evI, eqv_int, eqv_bl, eqv_pair, sizeLine_eq, L2.atI, L2.ixN] using c3
            rw [c3] at ir
            simp [exSs, exS, evE, evEs, evT, evC, evI, eqv_int, eqv_bl, eqv_pair, sizeLine_eq, L2.atI, L2.ixN, f_read_ratio, b_read_ratio, l_read_ratio_0i, l_read_ratio_1i, startE, isiD, isK, kindD, rcv, hz2, part_yes h, rw1, rw2, bar_ne, ir, c1, c2, c3, c4, pD, show P.cs = cs from rfl, cs, numOk0, zipF, noText]
          · have c4 : (valT r == 1) = false := by simpa [exSs, exS, evE, evEs, evT, evC, evI, eqv_int, eqv_bl, eqv_pair, sizeLine_eq, L2.atI, L2.ixN] using c3
            simp [exSs, exS, evE, evEs, evT, evC, evI, eqv_int, eqv_bl, eqv_pair, sizeLine_eq, L2.atI, L2.ixN, f_read_ratio, b_read_ratio, l_read_ratio_0i, l_read_ratio_1i, startE, isiD, isK, kindD, rcv, hz2, part_yes h, rw1, rw2, bar_ne, ir, c1, c2, c3, c4, pD]
        · simp [exSs, exS, evE, evEs, evT, evC, evI, eqv_int, eqv_bl, eqv_pair, sizeLine_eq, L2.atI, L2.ixN, f_read_ratio, b_read_ratio, l_read_ratio_0i, l_read_ratio_1i, startE, isiD, isK, kindD, rcv, hz2, part_yes h, rw1, rw2, bar_ne, ir, c1, c2, pD, show P.cs = cs from rfl, cs, numOk0, zipF, noText]
      · simp [exSs, exS, evE, evEs, evT, evC, evI, eqv_int, eqv_bl, eqv_pair, sizeLine_eq, L2.atI, L2.ixN, f_read_ratio, b_read_ratio, l_read_ratio_0i, l_read_ratio_1i, startE, isiD, isK, kindD, rcv, hz2, part_yes h, rw1, rw2, bar_ne, ir, c1, pD, show P.cs = cs from rfl, cs, numOk0, zipF, noText]

theorem intD_is {t : Chs} (hl : t.length ≤ 640) (h : okW t = true) : intD (.str t) = some (.int (valT t)) := by
  unfold okW at h
  simp only [Bool.and_eq_true, Bool.not_eq_true'] at h
  simp only [intD]
  rw [if_pos hl, intText_at hl h.1.1 h.1.2]
  rfl
theorem valT_of {t : Chs} (hl : t.length ≤ 640) (h : okW t = true) : (valT t).natAbs < 2 ^ 2560 := by
  unfold okW at h
  simp only [Bool.and_eq_true, Bool.not_eq_true'] at h
  exact valT_lt h.1.2 hl
theorem good_no (k : Nat) (st : Sto) (t : Chs) (hl : t.length ≤ 640) (hs : sOk t) (h : 47 ∉ t) : callF P (k + 3) 25 [.str t] st = .ok (.bl (okW t)) st := by
  rw [callF_at (fn := f__law_good_ratio) rfl rfl]
  have hz : t.length + 2 ≤ 16777216 := by omega
  have g := good_whole_is k st t hl hs
  simp [exSs, exS, evE, evEs, evT, evC, evI, eqv_int, eqv_bl, eqv_pair, sizeLine_eq, L2.atI, L2.ixN, f__law_good_ratio, b__law_good_ratio, l__law_good_ratio_1i, l__law_good_ratio_2i, startE, isiD, isK, kindD, rcv, hz, split_no h, g]
theorem okW_bar {r : Chs} (h : 47 ∈ r) : okW r = false := by
  have z : (bodyT r).all isDig = false := by
    rw [List.all_eq_false]
    refine ⟨47, ?_, by decide⟩
    unfold bodyT
    split
    · rename_i e
      cases r with
      | nil => cases h
      | cons c l =>
        simp [exSs, exS, evE, evEs, evT, evC, evI, eqv_int, eqv_bl, eqv_pair, sizeLine_eq, L2.atI, L2.ixN] at e
        subst e
        simpa [exSs, exS, evE, evEs, evT, evC, evI, eqv_int, eqv_bl, eqv_pair, sizeLine_eq, L2.atI, L2.ixN] using h
    · exact h
  simp [exSs, exS, evE, evEs, evT, evC, evI, eqv_int, eqv_bl, eqv_pair, sizeLine_eq, L2.atI, L2.ixN, okW, z]
theorem in01 (st : Sto) (r : Chs) : inD st (.str r) (.lst [.str [48], .str [49]]) = some (r == [48] || r == [49]) := by
  have e : ∀ a b : Chs, eqD (.str a) (.str b) = (a == b) := fun a b => rfl
  have c : ∀ a b : Chs, (a == b) = (b == a) := fun a b => by
    by_cases h : a = b
    · subst h
      rfl
    · have h1 : (a == b) = false := by simpa [exSs, exS, evE, evEs, evT, evC, evI, eqv_int, eqv_bl, eqv_pair, sizeLine_eq, L2.atI, L2.ixN] using h
      have h2 : (b == a) = false := by simpa [exSs, exS, evE, evEs, evT, evC, evI, eqv_int, eqv_bl, eqv_pair, sizeLine_eq, L2.atI, L2.ixN] using Ne.symm h
      rw [h1, h2]
  simp only [inD, listOf_lst]
  rw [if_pos (by simp [exSs, exS, evE, evEs, evT, evC, evI, eqv_int, eqv_bl, eqv_pair, sizeLine_eq, L2.atI, L2.ixN, flatD])]
  simp only [List.any_cons, List.any_nil, e, Bool.or_false]
  rw [c [48] r, c [49] r]
theorem good_yes (k : Nat) (st : Sto) (p r : Chs) (hl : (p ++ 47 :: r).length ≤ 640) (hs : sOk (p ++ 47 :: r)) (h : 47 ∉ p) :
    callF P (k + 3) 25 [.str (p ++ 47 :: r)] st = .ok (.bl (okW p && lowT r && decide (Int.gcd (valT p) (valT r) = 1))) st := by
  rw [callF_at (fn := f__law_good_ratio) rfl rfl]
  have hz2 : p.length + (r.length + 1) + 2 ≤ 16777216 := by
    simp only [List.length_append, List.length_cons] at hl
    omega
  have lp : p.length ≤ 640 := by
    simp only [List.length_append, List.length_cons] at hl
    omega
  have lr : r.length ≤ 640 := by
    simp only [List.length_append, List.length_cons] at hl
    omega
  have sp : sOk p := sOk_sub hs fun c hc => List.mem_append_left _ hc
  have sr : sOk r := sOk_sub hs fun c hc => List.mem_append_right _ (List.mem_cons_of_mem _ hc)
  by_cases hr : 47 ∈ r
  · obtain ⟨a, b, l, e⟩ := split_two hr
    have z : lowT r = false := by simp [exSs, exS, evE, evEs, evT, evC, evI, eqv_int, eqv_bl, eqv_pair, sizeLine_eq, L2.atI, L2.ixN, lowT, okW_bar hr]
    have n1 : ¬ ((l.length : Int) + 1 + 1 + 1 = 1) := by omega
    have n2 : ¬ ((l.length : Int) + 1 + 1 + 1 = 2) := by omega
    have n1' : (((l.length : Int) + 1 + 1 + 1) == 1) = false := by simpa [exSs, exS, evE, evEs, evT, evC, evI, eqv_int, eqv_bl, eqv_pair, sizeLine_eq, L2.atI, L2.ixN] using n1
    have n2' : (((l.length : Int) + 1 + 1 + 1) == 2) = false := by simpa [exSs, exS, evE, evEs, evT, evC, evI, eqv_int, eqv_bl, eqv_pair, sizeLine_eq, L2.atI, L2.ixN] using n2
    simp [exSs, exS, evE, evEs, evT, evC, evI, eqv_int, eqv_bl, eqv_pair, sizeLine_eq, L2.atI, L2.ixN, f__law_good_ratio, b__law_good_ratio, l__law_good_ratio_0i, l__law_good_ratio_1i, l__law_good_ratio_2i, startE, isiD, isK, kindD, rcv, hz2, split_yes h, e, n1, n2, n1', n2', z]
  · have g := good_whole_is k st p lp sp
    have d := digits_is (k + 1) st r lr sr
    cases q : okW p with
    | false =>
      rw [q] at g
      simp [exSs, exS, evE, evEs, evT, evC, evI, eqv_int, eqv_bl, eqv_pair, sizeLine_eq, L2.atI, L2.ixN, f__law_good_ratio, b__law_good_ratio, l__law_good_ratio_0i, l__law_good_ratio_1i, l__law_good_ratio_2i, startE, isiD, isK, kindD, rcv, hz2, split_yes h, split_no hr, g]
    | true =>
      rw [q] at g
      rw [lowT_eq]
      cases q1 : digT r with
      | false =>
        rw [q1] at d
        simp [exSs, exS, evE, evEs, evT, evC, evI, eqv_int, eqv_bl, eqv_pair, sizeLine_eq, L2.atI, L2.ixN, f__law_good_ratio, b__law_good_ratio, l__law_good_ratio_0i, l__law_good_ratio_1i, l__law_good_ratio_2i, startE, isiD, isK, kindD, rcv, hz2, split_yes h, split_no hr, g, d]
      | true =>
        rw [q1] at d
        cases q2 : r == [48] with
        | true => simp [exSs, exS, evE, evEs, evT, evC, evI, eqv_int, eqv_bl, eqv_pair, sizeLine_eq, L2.atI, L2.ixN, f__law_good_ratio, b__law_good_ratio, l__law_good_ratio_0i, l__law_good_ratio_1i, l__law_good_ratio_2i, startE, isiD, isK, kindD, rcv, hz2, split_yes h, split_no hr, g, d, in01, q2, bne]
        | false =>
          cases q3 : r == [49] with
          | true => simp [exSs, exS, evE, evEs, evT, evC, evI, eqv_int, eqv_bl, eqv_pair, sizeLine_eq, L2.atI, L2.ixN, f__law_good_ratio, b__law_good_ratio, l__law_good_ratio_0i, l__law_good_ratio_1i, l__law_good_ratio_2i, startE, isiD, isK, kindD, rcv, hz2, split_yes h, split_no hr, g, d, in01, q2, q3, bne]
          | false =>
            have lt := lowT_eq r
            rw [q1] at lt
            simp only [bne, q2, q3, Bool.not_false, Bool.and_true] at lt
            unfold lowT at lt
            simp only [Bool.and_eq_true, decide_eq_true_eq, Bool.not_eq_true'] at lt
            obtain ⟨⟨t1, t2⟩, t3⟩ := lt
            have i1 := intD_is lp q
            have i2 := intD_is lr t1
            have lo := low_is (k + 1) st (valT p) (valT r) (by omega) (lt8000 (valT_of lr t1) (by decide))
            unfold pD at lo
            have fin : ((low (valT p) (valT r)).1 == valT p && (low (valT p) (valT r)).2 == valT r) = decide (Int.gcd (valT p) (valT r) = 1) := by
              have z := low_self (n := valT p) t2
              by_cases c : Int.gcd (valT p) (valT r) = 1
              · have e := z.mpr c
                rw [e, decide_eq_true c]
                simp [exSs, exS, evE, evEs, evT, evC, evI, eqv_int, eqv_bl, eqv_pair, sizeLine_eq, L2.atI, L2.ixN]
              · rw [decide_eq_false c]
                have ne : ¬ low (valT p) (valT r) = (valT p, valT r) := fun e => c (z.mp e)
                cases w : ((low (valT p) (valT r)).1 == valT p && (low (valT p) (valT r)).2 == valT r) with
                | false => rfl
                | true =>
                  simp only [Bool.and_eq_true, beq_iff_eq] at w
                  exact absurd (Prod.ext w.1 w.2) ne
            simp [exSs, exS, evE, evEs, evT, evC, evI, eqv_int, eqv_bl, eqv_pair, sizeLine_eq, L2.atI, L2.ixN, f__law_good_ratio, b__law_good_ratio, l__law_good_ratio_0i, l__law_good_ratio_1i, l__law_good_ratio_2i, startE, isiD, isK, kindD, rcv, hz2, split_yes h, split_no hr, g, d, in01, q2, q3, bne, i1, i2, lo, fin]
end K09
end
section
set_option linter.all false
set_option autoImplicit false
set_option maxRecDepth 100000
set_option maxHeartbeats 1000000
namespace K09
open PySem Mini
def notStr (d : Mini.D) : Prop := d = .non ∨ ∃ i, d = .int i
theorem read_ratio_no (k : Nat) (st : Sto) (d : Mini.D) (h : notStr d) : callF P (k + 1) 15 [d] st = .exc noText st := by
  rw [callF_at (fn := f_read_ratio) rfl rfl]
  rcases h with rfl | ⟨i, rfl⟩ <;> simp [exSs, exS, evE, evEs, evT, evC, evI, eqv_int, eqv_bl, eqv_pair, sizeLine_eq, L2.atI, L2.ixN, f_read_ratio, b_read_ratio, l_read_ratio_1i, startE, isiD, isK, kindD, show P.cs = cs from rfl, cs, numOk0, zipF, noText]
theorem good_ratio_no (k : Nat) (st : Sto) (d : Mini.D) (h : notStr d) : callF P (k + 1) 25 [d] st = .ok (.bl false) st := by
  rw [callF_at (fn := f__law_good_ratio) rfl rfl]
  rcases h with rfl | ⟨i, rfl⟩ <;> simp [exSs, exS, evE, evEs, evT, evC, evI, eqv_int, eqv_bl, eqv_pair, sizeLine_eq, L2.atI, L2.ixN, f__law_good_ratio, b__law_good_ratio, l__law_good_ratio_2i, startE, isiD, isK, kindD]
/-- '<0>' -/
abbrev at0 : Chs := [60, 48, 62]
theorem strI0 : strI 0 = [48] := by decide +kernel
theorem log0 : (0 : Int).natAbs.log2 < 1920 := by decide
theorem hands0 (st : Sto) (env : Mini.Env) (h : 2 < env.length) : hands cs noText [.on 2 (some 2) (.fld 2 "at" true [60] [62])] env st = .ret (.str at0) st := by
  have a : isA cs 2 2 = true := by decide
  have e : evH noText (.fld 2 "at" true [60] [62]) = some (.str at0) := by
    have s0 : strD (.int 0) = some (.str [48]) := by
      simp only [strD]
      rw [if_pos log0, strI0]
    simp [exSs, exS, evE, evEs, evT, evC, evI, eqv_int, eqv_bl, eqv_pair, sizeLine_eq, L2.atI, L2.ixN, evH, noText, s0]
  unfold hands
  rw [show noText.cls = 2 from rfl, if_pos a, if_pos (by simpa [exSs, exS, evE, evEs, evT, evC, evI, eqv_int, eqv_bl, eqv_pair, sizeLine_eq, L2.atI, L2.ixN, slotOk] using h), e]
theorem law_read0 (k : Nat) (st : Sto) (t : Chs) (hl : t.length ≤ 640) (hs : sOk t) : callF P (k + 4) 21 [.int 0, .str t] st = .ok (if okW t = true then .int (valT t) else .str at0) st := by
  rw [callF_at (fn := f__law_read) rfl rfl]
  have r := read_whole_is (k + 2) st t hl hs
  have hn := hands0 st [some (.int 0), some (.str t), none] (by simp [exSs, exS, evE, evEs, evT, evC, evI, eqv_int, eqv_bl, eqv_pair, sizeLine_eq, L2.atI, L2.ixN])
  cases q : okW t with
  | true =>
    rw [q] at r
    simp [exSs, exS, evE, evEs, evT, evC, evI, eqv_int, eqv_bl, eqv_pair, sizeLine_eq, L2.atI, L2.ixN, f__law_read, b__law_read, startE, r]
  | false =>
    rw [q] at r
    simp [exSs, exS, evE, evEs, evT, evC, evI, eqv_int, eqv_bl, eqv_pair, sizeLine_eq, L2.atI, L2.ixN, f__law_read, b__law_read, startE, r, show P.cs = cs from rfl, hn]
theorem law_read0_no (k : Nat) (st : Sto) (d : Mini.D) (h : notStr d) : callF P (k + 4) 21 [.int 0, d] st = .ok (.str at0) st := by
  rw [callF_at (fn := f__law_read) rfl rfl]
  have r := read_whole_no (k + 2) st d h
  have hn := hands0 st [some (.int 0), some d, none] (by simp [exSs, exS, evE, evEs, evT, evC, evI, eqv_int, eqv_bl, eqv_pair, sizeLine_eq, L2.atI, L2.ixN])
  simp [exSs, exS, evE, evEs, evT, evC, evI, eqv_int, eqv_bl, eqv_pair, sizeLine_eq, L2.atI, L2.ixN, f__law_read, b__law_read, startE, r, show P.cs = cs from rfl, hn]
theorem law_read1_no (k : Nat) (st : Sto) (d : Mini.D) (h : notStr d) : callF P (k + 4) 21 [.int 1, d] st = .ok (.str at0) st := by
  rw [callF_at (fn := f__law_read) rfl rfl]
  have r := read_ratio_no (k + 2) st d h
  have hn := hands0 st [some (.int 1), some d, none] (by simp [exSs, exS, evE, evEs, evT, evC, evI, eqv_int, eqv_bl, eqv_pair, sizeLine_eq, L2.atI, L2.ixN])
  simp [exSs, exS, evE, evEs, evT, evC, evI, eqv_int, eqv_bl, eqv_pair, sizeLine_eq, L2.atI, L2.ixN, f__law_read, b__law_read, startE, r, show P.cs = cs from rfl, hn]
theorem law_read1_a (k : Nat) (st : Sto) (t : Chs) (hl : t.length ≤ 640) (hs : sOk t) (h : 47 ∉ t) : callF P (k + 4) 21 [.int 1, .str t] st = .ok (if okW t = true then pD (valT t, 1) else .str at0) st := by
  rw [callF_at (fn := f__law_read) rfl rfl]
  have r := read_no k st t hl hs h
  have hn := hands0 st [some (.int 1), some (.str t), none] (by simp [exSs, exS, evE, evEs, evT, evC, evI, eqv_int, eqv_bl, eqv_pair, sizeLine_eq, L2.atI, L2.ixN])
  cases q : okW t with
  | true =>
    rw [q] at r
    simp [exSs, exS, evE, evEs, evT, evC, evI, eqv_int, eqv_bl, eqv_pair, sizeLine_eq, L2.atI, L2.ixN, f__law_read, b__law_read, startE, r]
  | false =>
    rw [q] at r
    simp [exSs, exS, evE, evEs, evT, evC, evI, eqv_int, eqv_bl, eqv_pair, sizeLine_eq, L2.atI, L2.ixN, f__law_read, b__law_read, startE, r, show P.cs = cs from rfl, hn]
theorem law_read1_b (k : Nat) (st : Sto) (p r : Chs) (hl : (p ++ 47 :: r).length ≤ 640) (hs : sOk (p ++ 47 :: r)) (h : 47 ∉ p) :
    callF P (k + 4) 21 [.int 1, .str (p ++ 47 :: r)] st = .ok (if (okW p && lowT r && decide (Int.gcd (valT p) (valT r) = 1)) = true then pD (valT p, valT r) else .str at0) st := by
  rw [callF_at (fn := f__law_read) rfl rfl]
  have rd := read_yes k st p r hl hs h
  have hn := hands0 st [some (.int 1), some (.str (p ++ 47 :: r)), none] (by simp [exSs, exS, evE, evEs, evT, evC, evI, eqv_int, eqv_bl, eqv_pair, sizeLine_eq, L2.atI, L2.ixN])
  cases q : (okW p && lowT r && decide (Int.gcd (valT p) (valT r) = 1)) with
  | true =>
    rw [q] at rd
    simp [exSs, exS, evE, evEs, evT, evC, evI, eqv_int, eqv_bl, eqv_pair, sizeLine_eq, L2.atI, L2.ixN, f__law_read, b__law_read, startE, rd]
  | false =>
    rw [q] at rd
    simp [exSs, exS, evE, evEs, evT, evC, evI, eqv_int, eqv_bl, eqv_pair, sizeLine_eq, L2.atI, L2.ixN, f__law_read, b__law_read, startE, rd, show P.cs = cs from rfl, hn]
/-! _law_ask -/
abbrev mal : Chs := [60, 109, 97, 108, 102, 111, 114, 109, 101, 100, 62]
theorem handsM (st : Sto) (env : Mini.Env) : hands cs malf [.on 1 none (.lit (.str mal))] env st = .ret (.str mal) st := by
  have a : isA cs 1 1 = true := by decide
  unfold hands
  rw [show malf.cls = 1 from rfl, if_pos a]
  rfl
theorem ask0 (k : Nat) (st : Sto) (n d : Int) (hb : d.natAbs < 2 ^ 8000) : callF P (k + 4) 22 [.int 0, .int n, .int d] st = .ok (if d = 0 then .str mal else pD (low n d)) st := by
  rw [callF_at (fn := f__law_ask) rfl rfl]
  by_cases h : d = 0
  · subst h
    have r := ratio_no k st n
    simp [exSs, exS, evE, evEs, evT, evC, evI, eqv_int, eqv_bl, eqv_pair, sizeLine_eq, L2.atI, L2.ixN, f__law_ask, b__law_ask, startE, r, show P.cs = cs from rfl, handsM]
  · have r := ratio_is k st n d h hb
    simp [exSs, exS, evE, evEs, evT, evC, evI, eqv_int, eqv_bl, eqv_pair, sizeLine_eq, L2.atI, L2.ixN, f__law_ask, b__law_ask, startE, r, h]
theorem ask1 (k : Nat) (st : Sto) (a b : Int × Int) {m n : Nat} (ha : Bd m a) (hb : Bd n b) (hm : 0 < m) (hn : 0 < n) (hl : m + n ≤ 8000) (h : a.2 ≠ 0) : callF P (k + 4) 22 [.int 1, pD a, pD b] st = .ok (if b.1 = 0 then .str mal else pD (low (a.1 * b.2) (a.2 * b.1))) st := by
  rw [callF_at (fn := f__law_ask) rfl rfl]
  by_cases h0 : b.1 = 0
  · have r := over_no k st a b ha hb hm hn hl h0
    simp [exSs, exS, evE, evEs, evT, evC, evI, eqv_int, eqv_bl, eqv_pair, sizeLine_eq, L2.atI, L2.ixN, f__law_ask, b__law_ask, startE, r, show P.cs = cs from rfl, handsM, h0]
  · have r := over_is k st a b ha hb hm hn hl (Int.mul_ne_zero h h0)
    simp [exSs, exS, evE, evEs, evT, evC, evI, eqv_int, eqv_bl, eqv_pair, sizeLine_eq, L2.atI, L2.ixN, f__law_ask, b__law_ask, startE, r, h0]
/-! texts of fractions -/
def txt (a : Int × Int) : Chs := if a.2 = 1 then strI a.1 else strI a.1 ++ 47 :: strI a.2
theorem strI_len {i : Int} {k : Nat} (hk : 0 < k) (h : i.natAbs < 10 ^ k) : (strI i).length ≤ k + 1 := by
  rcases Int.le_total 0 i with h0 | h0
  · obtain ⟨n, rfl⟩ := Int.eq_ofNat_of_zero_le h0
    rw [strI_nat]
    have := TL.numL_len hk (show n < 10 ^ k from h)
    omega
  · by_cases z : i = 0
    · subst z
      rw [strI0]
      simp [exSs, exS, evE, evEs, evT, evC, evI, eqv_int, eqv_bl, eqv_pair, sizeLine_eq, L2.atI, L2.ixN]
    · have e : i = -((i.natAbs : Nat) : Int) := by omega
      rw [e, strI_neg _ (by omega)]
      have := TL.numL_len hk h
      simp only [List.length_cons]
      omega
theorem strD_is {i : Int} (h : i.natAbs < 2 ^ 1900) : strD (.int i) = some (.str (strI i)) := by
  simp only [strD]
  rw [if_pos (by have := log2_lt_of (by decide : 0 < 1900) h; omega)]
theorem text_is (k : Nat) (st : Sto) (a : Int × Int) (h1 : a.1.natAbs < 10 ^ 300) (h2 : a.2.natAbs < 10 ^ 300) : callF P (k + 1) 14 [pD a] st = .ok (.str (txt a)) st ∧ callF P (k + 1) 20 [pD a] st = .ok (.str (txt a)) st := by
  have b10 : (10 : Nat) ^ 300 ≤ 2 ^ 1900 := by
    have := pow_10_2 300
    have z : (2 : Nat) ^ (4 * 300) ≤ 2 ^ 1900 := Nat.pow_le_pow_right (by decide) (by decide)
    omega
  have s1 := strD_is (i := a.1) (by omega)
  have s2 := strD_is (i := a.2) (by omega)
  have l1 := strI_len (by decide) h1
  have l2 := strI_len (by decide) h2
  have z1 : (strI a.1).length + 1 ≤ 16777216 := by omega
  have z2 : (strI a.1).length + 1 + (strI a.2).length ≤ 16777216 := by omega
  rw [callF_at (fn := f_ratio_text) rfl rfl, callF_at (fn := f__law_text) rfl rfl]
  by_cases h : a.2 = 1
  · have h' : (a.2 == 1) = true := by simpa [exSs, exS, evE, evEs, evT, evC, evI, eqv_int, eqv_bl, eqv_pair, sizeLine_eq, L2.atI, L2.ixN] using h
    constructor
    · simp [exSs, exS, evE, evEs, evT, evC, evI, eqv_int, eqv_bl, eqv_pair, sizeLine_eq, L2.atI, L2.ixN, f_ratio_text, b_ratio_text, startE, pD, h, h', s1, txt]
    · simp [exSs, exS, evE, evEs, evT, evC, evI, eqv_int, eqv_bl, eqv_pair, sizeLine_eq, L2.atI, L2.ixN, f__law_text, b__law_text, startE, pD, h, h', s1, txt]
  · have h' : (a.2 == 1) = false := by simpa [exSs, exS, evE, evEs, evT, evC, evI, eqv_int, eqv_bl, eqv_pair, sizeLine_eq, L2.atI, L2.ixN] using h
    constructor
    · simp [exSs, exS, evE, evEs, evT, evC, evI, eqv_int, eqv_bl, eqv_pair, sizeLine_eq, L2.atI, L2.ixN, f_ratio_text, b_ratio_text, startE, pD, h, h', s1, s2, z1, z2, txt]
    · simp [exSs, exS, evE, evEs, evT, evC, evI, eqv_int, eqv_bl, eqv_pair, sizeLine_eq, L2.atI, L2.ixN, f__law_text, b__law_text, startE, pD, h, h', s1, s2, z1, z2, txt]
end K09
end
section
set_option linter.all false
set_option autoImplicit false
set_option maxRecDepth 100000
set_option maxHeartbeats 1000000
namespace K09
open PySem Mini
/-! the draw -/
abbrev dS (cells : List Int) (a b c : Int) : Sto := [.lst [.lst (cells.map .int), .int a, .int b, .int c]]
theorem finish_len {st0 st : Sto} {d : Mini.D} (h : st.length = st0.length) : Mini.finish st0 (.ret d st) = .ok d st := by
  simp only [Mini.finish]
  split
  · rw [← h, List.take_length]
  · rfl
theorem finish_ref {st : Sto} : Mini.finish [] (.ret (.ref 0) st) = .ok (.ref 0) st := by
  simp only [Mini.finish]
  rw [if_neg]
  rintro ⟨_, h⟩
  simp [exSs, exS, evE, evEs, evT, evC, evI, eqv_int, eqv_bl, eqv_pair, sizeLine_eq, L2.atI, L2.ixN, Mini.below] at h
def good (cells : List Int) (a b c : Int) : Prop := (∀ x ∈ cells, 0 ≤ x) ∧ -1 ≤ a ∧ 0 ≤ b ∧ 0 ≤ c ∧ c < 2147483647
def DrawOk (st : Sto) : Prop := ∃ cells a b c, st = dS cells a b c ∧ good cells a b c
theorem wide_small {i j : Int} (h1 : i.natAbs < 2 ^ 40) (h2 : j.natAbs < 2 ^ 40) : wide i j = true := wide_of (by decide) (by decide) h1 h2 (by decide)
theorem fmod_pos (x m : Int) (hm : 0 < m) : 0 ≤ x.fmod m ∧ x.fmod m < m := ⟨Int.fmod_nonneg_of_pos _ hm, Int.fmod_lt_of_pos _ hm⟩
theorem cells_at (cells : List Int) (a : Int) (h0 : 0 ≤ a) (h : a < (cells.length : Int)) : ∃ x, cells[a.toNat]? = some x := by
  have : a.toNat < cells.length := by omega
  exact ⟨_, List.getElem?_eq_getElem this⟩
theorem take_is (k : Nat) (many : Int) (hm : 0 < many) (hl : many.natAbs.log2 < 9000) {st : Sto} (h : DrawOk st) : ∃ x st', callF P (k + 1) 17 [.ref 0, .int many] st = .ok (.int x) st' ∧ DrawOk st' ∧ 0 ≤ x ∧ x < many := by
  obtain ⟨cells, a, b, c, rfl, g1, g2, g3, g4, g5⟩ := h
  have hm0 : many ≠ 0 := by omega
  rw [callF_at (fn := f__law_take) rfl rfl]
  -- the end: a value b, taken by many
  have fin : ∀ a b c : Int, -1 ≤ a → 0 ≤ b → 0 ≤ c → c < 2147483647 → ∃ x st', Mini.finish (dS cells a b c) (.ret (.int x) st') = .ok (.int x) st' ∧ x = b.fmod many ∧ st' = dS cells a (b.fdiv many) c ∧ DrawOk st' ∧ 0 ≤ x ∧ x < many := fun a b c h1 h2 h3 h4 =>
    ⟨b.fmod many, dS cells a (b.fdiv many) c, finish_len rfl, rfl, rfl, ⟨cells, a, b.fdiv many, c, rfl, g1, h1, Int.fdiv_nonneg h2 (by omega), h3, h4⟩, (fmod_pos b many hm).1, (fmod_pos b many hm).2⟩
  by_cases hb : b = 0
  · subst hb
    have w : wide c 48271 = true := wide_small (by omega) (by decide)
    have m1 := fmod_pos (c * 48271 + 11) 2147483647 (by decide)
    by_cases ha : a + 1 < (cells.length : Int)
    · obtain ⟨x, hx⟩ := cells_at cells (a + 1) (by omega) ha
      have hx0 : 0 ≤ x := g1 x (List.mem_of_getElem? hx)
      have a0 : (0 : Int) ≤ a + 1 := by omega
      obtain ⟨hlt, hxe⟩ := List.getElem?_eq_some_iff.mp hx
      by_cases hx1 : x = 0
      · subst hx1
        obtain ⟨y, st', e1, e2, e3, e4, e5, e6⟩ := fin (a + 1) ((c * 48271 + 11).fmod 2147483647) ((c * 48271 + 11).fmod 2147483647) (by omega) m1.1 m1.1 m1.2
        refine ⟨y, st', ?_, e4, e5, e6⟩
        subst e2 e3
        simp [exSs, exS, evE, evEs, evT, evC, evI, eqv_int, eqv_bl, eqv_pair, sizeLine_eq, L2.atI, L2.ixN, f__law_take, b__law_take, l__law_take_0i, l__law_take_1i, l__law_take_2i, startE, setIx, ha, a0, hxe, w, intD, hm0, hl, Mini.listOf]
        exact finish_len rfl
      · obtain ⟨y, st', e1, e2, e3, e4, e5, e6⟩ := fin (a + 1) x c (by omega) hx0 g4 g5
        have hx2 : (x == 0) = false := by simpa [exSs, exS, evE, evEs, evT, evC, evI, eqv_int, eqv_bl, eqv_pair, sizeLine_eq, L2.atI, L2.ixN] using hx1
        refine ⟨y, st', ?_, e4, e5, e6⟩
        subst e2 e3
        simp [exSs, exS, evE, evEs, evT, evC, evI, eqv_int, eqv_bl, eqv_pair, sizeLine_eq, L2.atI, L2.ixN, f__law_take, b__law_take, l__law_take_0i, l__law_take_1i, l__law_take_2i, startE, setIx, ha, a0, hxe, w, intD, hm0, hl, Mini.listOf, hx1, hx2]
        exact finish_len rfl
    · obtain ⟨y, st', e1, e2, e3, e4, e5, e6⟩ := fin (a + 1) ((c * 48271 + 11).fmod 2147483647) ((c * 48271 + 11).fmod 2147483647) (by omega) m1.1 m1.1 m1.2
      refine ⟨y, st', ?_, e4, e5, e6⟩
      subst e2 e3
      simp [exSs, exS, evE, evEs, evT, evC, evI, eqv_int, eqv_bl, eqv_pair, sizeLine_eq, L2.atI, L2.ixN, f__law_take, b__law_take, l__law_take_0i, l__law_take_1i, l__law_take_2i, startE, setIx, ha, w, intD, hm0, hl, Mini.listOf]
      exact finish_len rfl
  · have hb' : (b == 0) = false := by simpa [exSs, exS, evE, evEs, evT, evC, evI, eqv_int, eqv_bl, eqv_pair, sizeLine_eq, L2.atI, L2.ixN] using hb
    obtain ⟨y, st', e1, e2, e3, e4, e5, e6⟩ := fin a b c g2 g3 g4 g5
    refine ⟨y, st', ?_, e4, e5, e6⟩
    subst e2 e3
    simp [exSs, exS, evE, evEs, evT, evC, evI, eqv_int, eqv_bl, eqv_pair, sizeLine_eq, L2.atI, L2.ixN, f__law_take, b__law_take, l__law_take_0i, l__law_take_1i, l__law_take_2i, startE, setIx, intD, hm0, hl, Mini.listOf, hb, hb']
    exact finish_len rfl
theorem number_is (k : Nat) {st : Sto} (h : DrawOk st) : ∃ n st', callF P (k + 2) 19 [.ref 0] st = .ok (.int n) st' ∧ DrawOk st' ∧ n.natAbs ≤ 10 ^ 40 := by
  obtain ⟨i, st1, e1, h1, i0, i5⟩ := take_is k 5 (by decide) (by decide) h
  obtain ⟨s, hs, s0, sl⟩ : ∃ s : Int, ([3, 20, 1000, 10 ^ 18, 10 ^ 40] : List Int)[i.toNat]? = some s ∧ 0 < s ∧ s ≤ 10 ^ 40 := by
    have : i = 0 ∨ i = 1 ∨ i = 2 ∨ i = 3 ∨ i = 4 := by omega
    rcases this with rfl | rfl | rfl | rfl | rfl <;> exact ⟨_, rfl, by decide, by decide⟩
  have sg : s.natAbs.log2 < 9000 := by
    have : s.natAbs < 2 ^ 200 := by omega
    have := log2_lt_of (by decide : 0 < 200) this
    omega
  obtain ⟨j, st2, e2, h2, j0, j6⟩ := take_is k 6 (by decide) (by decide) h1
  have at_ : atD st1 (.lst [.int 3, .int 20, .int 1000, .int (10 ^ 18), .int (10 ^ 40)]) i = some (.int s) := by
    have : i = 0 ∨ i = 1 ∨ i = 2 ∨ i = 3 ∨ i = 4 := by omega
    rcases this with rfl | rfl | rfl | rfl | rfl <;> (simp [exSs, exS, evE, evEs, evT, evC, evI, eqv_int, eqv_bl, eqv_pair, sizeLine_eq, L2.atI, L2.ixN] at hs; subst hs; simp [exSs, exS, evE, evEs, evT, evC, evI, eqv_int, eqv_bl, eqv_pair, sizeLine_eq, L2.atI, L2.ixN])
  have body : callF P (k + 2) 19 [.ref 0] st = Mini.finish st (exSs cs (callF P (k + 1)) b__law_number [some (.ref 0), none] st) := callF_at (fn := f__law_number) rfl rfl
  have w18 : (10 : Int).natAbs < 2 ^ 64 := by decide
  have lens : st.length = 1 ∧ st2.length = 1 := by
    obtain ⟨_, _, _, _, rfl, _⟩ := h
    obtain ⟨_, _, _, _, rfl, _⟩ := h2
    exact ⟨rfl, rfl⟩
  have size : evE (callF P (k + 1)) (.pr .ix (.cons (.vlst (.cons (.lit (.int 3)) (.cons (.lit (.int 20)) (.cons (.lit (.int 1000)) (.cons (.pr .pow (.cons (.lit (.int 10)) (.cons (.lit (.int 18)) .nil))) (.cons (.pr .pow (.cons (.lit (.int 10)) (.cons (.lit (.int 40)) .nil))) .nil)))))) (.cons (.call 17 (.cons (.var 0) (.cons (.lit (.int 5)) .nil))) .nil))) [some (.ref 0), none] st = .ok (.int s) st1 := by
    have at2 : atD st1 (.lst [.int 3, .int 20, .int 1000, .int 1000000000000000000, .int 10000000000000000000000000000000000000000]) i = some (.int s) := by
      simpa [exSs, exS, evE, evEs, evT, evC, evI, eqv_int, eqv_bl, eqv_pair, sizeLine_eq, L2.atI, L2.ixN] using at_
    simp only [evE, evEs, bnd_ok, getV_0, List.length_cons, List.length_nil, p_pow, guardR, e1]
    simp only [at_lst] at at2
    simp [exSs, exS, evE, evEs, evT, evC, evI, eqv_int, eqv_bl, eqv_pair, sizeLine_eq, -L2.atI, -L2.ixN, e1, at2]
  by_cases hj : 0 < j
  · obtain ⟨x, st3, e3, h3, x0, xs⟩ := take_is k s s0 sg h2
    obtain ⟨y, st4, e4, h4, y0, y2⟩ := take_is k 2 (by decide) (by decide) h3
    have l4 : st4.length = st.length := by
      obtain ⟨_, _, _, _, rfl, _⟩ := h4
      rw [lens.1]
      rfl
    have xb : (x + 1).natAbs < 2 ^ 200 := by omega
    by_cases hy : y = 0
    · subst hy
      have w : wide (x + 1) 1 = true := wide_of (by decide) (by decide) xb (show (1 : Int).natAbs < 2 ^ 1 by decide) (by decide)
      refine ⟨x + 1, st4, ?_, h4, by omega⟩
      rw [body]
      simp only [b__law_number, exSs, exS, size, out_ok, nxO_some', setT_nm, List.set_cons_succ, List.set_cons_zero, sq_nx]
      simp [exSs, exS, evE, evEs, evT, evC, evI, eqv_int, eqv_bl, eqv_pair, sizeLine_eq, L2.atI, L2.ixN, e2, hj, e3, e4, w]
      exact finish_len l4
    · have hy' : (y == 0) = false := by simpa [exSs, exS, evE, evEs, evT, evC, evI, eqv_int, eqv_bl, eqv_pair, sizeLine_eq, L2.atI, L2.ixN] using hy
      have w : wide (x + 1) (-1) = true := wide_of (by decide) (by decide) xb (show (-1 : Int).natAbs < 2 ^ 1 by decide) (by decide)
      refine ⟨(x + 1) * -1, st4, ?_, h4, by omega⟩
      rw [body]
      simp only [b__law_number, exSs, exS, size, out_ok, nxO_some', setT_nm, List.set_cons_succ, List.set_cons_zero, sq_nx]
      simp [exSs, exS, evE, evEs, evT, evC, evI, eqv_int, eqv_bl, eqv_pair, sizeLine_eq, L2.atI, L2.ixN, e2, hj, e3, e4, w, hy, hy']
      exact finish_len l4
  · refine ⟨0, st2, ?_, h2, by decide⟩
    rw [body]
    simp only [b__law_number, exSs, exS, size, out_ok, nxO_some', setT_nm, List.set_cons_succ, List.set_cons_zero, sq_nx]
    simp [exSs, exS, evE, evEs, evT, evC, evI, eqv_int, eqv_bl, eqv_pair, sizeLine_eq, L2.atI, L2.ixN, e2, hj]
    exact finish_len (by rw [lens.1, lens.2])
end K09
end
section
set_option linter.all false
set_option autoImplicit false
set_option maxRecDepth 100000
set_option maxHeartbeats 1000000
namespace K09
open PySem Mini
theorem seed_loop (cl : Call) (st : Sto) (s : Mini.D) : ∀ (zs : List Int) (x : Int) (o : Option Mini.D), 0 ≤ x → x < 2147483647 → ∃ y o', 0 ≤ y ∧ y < 2147483647 ∧
    forL [] (.nm 2) (exSs cs cl l__law_draw_1b) (zs.map .int) [some s, some (.int x), o] st = .nx [some s, some (.int y), o'] st
  | [], x, o, h0, h1 => ⟨x, o, h0, h1, by simp [exSs, exS, evE, evEs, evT, evC, evI, eqv_int, eqv_bl, eqv_pair, sizeLine_eq, L2.atI, L2.ixN]⟩
  | z :: zs, x, o, h0, h1 => by
    have w : wide x 48271 = true := wide_small (by omega) (by decide)
    have m := fmod_pos (x * 48271 + (z.natAbs : Int).fmod 65521 + 1) 2147483647 (by decide)
    obtain ⟨y, o', y0, y1, e⟩ := seed_loop cl st s zs _ (some (.int z)) m.1 m.2
    refine ⟨y, o', y0, y1, ?_⟩
    rw [List.map_cons, forL_cons]
    simp [exSs, exS, evE, evEs, evT, evC, evI, eqv_int, eqv_bl, eqv_pair, sizeLine_eq, L2.atI, L2.ixN, l__law_draw_1b, intD, abs_is, w]
    exact e
theorem draw_is (k : Nat) (zs : List Int) (hl : zs.length ≤ 1000000) : ∃ st', callF P (k + 1) 16 [.ro (zs.map .int)] [] = .ok (.ref 0) st' ∧ DrawOk st' := by
  obtain ⟨y, o', y0, y1, e⟩ := seed_loop (callF P k) [] (.ro (zs.map .int)) zs 7 none (by decide) (by decide)
  refine ⟨dS (zs.map fun z => (z.natAbs : Int)) (-1) 0 y, ?_, _, _, _, _, rfl, fun x hx => ?_, by decide, by decide, y0, y1⟩
  · rw [callF_at (fn := f__law_draw) rfl rfl]
    have q : evE (callF P k) l__law_draw_0q [some (.ro (zs.map .int)), some (.int y), o'] [] = .ok (.lst (zs.map fun z => .int (z.natAbs : Int))) [] := by
      have key : compL [] (turnC (callF P k) [2] (.nm 2) .nil l__law_draw_0e [some (.ro (zs.map .int)), some (.int y), o']) (zs.map .int) [] [] = .ok (zs.map fun z => .int (z.natAbs : Int)) [] := by
        rw [compL_map (g := fun d => match d with
          | .int i => .int (i.natAbs : Int)
          | d => d)]
        · simp [exSs, exS, evE, evEs, evT, evC, evI, eqv_int, eqv_bl, eqv_pair, sizeLine_eq, L2.atI, L2.ixN, List.map_map, Function.comp_def]
        · intro d hd
          obtain ⟨z, hz, rfl⟩ := List.mem_map.mp hd
          rw [turnC_of rfl]
          simp [exSs, exS, evE, evEs, evT, evC, evI, eqv_int, eqv_bl, eqv_pair, sizeLine_eq, L2.atI, L2.ixN, l__law_draw_0e, intD, abs_is, wipeE]
        · simp [exSs, exS, evE, evEs, evT, evC, evI, eqv_int, eqv_bl, eqv_pair, sizeLine_eq, L2.atI, L2.ixN]
          omega
      unfold l__law_draw_0q
      rw [comp_eq]
      simp only [evI, evE, getV_0, bnd_ok, itemsOf, listOf_ro, srcOf]
      rw [key]
      rfl
    have it : evI (callF P k) (.seq (.var 0)) [some (.ro (zs.map .int)), some (.int 7), none] [] = .ok (zs.map .int, []) [] := by
      simp [exSs, exS, evE, evEs, evT, evC, evI, eqv_int, eqv_bl, eqv_pair, sizeLine_eq, L2.atI, L2.ixN, itemsOf, srcOf]
    simp only [f__law_draw, b__law_draw, show startE 3 [D.ro (zs.map .int)] = [some (.ro (zs.map .int)), none, none] from rfl, show P.cs = cs from rfl, exSs, exS, evE, out_ok, nxO_some', setT_nm, List.set_cons_succ, List.set_cons_zero, sq_nx, it, e]
    simp only [evEs, evE, q, bnd_ok, p_neg, liftP_some, getV_s, getV_0]
    simp [exSs, exS, evE, evEs, evT, evC, evI, eqv_int, eqv_bl, eqv_pair, sizeLine_eq, L2.atI, L2.ixN, Function.comp_def]
    rw [finish_ref]
    simp [exSs, exS, evE, evEs, evT, evC, evI, eqv_int, eqv_bl, eqv_pair, sizeLine_eq, L2.atI, L2.ixN, Function.comp_def]
  · obtain ⟨z, hz, rfl⟩ := List.mem_map.mp hx
    omega
/-! sums -/
def sumS (s : Int × Int) (xs : List (Int × Int)) : Int × Int := xs.foldl (fun s x => low (s.1 * x.2 + x.1 * s.2) (s.2 * x.2)) s
def Item (x : Int × Int) : Prop := Red x ∧ Bd 140 x
theorem step_ok {s x : Int × Int} {m : Nat} (hs : Red s) (hb : Bd m s) (hx : Item x) : Red (low (s.1 * x.2 + x.1 * s.2) (s.2 * x.2)) ∧ Bd (m + 141) (low (s.1 * x.2 + x.1 * s.2) (s.2 * x.2)) ∧ s.2 * x.2 ≠ 0 := by
  have ne : s.2 * x.2 ≠ 0 := Int.mul_ne_zero (by have := hs.1; omega) (by have := hx.1.1; omega)
  have l := low_le (n := s.1 * x.2 + x.1 * s.2) ne
  have b1 : (s.1 * x.2 + x.1 * s.2).natAbs < 2 ^ (m + 140 + 1) := add_lt (mul_lt hb.1 hx.2.2) (by
    rw [Nat.add_comm m 140]
    exact mul_lt hx.2.1 hb.2)
  have b2 : (s.2 * x.2).natAbs < 2 ^ (m + 140) := mul_lt hb.2 hx.2.2
  have p : (2 : Nat) ^ (m + 140) ≤ 2 ^ (m + 141) := Nat.pow_le_pow_right (by decide) (by omega)
  have b1' : (s.1 * x.2 + x.1 * s.2).natAbs < 2 ^ (m + 141) := b1
  exact ⟨low_red ne, ⟨by omega, by omega⟩, ne⟩
theorem zero_item {s x : Int × Int} (hs : Red s) (hx : Red x) (h : x.1 = 0) : low (s.1 * x.2 + x.1 * s.2) (s.2 * x.2) = s := by
  obtain ⟨p, q⟩ := x
  have h : p = 0 := h
  subst h
  have h2 : Int.gcd 0 q = 1 := hx.2
  have h1 : 0 < q := hx.1
  have q1 : q = 1 := by
    rw [Int.gcd_zero_left] at h2
    omega
  subst q1
  show low (s.1 * 1 + 0 * s.2) (s.2 * 1) = s
  rw [Int.mul_one, Int.mul_one, Int.zero_mul, Int.add_zero]
  exact low_of_red hs
theorem total_loop (k : Nat) (st : Sto) (it : Mini.D) : ∀ (xs : List (Int × Int)) (s : Int × Int) (m : Nat) (o : Option Mini.D), (∀ x ∈ xs, Item x) → Red s → Bd m s → 0 < m → m + 141 * xs.length ≤ 7000 → ∃ o',
    forL [] (.nm 2) (exSs cs (callF P (k + 3)) l_total_1b) (xs.map pD) [some it, some (pD s), o] st = .nx [some it, some (pD (sumS s xs)), o'] st
  | [], s, m, o, _, _, _, _, _ => ⟨o, by simp [exSs, exS, evE, evEs, evT, evC, evI, eqv_int, eqv_bl, eqv_pair, sizeLine_eq, L2.atI, L2.ixN, sumS]⟩
  | x :: xs, s, m, o, hx, hs, hb, hm, hl => by
    have hx0 := hx x List.mem_cons_self
    rw [List.length_cons] at hl
    obtain ⟨r1, r2, r3⟩ := step_ok hs hb hx0
    obtain ⟨o', e⟩ := total_loop k st it xs _ (m + 141) (some (pD x)) (fun y hy => hx y (List.mem_cons_of_mem _ hy)) r1 r2 (by omega) (by omega)
    refine ⟨o', ?_⟩
    rw [List.map_cons, forL_cons]
    have pl := plus_is k st s x hb hx0.2 hm (by decide) (by omega) r3
    have ss : sumS s (x :: xs) = sumS (low (s.1 * x.2 + x.1 * s.2) (s.2 * x.2)) xs := rfl
    rw [ss]
    by_cases h : x.1 = 0
    · have h' : (x.1 == 0) = true := by simpa [exSs, exS, evE, evEs, evT, evC, evI, eqv_int, eqv_bl, eqv_pair, sizeLine_eq, L2.atI, L2.ixN] using h
      have z := zero_item hs hx0.1 h
      rw [z] at e ⊢
      have c : evT (callF P (k + 3)) l_total_0i [some it, some (pD s), some (pD x)] st = .ok false st := by
        simp [exSs, exS, evE, evEs, evT, evC, evI, eqv_int, eqv_bl, eqv_pair, sizeLine_eq, L2.atI, L2.ixN, l_total_0i, pD, h']
      simp only [setT_nm, List.set_cons_succ, List.set_cons_zero, l_total_1b, exSs, exS, c, out_ok, sq_nx]
      simp [exSs, exS, evE, evEs, evT, evC, evI, eqv_int, eqv_bl, eqv_pair, sizeLine_eq, L2.atI, L2.ixN]
      exact e
    · have h' : (x.1 == 0) = false := by simpa [exSs, exS, evE, evEs, evT, evC, evI, eqv_int, eqv_bl, eqv_pair, sizeLine_eq, L2.atI, L2.ixN] using h
      have c : evT (callF P (k + 3)) l_total_0i [some it, some (pD s), some (pD x)] st = .ok true st := by
        simp [exSs, exS, evE, evEs, evT, evC, evI, eqv_int, eqv_bl, eqv_pair, sizeLine_eq, L2.atI, L2.ixN, l_total_0i, pD, h']
      simp only [setT_nm, List.set_cons_succ, List.set_cons_zero, l_total_1b, exSs, exS, c, out_ok, sq_nx, evE, evEs, getV_s, getV_0, bnd_ok, pl, if_true, nxO_some']
      exact e
theorem zeroR : Red (0, 1) := ⟨by decide, by decide⟩
theorem zeroB : Bd 1 (0, 1) := ⟨by decide, by decide⟩
theorem total_is (k : Nat) (st : Sto) (xs : List (Int × Int)) (hx : ∀ x ∈ xs, Item x) (hl : xs.length ≤ 20) :
    callF P (k + 4) 11 [.lst (xs.map pD)] st = .ok (pD (sumS (0, 1) xs)) st ∧ callF P (k + 4) 11 [.tup (xs.map pD)] st = .ok (pD (sumS (0, 1) xs)) st := by
  have zp : D.tup [.int 0, .int 1] = pD (0, 1) := rfl
  constructor
  · obtain ⟨o', e⟩ := total_loop k st (.lst (xs.map pD)) xs (0, 1) 1 none hx zeroR zeroB (by decide) (by omega)
    rw [callF_at (fn := f_total) rfl rfl]
    simp only [f_total, b_total, show startE 3 [D.lst (xs.map pD)] = [some (.lst (xs.map pD)), none, none] from rfl, show P.cs = cs from rfl, exSs, exS, evE, evI, out_ok, nxO_some', setT_nm, List.set_cons_succ, List.set_cons_zero, sq_nx, getV_0, bnd_ok, itemsOf, listOf_lst, srcOf, zp, e, getV_s, frz_false, sq_ret, finish_ret]
  · obtain ⟨o', e⟩ := total_loop k st (.tup (xs.map pD)) xs (0, 1) 1 none hx zeroR zeroB (by decide) (by omega)
    rw [callF_at (fn := f_total) rfl rfl]
    simp only [f_total, b_total, show startE 3 [D.tup (xs.map pD)] = [some (.tup (xs.map pD)), none, none] from rfl, show P.cs = cs from rfl, exSs, exS, evE, evI, out_ok, nxO_some', setT_nm, List.set_cons_succ, List.set_cons_zero, sq_nx, getV_0, bnd_ok, itemsOf, srcOf, zp, e, getV_s, frz_false, sq_ret, finish_ret]
end K09
end
section
set_option linter.all false
set_option autoImplicit false
set_option maxRecDepth 100000
set_option maxHeartbeats 1000000
namespace K09
open PySem Mini
theorem low_beq {n d : Int} (h : 0 < d) : ((low n d).1 == n && (low n d).2 == d) = decide (Int.gcd n d = 1) := by
  have z := low_self (n := n) h
  by_cases c : Int.gcd n d = 1
  · have e := z.mpr c
    rw [e, decide_eq_true c]
    simp [exSs, exS, evE, evEs, evT, evC, evI, eqv_int, eqv_bl, eqv_pair, sizeLine_eq, L2.atI, L2.ixN]
  · rw [decide_eq_false c]
    have ne : ¬ low n d = (n, d) := fun e => c (z.mp e)
    cases w : ((low n d).1 == n && (low n d).2 == d) with
    | false => rfl
    | true =>
      simp only [Bool.and_eq_true, beq_iff_eq] at w
      exact absurd (Prod.ext w.1 w.2) ne
theorem mal_ok : sOk mal := by decide +kernel
theorem eqv_mal (st : Sto) : eqvD st (.str mal) (.str mal) = some true := by
  rw [eqv_str st mal mal mal_ok mal_ok]
  rfl
def dueD (n d : Int) : Mini.D := if d = 0 then .str mal else pD (low n d)
theorem i15 (env : Mini.Env) (st : Sto) (n d : Int) (h5 : getV env 5 = some (.int n)) (h6 : getV env 6 = some (.int d)) (h4 : getV env 4 = some (dueD n d)) (hd : d.natAbs < 2 ^ 8000) : evT (callF P 7) l_law_15i env st = .ok false st := by
  have a := ask0 3 st n d hd
  have r := is_ratio_is 5 st n d
  unfold pD at r
  by_cases h : d = 0
  · subst h
    simp [exSs, exS, evE, evEs, evT, evC, evI, eqv_int, eqv_bl, eqv_pair, sizeLine_eq, L2.atI, L2.ixN, dueD] at h4
    simp [exSs, exS, evE, evEs, evT, evC, evI, eqv_int, eqv_bl, eqv_pair, sizeLine_eq, L2.atI, L2.ixN] at a r
    simp [exSs, exS, evE, evEs, evT, evC, evI, eqv_int, eqv_bl, eqv_pair, sizeLine_eq, L2.atI, L2.ixN, l_law_15i, h5, h6, h4, a, r, eqv_mal]
  · simp [exSs, exS, evE, evEs, evT, evC, evI, eqv_int, eqv_bl, eqv_pair, sizeLine_eq, L2.atI, L2.ixN, dueD, h] at h4
    simp [exSs, exS, evE, evEs, evT, evC, evI, eqv_int, eqv_bl, eqv_pair, sizeLine_eq, L2.atI, L2.ixN, h] at a
    by_cases p : 0 < d
    · have b := low_beq (n := n) p
      unfold pD at h4 a
      simp only [p, decide_true, Bool.true_and] at r
      simp [exSs, exS, evE, evEs, evT, evC, evI, eqv_int, eqv_bl, eqv_pair, sizeLine_eq, L2.atI, L2.ixN, l_law_15i, h5, h6, h4, a, r, p, b]
    · unfold pD at h4 a
      simp only [p, decide_false, Bool.false_and] at r
      simp [exSs, exS, evE, evEs, evT, evC, evI, eqv_int, eqv_bl, eqv_pair, sizeLine_eq, L2.atI, L2.ixN, l_law_15i, h5, h6, h4, a, r, p]
abbrev E (z : Mini.D) (f : Mini.D) (o3 o4 o5 o6 o7 o8 o9 o10 o11 o12 o13 o14 : Option Mini.D) : Mini.Env := [some z, some (.ref 0), some f, o3, o4, o5, o6, o7, o8, o9, o10, o11, o12, o13, o14]
theorem b140 {n : Int} (h : n.natAbs ≤ 10 ^ 40) : n.natAbs < 2 ^ 140 := by omega
theorem low_item {n d : Int} (h : d ≠ 0) (hn : n.natAbs ≤ 10 ^ 40) (hd : d.natAbs ≤ 10 ^ 40) : Item (low n d) := by
  have l := low_le (n := n) h
  have := b140 hn
  have := b140 hd
  exact ⟨low_red h, by omega, by omega⟩
theorem loop16 (z : Mini.D) : ∀ (ds : List Mini.D) (xs : List (Int × Int)) (st : Sto) (o3 o4 o5 o6 : Option Mini.D), DrawOk st → (∀ x ∈ xs, Item x) → xs.length + ds.length ≤ 10 →
    ∃ (ys : List (Int × Int)) (st' : Sto) (p3 p4 p5 p6 : Option Mini.D), forL [] (.nm 3) (exSs cs (callF P 7) l_law_16b) ds (E z (.lst (xs.map pD)) o3 o4 o5 o6 none none none none none none none none) st = .nx (E z (.lst (ys.map pD)) p3 p4 p5 p6 none none none none none none none none) st' ∧ DrawOk st' ∧ (∀ x ∈ ys, Item x) ∧ ys.length ≤ xs.length + ds.length
  | [], xs, st, o3, o4, o5, o6, h, hx, hl => ⟨xs, st, o3, o4, o5, o6, by simp [exSs, exS, evE, evEs, evT, evC, evI, eqv_int, eqv_bl, eqv_pair, sizeLine_eq, L2.atI, L2.ixN], h, hx, by simp [exSs, exS, evE, evEs, evT, evC, evI, eqv_int, eqv_bl, eqv_pair, sizeLine_eq, L2.atI, L2.ixN]⟩
  | w :: ds, xs, st, o3, o4, o5, o6, h, hx, hl => by
    obtain ⟨n, st1, e1, h1, n1⟩ := number_is 5 h
    obtain ⟨d, st2, e2, h2, n2⟩ := number_is 5 h1
    rw [List.length_cons] at hl
    have d8 : d.natAbs < 2 ^ 8000 := lt8000 (b140 n2) (by decide)
    rw [forL_cons]
    have c := i15 (E z (.lst (xs.map pD)) (some w) (some (dueD n d)) (some (.int n)) (some (.int d)) none none none none none none none none) st2 n d rfl rfl rfl d8
    by_cases q : d = 0
    · obtain ⟨ys, st', p3, p4, p5, p6, f1, f2, f3, f4⟩ := loop16 z ds xs st2 (some w) (some (dueD n d)) (some (.int n)) (some (.int d)) h2 hx (by omega)
      refine ⟨ys, st', p3, p4, p5, p6, ?_, f2, f3, by rw [List.length_cons]; omega⟩
      rw [← f1]
      subst q
      have dd : dueD n 0 = .str mal := rfl
      rw [dd] at c ⊢
      have l2 : xs.length ≤ 16777216 := by omega
      simp only [l_law_16b, exSs, exS, evEs, evE, getV_s, getV_0, setT_nm, List.set_cons_succ, List.set_cons_zero, bnd_ok, out_ok, e1, e2, setN_cons, setN_nil, nxO_some', sq_nx, evT, c, p_eq]
      simp [exSs, exS, evE, evEs, evT, evC, evI, eqv_int, eqv_bl, eqv_pair, sizeLine_eq, L2.atI, L2.ixN, c, l2]
    · have it := low_item q n1 n2
      obtain ⟨ys, st', p3, p4, p5, p6, f1, f2, f3, f4⟩ := loop16 z ds (xs ++ [low n d]) st2 (some w) (some (dueD n d)) (some (.int n)) (some (.int d)) h2 (by
        intro x hx1
        rcases List.mem_append.mp hx1 with y | y
        · exact hx x y
        · rw [List.mem_singleton.mp y]
          exact it) (by rw [List.length_append]; simp [exSs, exS, evE, evEs, evT, evC, evI, eqv_int, eqv_bl, eqv_pair, sizeLine_eq, L2.atI, L2.ixN]; omega)
      refine ⟨ys, st', p3, p4, p5, p6, ?_, f2, f3, by
        rw [List.length_append] at f4
        simp [exSs, exS, evE, evEs, evT, evC, evI, eqv_int, eqv_bl, eqv_pair, sizeLine_eq, L2.atI, L2.ixN] at f4 ⊢
        omega⟩
      rw [← f1]
      have dd : dueD n d = pD (low n d) := by simp [exSs, exS, evE, evEs, evT, evC, evI, eqv_int, eqv_bl, eqv_pair, sizeLine_eq, L2.atI, L2.ixN, dueD, q]
      rw [dd] at c ⊢
      have l2 : xs.length + 1 ≤ 16777216 := by omega
      have lo := low_is 6 st2 n d q d8
      have q' : (d == 0) = false := by simpa [exSs, exS, evE, evEs, evT, evC, evI, eqv_int, eqv_bl, eqv_pair, sizeLine_eq, L2.atI, L2.ixN] using q
      simp only [l_law_16b, exSs, exS, evEs, evE, getV_s, getV_0, setT_nm, List.set_cons_succ, List.set_cons_zero, bnd_ok, out_ok, e1, e2, setN_cons, setN_nil, nxO_some', sq_nx, evT, c, p_eq]
      simp [exSs, exS, evE, evEs, evT, evC, evI, eqv_int, eqv_bl, eqv_pair, sizeLine_eq, L2.atI, L2.ixN, c, l2, lo, q', q]
end K09
end
section
set_option linter.all false
set_option autoImplicit false
set_option maxRecDepth 100000
set_option maxHeartbeats 1000000
set_option exponentiation.threshold 9000
namespace K09
open PySem Mini
/-! the texts of fractions read back -/
theorem num_head : ∀ (k n : Nat), n ≤ k → 0 < n → (TL.numL n).head? ≠ some 48
  | k, n, hk, h => by
    by_cases c : n < 10
    · rw [TL.numL_lt c]
      simp [exSs, exS, evE, evEs, evT, evC, evI, eqv_int, eqv_bl, eqv_pair, sizeLine_eq, L2.atI, L2.ixN]
      omega
    · match k, hk with
      | 0, hk => omega
      | k + 1, hk =>
        rw [TL.numL_step (by omega)]
        have ne := TL.numL_ne (n / 10)
        have ih := num_head k (n / 10) (by omega) (by omega)
        cases q : TL.numL (n / 10) with
        | nil => exact absurd q ne
        | cons x l =>
          rw [q] at ih
          simpa [exSs, exS, evE, evEs, evT, evC, evI, eqv_int, eqv_bl, eqv_pair, sizeLine_eq, L2.atI, L2.ixN] using ih
theorem num_dig (n : Nat) : (TL.numL n).all isDig = true := by
  rw [List.all_eq_true]
  exact fun c hc => (isDig_iff c).mpr (TL.numL_digits n c hc)
theorem num_take (n : Nat) : (TL.numL n).take 1 ≠ [45] := by
  have d := TL.numL_digits n
  cases q : TL.numL n with
  | nil => simp [exSs, exS, evE, evEs, evT, evC, evI, eqv_int, eqv_bl, eqv_pair, sizeLine_eq, L2.atI, L2.ixN]
  | cons x l =>
    have := d x (by rw [q]; exact List.mem_cons_self)
    simp [exSs, exS, evE, evEs, evT, evC, evI, eqv_int, eqv_bl, eqv_pair, sizeLine_eq, L2.atI, L2.ixN]
    omega
theorem body_num (n : Nat) : bodyT (TL.numL n) = TL.numL n := by
  unfold bodyT
  rw [if_neg (num_take n)]
theorem body_neg (n : Nat) : bodyT (45 :: TL.numL n) = TL.numL n := by
  unfold bodyT
  simp [exSs, exS, evE, evEs, evT, evC, evI, eqv_int, eqv_bl, eqv_pair, sizeLine_eq, L2.atI, L2.ixN]
theorem num_ne' (n : Nat) : (TL.numL n).isEmpty = false := by
  cases q : TL.numL n with
  | nil => exact absurd q (TL.numL_ne n)
  | cons x l => rfl
theorem num_zero : TL.numL 0 = [48] := TL.numL_lt (by decide)
theorem int_split (i : Int) : (∃ n : Nat, i = (n : Int)) ∨ ∃ n : Nat, 0 < n ∧ i = -(n : Int) := by
  rcases Int.le_total 0 i with h | h
  · exact .inl (Int.eq_ofNat_of_zero_le h)
  · by_cases z : i = 0
    · exact .inl ⟨0, z⟩
    · exact .inr ⟨i.natAbs, by omega, by omega⟩
theorem okW_int (i : Int) : okW (strI i) = true := by
  rcases int_split i with ⟨n, rfl⟩ | ⟨n, h, rfl⟩
  · rw [strI_nat]
    unfold okW
    rw [body_num, num_ne', num_dig]
    by_cases z : n = 0
    · subst z
      rw [num_zero]
      rfl
    · have hd := num_head n n (Nat.le_refl _) (by omega)
      have : ((TL.numL n).head? == some 48) = false := by simpa [exSs, exS, evE, evEs, evT, evC, evI, eqv_int, eqv_bl, eqv_pair, sizeLine_eq, L2.atI, L2.ixN] using hd
      rw [this]
      rfl
  · rw [strI_neg n h]
    unfold okW
    rw [body_neg, num_ne', num_dig]
    have hd := num_head n n (Nat.le_refl _) h
    have : ((TL.numL n).head? == some 48) = false := by simpa [exSs, exS, evE, evEs, evT, evC, evI, eqv_int, eqv_bl, eqv_pair, sizeLine_eq, L2.atI, L2.ixN] using hd
    rw [this]
    rfl
theorem valT_int (i : Int) : valT (strI i) = i := by
  rcases int_split i with ⟨n, rfl⟩ | ⟨n, h, rfl⟩
  · rw [strI_nat]
    unfold valT
    rw [if_neg (num_take n), TL.numL_val]
  · rw [strI_neg n h]
    unfold valT
    simp [exSs, exS, evE, evEs, evT, evC, evI, eqv_int, eqv_bl, eqv_pair, sizeLine_eq, L2.atI, L2.ixN, TL.numL_val]
def Ch (c : Nat) : Prop := c = 45 ∨ c = 47 ∨ (48 ≤ c ∧ c ≤ 57)
theorem strI_ch (i : Int) : ∀ c ∈ strI i, c = 45 ∨ (48 ≤ c ∧ c ≤ 57) := fun c hc => by
  rcases int_split i with ⟨n, rfl⟩ | ⟨n, h, rfl⟩
  · rw [strI_nat] at hc
    exact .inr (TL.numL_digits n c hc)
  · rw [strI_neg n h] at hc
    rcases List.mem_cons.mp hc with z | z
    · exact .inl z
    · exact .inr (TL.numL_digits n c z)
theorem strI_47 (i : Int) : 47 ∉ strI i := fun h => by
  have := strI_ch i 47 h
  omega
theorem txt_ch (a : Int × Int) : ∀ c ∈ txt a, Ch c := fun c hc => by
  unfold txt at hc
  unfold Ch
  split at hc
  · have := strI_ch _ c hc
    omega
  · rcases List.mem_append.mp hc with z | z
    · have := strI_ch _ c z
      omega
    · rcases List.mem_cons.mp z with z | z
      · omega
      · have := strI_ch _ c z
        omega
theorem sOk_ch {t : Chs} (h : ∀ c ∈ t, Ch c) : sOk t := by
  unfold sOk PyData.strOk
  rw [← Array.all_toList, List.all_eq_true]
  intro c hc
  have := h c hc
  unfold Ch at this
  simp [exSs, exS, evE, evEs, evT, evC, evI, eqv_int, eqv_bl, eqv_pair, sizeLine_eq, L2.atI, L2.ixN]
  omega
theorem txt_ok (a : Int × Int) : sOk (txt a) := sOk_ch (txt_ch a)
theorem bd300 {n : Int} (h : n.natAbs < 2 ^ 140) : n.natAbs < 10 ^ 300 := by
  have : (2 : Nat) ^ 140 ≤ 10 ^ 300 := by decide +kernel
  omega
theorem txt_len {a : Int × Int} (h : Bd 140 a) : (txt a).length ≤ 603 := by
  have l1 := strI_len (by decide) (bd300 h.1)
  have l2 := strI_len (by decide) (bd300 h.2)
  unfold txt
  split
  · omega
  · simp only [List.length_append, List.length_cons]
    omega
theorem read_txt (k : Nat) (st : Sto) {a : Int × Int} (h : Item a) : callF P (k + 4) 21 [.int 1, .str (txt a)] st = .ok (pD a) st := by
  have hl := txt_len h.2
  have hs := txt_ok a
  obtain ⟨p, q⟩ := a
  have g1 : 0 < q := h.1.1
  have g2 : Int.gcd p q = 1 := h.1.2
  unfold txt at hl hs ⊢
  dsimp only at hl hs ⊢
  by_cases c : q = 1
  · rw [if_pos c] at hl hs ⊢
    have r := law_read1_a k st (strI p) (by omega) hs (strI_47 p)
    rw [okW_int, if_pos rfl, valT_int] at r
    rw [r, c]
  · rw [if_neg c] at hl hs ⊢
    have r := law_read1_b k st (strI p) (strI q) (by omega) hs (strI_47 p)
    have lt : lowT (strI q) = true := by
      unfold lowT
      rw [okW_int, valT_int]
      simp [exSs, exS, evE, evEs, evT, evC, evI, eqv_int, eqv_bl, eqv_pair, sizeLine_eq, L2.atI, L2.ixN, g1, c]
    rw [okW_int, lt, valT_int, valT_int, g2] at r
    simpa [exSs, exS, evE, evEs, evT, evC, evI, eqv_int, eqv_bl, eqv_pair, sizeLine_eq, L2.atI, L2.ixN] using r
/-! the repr of a list of two fractions and a text -/
def Fine (s : Str) : Prop := ∀ c ∈ s.cps.toList, c < 1114112
theorem fine_int (i : Int) : Fine ((PyData.int i).shown) := fun c hc => by
  by_cases z : c < 1114112
  · exact z
  · exact absurd hc (PyProof.Rows.shown_int_free' ⟨by omega, by omega⟩ i)
theorem fine_cat {a b : Str} (ha : Fine a) (hb : Fine b) : Fine (a ++ b) := fun c hc => by
  rcases PyProof.Rows.mem_cps_append.mp hc with z | z
  · exact ha c z
  · exact hb c z
theorem fine_sep : Fine ((", " : String) : Str) := by
  unfold Fine
  decide +kernel
theorem fine_join {ts : List Str} (h : ∀ t ∈ ts, Fine t) : Fine (Str.join ", " ts) := fun c hc => by
  rcases (PyProof.Rows.mem_join _ c ts).mp hc with ⟨t, h1, h2⟩ | ⟨_, h2⟩
  · exact h t h1 c h2
  · exact fine_sep c h2
theorem fine_list {xs : List PyData} (h : ∀ t ∈ PyData.shownAll xs, Fine t) : Fine (PyData.list xs).shown := by
  rw [PyData.shown_list]
  exact fine_cat (fine_cat (by unfold Fine; decide +kernel) (fine_join h)) (by unfold Fine; decide +kernel)
theorem fine_pair (i j : Int) : Fine (PyData.tuple [.int i, .int j]).shown := by
  rw [PyData.shown_tuple]
  refine fine_cat (fine_cat (by unfold Fine; decide +kernel) (fine_join fun t ht => ?_)) (show Fine ((")" : String) : Str) by unfold Fine; decide +kernel)
  rw [PyData.shownAll_cons, PyData.shownAll_cons, PyData.shownAll_nil] at ht
  simp only [List.mem_cons, List.not_mem_nil, or_false] at ht
  rcases ht with rfl | rfl <;> exact fine_int _
theorem char_one {q c : Nat} (hq : q = 39 ∨ q = 34) (h : Ch c) : Builtin.Str.reprChar q c = [c] := by
  unfold Ch at h
  have : c = 45 ∨ c = 47 ∨ c = 48 ∨ c = 49 ∨ c = 50 ∨ c = 51 ∨ c = 52 ∨ c = 53 ∨ c = 54 ∨ c = 55 ∨ c = 56 ∨ c = 57 := by omega
  rcases hq with rfl | rfl <;> rcases this with rfl | rfl | rfl | rfl | rfl | rfl | rfl | rfl | rfl | rfl | rfl | rfl <;> decide +kernel
theorem fold_ch {q : Nat} (hq : q = 39 ∨ q = 34) : ∀ (l : List Nat) (acc : Array Nat), (∀ c ∈ l, Ch c) → (l.foldl (fun out c => out ++ (Builtin.Str.reprChar q c).toArray) acc).toList = acc.toList ++ l
  | [], acc, _ => by simp [exSs, exS, evE, evEs, evT, evC, evI, eqv_int, eqv_bl, eqv_pair, sizeLine_eq, L2.atI, L2.ixN]
  | c :: l, acc, h => by
    rw [List.foldl_cons, fold_ch hq l _ fun d hd => h d (List.mem_cons_of_mem _ hd), char_one hq (h c List.mem_cons_self)]
    simp [exSs, exS, evE, evEs, evT, evC, evI, eqv_int, eqv_bl, eqv_pair, sizeLine_eq, L2.atI, L2.ixN]
theorem quote_is (x : Str) : reprQuote x = 39 ∨ reprQuote x = 34 := by
  unfold reprQuote
  split
  · exact .inr rfl
  · exact .inl rfl
theorem repr_cps {t : Chs} (h : ∀ c ∈ t, Ch c) : (reprText ⟨t.toArray⟩).cps.toList = reprQuote ⟨t.toArray⟩ :: t ++ [reprQuote ⟨t.toArray⟩] := by
  unfold reprText
  simp only [Array.toList_push]
  rw [← Array.foldl_toList, fold_ch (quote_is _) _ _ (by simpa [exSs, exS, evE, evEs, evT, evC, evI, eqv_int, eqv_bl, eqv_pair, sizeLine_eq, L2.atI, L2.ixN] using h)]
  simp [exSs, exS, evE, evEs, evT, evC, evI, eqv_int, eqv_bl, eqv_pair, sizeLine_eq, L2.atI, L2.ixN]
theorem fine_txt {t : Chs} (h : ∀ c ∈ t, Ch c) : Fine (PyData.str ⟨t.toArray⟩).shown := fun c hc => by
  rw [PyData.shown_str, repr_cps h] at hc
  have q := quote_is ⟨t.toArray⟩
  simp only [List.cons_append, List.mem_cons, List.mem_append, List.not_mem_nil, or_false] at hc
  rcases hc with z | z | z
  · omega
  · have := h c z
    unfold Ch at this
    omega
  · omega
theorem repr_ok (st : Sto) (x y : Int × Int) (a : Int × Int) (hx : Bd 300 x) (hy : Bd 300 y) (ha : Bd 140 a) : ∃ t, reprD st (.lst [pD x, pD y, .str (txt a)]) = some (.str t) ∧ sOk t := by
  obtain ⟨x1, x2⟩ := x
  obtain ⟨y1, y2⟩ := y
  have hl := txt_len ha
  have ch := txt_ch a
  have s1 : ∀ {i : Int}, i.natAbs < 2 ^ 300 → i.natAbs.log2 < 1920 := fun h => by
    have := log2_lt_of (by decide : 0 < 300) h
    omega
  have s2 : ∀ {i : Int}, i.natAbs < 2 ^ 300 → (Str.ofString (toString i)).length ≤ 301 := fun {i} h => by
    have p : (2 : Nat) ^ 300 ≤ 10 ^ 300 := Nat.pow_le_pow_left (by decide) 300
    have := strI_len (i := i) (k := 300) (by decide) (by omega)
    unfold strI at this
    simpa [exSs, exS, evE, evEs, evT, evC, evI, eqv_int, eqv_bl, eqv_pair, sizeLine_eq, L2.atI, L2.ixN, Str.length] using this
  have s3 : ∀ {i : Int}, i.natAbs < 2 ^ 300 → ((PyData.int i).shown).length ≤ 310 := fun {i} h => by
    rw [PyData.shown_int]
    have := s2 h
    omega
  have wt : ∀ {i : Int}, i.natAbs < 2 ^ 300 → (if i = 0 then 0 else i.natAbs.log2 + 1) ≤ 301 := fun {i} h => by
    have := log2_lt_of (by decide : 0 < 300) h
    split <;> omega
  have e : toPD st 65 (.lst [pD (x1, x2), pD (y1, y2), .str (txt a)]) = some (.list [.tuple [.int x1, .int x2], .tuple [.int y1, .int y2], .str ⟨(txt a).toArray⟩]) := by
    simp [exSs, exS, evE, evEs, evT, evC, evI, eqv_int, eqv_bl, eqv_pair, sizeLine_eq, L2.atI, L2.ixN, toPD, pD]
  have sh : (PyData.list [.tuple [.int x1, .int x2], .tuple [.int y1, .int y2], .str ⟨(txt a).toArray⟩]).showable = true := by
    simp [exSs, exS, evE, evEs, evT, evC, evI, eqv_int, eqv_bl, eqv_pair, sizeLine_eq, L2.atI, L2.ixN, PyData.showable, PyData.showableAll, s1 hx.1, s1 hx.2, s1 hy.1, s1 hy.2]
  have fi : Fine (PyData.list [.tuple [.int x1, .int x2], .tuple [.int y1, .int y2], .str ⟨(txt a).toArray⟩]).shown := by
    refine fine_list fun t ht => ?_
    rw [PyData.shownAll_cons, PyData.shownAll_cons, PyData.shownAll_cons, PyData.shownAll_nil] at ht
    simp only [List.mem_cons, List.not_mem_nil, or_false] at ht
    rcases ht with rfl | rfl | rfl
    · exact fine_pair _ _
    · exact fine_pair _ _
    · exact fine_txt ch
  have le : (PyData.list [.tuple [.int x1, .int x2], .tuple [.int y1, .int y2], .str ⟨(txt a).toArray⟩]).shown.length ≤ sizeLine := by
    have b := PyData.shown_le 310 (by decide) (PyData.list [.tuple [.int x1, .int x2], .tuple [.int y1, .int y2], .str ⟨(txt a).toArray⟩]) (by
      simp [exSs, exS, evE, evEs, evT, evC, evI, eqv_int, eqv_bl, eqv_pair, sizeLine_eq, L2.atI, L2.ixN, PyData.leavesShort, PyData.leavesShortAll]
      exact ⟨⟨s3 hx.1, s3 hx.2⟩, ⟨s3 hy.1, s3 hy.2⟩, fun c hc => by
        have := ch c hc
        unfold Ch at this
        omega⟩)
    have w1 := wt hx.1
    have w2 := wt hx.2
    have w3 := wt hy.1
    have w4 := wt hy.2
    simp only [PyData.weight, PyData.weightAll, Str.length, List.size_toArray, beq_iff_eq] at b ⊢
    dsimp only at w1 w2 w3 w4
    rw [sizeLine_eq]
    omega
  refine ⟨(PyData.list [.tuple [.int x1, .int x2], .tuple [.int y1, .int y2], .str ⟨(txt a).toArray⟩]).shown.cps.toList, ?_, ?_⟩
  · unfold reprD
    rw [e]
    dsimp only
    rw [sh, decide_eq_true le]
    rfl
  · unfold sOk PyData.strOk
    rw [← Array.all_toList, List.all_eq_true]
    intro c hc
    simpa [exSs, exS, evE, evEs, evT, evC, evI, eqv_int, eqv_bl, eqv_pair, sizeLine_eq, L2.atI, L2.ixN] using fi c (by simpa [exSs, exS, evE, evEs, evT, evC, evI, eqv_int, eqv_bl, eqv_pair, sizeLine_eq, L2.atI, L2.ixN] using hc)
end K09
end
section
set_option linter.all false
set_option autoImplicit false
set_option maxRecDepth 100000
set_option maxHeartbeats 1000000
namespace K09
open PySem Mini
theorem co_dvd {x y z : Int} (h : x ∣ y * z) (g : Int.gcd y x = 1) : x ∣ z := by
  rw [← Int.natAbs_dvd_natAbs] at h ⊢
  rw [Int.natAbs_mul] at h
  have g' : Nat.Coprime x.natAbs y.natAbs := by
    have : Int.gcd x y = 1 := by rw [Int.gcd_comm]; exact g
    exact this
  exact g'.dvd_of_dvd_mul_left h
theorem red_inj {a b : Int × Int} (ha : Red a) (hb : Red b) (h : b.1 * a.2 = a.1 * b.2) : a = b := by
  have d1 : a.2 ∣ b.2 := by
    have : a.2 ∣ a.1 * b.2 := ⟨b.1, by rw [← h, Int.mul_comm]⟩
    exact co_dvd this ha.2
  have d2 : b.2 ∣ a.2 := by
    have : b.2 ∣ b.1 * a.2 := ⟨a.1, by rw [h, Int.mul_comm]⟩
    exact co_dvd this hb.2
  have e : a.2 = b.2 := by
    have := Int.le_of_dvd hb.1 d1
    have := Int.le_of_dvd ha.1 d2
    omega
  have f : b.1 = a.1 := by
    rw [e] at h
    exact Int.eq_of_mul_eq_mul_right (by have := hb.1; omega) h
  exact Prod.ext f.symm e
theorem at_p0 (st : Sto) (a : Int × Int) : atD st (pD a) 0 = some (.int a.1) := by simp [exSs, exS, evE, evEs, evT, evC, evI, eqv_int, eqv_bl, sizeLine_eq, L2.ixN, pD, L2.atI]
theorem at_p1 (st : Sto) (a : Int × Int) : atD st (pD a) 1 = some (.int a.2) := by simp [exSs, exS, evE, evEs, evT, evC, evI, eqv_int, eqv_bl, sizeLine_eq, L2.ixN, pD, L2.atI]
theorem eqv_pD (st : Sto) (a b : Int × Int) : eqvD st (pD a) (pD b) = some (a.1 == b.1 && a.2 == b.2) := eqv_pair ..
theorem eqv_self (st : Sto) (a : Int × Int) : eqvD st (pD a) (pD a) = some true := by
  rw [eqv_pD]
  simp [exSs, exS, evE, evEs, evT, evC, evI, eqv_int, eqv_bl, sizeLine_eq, L2.ixN]
section
variable {a b : Int × Int} {env : Mini.Env} {st : Sto} (ha : Item a) (hb : Item b) (h9 : getV env 9 = some (pD a)) (h10 : getV env 10 = some (pD b))
include ha hb
theorem ab0 : a.2 * b.2 ≠ 0 := Int.mul_ne_zero (by have := ha.1.1; omega) (by have := hb.1.1; omega)
theorem d8 : (a.2 * b.2).natAbs < 2 ^ 8000 := lt8000 (mul_lt ha.2.2 hb.2.2) (by decide)
theorem pl_at (k : Nat) : callF P (k + 3) 6 [pD a, pD b] st = .ok (pD (low (a.1 * b.2 + b.1 * a.2) (a.2 * b.2))) st := plus_is k st a b ha.2 hb.2 (by decide) (by decide) (by decide) (ab0 ha hb)
theorem mi_at (k : Nat) : callF P (k + 3) 7 [pD a, pD b] st = .ok (pD (low (a.1 * b.2 - b.1 * a.2) (a.2 * b.2))) st := minus_is k st a b ha.2 hb.2 (by decide) (by decide) (by decide) (ab0 ha hb)
theorem ti_at (k : Nat) : callF P (k + 3) 8 [pD a, pD b] st = .ok (pD (low (a.1 * b.1) (a.2 * b.2))) st := times_is k st a b ha.2 hb.2 (by decide) (by decide) (by decide) (ab0 ha hb)
theorem lo_at (k : Nat) (n : Int) : callF P (k + 1) 18 [.int n, .int (a.2 * b.2)] st = .ok (pD (low n (a.2 * b.2))) st := low_is k st n _ (ab0 ha hb) (d8 ha hb)
theorem W00 : wide a.1 b.1 = true := wide_of (by decide) (by decide) ha.2.1 hb.2.1 (by decide)
theorem W01 : wide a.1 b.2 = true := wide_of (by decide) (by decide) ha.2.1 hb.2.2 (by decide)
theorem W10 : wide b.1 a.2 = true := wide_of (by decide) (by decide) hb.2.1 ha.2.2 (by decide)
theorem W20 : wide a.2 b.1 = true := wide_of (by decide) (by decide) ha.2.2 hb.2.1 (by decide)
theorem W11 : wide a.2 b.2 = true := wide_of (by decide) (by decide) ha.2.2 hb.2.2 (by decide)
include h9 h10
theorem i13 : evT (callF P 7) l_law_13i env st = .ok false st := by
  have e1 := pl_at (st := st) ha hb 4
  have e2 := mi_at (st := st) ha hb 4
  have e3 := lo_at (st := st) ha hb 6 (a.1 * b.2 + b.1 * a.2)
  have e4 := lo_at (st := st) ha hb 6 (a.1 * b.2 - b.1 * a.2)
  simp [exSs, exS, evE, evEs, evT, evC, evI, eqv_int, eqv_bl, sizeLine_eq, L2.ixN, l_law_13i, h9, h10, at_p0, at_p1, W01 ha hb, W10 ha hb, W11 ha hb, e1, e2, e3, e4, eqv_self]
theorem i12 : evT (callF P 7) l_law_12i env st = .ok false st := by
  have e1 := ti_at (st := st) ha hb 4
  have e3 := lo_at (st := st) ha hb 6 (a.1 * b.1)
  have e2 := ask1 3 st a b ha.2 hb.2 (by decide) (by decide) (by decide) (by have := ha.1.1; omega)
  by_cases z : b.1 = 0
  · rw [if_pos z] at e2
    have z' : (b.1 == 0) = true := by simpa [exSs, exS, evE, evEs, evT, evC, evI, eqv_int, eqv_bl, sizeLine_eq, L2.ixN] using z
    simp [exSs, exS, evE, evEs, evT, evC, evI, eqv_int, eqv_bl, sizeLine_eq, L2.ixN, l_law_12i, h9, h10, at_p0, at_p1, W00 ha hb, W01 ha hb, W20 ha hb, W11 ha hb, e1, e2, e3, eqv_self, z', eqv_mal]
  · rw [if_neg z] at e2
    have z' : (b.1 == 0) = false := by simpa [exSs, exS, evE, evEs, evT, evC, evI, eqv_int, eqv_bl, sizeLine_eq, L2.ixN] using z
    have e4 := low_is 6 st (a.1 * b.2) (a.2 * b.1) (Int.mul_ne_zero (by have := ha.1.1; omega) z) (lt8000 (mul_lt ha.2.2 hb.2.1) (by decide))
    simp [exSs, exS, evE, evEs, evT, evC, evI, eqv_int, eqv_bl, sizeLine_eq, L2.ixN, l_law_12i, h9, h10, at_p0, at_p1, W00 ha hb, W01 ha hb, W20 ha hb, W11 ha hb, e1, e2, e3, e4, eqv_self, z', z]
theorem i10 (h8 : getV env 8 = some (.bl (decide (a.1 * b.2 < b.1 * a.2)))) : evT (callF P 7) l_law_10i env st = .ok false st := by
  have e1 := below_is 6 st a b ha.2 hb.2 (by decide) (by decide) (by decide)
  have e2 := lesser_is 5 st a b ha.2 hb.2 (by decide) (by decide) (by decide)
  have e3 := greater_is 5 st a b ha.2 hb.2 (by decide) (by decide) (by decide)
  have key : b.1 * a.2 = a.1 * b.2 → a = b := red_inj ha.1 hb.1
  by_cases l : a.1 * b.2 < b.1 * a.2
  · have l2 : ¬ b.1 * a.2 < a.1 * b.2 := by omega
    rw [if_neg l2] at e2
    rw [if_pos l] at e3
    simp [exSs, exS, evE, evEs, evT, evC, evI, eqv_int, eqv_bl, sizeLine_eq, L2.ixN, l] at e1 h8
    simp [exSs, exS, evE, evEs, evT, evC, evI, eqv_int, eqv_bl, sizeLine_eq, L2.ixN, l_law_10i, h9, h10, h8, e1, e2, e3, eqv_self]
  · rw [if_neg l] at e3
    simp [exSs, exS, evE, evEs, evT, evC, evI, eqv_int, eqv_bl, sizeLine_eq, L2.ixN, l] at e1 h8
    by_cases l2 : b.1 * a.2 < a.1 * b.2
    · rw [if_pos l2] at e2
      simp [exSs, exS, evE, evEs, evT, evC, evI, eqv_int, eqv_bl, sizeLine_eq, L2.ixN, l_law_10i, h9, h10, h8, e1, e2, e3, eqv_self]
    · have := key (by omega)
      subst this
      rw [if_neg l2] at e2
      simp [exSs, exS, evE, evEs, evT, evC, evI, eqv_int, eqv_bl, sizeLine_eq, L2.ixN, l_law_10i, h9, h10, h8, e1, e2, e3, eqv_self]
omit hb h10 in
theorem i9 : evT (callF P 7) l_law_9i env st = .ok false st := by
  have e1 := (text_is 6 st a (bd300 ha.2.1) (bd300 ha.2.2)).1
  have e2 := (text_is 6 st a (bd300 ha.2.1) (bd300 ha.2.2)).2
  have e3 := read_txt 3 st ha
  have s : eqvD st (.str (txt a)) (.str (txt a)) = some true := by
    rw [eqv_str' st _ _ (txt_ok a) (txt_ok a)]
    simp [exSs, exS, evE, evEs, evT, evC, evI, eqv_int, eqv_bl, sizeLine_eq, L2.ixN]
  simp [exSs, exS, evE, evEs, evT, evC, evI, eqv_int, eqv_bl, sizeLine_eq, L2.ixN, l_law_9i, h9, e1, e2, e3, s, eqv_self]
theorem i11 (h7 : getV env 7 = some (.lst [pD (low (a.1 * b.2 + b.1 * a.2) (a.2 * b.2)), pD (low (a.1 * b.1) (a.2 * b.2))])) : evT (callF P 7) l_law_11i env st = .ok false st := by
  have e1 := pl_at (st := st) ha hb 4
  have e2 := ti_at (st := st) ha hb 4
  have e3 := (text_is 6 st a (bd300 ha.2.1) (bd300 ha.2.2)).1
  have e4 := (text_is 6 st a (bd300 ha.2.1) (bd300 ha.2.2)).2
  have l1 := low_le (n := a.1 * b.2 + b.1 * a.2) (ab0 ha hb)
  have l2 := low_le (n := a.1 * b.1) (ab0 ha hb)
  have m1 := mul_lt ha.2.1 hb.2.2
  have m2 := mul_lt hb.2.1 ha.2.2
  have m3 := mul_lt ha.2.2 hb.2.2
  have m4 := mul_lt ha.2.1 hb.2.1
  have m5 := add_lt m1 m2
  obtain ⟨t, t1, t2⟩ := repr_ok st (low (a.1 * b.2 + b.1 * a.2) (a.2 * b.2)) (low (a.1 * b.1) (a.2 * b.2)) a ⟨by omega, by omega⟩ ⟨by omega, by omega⟩ ha.2
  have s : eqvD st (.str t) (.str t) = some true := by
    rw [eqv_str' st _ _ t2 t2]
    simp [exSs, exS, evE, evEs, evT, evC, evI, eqv_int, eqv_bl, sizeLine_eq, L2.ixN]
  simp [exSs, exS, evE, evEs, evT, evC, evI, eqv_int, eqv_bl, sizeLine_eq, L2.ixN, l_law_11i, h9, h10, h7, e1, e2, e3, e4, t1, s]
end
theorem found_at (st : Sto) (xs : List (Int × Int)) (i : Int) (h0 : 0 ≤ i) (h : i < (xs.length : Int)) : ∃ a ∈ xs, atD st (.lst (xs.map pD)) i = some (pD a) := by
  have l : i.toNat < xs.length := by omega
  refine ⟨xs[i.toNat], List.getElem_mem l, ?_⟩
  simp [exSs, exS, evE, evEs, evT, evC, evI, eqv_int, eqv_bl, sizeLine_eq, L2.ixN, L2.atI, h0, h, l]
theorem loop14 (z : Mini.D) (xs : List (Int × Int)) (hx : ∀ x ∈ xs, Item x) (hp : 0 < xs.length) (hl : xs.length ≤ 20) : ∀ (ds : List Mini.D) (st : Sto) (o3 o4 o5 o6 o7 o8 o9 o10 : Option Mini.D), DrawOk st →
    ∃ (st' : Sto) (p3 p4 p5 p6 p7 p8 p9 p10 : Option Mini.D), forL [] (.nm 3) (exSs cs (callF P 7) l_law_14b) ds (E z (.lst (xs.map pD)) o3 o4 o5 o6 o7 o8 o9 o10 none none none none) st = .nx (E z (.lst (xs.map pD)) p3 p4 p5 p6 p7 p8 p9 p10 none none none none) st' ∧ DrawOk st'
  | [], st, o3, o4, o5, o6, o7, o8, o9, o10, h => ⟨st, o3, o4, o5, o6, o7, o8, o9, o10, by simp [exSs, exS, evE, evEs, evT, evC, evI, eqv_int, eqv_bl, sizeLine_eq, L2.ixN], h⟩
  | w :: ds, st, o3, o4, o5, o6, o7, o8, o9, o10, h => by
    have hp' : (0 : Int) < (xs.length : Int) := by omega
    have hg : ((xs.length : Int)).natAbs.log2 < 9000 := by
      have := log2_lt_of (n := xs.length) (by decide : 0 < 10) (by omega)
      simp [exSs, exS, evE, evEs, evT, evC, evI, eqv_int, eqv_bl, sizeLine_eq, L2.ixN]
      omega
    obtain ⟨i, st1, e1, h1, i0, i1⟩ := take_is 6 (xs.length : Int) hp' hg h
    obtain ⟨j, st2, e2, h2, j0, j1⟩ := take_is 6 (xs.length : Int) hp' hg h1
    obtain ⟨a, am, ea⟩ := found_at st1 xs i i0 i1
    obtain ⟨b, bm, eb⟩ := found_at st2 xs j j0 j1
    have ha := hx a am
    have hb := hx b bm
    have f1 := lo_at (st := st2) ha hb 6 (a.1 * b.2 + b.1 * a.2)
    have f2 := lo_at (st := st2) ha hb 6 (a.1 * b.1)
    have g13 := i13 (env := E z (.lst (xs.map pD)) (some w) o4 o5 o6 o7 o8 (some (pD a)) (some (pD b)) none none none none) (st := st2) ha hb rfl rfl
    have g12 := i12 (env := E z (.lst (xs.map pD)) (some w) o4 o5 o6 o7 o8 (some (pD a)) (some (pD b)) none none none none) (st := st2) ha hb rfl rfl
    have g11 := i11 (env := E z (.lst (xs.map pD)) (some w) o4 o5 o6 (some (.lst [pD (low (a.1 * b.2 + b.1 * a.2) (a.2 * b.2)), pD (low (a.1 * b.1) (a.2 * b.2))])) o8 (some (pD a)) (some (pD b)) none none none none) (st := st2) ha hb rfl rfl rfl
    have g10 := i10 (env := E z (.lst (xs.map pD)) (some w) o4 o5 o6 (some (.lst [pD (low (a.1 * b.2 + b.1 * a.2) (a.2 * b.2)), pD (low (a.1 * b.1) (a.2 * b.2))])) (some (.bl (decide (a.1 * b.2 < b.1 * a.2)))) (some (pD a)) (some (pD b)) none none none none) (st := st2) ha hb rfl rfl rfl
    have g9 := i9 (env := E z (.lst (xs.map pD)) (some w) o4 o5 o6 (some (.lst [pD (low (a.1 * b.2 + b.1 * a.2) (a.2 * b.2)), pD (low (a.1 * b.1) (a.2 * b.2))])) (some (.bl (decide (a.1 * b.2 < b.1 * a.2)))) (some (pD a)) (some (pD b)) none none none none) (st := st2) ha rfl
    obtain ⟨st', p3, p4, p5, p6, p7, p8, p9, p10, e, h'⟩ := loop14 z xs hx hp hl ds st2 (some w) o4 o5 o6 (some (.lst [pD (low (a.1 * b.2 + b.1 * a.2) (a.2 * b.2)), pD (low (a.1 * b.1) (a.2 * b.2))])) (some (.bl (decide (a.1 * b.2 < b.1 * a.2)))) (some (pD a)) (some (pD b)) h2
    refine ⟨st', p3, p4, p5, p6, p7, p8, p9, p10, ?_, h'⟩
    rw [← e, forL_cons]
    have l2 : ∀ x y : Mini.D, ([x, y] : List Mini.D).length ≤ sizeLine := fun _ _ => by simp [exSs, exS, evE, evEs, evT, evC, evI, eqv_int, eqv_bl, sizeLine_eq, L2.ixN]
    simp only [l2, if_true, l_law_14b, exSs, exS, evEs, evE, getV_s, getV_0, setT_nm, List.set_cons_succ, List.set_cons_zero, bnd_ok, out_ok, p_len, len_lst, List.length_map, oneR_some', liftP_some, e1, e2, p_ix, ea, eb, setN_cons, setN_nil, nxO_some', sq_nx, g13, g12, g11, g10, g9, at_p0, at_p1, p_mul_ii, W00 ha hb, W01 ha hb, W10 ha hb, W11 ha hb, guardR_true, p_add_ii, f1, f2, p_lt, Bool.false_eq_true, if_false]
end K09
end
section
set_option linter.all false
set_option autoImplicit false
set_option maxRecDepth 100000
set_option maxHeartbeats 1000000
namespace K09
open PySem Mini
/-! the texts -/
theorem at0_ok : sOk at0 := by decide +kernel
theorem eqv_at0 (st : Sto) : eqvD st (.str at0) (.str at0) = some true := by
  rw [eqv_str' st _ _ at0_ok at0_ok]
  rfl
def TextD (d : Mini.D) : Prop := notStr d ∨ ∃ t : Chs, d = .str t ∧ t.length ≤ 640 ∧ sOk t
theorem good_whole_not (k : Nat) (st : Sto) (d : Mini.D) (h : notStr d) : callF P (k + 2) 24 [d] st = .ok (.bl false) st := good_whole_no k st d h
theorem j1 (env : Mini.Env) (st : Sto) (d : Mini.D) (h : TextD d) (h13 : getV env 13 = some d) : evT (callF P 7) l_law_1i env st = .ok false st := by
  rcases h with h | ⟨t, rfl, hl, hs⟩
  · have e1 := law_read0_no 3 st d h
    have e2 := good_whole_not 5 st d h
    simp [exSs, exS, evE, evEs, evT, evC, evI, eqv_int, eqv_bl, eqv_pair, sizeLine_eq, L2.atI, L2.ixN, l_law_1i, h13, e1, e2, eqv_at0]
  · have e1 := law_read0 3 st t hl hs
    have e2 := good_whole_is 5 st t hl hs
    cases q : okW t with
    | false =>
      rw [q] at e1 e2
      simp [exSs, exS, evE, evEs, evT, evC, evI, eqv_int, eqv_bl, eqv_pair, sizeLine_eq, L2.atI, L2.ixN] at e1
      simp [exSs, exS, evE, evEs, evT, evC, evI, eqv_int, eqv_bl, eqv_pair, sizeLine_eq, L2.atI, L2.ixN, l_law_1i, h13, e1, e2, eqv_at0]
    | true =>
      rw [q] at e1 e2
      simp [exSs, exS, evE, evEs, evT, evC, evI, eqv_int, eqv_bl, eqv_pair, sizeLine_eq, L2.atI, L2.ixN] at e1
      simp [exSs, exS, evE, evEs, evT, evC, evI, eqv_int, eqv_bl, eqv_pair, sizeLine_eq, L2.atI, L2.ixN, l_law_1i, h13, e1, e2, intD_is hl q]
theorem j0 (env : Mini.Env) (st : Sto) (d : Mini.D) (h : TextD d) (h13 : getV env 13 = some d) : ∃ g, callF P 7 25 [d] st = .ok (.bl g) st ∧ (getV env 14 = some (.bl g) → evT (callF P 7) l_law_0i env st = .ok false st) := by
  rcases h with h | ⟨t, rfl, hl, hs⟩
  · have e1 := law_read1_no 3 st d h
    exact ⟨false, good_ratio_no 6 st d h, fun h14 => by simp [exSs, exS, evE, evEs, evT, evC, evI, eqv_int, eqv_bl, eqv_pair, sizeLine_eq, L2.atI, L2.ixN, l_law_0i, h13, h14, e1, eqv_at0]⟩
  · have hz : t.length + 2 ≤ 16777216 := by omega
    by_cases c : 47 ∈ t
    · obtain ⟨p, r, rfl, np⟩ := first47 c
      have e1 := law_read1_b 3 st p r hl hs np
      refine ⟨_, good_yes 4 st p r hl hs np, fun h14 => ?_⟩
      cases q : (okW p && lowT r && decide (Int.gcd (valT p) (valT r) = 1)) with
      | false =>
        rw [q] at e1 h14
        simp [exSs, exS, evE, evEs, evT, evC, evI, eqv_int, eqv_bl, eqv_pair, sizeLine_eq, L2.atI, L2.ixN] at e1
        simp [exSs, exS, evE, evEs, evT, evC, evI, eqv_int, eqv_bl, eqv_pair, sizeLine_eq, L2.atI, L2.ixN, l_law_0i, h13, h14, e1, eqv_at0]
      | true =>
        rw [q] at e1 h14
        simp [exSs, exS, evE, evEs, evT, evC, evI, eqv_int, eqv_bl, eqv_pair, sizeLine_eq, L2.atI, L2.ixN] at e1
        simp only [Bool.and_eq_true] at q
        have t1 : okW r = true := by
          have := q.1.2
          unfold lowT at this
          simp only [Bool.and_eq_true] at this
          exact this.1.1
        have nr : 47 ∉ r := fun hr => by
          rw [okW_bar hr] at t1
          cases t1
        have lp : p.length ≤ 640 := by
          simp only [List.length_append, List.length_cons] at hl
          omega
        have lr : r.length ≤ 640 := by
          simp only [List.length_append, List.length_cons] at hl
          omega
        have hz2 : p.length + (r.length + 1) + 2 ≤ 16777216 := by
          simp only [List.length_append, List.length_cons] at hl
          omega
        simp [exSs, exS, evE, evEs, evT, evC, evI, eqv_int, eqv_bl, eqv_pair, sizeLine_eq, L2.atI, L2.ixN, l_law_0i, h13, h14, e1, hz2, split_yes np, split_no nr, intD_is lp q.1.1, intD_is lr t1, inD, pD, rcv]
    · have e1 := law_read1_a 3 st t hl hs c
      refine ⟨_, good_no 4 st t hl hs c, fun h14 => ?_⟩
      cases q : okW t with
      | false =>
        rw [q] at e1 h14
        simp [exSs, exS, evE, evEs, evT, evC, evI, eqv_int, eqv_bl, eqv_pair, sizeLine_eq, L2.atI, L2.ixN] at e1
        simp [exSs, exS, evE, evEs, evT, evC, evI, eqv_int, eqv_bl, eqv_pair, sizeLine_eq, L2.atI, L2.ixN, l_law_0i, h13, h14, e1, eqv_at0]
      | true =>
        rw [q] at e1 h14
        simp [exSs, exS, evE, evEs, evT, evC, evI, eqv_int, eqv_bl, eqv_pair, sizeLine_eq, L2.atI, L2.ixN] at e1
        simp [exSs, exS, evE, evEs, evT, evC, evI, eqv_int, eqv_bl, eqv_pair, sizeLine_eq, L2.atI, L2.ixN, l_law_0i, h13, h14, e1, hz, split_no c, intD_is hl q, inD, pD, c, rcv]
theorem loop2 (z f : Mini.D) (p3 p4 p5 p6 p7 p8 p9 p10 p11 p12 : Option Mini.D) (st : Sto) : ∀ (ds : List Mini.D) (o13 o14 : Option Mini.D), (∀ d ∈ ds, TextD d) → ∃ q13 q14 : Option Mini.D,
    forL [] (.nm 13) (exSs cs (callF P 7) l_law_2b) ds (E z f p3 p4 p5 p6 p7 p8 p9 p10 p11 p12 o13 o14) st = .nx (E z f p3 p4 p5 p6 p7 p8 p9 p10 p11 p12 q13 q14) st
  | [], o13, o14, _ => ⟨o13, o14, by simp [exSs, exS, evE, evEs, evT, evC, evI, eqv_int, eqv_bl, eqv_pair, sizeLine_eq, L2.atI, L2.ixN]⟩
  | d :: ds, o13, o14, h => by
    have hd := h d List.mem_cons_self
    obtain ⟨g, e2, e0⟩ := j0 (E z f p3 p4 p5 p6 p7 p8 p9 p10 p11 p12 (some d) o14) st d hd rfl
    obtain ⟨g', e2', e0'⟩ := j0 (E z f p3 p4 p5 p6 p7 p8 p9 p10 p11 p12 (some d) (some (.bl g))) st d hd rfl
    have gg : g = g' := by
      rw [e2] at e2'
      injection e2' with a b
      injection a
    subst gg
    have c0 := e0' rfl
    have c1 := j1 (E z f p3 p4 p5 p6 p7 p8 p9 p10 p11 p12 (some d) o14) st d hd rfl
    obtain ⟨q13, q14, e⟩ := loop2 z f p3 p4 p5 p6 p7 p8 p9 p10 p11 p12 st ds (some d) (some (.bl g)) fun y hy => h y (List.mem_cons_of_mem _ hy)
    refine ⟨q13, q14, ?_⟩
    rw [← e, forL_cons]
    simp only [l_law_2b, exSs, exS, evEs, evE, getV_s, getV_0, setT_nm, List.set_cons_succ, List.set_cons_zero, bnd_ok, out_ok, c1, e2, nxO_some', sq_nx, c0, Bool.false_eq_true, if_false]
end K09
end
section
set_option linter.all false
set_option autoImplicit false
set_option maxRecDepth 100000
set_option maxHeartbeats 1000000
namespace K09
open PySem Mini
/-! the sums -/
theorem loop8 (z f : Mini.D) (p3 p4 p5 p6 o8 o10 : Option Mini.D) (st : Sto) : ∀ (xs : List (Int × Int)) (s : Int × Int) (m : Nat) (o : Option Mini.D), (∀ x ∈ xs, Item x) → Red s → Bd m s → 0 < m → m + 141 * xs.length ≤ 7000 → ∃ o' : Option Mini.D,
    forL [] (.nm 9) (exSs cs (callF P 7) l_law_8b) (xs.map pD) (E z f p3 p4 p5 p6 (some (pD s)) o8 o o10 none none none none) st = .nx (E z f p3 p4 p5 p6 (some (pD (sumS s xs))) o8 o' o10 none none none none) st
  | [], s, m, o, _, _, _, _, _ => ⟨o, by simp [exSs, exS, evE, evEs, evT, evC, evI, eqv_int, eqv_bl, sizeLine_eq, L2.ixN, sumS]⟩
  | x :: xs, s, m, o, hx, hs, hb, hm, hl => by
    have hx0 := hx x List.mem_cons_self
    rw [List.length_cons] at hl
    obtain ⟨r1, r2, r3⟩ := step_ok hs hb hx0
    obtain ⟨o', e⟩ := loop8 z f p3 p4 p5 p6 o8 o10 st xs _ (m + 141) (some (pD x)) (fun y hy => hx y (List.mem_cons_of_mem _ hy)) r1 r2 (by omega) (by omega)
    have ss : sumS s (x :: xs) = sumS (low (s.1 * x.2 + x.1 * s.2) (s.2 * x.2)) xs := rfl
    have lo := low_is 6 st (s.1 * x.2 + x.1 * s.2) (s.2 * x.2) r3 (lt8000 (mul_lt hb.2 hx0.2.2) (by omega))
    have w1 : wide s.1 x.2 = true := wide_of hm (by decide) hb.1 hx0.2.2 (by omega)
    have w2 : wide x.1 s.2 = true := wide_of (by decide) hm hx0.2.1 hb.2 (by omega)
    have w3 : wide s.2 x.2 = true := wide_of hm (by decide) hb.2 hx0.2.2 (by omega)
    refine ⟨o', ?_⟩
    rw [ss, ← e, List.map_cons, forL_cons]
    simp only [l_law_8b, exSs, exS, evEs, evE, getV_s, getV_0, setT_nm, List.set_cons_succ, List.set_cons_zero, bnd_ok, out_ok, p_ix, oneR_some', liftP_some, nxO_some', sq_nx, at_p0, at_p1, p_mul_ii, w1, w2, w3, guardR_true, p_add_ii, lo]
theorem i7 (env : Mini.Env) (st : Sto) (xs : List (Int × Int)) (hx : ∀ x ∈ xs, Item x) (hl : xs.length ≤ 20) (h2 : getV env 2 = some (.lst (xs.map pD))) (h7 : getV env 7 = some (pD (sumS (0, 1) xs))) : evT (callF P 7) l_law_7i env st = .ok false st := by
  have e1 := total_is 3 st xs hx hl
  have e2 := (total_is 3 st [] (by simp [exSs, exS, evE, evEs, evT, evC, evI, eqv_int, eqv_bl, sizeLine_eq, L2.ixN]) (by simp [exSs, exS, evE, evEs, evT, evC, evI, eqv_int, eqv_bl, sizeLine_eq, L2.ixN])).1
  have e3 : eqvD st (pD (0, 1)) (.tup [.int 0, .int 1]) = some true := eqv_self st (0, 1)
  have e4 : tupD st (.lst (xs.map pD)) = some (.tup (xs.map pD)) := rfl
  have e5 : sumS (0, 1) [] = (0, 1) := rfl
  rw [e5, List.map_nil] at e2
  simp [exSs, exS, evE, evEs, evT, evC, evI, eqv_int, eqv_bl, sizeLine_eq, L2.ixN, l_law_7i, h2, h7, e1.1, e1.2, e2, e3, e4, eqv_self]
/-! the fixed values -/
def vals : List Mini.D := [.non, .str [49], .tup [.int 1], .tup [.int 1, .int 2, .int 3], .lst [.int 1, .int 2], .tup [.bl true, .int 2], .tup [.int 2, .bl true], .tup [.int 1, .int 0], .tup [.int 2, .int 4], .tup [.int 1, .int (-2)], .tup [.int 0, .int 2], .tup [.int 0, .int 1]]
theorem i5 (env : Mini.Env) (st : Sto) (d : Mini.D) (hd : d ∈ vals) (h : getV env 11 = some d) : evT (callF P 7) l_law_5i env st = .ok false st := by
  have r := is_ratio_is 5 st
  have w1 := is_whole_of 5 st (.bl true) false rfl
  have w2 := is_whole_of 5 st (.int 2) true rfl
  simp only [vals, List.mem_cons, List.not_mem_nil, or_false] at hd
  rcases hd with rfl | rfl | rfl | rfl | rfl | rfl | rfl | rfl | rfl | rfl | rfl | rfl
  · have c : callF P 7 5 [.non] st = .ok (.bl false) st := by
      rw [callF_at (fn := f_is_ratio) rfl rfl]
      simp [exSs, exS, evE, evEs, evT, evC, evI, eqv_int, eqv_bl, sizeLine_eq, L2.ixN, f_is_ratio, b_is_ratio, l_is_ratio_0i, startE, isiD, isK, kindD]
    have e : eqvD st .non (.tup [.int 0, .int 1]) = some false := by simp [exSs, exS, evE, evEs, evT, evC, evI, eqv_int, eqv_bl, sizeLine_eq, L2.ixN, eqvD, toPD, SeqAt.shaped, PyData.canLay0, PyData.canLayAll0, PyData.depth, PyData.depthAll, PyData.eqv, PyData.eqvAll]
    simp [exSs, exS, evE, evEs, evT, evC, evI, eqv_int, eqv_bl, sizeLine_eq, L2.ixN, l_law_5i, h, c, e]
  · have c : callF P 7 5 [.str [49]] st = .ok (.bl false) st := by
      rw [callF_at (fn := f_is_ratio) rfl rfl]
      simp [exSs, exS, evE, evEs, evT, evC, evI, eqv_int, eqv_bl, sizeLine_eq, L2.ixN, f_is_ratio, b_is_ratio, l_is_ratio_0i, startE, isiD, isK, kindD]
    have e : eqvD st (.str [49]) (.tup [.int 0, .int 1]) = some false := eqv_str_pair st _ _ _ (by decide +kernel)
    simp [exSs, exS, evE, evEs, evT, evC, evI, eqv_int, eqv_bl, sizeLine_eq, L2.ixN, l_law_5i, h, c, e]
  · have c : callF P 7 5 [.tup [.int 1]] st = .ok (.bl false) st := by
      rw [callF_at (fn := f_is_ratio) rfl rfl]
      simp [exSs, exS, evE, evEs, evT, evC, evI, eqv_int, eqv_bl, sizeLine_eq, L2.ixN, f_is_ratio, b_is_ratio, l_is_ratio_0i, startE, isiD, isK, kindD]
    have e : eqvD st (.tup [.int 1]) (.tup [.int 0, .int 1]) = some false := by simp [exSs, exS, evE, evEs, evT, evC, evI, eqv_int, eqv_bl, sizeLine_eq, L2.ixN, eqvD, toPD, SeqAt.shaped, PyData.canLay0, PyData.canLayAll0, PyData.depth, PyData.depthAll, PyData.eqv, PyData.eqvAll]
    simp [exSs, exS, evE, evEs, evT, evC, evI, eqv_int, eqv_bl, sizeLine_eq, L2.ixN, l_law_5i, h, c, e]
  · have c : callF P 7 5 [.tup [.int 1, .int 2, .int 3]] st = .ok (.bl false) st := by
      rw [callF_at (fn := f_is_ratio) rfl rfl]
      simp [exSs, exS, evE, evEs, evT, evC, evI, eqv_int, eqv_bl, sizeLine_eq, L2.ixN, f_is_ratio, b_is_ratio, l_is_ratio_0i, startE, isiD, isK, kindD]
    have e : eqvD st (.tup [.int 1, .int 2, .int 3]) (.tup [.int 0, .int 1]) = some false := by simp [exSs, exS, evE, evEs, evT, evC, evI, eqv_int, eqv_bl, sizeLine_eq, L2.ixN, eqvD, toPD, SeqAt.shaped, PyData.canLay0, PyData.canLayAll0, PyData.depth, PyData.depthAll, PyData.eqv, PyData.eqvAll]
    simp [exSs, exS, evE, evEs, evT, evC, evI, eqv_int, eqv_bl, sizeLine_eq, L2.ixN, l_law_5i, h, c, e]
  · have c : callF P 7 5 [.lst [.int 1, .int 2]] st = .ok (.bl false) st := by
      rw [callF_at (fn := f_is_ratio) rfl rfl]
      simp [exSs, exS, evE, evEs, evT, evC, evI, eqv_int, eqv_bl, sizeLine_eq, L2.ixN, f_is_ratio, b_is_ratio, l_is_ratio_0i, startE, isiD, isK, kindD]
    have e : eqvD st (.lst [.int 1, .int 2]) (.tup [.int 0, .int 1]) = some false := by simp [exSs, exS, evE, evEs, evT, evC, evI, eqv_int, eqv_bl, sizeLine_eq, L2.ixN, eqvD, toPD, SeqAt.shaped, PyData.canLay0, PyData.canLayAll0, PyData.depth, PyData.depthAll, PyData.eqv, PyData.eqvAll]
    simp [exSs, exS, evE, evEs, evT, evC, evI, eqv_int, eqv_bl, sizeLine_eq, L2.ixN, l_law_5i, h, c, e]
  · have c : callF P 7 5 [.tup [.bl true, .int 2]] st = .ok (.bl false) st := by
      rw [callF_at (fn := f_is_ratio) rfl rfl]
      simp [exSs, exS, evE, evEs, evT, evC, evI, eqv_int, eqv_bl, sizeLine_eq, L2.ixN, f_is_ratio, b_is_ratio, l_is_ratio_0i, startE, isiD, isK, kindD, w1, L2.atI]
    have e : eqvD st (.tup [.bl true, .int 2]) (.tup [.int 0, .int 1]) = some false := by simp [exSs, exS, evE, evEs, evT, evC, evI, eqv_int, eqv_bl, sizeLine_eq, L2.ixN, eqvD, toPD, SeqAt.shaped, PyData.canLay0, PyData.canLayAll0, PyData.depth, PyData.depthAll, PyData.eqv, PyData.eqvAll]
    simp [exSs, exS, evE, evEs, evT, evC, evI, eqv_int, eqv_bl, sizeLine_eq, L2.ixN, l_law_5i, h, c, e]
  · have c : callF P 7 5 [.tup [.int 2, .bl true]] st = .ok (.bl false) st := by
      rw [callF_at (fn := f_is_ratio) rfl rfl]
      simp [exSs, exS, evE, evEs, evT, evC, evI, eqv_int, eqv_bl, sizeLine_eq, L2.ixN, f_is_ratio, b_is_ratio, l_is_ratio_0i, startE, isiD, isK, kindD, w1, w2, L2.atI]
    have e : eqvD st (.tup [.int 2, .bl true]) (.tup [.int 0, .int 1]) = some false := by simp [exSs, exS, evE, evEs, evT, evC, evI, eqv_int, eqv_bl, sizeLine_eq, L2.ixN, eqvD, toPD, SeqAt.shaped, PyData.canLay0, PyData.canLayAll0, PyData.depth, PyData.depthAll, PyData.eqv, PyData.eqvAll]
    simp [exSs, exS, evE, evEs, evT, evC, evI, eqv_int, eqv_bl, sizeLine_eq, L2.ixN, l_law_5i, h, c, e]
  · have c := r 1 0
    simp [exSs, exS, evE, evEs, evT, evC, evI, eqv_int, eqv_bl, sizeLine_eq, L2.ixN, pD] at c
    have e := eqv_pair st 1 0 0 1
    simp [exSs, exS, evE, evEs, evT, evC, evI, eqv_int, eqv_bl, sizeLine_eq, L2.ixN] at e
    simp [exSs, exS, evE, evEs, evT, evC, evI, eqv_int, eqv_bl, sizeLine_eq, L2.ixN, l_law_5i, h, c, e]
  · have c := r 2 4
    simp [exSs, exS, evE, evEs, evT, evC, evI, eqv_int, eqv_bl, sizeLine_eq, L2.ixN, pD, show Int.gcd 2 4 = 2 from by decide] at c
    have e := eqv_pair st 2 4 0 1
    simp [exSs, exS, evE, evEs, evT, evC, evI, eqv_int, eqv_bl, sizeLine_eq, L2.ixN] at e
    simp [exSs, exS, evE, evEs, evT, evC, evI, eqv_int, eqv_bl, sizeLine_eq, L2.ixN, l_law_5i, h, c, e]
  · have c := r 1 (-2)
    simp [exSs, exS, evE, evEs, evT, evC, evI, eqv_int, eqv_bl, sizeLine_eq, L2.ixN, pD] at c
    have e := eqv_pair st 1 (-2) 0 1
    simp [exSs, exS, evE, evEs, evT, evC, evI, eqv_int, eqv_bl, sizeLine_eq, L2.ixN] at e
    simp [exSs, exS, evE, evEs, evT, evC, evI, eqv_int, eqv_bl, sizeLine_eq, L2.ixN, l_law_5i, h, c, e]
  · have c := r 0 2
    simp [exSs, exS, evE, evEs, evT, evC, evI, eqv_int, eqv_bl, sizeLine_eq, L2.ixN, pD, show Int.gcd 0 2 = 2 from by decide] at c
    have e := eqv_pair st 0 2 0 1
    simp [exSs, exS, evE, evEs, evT, evC, evI, eqv_int, eqv_bl, sizeLine_eq, L2.ixN] at e
    simp [exSs, exS, evE, evEs, evT, evC, evI, eqv_int, eqv_bl, sizeLine_eq, L2.ixN, l_law_5i, h, c, e]
  · have c := r 0 1
    simp [exSs, exS, evE, evEs, evT, evC, evI, eqv_int, eqv_bl, sizeLine_eq, L2.ixN, pD, show Int.gcd 0 1 = 1 from by decide] at c
    have e := eqv_pair st 0 1 0 1
    simp [exSs, exS, evE, evEs, evT, evC, evI, eqv_int, eqv_bl, sizeLine_eq, L2.ixN] at e
    simp [exSs, exS, evE, evEs, evT, evC, evI, eqv_int, eqv_bl, sizeLine_eq, L2.ixN, l_law_5i, h, c, e, isiD, isK, kindD]
theorem loop6 (z f : Mini.D) (p3 p4 p5 p6 p7 p8 p9 p10 : Option Mini.D) (st : Sto) : ∀ (ds : List Mini.D) (o : Option Mini.D), (∀ d ∈ ds, d ∈ vals) → ∃ o' : Option Mini.D,
    forL [] (.nm 11) (exSs cs (callF P 7) l_law_6b) ds (E z f p3 p4 p5 p6 p7 p8 p9 p10 o none none none) st = .nx (E z f p3 p4 p5 p6 p7 p8 p9 p10 o' none none none) st
  | [], o, _ => ⟨o, by simp [exSs, exS, evE, evEs, evT, evC, evI, eqv_int, eqv_bl, sizeLine_eq, L2.ixN]⟩
  | d :: ds, o, h => by
    obtain ⟨o', e⟩ := loop6 z f p3 p4 p5 p6 p7 p8 p9 p10 st ds (some d) fun y hy => h y (List.mem_cons_of_mem _ hy)
    have c := i5 (E z f p3 p4 p5 p6 p7 p8 p9 p10 (some d) none none none) st d (h d List.mem_cons_self) rfl
    refine ⟨o', ?_⟩
    rw [← e, forL_cons]
    simp only [l_law_6b, exSs, exS, setT_nm, List.set_cons_succ, List.set_cons_zero, out_ok, c, nxO_some', sq_nx, Bool.false_eq_true, if_false]
theorem i4 (z f : Mini.D) (p3 p4 p5 p6 p7 p8 p9 p10 p11 : Option Mini.D) (st : Sto) : evT (callF P 7) l_law_4i (E z f p3 p4 p5 p6 p7 p8 p9 p10 p11 none none none) st = .ok false st := by
  have w0 := is_whole_of 6 st (.int 0) true rfl
  have w1 := is_whole_of 6 st (.int (-7)) true rfl
  have w2 := is_whole_of 6 st (.bl true) false rfl
  have w3 := is_whole_of 6 st (.bl false) false rfl
  have w4 := is_whole_of 6 st .non false rfl
  have w5 := is_whole_of 6 st (.str [48]) false rfl
  have w6 := is_whole_of 6 st (.tup [.int 1]) false rfl
  have q : evE (callF P 7) l_law_3q (E z f p3 p4 p5 p6 p7 p8 p9 p10 p11 none none none) st = .ok (.lst [.bl true, .bl true, .bl false, .bl false, .bl false, .bl false, .bl false]) st := by
    unfold l_law_3q
    rw [comp_eq]
    simp [exSs, exS, evE, evEs, evT, evC, evI, eqv_int, eqv_bl, sizeLine_eq, L2.ixN, itemsOf, srcOf, compL, turnC, wipeE, l_law_3e, w0, w1, w2, w3, w4, w5, w6]
  have e : eqvD st (.lst [.bl true, .bl true, .bl false, .bl false, .bl false, .bl false, .bl false]) (.lst [.bl true, .bl true, .bl false, .bl false, .bl false, .bl false, .bl false]) = some true := by simp [exSs, exS, evE, evEs, evT, evC, evI, eqv_int, eqv_bl, sizeLine_eq, L2.ixN, eqvD, toPD, SeqAt.shaped, PyData.canLay0, PyData.canLayAll0, PyData.depth, PyData.depthAll, PyData.eqv, PyData.eqvAll]
  simp [exSs, exS, evE, evEs, evT, evC, evI, eqv_int, eqv_bl, sizeLine_eq, L2.ixN, l_law_4i, q, e]
end K09
end
section
set_option linter.all false
set_option autoImplicit false
set_option maxRecDepth 100000
set_option maxHeartbeats 1000000
set_option exponentiation.threshold 9000
namespace K09
open PySem Mini
theorem ask_bad (st : Sto) (x y : Mini.D) (r : callF P 6 4 [x, y] st = .exc malf st) : callF P 7 22 [.int 0, x, y] st = .ok (.str mal) st := by
  rw [callF_at (fn := f__law_ask) rfl rfl]
  simp [exSs, exS, evE, evEs, evT, evC, evI, eqv_int, eqv_bl, eqv_pair, sizeLine_eq, L2.atI, L2.ixN, f__law_ask, b__law_ask, startE, r, show P.cs = cs from rfl, handsM]
theorem bad1 (st : Sto) (y : Mini.D) : callF P 6 4 [.bl true, y] st = .exc malf st := by
  rw [callF_at (fn := f_ratio) rfl rfl]
  simp [exSs, exS, evE, evEs, evT, evC, evI, eqv_int, eqv_bl, eqv_pair, sizeLine_eq, L2.atI, L2.ixN, f_ratio, b_ratio, l_ratio_0i, startE, is_whole_of 4 st (.bl true) false rfl, show P.cs = cs from rfl, cs, zipF, numOk, malf]
theorem bad2 (st : Sto) : callF P 6 4 [.int 1, .non] st = .exc malf st := by
  rw [callF_at (fn := f_ratio) rfl rfl]
  simp [exSs, exS, evE, evEs, evT, evC, evI, eqv_int, eqv_bl, eqv_pair, sizeLine_eq, L2.atI, L2.ixN, f_ratio, b_ratio, l_ratio_0i, startE, is_whole_of 4 st (.int 1) true rfl, is_whole_of 4 st .non false rfl, show P.cs = cs from rfl, cs, zipF, numOk, malf]
theorem bad3 (st : Sto) (y : Mini.D) : callF P 6 4 [.str [49], y] st = .exc malf st := by
  rw [callF_at (fn := f_ratio) rfl rfl]
  simp [exSs, exS, evE, evEs, evT, evC, evI, eqv_int, eqv_bl, eqv_pair, sizeLine_eq, L2.atI, L2.ixN, f_ratio, b_ratio, l_ratio_0i, startE, is_whole_of 4 st (.str [49]) false rfl, show P.cs = cs from rfl, cs, zipF, numOk, malf]
def fives : List Mini.D := [.str mal, .str mal, .str mal, .str mal, .str mal]
theorem fives_eq (st : Sto) : eqvD st (.lst fives) (.lst fives) = some true := by
  have h : PyData.strOk ⟨mal.toArray⟩ = true := mal_ok
  simp [exSs, exS, evE, evEs, evT, evC, evI, eqv_int, eqv_bl, eqv_pair, sizeLine_eq, L2.atI, L2.ixN, fives, eqvD, toPD, SeqAt.shaped, PyData.canLay0, PyData.canLayAll0, PyData.depth, PyData.depthAll, PyData.eqv, PyData.eqvAll]
  exact h
theorem asks (env : Mini.Env) (st : Sto) : evEs (callF P 7) (.cons (.vlst (.cons (.call 22 (.cons (.lit (.int 0)) (.cons (.lit (.int 1)) (.cons (.lit (.int 0)) .nil)))) (.cons (.call 22 (.cons (.lit (.int 0)) (.cons (.lit (.bl true)) (.cons (.lit (.int 1)) .nil)))) (.cons (.call 22 (.cons (.lit (.int 0)) (.cons (.lit (.int 1)) (.cons (.lit (.non)) .nil)))) (.cons (.call 22 (.cons (.lit (.int 0)) (.cons (.lit (.str [49])) (.cons (.lit (.int 2)) .nil)))) (.cons (.call 22 (.cons (.lit (.int 1)) (.cons (.tup (.cons (.lit (.int 1)) (.cons (.lit (.int 2)) .nil))) (.cons (.tup (.cons (.lit (.int 0)) (.cons (.lit (.int 1)) .nil))) .nil)))) .nil)))))) (.cons (.pr .mul (.cons (.vlst (.cons (.lit (.str [60, 109, 97, 108, 102, 111, 114, 109, 101, 100, 62])) .nil)) (.cons (.lit (.int 5)) .nil))) .nil)) env st = .ok [.lst fives, .lst fives] st := by
  have a1 := ask0 3 st 1 0 (by decide)
  have a2 := ask_bad st _ _ (bad1 st (.int 1))
  have a3 := ask_bad st _ _ (bad2 st)
  have a4 := ask_bad st _ _ (bad3 st (.int 2))
  have a5 := ask1 (m := 2) (n := 2) 3 st (1, 2) (0, 1) ⟨by decide, by decide⟩ ⟨by decide, by decide⟩ (by decide) (by decide) (by decide) (by decide)
  simp [exSs, exS, evE, evEs, evT, evC, evI, eqv_int, eqv_bl, eqv_pair, sizeLine_eq, L2.atI, L2.ixN, pD] at a1 a5
  simp [exSs, exS, evE, evEs, evT, evC, evI, eqv_int, eqv_bl, eqv_pair, sizeLine_eq, L2.atI, L2.ixN, a1, a2, a3, a4, a5, fives, List.replicate]
def texts0 : List Mini.D := [.str [], .str [45], .str [48], .str [45, 48], .str [48, 48], .str [48, 55], .str [55], .str [45, 55], .str [43, 55], .str [32, 55], .str [55, 32], .str [49, 47, 50], .str [50, 47, 52], .str [49, 47, 49], .str [45, 49, 47, 50], .str [49, 47, 45, 50], .str [49, 47, 48], .str [48, 47, 50], .str [49, 47, 48, 50], .str [49, 47, 47, 50], .str [47, 50], .str [49, 47], .str [97], .non, .int 5, .str [45, 51, 47, 48, 55]]
theorem texts0_ok : ∀ d ∈ texts0, TextD d := by
  intro d hd
  simp only [texts0, List.mem_cons, List.not_mem_nil, or_false] at hd
  rcases hd with rfl | rfl | rfl | rfl | rfl | rfl | rfl | rfl | rfl | rfl | rfl | rfl | rfl | rfl | rfl | rfl | rfl | rfl | rfl | rfl | rfl | rfl | rfl | rfl | rfl | rfl
  all_goals first
    | exact .inr ⟨_, rfl, by decide, by decide +kernel⟩
    | exact .inl (.inl rfl)
    | exact .inl (.inr ⟨_, rfl⟩)
theorem last_ok {a : Int × Int} (ha : Item a) {s : Chs} (hs : s ∈ ([[], [48], [47], [45]] : List Chs)) : TextD (.str (txt a ++ s)) := by
  have l := txt_len ha.2
  have sl : s.length ≤ 1 ∧ ∀ c ∈ s, Ch c := by
    simp only [List.mem_cons, List.not_mem_nil, or_false] at hs
    unfold Ch
    rcases hs with rfl | rfl | rfl | rfl <;> simp [exSs, exS, evE, evEs, evT, evC, evI, eqv_int, eqv_bl, eqv_pair, sizeLine_eq, L2.atI, L2.ixN]
  refine .inr ⟨_, rfl, by rw [List.length_append]; omega, sOk_ch fun c hc => ?_⟩
  rcases List.mem_append.mp hc with h | h
  · exact txt_ch a c h
  · exact sl.2 c h
theorem itV (cl : Call) (env : Mini.Env) (st : Sto) : evI cl (.seq (.vlst (.cons (.lit (.non)) (.cons (.lit (.str [49])) (.cons (.tup (.cons (.lit (.int 1)) .nil)) (.cons (.tup (.cons (.lit (.int 1)) (.cons (.lit (.int 2)) (.cons (.lit (.int 3)) .nil)))) (.cons (.vlst (.cons (.lit (.int 1)) (.cons (.lit (.int 2)) .nil))) (.cons (.tup (.cons (.lit (.bl true)) (.cons (.lit (.int 2)) .nil))) (.cons (.tup (.cons (.lit (.int 2)) (.cons (.lit (.bl true)) .nil))) (.cons (.tup (.cons (.lit (.int 1)) (.cons (.lit (.int 0)) .nil))) (.cons (.tup (.cons (.lit (.int 2)) (.cons (.lit (.int 4)) .nil))) (.cons (.tup (.cons (.lit (.int 1)) (.cons (.pr .sub (.cons (.lit (.int 0)) (.cons (.lit (.int 2)) .nil))) .nil))) (.cons (.tup (.cons (.lit (.int 0)) (.cons (.lit (.int 2)) .nil))) (.cons (.tup (.cons (.lit (.int 0)) (.cons (.lit (.int 1)) .nil))) .nil)))))))))))))) env st = .ok (vals, []) st := by
  simp [exSs, exS, evE, evEs, evT, evC, evI, eqv_int, eqv_bl, eqv_pair, sizeLine_eq, L2.atI, L2.ixN, itemsOf, srcOf, vals]
theorem itT (cl : Call) (env : Mini.Env) (st : Sto) : evE cl (.vlst (.cons (.lit (.str [])) (.cons (.lit (.str [45])) (.cons (.lit (.str [48])) (.cons (.lit (.str [45, 48])) (.cons (.lit (.str [48, 48])) (.cons (.lit (.str [48, 55])) (.cons (.lit (.str [55])) (.cons (.lit (.str [45, 55])) (.cons (.lit (.str [43, 55])) (.cons (.lit (.str [32, 55])) (.cons (.lit (.str [55, 32])) (.cons (.lit (.str [49, 47, 50])) (.cons (.lit (.str [50, 47, 52])) (.cons (.lit (.str [49, 47, 49])) (.cons (.lit (.str [45, 49, 47, 50])) (.cons (.lit (.str [49, 47, 45, 50])) (.cons (.lit (.str [49, 47, 48])) (.cons (.lit (.str [48, 47, 50])) (.cons (.lit (.str [49, 47, 48, 50])) (.cons (.lit (.str [49, 47, 47, 50])) (.cons (.lit (.str [47, 50])) (.cons (.lit (.str [49, 47])) (.cons (.lit (.str [97])) (.cons (.lit (.non)) (.cons (.lit (.int 5)) (.cons (.lit (.str [45, 51, 47, 48, 55])) .nil))))))))))))))))))))))))))) env st = .ok (.lst texts0) st := by
  simp [exSs, exS, evE, evEs, evT, evC, evI, eqv_int, eqv_bl, eqv_pair, sizeLine_eq, L2.atI, L2.ixN, texts0]
theorem it6 (cl : Call) (env : Mini.Env) (st : Sto) : evI cl (.rng (.cons (.lit (.int 6)) .nil)) env st = .ok ([.int 0, .int 1, .int 2, .int 3, .int 4, .int 5], []) st := by
  simp only [evI, evEs, evE, bnd_ok]
  rfl
theorem it8 (cl : Call) (env : Mini.Env) (st : Sto) : evI cl (.rng (.cons (.lit (.int 8)) .nil)) env st = .ok ([.int 0, .int 1, .int 2, .int 3, .int 4, .int 5, .int 6, .int 7], []) st := by
  simp only [evI, evEs, evE, bnd_ok]
  rfl
theorem plain (zs : List Int) (hl : zs.length ≤ 63) : ∃ st, callF P 8 26 [.ro (zs.map .int)] [] = .ok (.bl true) st := by
  obtain ⟨s1, e1, h1⟩ := draw_is 6 zs (by omega)
  obtain ⟨ys, s2, p3, p4, p5, p6, e2, h2, hy, ly⟩ := loop16 (.ro (zs.map .int)) [.int 0, .int 1, .int 2, .int 3, .int 4, .int 5] [] s1 none none none none h1 (by simp [exSs, exS, evE, evEs, evT, evC, evI, eqv_int, eqv_bl, eqv_pair, sizeLine_eq, L2.atI, L2.ixN]) (by simp [exSs, exS, evE, evEs, evT, evC, evI, eqv_int, eqv_bl, eqv_pair, sizeLine_eq, L2.atI, L2.ixN])
  have ly : ys.length ≤ 6 := by simpa [exSs, exS, evE, evEs, evT, evC, evI, eqv_int, eqv_bl, eqv_pair, sizeLine_eq, L2.atI, L2.ixN] using ly
  have hx : ∀ x ∈ ys ++ [(0, 1), (1, 1), (-1, 3)], Item x := by
    intro x h
    rcases List.mem_append.mp h with h | h
    · exact hy x h
    · simp only [List.mem_cons, List.not_mem_nil, or_false] at h
      rcases h with rfl | rfl | rfl <;> exact ⟨⟨by decide, by decide⟩, by decide, by decide⟩
  have lx : (ys ++ [((0 : Int), (1 : Int)), (1, 1), (-1, 3)]).length ≤ 20 := by
    simp [exSs, exS, evE, evEs, evT, evC, evI, eqv_int, eqv_bl, eqv_pair, sizeLine_eq, L2.atI, L2.ixN]
    omega
  have fx : ys.map pD ++ [.tup [.int 0, .int 1], .tup [.int 1, .int 1], .tup [.int (-1), .int 3]] = (ys ++ [((0 : Int), (1 : Int)), (1, 1), (-1, 3)]).map pD := by simp [exSs, exS, evE, evEs, evT, evC, evI, eqv_int, eqv_bl, eqv_pair, sizeLine_eq, L2.atI, L2.ixN, pD]
  generalize hxs : ys ++ [((0 : Int), (1 : Int)), (1, 1), (-1, 3)] = xs at hx lx fx
  have px : 0 < xs.length := by
    rw [← hxs]
    simp [exSs, exS, evE, evEs, evT, evC, evI, eqv_int, eqv_bl, eqv_pair, sizeLine_eq, L2.atI, L2.ixN]
  obtain ⟨s3, w3, w4, w5, w6, w7, w8, w9, w10, e3, h3⟩ := loop14 (.ro (zs.map .int)) xs hx px lx [.int 0, .int 1, .int 2, .int 3, .int 4, .int 5, .int 6, .int 7] s2 p3 p4 p5 p6 none none none none h2
  obtain ⟨r9, e4⟩ := loop8 (.ro (zs.map .int)) (.lst (xs.map pD)) w3 w4 w5 w6 w8 w10 s3 xs (0, 1) 1 w9 hx zeroR zeroB (by decide) (by omega)
  have e5 := i7 (E (.ro (zs.map .int)) (.lst (xs.map pD)) w3 w4 w5 w6 (some (pD (sumS (0, 1) xs))) w8 r9 w10 none none none none) s3 xs hx lx rfl rfl
  obtain ⟨r11, e6⟩ := loop6 (.ro (zs.map .int)) (.lst (xs.map pD)) w3 w4 w5 w6 (some (pD (sumS (0, 1) xs))) w8 r9 w10 s3 vals none fun d h => h
  have e7 := i4 (.ro (zs.map .int)) (.lst (xs.map pD)) w3 w4 w5 w6 (some (pD (sumS (0, 1) xs))) w8 r9 w10 r11 s3
  obtain ⟨a, am, ea⟩ := found_at s3 xs 0 (by decide) (by omega)
  have ia := hx a am
  have e8 := (text_is 6 s3 a (bd300 ia.2.1) (bd300 ia.2.2)).2
  obtain ⟨j, s4, e9, h4, j0, j4⟩ := take_is 6 4 (by decide) (by decide) h3
  obtain ⟨s, hs, es⟩ : ∃ s ∈ ([[], [48], [47], [45]] : List Chs), atD s4 (.lst [.str [], .str [48], .str [47], .str [45]]) j = some (.str s) := by
    have : j = 0 ∨ j = 1 ∨ j = 2 ∨ j = 3 := by omega
    rcases this with rfl | rfl | rfl | rfl
    · exact ⟨[], by simp [exSs, exS, evE, evEs, evT, evC, evI, eqv_int, eqv_bl, eqv_pair, sizeLine_eq, L2.atI, L2.ixN], by simp [exSs, exS, evE, evEs, evT, evC, evI, eqv_int, eqv_bl, eqv_pair, sizeLine_eq, L2.atI, L2.ixN]⟩
    · exact ⟨[48], by simp [exSs, exS, evE, evEs, evT, evC, evI, eqv_int, eqv_bl, eqv_pair, sizeLine_eq, L2.atI, L2.ixN], by simp [exSs, exS, evE, evEs, evT, evC, evI, eqv_int, eqv_bl, eqv_pair, sizeLine_eq, L2.atI, L2.ixN]⟩
    · exact ⟨[47], by simp [exSs, exS, evE, evEs, evT, evC, evI, eqv_int, eqv_bl, eqv_pair, sizeLine_eq, L2.atI, L2.ixN], by simp [exSs, exS, evE, evEs, evT, evC, evI, eqv_int, eqv_bl, eqv_pair, sizeLine_eq, L2.atI, L2.ixN]⟩
    · exact ⟨[45], by simp [exSs, exS, evE, evEs, evT, evC, evI, eqv_int, eqv_bl, eqv_pair, sizeLine_eq, L2.atI, L2.ixN], by simp [exSs, exS, evE, evEs, evT, evC, evI, eqv_int, eqv_bl, eqv_pair, sizeLine_eq, L2.atI, L2.ixN]⟩
  have tl := txt_len ia.2
  have sl : s.length ≤ 1 := by
    simp only [List.mem_cons, List.not_mem_nil, or_false] at hs
    rcases hs with rfl | rfl | rfl | rfl <;> simp [exSs, exS, evE, evEs, evT, evC, evI, eqv_int, eqv_bl, eqv_pair, sizeLine_eq, L2.atI, L2.ixN]
  have zl : (txt a).length + s.length ≤ sizeLine := by
    rw [sizeLine_eq]
    omega
  obtain ⟨r13, r14, e10⟩ := loop2 (.ro (zs.map .int)) (.lst (xs.map pD)) w3 w4 w5 w6 (some (pD (sumS (0, 1) xs))) w8 r9 w10 r11 (some (.lst texts0)) s4 (texts0 ++ [.str (txt a ++ s)]) none none (by
    intro d hd
    rcases List.mem_append.mp hd with h | h
    · exact texts0_ok d h
    · rw [List.mem_singleton.mp h]
      exact last_ok ia hs)
  have e11 := asks (E (.ro (zs.map .int)) (.lst (xs.map pD)) w3 w4 w5 w6 (some (pD (sumS (0, 1) xs))) w8 r9 w10 r11 (some (.lst texts0)) r13 r14) s4
  have body : callF P 8 26 [.ro (zs.map .int)] [] = Mini.finish [] (exSs cs (callF P 7) b_law (startE 15 [.ro (zs.map .int)]) []) := callF_at (fn := f_law) rfl rfl
  suffices h : exSs cs (callF P 7) b_law (startE 15 [.ro (zs.map .int)]) [] = .ret (.bl true) s4 by
    rw [body, h]
    simp only [Mini.finish]
    split
    · exact ⟨_, rfl⟩
    · simp_all [exSs, exS, evE, evEs, evT, evC, evI, eqv_int, eqv_bl, eqv_pair, sizeLine_eq, L2.atI, L2.ixN, Mini.below]
  have l3 : ys.length + 3 ≤ 16777216 := by omega
  have l27 : texts0.length + 1 ≤ 16777216 := by decide
  have q1 : evE (callF P 7) (.call 16 (.cons (.var 0) .nil)) [some (.ro (zs.map .int)), none, none, none, none, none, none, none, none, none, none, none, none, none, none] [] = .ok (.ref 0) s1 := by
    simp only [evE, evEs, getV_0, bnd_ok]
    exact e1
  have q2 : ∀ env st, evE (callF P 7) (.vlst .nil) env st = .ok (.lst (([] : List (Int × Int)).map pD)) st := fun env st => by simp [exSs, exS, evE, evEs, evT, evC, evI, eqv_int, eqv_bl, eqv_pair, sizeLine_eq, L2.atI, L2.ixN]
  have q3 : evE (callF P 7) (.pr .add (.cons (.var 2) (.cons (.vlst (.cons (.tup (.cons (.lit (.int 0)) (.cons (.lit (.int 1)) .nil))) (.cons (.tup (.cons (.lit (.int 1)) (.cons (.lit (.int 1)) .nil))) (.cons (.tup (.cons (.pr .sub (.cons (.lit (.int 0)) (.cons (.lit (.int 1)) .nil))) (.cons (.lit (.int 3)) .nil))) .nil)))) .nil))) (E (.ro (zs.map .int)) (.lst (ys.map pD)) p3 p4 p5 p6 none none none none none none none none) s2 = .ok (.lst (xs.map pD)) s2 := by
    rw [← fx]
    simp [exSs, exS, evE, evEs, evT, evC, evI, eqv_int, eqv_bl, eqv_pair, sizeLine_eq, L2.atI, L2.ixN, l3]
  have q4 : ∀ env st, evE (callF P 7) (.tup (.cons (.lit (.int 0)) (.cons (.lit (.int 1)) .nil))) env st = .ok (pD (0, 1)) st := fun env st => by simp [exSs, exS, evE, evEs, evT, evC, evI, eqv_int, eqv_bl, eqv_pair, sizeLine_eq, L2.atI, L2.ixN, pD]
  have q5 : evI (callF P 7) (.seq (.var 2)) (E (.ro (zs.map .int)) (.lst (xs.map pD)) w3 w4 w5 w6 (some (pD (0, 1))) w8 w9 w10 none none none none) s3 = .ok (xs.map pD, []) s3 := by simp [exSs, exS, evE, evEs, evT, evC, evI, eqv_int, eqv_bl, eqv_pair, sizeLine_eq, L2.atI, L2.ixN, itemsOf, srcOf]
  have q6' : evI (callF P 7) (.seq (.pr .add (.cons (.var 12) (.cons (.vlst (.cons (.pr .add (.cons (.call 20 (.cons (.pr .ix (.cons (.var 2) (.cons (.lit (.int 0)) .nil))) .nil)) (.cons (.pr .ix (.cons (.vlst (.cons (.lit (.str [])) (.cons (.lit (.str [48])) (.cons (.lit (.str [47])) (.cons (.lit (.str [45])) .nil))))) (.cons (.call 17 (.cons (.var 1) (.cons (.lit (.int 4)) .nil))) .nil))) .nil))) .nil)) .nil)))) (E (.ro (zs.map .int)) (.lst (xs.map pD)) w3 w4 w5 w6 (some (pD (sumS (0, 1) xs))) w8 r9 w10 r11 (some (.lst texts0)) none none) s3 = .ok (texts0 ++ [.str (txt a ++ s)], []) s4 := by
    simp only [evI, evE, evEs, getV_s, getV_0, bnd_ok, p_ix, ea, oneR_some', liftP_some, e8, e9]
    simp only [at_lst] at es
    have zl' : (txt a).length + s.length ≤ 16777216 := zl
    have e9' : callF P 7 17 [D.ref 0, D.int 4] s3 = .ok (.int j) s4 := e9
    simp [exSs, exS, evE, evEs, evT, evC, evI, eqv_int, eqv_bl, eqv_pair, sizeLine_eq, L2.ixN, -L2.atI, e9', es, zl', l27, itemsOf, srcOf]
  have q7' : evE (callF P 7) (.pr .eq (.cons (.vlst (.cons (.call 22 (.cons (.lit (.int 0)) (.cons (.lit (.int 1)) (.cons (.lit (.int 0)) .nil)))) (.cons (.call 22 (.cons (.lit (.int 0)) (.cons (.lit (.bl true)) (.cons (.lit (.int 1)) .nil)))) (.cons (.call 22 (.cons (.lit (.int 0)) (.cons (.lit (.int 1)) (.cons (.lit (.non)) .nil)))) (.cons (.call 22 (.cons (.lit (.int 0)) (.cons (.lit (.str [49])) (.cons (.lit (.int 2)) .nil)))) (.cons (.call 22 (.cons (.lit (.int 1)) (.cons (.tup (.cons (.lit (.int 1)) (.cons (.lit (.int 2)) .nil))) (.cons (.tup (.cons (.lit (.int 0)) (.cons (.lit (.int 1)) .nil))) .nil)))) .nil)))))) (.cons (.pr .mul (.cons (.vlst (.cons (.lit (.str [60, 109, 97, 108, 102, 111, 114, 109, 101, 100, 62])) .nil)) (.cons (.lit (.int 5)) .nil))) .nil))) (E (.ro (zs.map .int)) (.lst (xs.map pD)) w3 w4 w5 w6 (some (pD (sumS (0, 1) xs))) w8 r9 w10 r11 (some (.lst texts0)) r13 r14) s4 = .ok (.bl true) s4 := by
    rw [evE, e11]
    simp [exSs, exS, evE, evEs, evT, evC, evI, eqv_int, eqv_bl, eqv_pair, sizeLine_eq, L2.atI, L2.ixN, fives_eq]
  simp only [b_law, exSs, exS, show startE 15 [D.ro (zs.map .int)] = [some (.ro (zs.map .int)), none, none, none, none, none, none, none, none, none, none, none, none, none, none] from rfl, setT_nm, List.set_cons_succ, List.set_cons_zero, out_ok, nxO_some', sq_nx, q1, q2, it6, e2, q3, it8, e3, q4, q5, e4, e5, itV, e6, e7, itT, q6', e10, q7', Bool.false_eq_true, if_false, frz_false, sq_ret]
end K09
end
section
set_option linter.all false
set_option autoImplicit false
set_option maxRecDepth 100000
set_option maxHeartbeats 1000000
namespace K09
open PySem Mini

def G : GI := {
  fns := [("is_whole", 0), ("read_whole", 1), ("common", 2), ("lowest", 3), ("ratio", 4), ("is_ratio", 5), ("plus", 6), ("minus", 7), ("times", 8), ("over", 9), ("below", 10), ("total", 11), ("lesser", 12), ("greater", 13), ("ratio_text", 14), ("read_ratio", 15), ("_law_draw", 16), ("_law_take", 17), ("_law_low", 18), ("_law_number", 19), ("_law_text", 20), ("_law_read", 21), ("_law_ask", 22), ("_law_digits", 23), ("_law_good_whole", 24), ("_law_good_ratio", 25), ("law", 26)]
  cns := [("DIGITS", .str [48, 49, 50, 51, 52, 53, 54, 55, 56, 57]), ("MOST_DIGITS", .int 4000), ("ZERO", .tup [.int 0, .int 1])]
  bts := ["abs", "all", "bool", "int", "isinstance", "len", "range", "repr", "str", "tuple"]
  pls := [("Malformed", 1)]
  ins := [("NoText", 2)]
  ecs := [("Fault", 0), ("Malformed", 1), ("NoText", 2)]
  xfs := [(2, "at")] }
def top (i : Nat) : Stmt := PySem.Challenge.pw_twohandswon_k09_fractions.main.body.getD i (.Pass ⟨0, 0, 0, 0⟩)
abbrev s_is_whole : Stmt := top 8
def N_is_whole : List PySem.Str := ["value"]
abbrev s_read_whole : Stmt := top 9
def N_read_whole : List PySem.Str := ["text", "body", "sign"]
abbrev s_common : Stmt := top 10
def N_common : List PySem.Str := ["a", "b"]
abbrev s_lowest : Stmt := top 11
def N_lowest : List PySem.Str := ["n", "d", "g"]
abbrev s_ratio : Stmt := top 12
def N_ratio : List PySem.Str := ["n", "d"]
abbrev s_is_ratio : Stmt := top 13
def N_is_ratio : List PySem.Str := ["value"]
abbrev s_plus : Stmt := top 14
def N_plus : List PySem.Str := ["a", "b"]
abbrev s_minus : Stmt := top 15
def N_minus : List PySem.Str := ["a", "b"]
abbrev s_times : Stmt := top 16
def N_times : List PySem.Str := ["a", "b"]
abbrev s_over : Stmt := top 17
def N_over : List PySem.Str := ["a", "b"]
abbrev s_below : Stmt := top 18
def N_below : List PySem.Str := ["a", "b"]
abbrev s_total : Stmt := top 19
def N_total : List PySem.Str := ["items", "found", "item"]
abbrev s_lesser : Stmt := top 20
def N_lesser : List PySem.Str := ["a", "b"]
abbrev s_greater : Stmt := top 21
def N_greater : List PySem.Str := ["a", "b"]
abbrev s_ratio_text : Stmt := top 22
def N_ratio_text : List PySem.Str := ["a"]
abbrev s_read_ratio : Stmt := top 23
def N_read_ratio : List PySem.Str := ["text", "top", "line", "bottom", "found"]
abbrev s__law_draw : Stmt := top 25
def N__law_draw : List PySem.Str := ["script", "seed", "cell"]
abbrev s__law_take : Stmt := top 26
def N__law_take : List PySem.Str := ["draw", "many", "found"]
abbrev s__law_low : Stmt := top 27
def N__law_low : List PySem.Str := ["n", "d", "a", "b"]
abbrev s__law_number : Stmt := top 28
def N__law_number : List PySem.Str := ["draw", "size"]
abbrev s__law_text : Stmt := top 29
def N__law_text : List PySem.Str := ["value"]
abbrev s__law_read : Stmt := top 30
def N__law_read : List PySem.Str := ["which", "text", "fault"]
abbrev s__law_ask : Stmt := top 31
def N__law_ask : List PySem.Str := ["which", "one", "two"]
abbrev s__law_digits : Stmt := top 32
def N__law_digits : List PySem.Str := ["text", "sign"]
abbrev s__law_good_whole : Stmt := top 33
def N__law_good_whole : List PySem.Str := ["text"]
abbrev s__law_good_ratio : Stmt := top 34
def N__law_good_ratio : List PySem.Str := ["text", "parts"]
abbrev s_law : Stmt := top 35
def N_law : List PySem.Str := ["script", "draw", "found", "turn", "due", "n", "d", "sums", "less", "a", "b", "value", "texts", "text", "good"]
theorem ck_is_whole : chkSs G b_is_whole ⟨N_is_whole, L2.defScope s_is_whole, true⟩ (L2.defBody s_is_whole) = true := by decide +kernel
def d_is_whole : _root_.He.DefD := ⟨("is_whole", none), "is_whole", "is_whole", L2.defArgs s_is_whole, L2.defBody s_is_whole, L2.defScope s_is_whole, [], []⟩
theorem ds_is_whole : DefS G d_is_whole f_is_whole := ⟨N_is_whole, ["value"], ck_is_whole, by decide +kernel, rfl, rfl, rfl, rfl, fun _ _ _ _ _ _ us hl => match us, hl with | [_], _ => rfl⟩
theorem ck_read_whole : chkSs G b_read_whole ⟨N_read_whole, L2.defScope s_read_whole, true⟩ (L2.defBody s_read_whole) = true := by decide +kernel
def d_read_whole : _root_.He.DefD := ⟨("read_whole", none), "read_whole", "read_whole", L2.defArgs s_read_whole, L2.defBody s_read_whole, L2.defScope s_read_whole, [], []⟩
theorem ds_read_whole : DefS G d_read_whole f_read_whole := ⟨N_read_whole, ["text"], ck_read_whole, by decide +kernel, rfl, rfl, rfl, rfl, fun _ _ _ _ _ _ us hl => match us, hl with | [_], _ => rfl⟩
theorem ck_common : chkSs G b_common ⟨N_common, L2.defScope s_common, true⟩ (L2.defBody s_common) = true := by decide +kernel
def d_common : _root_.He.DefD := ⟨("common", none), "common", "common", L2.defArgs s_common, L2.defBody s_common, L2.defScope s_common, [], []⟩
theorem ds_common : DefS G d_common f_common := ⟨N_common, ["a", "b"], ck_common, by decide +kernel, rfl, rfl, rfl, rfl, fun _ _ _ _ _ _ us hl => match us, hl with | [_, _], _ => rfl⟩
theorem ck_lowest : chkSs G b_lowest ⟨N_lowest, L2.defScope s_lowest, true⟩ (L2.defBody s_lowest) = true := by decide +kernel
def d_lowest : _root_.He.DefD := ⟨("lowest", none), "lowest", "lowest", L2.defArgs s_lowest, L2.defBody s_lowest, L2.defScope s_lowest, [], []⟩
theorem ds_lowest : DefS G d_lowest f_lowest := ⟨N_lowest, ["n", "d"], ck_lowest, by decide +kernel, rfl, rfl, rfl, rfl, fun _ _ _ _ _ _ us hl => match us, hl with | [_, _], _ => rfl⟩
theorem ck_ratio : chkSs G b_ratio ⟨N_ratio, L2.defScope s_ratio, true⟩ (L2.defBody s_ratio) = true := by decide +kernel
def d_ratio : _root_.He.DefD := ⟨("ratio", none), "ratio", "ratio", L2.defArgs s_ratio, L2.defBody s_ratio, L2.defScope s_ratio, [], []⟩
theorem ds_ratio : DefS G d_ratio f_ratio := ⟨N_ratio, ["n", "d"], ck_ratio, by decide +kernel, rfl, rfl, rfl, rfl, fun _ _ _ _ _ _ us hl => match us, hl with | [_, _], _ => rfl⟩
theorem ck_is_ratio : chkSs G b_is_ratio ⟨N_is_ratio, L2.defScope s_is_ratio, true⟩ (L2.defBody s_is_ratio) = true := by decide +kernel
def d_is_ratio : _root_.He.DefD := ⟨("is_ratio", none), "is_ratio", "is_ratio", L2.defArgs s_is_ratio, L2.defBody s_is_ratio, L2.defScope s_is_ratio, [], []⟩
theorem ds_is_ratio : DefS G d_is_ratio f_is_ratio := ⟨N_is_ratio, ["value"], ck_is_ratio, by decide +kernel, rfl, rfl, rfl, rfl, fun _ _ _ _ _ _ us hl => match us, hl with | [_], _ => rfl⟩
theorem ck_plus : chkSs G b_plus ⟨N_plus, L2.defScope s_plus, true⟩ (L2.defBody s_plus) = true := by decide +kernel
def d_plus : _root_.He.DefD := ⟨("plus", none), "plus", "plus", L2.defArgs s_plus, L2.defBody s_plus, L2.defScope s_plus, [], []⟩
theorem ds_plus : DefS G d_plus f_plus := ⟨N_plus, ["a", "b"], ck_plus, by decide +kernel, rfl, rfl, rfl, rfl, fun _ _ _ _ _ _ us hl => match us, hl with | [_, _], _ => rfl⟩
theorem ck_minus : chkSs G b_minus ⟨N_minus, L2.defScope s_minus, true⟩ (L2.defBody s_minus) = true := by decide +kernel
def d_minus : _root_.He.DefD := ⟨("minus", none), "minus", "minus", L2.defArgs s_minus, L2.defBody s_minus, L2.defScope s_minus, [], []⟩
theorem ds_minus : DefS G d_minus f_minus := ⟨N_minus, ["a", "b"], ck_minus, by decide +kernel, rfl, rfl, rfl, rfl, fun _ _ _ _ _ _ us hl => match us, hl with | [_, _], _ => rfl⟩
theorem ck_times : chkSs G b_times ⟨N_times, L2.defScope s_times, true⟩ (L2.defBody s_times) = true := by decide +kernel
def d_times : _root_.He.DefD := ⟨("times", none), "times", "times", L2.defArgs s_times, L2.defBody s_times, L2.defScope s_times, [], []⟩
theorem ds_times : DefS G d_times f_times := ⟨N_times, ["a", "b"], ck_times, by decide +kernel, rfl, rfl, rfl, rfl, fun _ _ _ _ _ _ us hl => match us, hl with | [_, _], _ => rfl⟩
theorem ck_over : chkSs G b_over ⟨N_over, L2.defScope s_over, true⟩ (L2.defBody s_over) = true := by decide +kernel
def d_over : _root_.He.DefD := ⟨("over", none), "over", "over", L2.defArgs s_over, L2.defBody s_over, L2.defScope s_over, [], []⟩
theorem ds_over : DefS G d_over f_over := ⟨N_over, ["a", "b"], ck_over, by decide +kernel, rfl, rfl, rfl, rfl, fun _ _ _ _ _ _ us hl => match us, hl with | [_, _], _ => rfl⟩
theorem ck_below : chkSs G b_below ⟨N_below, L2.defScope s_below, true⟩ (L2.defBody s_below) = true := by decide +kernel
def d_below : _root_.He.DefD := ⟨("below", none), "below", "below", L2.defArgs s_below, L2.defBody s_below, L2.defScope s_below, [], []⟩
theorem ds_below : DefS G d_below f_below := ⟨N_below, ["a", "b"], ck_below, by decide +kernel, rfl, rfl, rfl, rfl, fun _ _ _ _ _ _ us hl => match us, hl with | [_, _], _ => rfl⟩
theorem ck_total : chkSs G b_total ⟨N_total, L2.defScope s_total, true⟩ (L2.defBody s_total) = true := by decide +kernel
def d_total : _root_.He.DefD := ⟨("total", none), "total", "total", L2.defArgs s_total, L2.defBody s_total, L2.defScope s_total, [], []⟩
theorem ds_total : DefS G d_total f_total := ⟨N_total, ["items"], ck_total, by decide +kernel, rfl, rfl, rfl, rfl, fun _ _ _ _ _ _ us hl => match us, hl with | [_], _ => rfl⟩
theorem ck_lesser : chkSs G b_lesser ⟨N_lesser, L2.defScope s_lesser, true⟩ (L2.defBody s_lesser) = true := by decide +kernel
def d_lesser : _root_.He.DefD := ⟨("lesser", none), "lesser", "lesser", L2.defArgs s_lesser, L2.defBody s_lesser, L2.defScope s_lesser, [], []⟩
theorem ds_lesser : DefS G d_lesser f_lesser := ⟨N_lesser, ["a", "b"], ck_lesser, by decide +kernel, rfl, rfl, rfl, rfl, fun _ _ _ _ _ _ us hl => match us, hl with | [_, _], _ => rfl⟩
theorem ck_greater : chkSs G b_greater ⟨N_greater, L2.defScope s_greater, true⟩ (L2.defBody s_greater) = true := by decide +kernel
def d_greater : _root_.He.DefD := ⟨("greater", none), "greater", "greater", L2.defArgs s_greater, L2.defBody s_greater, L2.defScope s_greater, [], []⟩
theorem ds_greater : DefS G d_greater f_greater := ⟨N_greater, ["a", "b"], ck_greater, by decide +kernel, rfl, rfl, rfl, rfl, fun _ _ _ _ _ _ us hl => match us, hl with | [_, _], _ => rfl⟩
theorem ck_ratio_text : chkSs G b_ratio_text ⟨N_ratio_text, L2.defScope s_ratio_text, true⟩ (L2.defBody s_ratio_text) = true := by decide +kernel
def d_ratio_text : _root_.He.DefD := ⟨("ratio_text", none), "ratio_text", "ratio_text", L2.defArgs s_ratio_text, L2.defBody s_ratio_text, L2.defScope s_ratio_text, [], []⟩
theorem ds_ratio_text : DefS G d_ratio_text f_ratio_text := ⟨N_ratio_text, ["a"], ck_ratio_text, by decide +kernel, rfl, rfl, rfl, rfl, fun _ _ _ _ _ _ us hl => match us, hl with | [_], _ => rfl⟩
theorem ck_read_ratio : chkSs G b_read_ratio ⟨N_read_ratio, L2.defScope s_read_ratio, true⟩ (L2.defBody s_read_ratio) = true := by decide +kernel
def d_read_ratio : _root_.He.DefD := ⟨("read_ratio", none), "read_ratio", "read_ratio", L2.defArgs s_read_ratio, L2.defBody s_read_ratio, L2.defScope s_read_ratio, [], []⟩
theorem ds_read_ratio : DefS G d_read_ratio f_read_ratio := ⟨N_read_ratio, ["text"], ck_read_ratio, by decide +kernel, rfl, rfl, rfl, rfl, fun _ _ _ _ _ _ us hl => match us, hl with | [_], _ => rfl⟩
theorem ck__law_draw : chkSs G b__law_draw ⟨N__law_draw, L2.defScope s__law_draw, true⟩ (L2.defBody s__law_draw) = true := by decide +kernel
def d__law_draw : _root_.He.DefD := ⟨("_law_draw", none), "_law_draw", "_law_draw", L2.defArgs s__law_draw, L2.defBody s__law_draw, L2.defScope s__law_draw, [], []⟩
theorem ds__law_draw : DefS G d__law_draw f__law_draw := ⟨N__law_draw, ["script"], ck__law_draw, by decide +kernel, rfl, rfl, rfl, rfl, fun _ _ _ _ _ _ us hl => match us, hl with | [_], _ => rfl⟩
theorem ck__law_take : chkSs G b__law_take ⟨N__law_take, L2.defScope s__law_take, true⟩ (L2.defBody s__law_take) = true := by decide +kernel
def d__law_take : _root_.He.DefD := ⟨("_law_take", none), "_law_take", "_law_take", L2.defArgs s__law_take, L2.defBody s__law_take, L2.defScope s__law_take, [], []⟩
theorem ds__law_take : DefS G d__law_take f__law_take := ⟨N__law_take, ["draw", "many"], ck__law_take, by decide +kernel, rfl, rfl, rfl, rfl, fun _ _ _ _ _ _ us hl => match us, hl with | [_, _], _ => rfl⟩
theorem ck__law_low : chkSs G b__law_low ⟨N__law_low, L2.defScope s__law_low, true⟩ (L2.defBody s__law_low) = true := by decide +kernel
def d__law_low : _root_.He.DefD := ⟨("_law_low", none), "_law_low", "_law_low", L2.defArgs s__law_low, L2.defBody s__law_low, L2.defScope s__law_low, [], []⟩
theorem ds__law_low : DefS G d__law_low f__law_low := ⟨N__law_low, ["n", "d"], ck__law_low, by decide +kernel, rfl, rfl, rfl, rfl, fun _ _ _ _ _ _ us hl => match us, hl with | [_, _], _ => rfl⟩
theorem ck__law_number : chkSs G b__law_number ⟨N__law_number, L2.defScope s__law_number, true⟩ (L2.defBody s__law_number) = true := by decide +kernel
def d__law_number : _root_.He.DefD := ⟨("_law_number", none), "_law_number", "_law_number", L2.defArgs s__law_number, L2.defBody s__law_number, L2.defScope s__law_number, [], []⟩
theorem ds__law_number : DefS G d__law_number f__law_number := ⟨N__law_number, ["draw"], ck__law_number, by decide +kernel, rfl, rfl, rfl, rfl, fun _ _ _ _ _ _ us hl => match us, hl with | [_], _ => rfl⟩
theorem ck__law_text : chkSs G b__law_text ⟨N__law_text, L2.defScope s__law_text, true⟩ (L2.defBody s__law_text) = true := by decide +kernel
def d__law_text : _root_.He.DefD := ⟨("_law_text", none), "_law_text", "_law_text", L2.defArgs s__law_text, L2.defBody s__law_text, L2.defScope s__law_text, [], []⟩
theorem ds__law_text : DefS G d__law_text f__law_text := ⟨N__law_text, ["value"], ck__law_text, by decide +kernel, rfl, rfl, rfl, rfl, fun _ _ _ _ _ _ us hl => match us, hl with | [_], _ => rfl⟩
theorem ck__law_read : chkSs G b__law_read ⟨N__law_read, L2.defScope s__law_read, true⟩ (L2.defBody s__law_read) = true := by decide +kernel
def d__law_read : _root_.He.DefD := ⟨("_law_read", none), "_law_read", "_law_read", L2.defArgs s__law_read, L2.defBody s__law_read, L2.defScope s__law_read, [], []⟩
theorem ds__law_read : DefS G d__law_read f__law_read := ⟨N__law_read, ["which", "text"], ck__law_read, by decide +kernel, rfl, rfl, rfl, rfl, fun _ _ _ _ _ _ us hl => match us, hl with | [_, _], _ => rfl⟩
theorem ck__law_ask : chkSs G b__law_ask ⟨N__law_ask, L2.defScope s__law_ask, true⟩ (L2.defBody s__law_ask) = true := by decide +kernel
def d__law_ask : _root_.He.DefD := ⟨("_law_ask", none), "_law_ask", "_law_ask", L2.defArgs s__law_ask, L2.defBody s__law_ask, L2.defScope s__law_ask, [], []⟩
theorem ds__law_ask : DefS G d__law_ask f__law_ask := ⟨N__law_ask, ["which", "one", "two"], ck__law_ask, by decide +kernel, rfl, rfl, rfl, rfl, fun _ _ _ _ _ _ us hl => match us, hl with | [_, _, _], _ => rfl⟩
theorem ck__law_digits : chkSs G b__law_digits ⟨N__law_digits, L2.defScope s__law_digits, true⟩ (L2.defBody s__law_digits) = true := by decide +kernel
def d__law_digits : _root_.He.DefD := ⟨("_law_digits", none), "_law_digits", "_law_digits", L2.defArgs s__law_digits, L2.defBody s__law_digits, L2.defScope s__law_digits, [], []⟩
theorem ds__law_digits : DefS G d__law_digits f__law_digits := ⟨N__law_digits, ["text"], ck__law_digits, by decide +kernel, rfl, rfl, rfl, rfl, fun _ _ _ _ _ _ us hl => match us, hl with | [_], _ => rfl⟩
theorem ck__law_good_whole : chkSs G b__law_good_whole ⟨N__law_good_whole, L2.defScope s__law_good_whole, true⟩ (L2.defBody s__law_good_whole) = true := by decide +kernel
def d__law_good_whole : _root_.He.DefD := ⟨("_law_good_whole", none), "_law_good_whole", "_law_good_whole", L2.defArgs s__law_good_whole, L2.defBody s__law_good_whole, L2.defScope s__law_good_whole, [], []⟩
theorem ds__law_good_whole : DefS G d__law_good_whole f__law_good_whole := ⟨N__law_good_whole, ["text"], ck__law_good_whole, by decide +kernel, rfl, rfl, rfl, rfl, fun _ _ _ _ _ _ us hl => match us, hl with | [_], _ => rfl⟩
theorem ck__law_good_ratio : chkSs G b__law_good_ratio ⟨N__law_good_ratio, L2.defScope s__law_good_ratio, true⟩ (L2.defBody s__law_good_ratio) = true := by decide +kernel
def d__law_good_ratio : _root_.He.DefD := ⟨("_law_good_ratio", none), "_law_good_ratio", "_law_good_ratio", L2.defArgs s__law_good_ratio, L2.defBody s__law_good_ratio, L2.defScope s__law_good_ratio, [], []⟩
theorem ds__law_good_ratio : DefS G d__law_good_ratio f__law_good_ratio := ⟨N__law_good_ratio, ["text"], ck__law_good_ratio, by decide +kernel, rfl, rfl, rfl, rfl, fun _ _ _ _ _ _ us hl => match us, hl with | [_], _ => rfl⟩
theorem ck_law : chkSs G b_law ⟨N_law, L2.defScope s_law, true⟩ (L2.defBody s_law) = true := by decide +kernel
def d_law : _root_.He.DefD := ⟨("law", none), "law", "law", L2.defArgs s_law, L2.defBody s_law, L2.defScope s_law, [], []⟩
theorem ds_law : DefS G d_law f_law := ⟨N_law, ["script"], ck_law, by decide +kernel, rfl, rfl, rfl, rfl, fun _ _ _ _ _ _ us hl => match us, hl with | [_], _ => rfl⟩
def fn : List _root_.He.DefD := [d_is_whole, d_read_whole, d_common, d_lowest, d_ratio, d_is_ratio, d_plus, d_minus, d_times, d_over, d_below, d_total, d_lesser, d_greater, d_ratio_text, d_read_ratio, d__law_draw, d__law_take, d__law_low, d__law_number, d__law_text, d__law_read, d__law_ask, d__law_digits, d__law_good_whole, d__law_good_ratio, d_law]
theorem dss : DefsS G fn P.fns := .cons ds_is_whole (.cons ds_read_whole (.cons ds_common (.cons ds_lowest (.cons ds_ratio (.cons ds_is_ratio (.cons ds_plus (.cons ds_minus (.cons ds_times (.cons ds_over (.cons ds_below (.cons ds_total (.cons ds_lesser (.cons ds_greater (.cons ds_ratio_text (.cons ds_read_ratio (.cons ds__law_draw (.cons ds__law_take (.cons ds__law_low (.cons ds__law_number (.cons ds__law_text (.cons ds__law_read (.cons ds__law_ask (.cons ds__law_digits (.cons ds__law_good_whole (.cons ds__law_good_ratio (.cons ds_law (.nil)))))))))))))))))))))))))))
def cls : List PySem.Str := ["Fault", "Malformed", "NoText"]
def names : List PySem.Str := ["Fault", "Malformed", "NoText", "DIGITS", "MOST_DIGITS", "ZERO", "is_whole", "read_whole", "common", "lowest", "ratio", "is_ratio", "plus", "minus", "times", "over", "below", "total", "lesser", "greater", "ratio_text", "read_ratio", "_law_draw", "_law_take", "_law_low", "_law_number", "_law_text", "_law_read", "_law_ask", "_law_digits", "_law_good_whole", "_law_good_ratio"]
def initOf (s : Stmt) : Stmt := match s with
  | .ClassDef (body := b) .. => b.getD 0 (.Pass ⟨0, 0, 0, 0⟩)
  | s => s
def u_NoText : SupD := ⟨"NoText", "NoText.__init__", L2.defArgs (initOf (top 3)), L2.defBody (initOf (top 3)), L2.defScope (initOf (top 3))⟩
def sups : List SupD := [u_NoText]
def chk (K : PySem.W.Frag) : Bool := facB cs G cls K && supB PySem.Challenge.pw_twohandswon_k09_fractions K "NoText" "at"
abbrev R : PySem.W.OpenRow := PySem.W.OpenLaw.row PySem.Challenge.rw_twohandswon_k09_fractions
abbrev hk : PySem.W.Hook := hookM 5 chk fn sups
def ob (s : PySem.W.SharedT) : AlM := obsMG 5 chk fn sups (HandSHeadRun.getT s)
theorem ob_eq (s : PySem.W.SharedT) : ob s = hk.obs s.abs := obsMG_eq (HandSHeadRun.getT_eq s)
theorem run (w : World) : HandSHeadRun.RunEq R (PySem.W.view R.prog [35]) hk ob 8000 names w := by
  intro os
  kernel_rfl
end K09
end
section
set_option linter.all false
set_option autoImplicit false
set_option maxRecDepth 100000
set_option maxHeartbeats 1000000
namespace K09
open PySem PySem.Spec PyProof.Rows L2 _root_.He Mini
abbrev pw : Program := PySem.Challenge.pw_twohandswon_k09_fractions
abbrev rw_ := PySem.Challenge.rw_twohandswon_k09_fractions
theorem ats : atsB G fn = true := by decide +kernel
theorem num_ok (kk : Cls) (h : kk.num = true) (R : RC) (m : List Addr) (st : Sto) (H : Hp) (y : Mini.D) (v : V) (r : Rep R m st H y v) (n : numOk kk [y] = true) : okNum v := by
  unfold numOk at n
  rw [h] at n
  simp only [Bool.not_true, Bool.false_or, List.all_cons, List.all_nil, Bool.and_true] at n
  cases r <;> first | (simp [numD] at n; done) | skip
  rename_i i
  simp only [numD, Bool.and_eq_true, decide_eq_true_eq] at n
  refine ⟨i, rfl, n.1, ?_⟩
  have z := n.2
  unfold strI at z
  simpa [Str.length] using z
abbrev argT : Expr := .BinOp (.Constant (.str "at ") 0 ⟨9, 25, 9, 30⟩) .Add (.Call (.Name "str" ⟨9, 33, 9, 36⟩) [.Name "at" ⟨9, 37, 9, 39⟩] [] ⟨9, 33, 9, 40⟩) ⟨9, 25, 9, 40⟩
theorem arg_NoText {mg : Str → Option Value} {w : World} (hm : mg "str" = none) (v : V) (u : Value) (hv : okNum v) (r : RelV v u) : VE.ArgOk pw w mg argT "at" u_NoText.scope u := by
  obtain ⟨i, rfl, h1, h2⟩ := hv
  obtain ⟨t, rfl⟩ := r
  refine argOk_str (by decide +kernel) (by decide +kernel) (by decide +kernel) (by decide +kernel) hm h1 ?_
  have z : (("at " : Str)).length = 3 := by decide +kernel
  rw [z, sizeLine_eq]
  omega
theorem chk_and {K : PySem.W.Frag} (h : chk K = true) : facB cs G cls K = true ∧ supB pw K "NoText" "at" = true := by
  unfold chk at h
  rw [Bool.and_eq_true] at h
  exact h
theorem progK (w : World) (K : PySem.W.Frag) (mg : Str → Option Value) (base : Heap) (X : K.In base) (Gn : base.Ns mainGlobals mg) (c : obsM chk fn sups K = valM fn sups) : ProgOk pw w K mg base (rcOf K fn cls) P G := by
  refine progOk X Gn c (fun h => (chk_and h).1) dss (ats_ok ats) fun x ci h => ?_
  have hc : chk K = true := (ba (show (chk K && fn.all fun d => d.ok K) = true from congrArg (fun z : AlM => z.1.1) c)).1
  have hs := (chk_and hc).2
  have hz := lookup_mem h
  have e1 : (x, ci) = (("NoText" : Str), 2) := by
    have : (x, ci) ∈ [(("NoText" : Str), 2)] := hz
    simpa using this
  cases e1
  have hv : supV K u_NoText.x = u_NoText.val := by
    have e2 : sups.map (fun d => supV K d.x) = sups.map SupD.val := congrArg (fun z : AlM => z.2) c
    have e3 : [supV K u_NoText.x] = [u_NoText.val] := e2
    exact (List.cons.inj e3).1
  obtain ⟨cda, cc, T⟩ := supT_of (prog := pw) (d := u_NoText) (fld := "at") (pn := "at") (arg := argT) (ar := { arg := "self", annotation := none, pos := ⟨8, 17, 8, 21⟩ }) hs hv
    (show u_NoText.body = VE.supBody "at" "at" argT ⟨9, 8, 9, 13⟩ ⟨9, 8, 9, 15⟩ ⟨9, 8, 9, 24⟩ ⟨9, 8, 9, 41⟩ ⟨9, 8, 9, 41⟩ ⟨10, 8, 10, 12⟩ ⟨10, 8, 10, 15⟩ ⟨10, 18, 10, 20⟩ ⟨10, 8, 10, 20⟩ by rfl)
    (by decide +kernel) (by rfl) rfl (fun fd h1 h2 y v => by
      obtain ⟨n1, n2, n3, n4, n5, n6, n7, n8, n9, n10, n11, n12, n13, n14, n15⟩ := fd
      subst h1 h2
      rfl) (fun env => rfl) (by rfl) (by decide +kernel)
  have hm : mg "str" = none := (by
    have f := (chk_and hc).1
    unfold facB at f
    simp only [Bool.and_eq_true, List.all_eq_true] at f
    exact free_ok X Gn (f.1.1.1.1.2 "str" (by decide +kernel)))
  intro Z z1 z2 z3 z4 z5 hr
  exact inX_of (d := u_NoText) (kk := ⟨[2, 0], ["at"], true⟩) (ok := okNum) X Gn hs T (by rfl) (by rfl) rfl (by decide +kernel) (fun v u h1 h2 => arg_NoText hm v u h1 h2) (fun R m st H y v r n => num_ok _ rfl R m st H y v r n) Z z1 z2 z3 z4 z5 hr
end K09
open PySem PySem.W PySem.Calls PyProof.Rows
theorem K09.holds_of (plain : ∀ zs : List Int, zs.length ≤ 63 → (∀ z ∈ zs, Builtin.Int.intBits z ≤ 1048576) → ∃ st, Mini.callF K09.P 8 26 [.ro (zs.map .int)] [] = .ok (.bl true) st) : PySem.Challenge.rw_twohandswon_k09_fractions.Holds := by
  w_on; o_law
  refine HandSHeadRun.head_any (r := OpenLaw.row PySem.Challenge.rw_twohandswon_k09_fractions) (q := view (OpenLaw.row PySem.Challenge.rw_twohandswon_k09_fractions).prog [35]) (H := K09.hk) (ob := K09.ob) (M := 8000) (loose := K09.names)
    (d := HandSHeadRun.topDef (OpenLaw.row PySem.Challenge.rw_twohandswon_k09_fractions).prog 35) (kwd := []) K09.ob_eq
    (by kernel_rfl) (fun s => by kernel_rfl) K09.run (by kernel_rfl) (by kernel_rfl) (by kernel_rfl) (by rfl) (by first | assumption | decide +kernel) (by decide +kernel) ⟨rfl, rfl, rfl, rfl, rfl, by decide +kernel⟩ ?hw ?hc
  case hw => w_witness2
  case hc =>
    refine Mini.walkM (l := PySem.Challenge.rw_twohandswon_k09_fractions) (n := 63) (k := 8) (i := 26) (P := K09.P) (fn := K09.f_law) rfl (by decide) (by kernel_rfl) ⟨rfl, by decide, by decide⟩ rfl rfl (fun w mg fa h Y Gn hmg => ?_) plain
    obtain ⟨K, KX, c⟩ := Y
    refine ⟨K, Mini.rcOf K K09.fn K09.cls, K09.G, KX, ?_, fun base kb nb => K09.progK w K mg base kb nb c⟩
    have e : (HandSHeadRun.topDef (OpenLaw.row PySem.Challenge.rw_twohandswon_k09_fractions).prog 35).name = ("law" : PySem.Str) := by kernel_rfl
    rw [e] at hmg
    have hc : K09.chk K = true := (_root_.He.ba (show (K09.chk K && K09.fn.all fun d => d.ok K) = true from congrArg (fun z : Mini.AlM => z.1.1) c)).1
    have f := (K09.chk_and hc).1
    unfold Mini.facB at f
    simp only [Bool.and_eq_true, List.all_eq_true] at f
    have g := _root_.He.glo_ok KX Gn (f.1.1.1.1.1 (("law" : PySem.Str), 26) (by decide +kernel))
    rw [hmg] at g
    cases g
    rfl
end
theorem PySem.Challenge.cw_twohandswon_k09_fractions_holds : PySem.Challenge.rw_twohandswon_k09_fractions.Holds :=
  K09.holds_of fun zs h _ => K09.plain zs h
