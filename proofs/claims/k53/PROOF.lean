import PyProof.Rows.All
import Wide.All
import OpenK.AllK
import Wide.FinOn
import HandS.ForMost
import HandS.ForExc
import HandS.Wide
import HandS.IsInst
import HandS.TupAny
import HandS.RaiseMore
import HandS.TupMul
import KE.KIntText
import PyProof.Rows.Digits
import PyProof.Rows.StrOr
import HandS.TupLen
import HandS.WordsDict
import HandS.Exc
import HandS.ExcOwn
import HandS.Walk
import KE.GoesMore
import KE.GoesEnum
import HandS.Comp
import HandS.Style
import HandS.ExcField
import HandS.TryMany
import HandS.DictComp
import HandS.EndBits
import HandS.Head0
import HandS.Head1
import HandS.Head2
import HandS.HeadHook1
import HandS.HeadHook2
import HandS.Codes
import KE.KSuper
import KE.KFromBytes
import HandS.ExcSuper
import HandS.ExcInit
import HandS.HeadWalk
import HandS.HeadEnd
import PyProof.Rows.ReprOcc
import HandS.Text
import KE.KStateDown
import PyProof.StrLawsRepr
import PySem.Challenge.RW_twohandswon_k53_whole_plain_data
set_option Elab.async false
section
set_option linter.all false
set_option maxRecDepth 100000
set_option maxHeartbeats 1000000
/-! Mini: a small language with values by content and a store for what may change; its meaning as functions. -/
namespace Mini
open PySem
abbrev Chs := List Nat
/-- keys of dicts: a number, a text; a tuple of such -/
inductive At where
  | i (n : Int) | s (x : Chs)
  deriving DecidableEq, Inhabited
inductive Ky where
  | a (x : At) | t (xs : List At)
  deriving DecidableEq, Inhabited
/-- values: a tuple or a list that nobody changes by its items; ref: a list that may change, by its place in the store; ro: a list from outside that is read alone; fn: a def of the program; dic: a dict that nobody changes (t: its keys are tuples); ct: a tuple that is a constant of the module -/
inductive D where
  | non | bl (b : Bool) | int (i : Int) | str (s : Chs) | tup (xs : List D) | lst (xs : List D) | ro (xs : List D) | ref (n : Nat) | fn (i : Nat) | dic (t : Bool) (ks : List Ky) (vs : List D) | ct (xs : List D)
  deriving Inhabited
/-- what the store holds: a list, a dict, an instance of a class (its fields in the class's order, those that are set) -/
inductive SO where
  | lst (xs : List D) | dic (t : Bool) (ks : List Ky) (vs : List D) | ins (c : Nat) (vs : List D) | dead
  deriving Inhabited
abbrev Sto := List SO
abbrev Env := List (Option D)
structure Exc where
  cls : Nat
  flds : List (Str × D)
inductive Res (α : Type) where
  | ok (a : α) (st : Sto) | exc (x : Exc) (st : Sto) | bad
def Res.bnd {α β : Type} (r : Res α) (f : α → Sto → Res β) : Res β := match r with
  | .ok a st => f a st
  | .exc x st => .exc x st
  | .bad => .bad
@[simp] theorem bnd_ok {α β : Type} (a : α) (st : Sto) (f : α → Sto → Res β) : (Res.ok a st).bnd f = f a st := rfl
@[simp] theorem bnd_exc {α β : Type} (x : Exc) (st : Sto) (f : α → Sto → Res β) : (Res.exc x st : Res α).bnd f = .exc x st := rfl
@[simp] theorem bnd_bad {α β : Type} (f : α → Sto → Res β) : (Res.bad : Res α).bnd f = .bad := rfl
inductive Out where
  | nx (env : Env) (st : Sto) | ret (d : D) (st : Sto) | brk (env : Env) (st : Sto) | cont (env : Env) (st : Sto) | exc (x : Exc) (env : Env) (st : Sto) | bad

/-! ### the syntax -/
inductive Ty where
  | int | bool | str | tuple | list | none | own (c : Nat)
  deriving DecidableEq, Inhabited
inductive Pr where
  | add | sub | mul | fdiv | mod | pow | neg | eq | ne | lt | le | gt | ge | isin | notin | isN | notN
  | ix | sl (lo hi : Bool)
  | len | abs | int | str | tuple | list | all | any | isi (ts : List Ty) | repr
  | append | pop | extend | split | partition | join
  | iadd | isub | imul
  | shl | shr | band | isB (b : Bool) | notB (b : Bool)
  | rev | every (odd : Bool) | max2 | min2 | maxl | minl | sum | lset | sset | sorted | sabs | mabs | zipl | rngl (n : Nat)
  | popAt | index | ends | strip | replace | blen
  | dictP | dictZ | dcopy | dlist | dget | din | dnin | get1 | get2
  | own (p : Pr)
  deriving DecidableEq, Inhabited
mutual
inductive Tg where
  | nm (i : Nat) | tp (ts : Tgs)
inductive Tgs where
  | nil | cons (t : Tg) (ts : Tgs)
end
mutual
inductive Ex where
  | lit (d : D) | var (i : Nat)
  | tup (es : Exs) | lst (es : Exs) | vlst (es : Exs)
  | pr (p : Pr) (es : Exs)
  | mth (p : Pr) (o : Ex) (es : Exs)
  | call (f : Nat) (es : Exs) | callv (f : Ex) (es : Exs)
  | andE (a b : Ex) | orE (a b : Ex) | notE (a : Ex) | ife (c a b : Ex) | chain (p q : Pr) (a b c : Ex)
  | comp (v : Bool) (wp : List Nat) (t : Tg) (it : It) (c : Exs) (e : Ex)
  | comp2 (v : Bool) (wp : List Nat) (t : Tg) (it : It) (c : Exs) (wp2 : List Nat) (t2 : Tg) (it2 : It) (c2 : Exs) (e : Ex)
  | dcomp (v t : Bool) (wp : List Nat) (tg : Tg) (it : It) (c : Exs) (k e : Ex)
  | dlit (v t : Bool) (kvs : Exs)
  | frz (e : Ex) | new (c i : Nat) (es : Exs) | mcall (c i : Nat) (o : Ex) (es : Exs) | fld (c j : Nat) (o : Ex)
inductive Exs where
  | nil | cons (e : Ex) (es : Exs)
inductive It where
  | seq (e : Ex) | rng (es : Exs) | enum (e : Ex) | zip (a b : Ex)
end
/-- what an except suite hands back: a constant, an empty list, the exception's one field (its written form) between two texts -/
inductive He where
  | lit (d : D) | nilL | fld (c : Nat) (f : Str) (s : Bool) (pre post : Chs)
inductive Hd where
  | on (c : Nat) (i : Option Nat) (e : He)
mutual
inductive Sm where
  | asg (t : Tg) (e : Ex) | par (is : List Nat) (es : Exs) | asgIx (o i e : Ex) | aug (i : Nat) (p : Pr) (e : Ex)
  | asgKey (o i e : Ex) | setF (c j : Nat) (o e : Ex) | augF (c j : Nat) (o : Ex) (p : Pr) (e : Ex) | augIx (o i : Ex) (p : Pr) (e : Ex)
  | ex (e : Ex) | ret (e : Ex) | retN
  | ife (c : Ex) (a b : Sms) | for_ (t : Tg) (it : It) (b : Sms) | while_ (c : Ex) (b : Sms)
  | raise (c : Nat) (es : Exs) | try_ (b : Sms) (hs : List Hd) | pass | brk | cont
inductive Sms where
  | nil | cons (s : Sm) (ss : Sms)
end

/-! ### primitives -/
@[simp] def cutL {α : Type} (xs : List α) (lo hi : Option Int) : List α := (xs.drop (HT.sIx xs.length 0 lo)).take (HT.sIx xs.length xs.length hi - HT.sIx xs.length 0 lo)
/-- as plain data, lists by what the store holds -/
def toPD (st : Sto) : Nat → D → Option PyData
  | 0, _ => none
  | _ + 1, .non => some .none
  | _ + 1, .bl b => some (.bool b)
  | _ + 1, .int i => some (.int i)
  | _ + 1, .str s => some (.str ⟨s.toArray⟩)
  | n + 1, .tup xs => (xs.mapM (toPD st n)).map .tuple
  | n + 1, .ct xs => (xs.mapM (toPD st n)).map .tuple
  | n + 1, .lst xs => (xs.mapM (toPD st n)).map .list
  | n + 1, .ro xs => (xs.mapM (toPD st n)).map .list
  | n + 1, .ref k => match st[k]? with
    | some (.lst xs) => (xs.mapM (toPD st n)).map .list
    | _ => none
  | _ + 1, .fn _ => none
  | _ + 1, .dic _ _ _ => none
/-- how deep data may be for an ==, a repr -/
def deepMost : Nat := 1100
def flatD : D → Bool
  | .non => true | .bl _ => true | .int _ => true | .str _ => true | _ => false
def eqD : D → D → Bool
  | .non, .non => true
  | .bl a, .bl b => a == b
  | .bl a, .int b => (if a then 1 else 0) == b
  | .int a, .bl b => a == (if b then 1 else 0)
  | .int a, .int b => a == b
  | .str a, .str b => a == b
  | _, _ => false
/-- the items of a list, wherever it stands -/
def listOf (st : Sto) : D → Option (List D)
  | .lst xs => some xs
  | .ro xs => some xs
  | .ref k => match st[k]? with
    | some (.lst xs) => some xs
    | _ => none
  | _ => none
def seqOf (st : Sto) : D → Option (List D)
  | .tup xs => some xs
  | .ct xs => some xs
  | d => listOf st d
def itemsOf (st : Sto) : D → Option (List D)
  | .tup xs => some xs
  | .ct xs => some xs
  | .str s => some (s.map fun c => .str [c])
  | d => listOf st d
/-! dicts -/
def atOf : D → Option At
  | .int i => some (.i i)
  | .str s => some (.s s)
  | _ => none
def kyOf : D → Option Ky
  | .tup xs => (xs.mapM atOf).map .t
  | d => (atOf d).map .a
def atD' : At → D
  | .i n => .int n
  | .s x => .str x
def kyD : Ky → D
  | .a x => atD' x
  | .t xs => .tup (xs.map atD')
/-- it fits a dict of that sort -/
def Ky.fits (t : Bool) : Ky → Bool
  | .a _ => !t
  | .t _ => t
def kGet : List Ky → List D → Ky → Option D
  | k :: ks, v :: vs, x => if k = x then some v else kGet ks vs x
  | _, _, _ => none
/-- the pairs with one put: at its place, or at the end -/
def kPut (ks : List Ky) (vs : List D) (x : Ky) (y : D) : List Ky × List D :=
  if x ∈ ks then (ks, (ks.zip vs).map fun p => if p.1 = x then y else p.2) else (ks ++ [x], vs ++ [y])
def dicOf (st : Sto) : D → Option (Bool × List Ky × List D)
  | .dic t ks vs => some (t, ks, vs)
  | .ref n => match st[n]? with
    | some (.dic t ks vs) => some (t, ks, vs)
    | _ => none
  | _ => none
/-- its key, of the dict's sort -/
def keyIn (t : Bool) (d : D) : Option Ky := match kyOf d with
  | some k => if k.fits t then some k else none
  | none => none
def dgetD (st : Sto) (x y : D) : Option D := match dicOf st x with
  | some (t, ks, vs) => (keyIn t y).bind fun k => kGet ks vs k
  | none => none
def dinD (st : Sto) (x y : D) : Option Bool := match dicOf st y with
  | some (t, ks, vs) => (keyIn t x).map fun k => (kGet ks vs k).isSome
  | none => none
def get2D (st : Sto) (x y z : D) : Option D := match dicOf st x with
  | some (t, ks, vs) => (keyIn t y).map fun k => (kGet ks vs k).getD z
  | none => none
/-- a dict out of pairs -/
def dictL (t : Bool) : List (D × D) → List Ky → List D → Option (List Ky × List D)
  | [], ks, vs => some (ks, vs)
  | (a, b) :: r, ks, vs => match keyIn t a with
    | some k => dictL t r (kPut ks vs k b).1 (kPut ks vs k b).2
    | none => none
def pairOf : D → Option (D × D)
  | .tup [a, b] => some (a, b)
  | _ => none
inductive Kd where
  | non | bool | int | str | tuple | list | dict
  deriving DecidableEq
def kindD : D → Kd
  | .non => .non
  | .bl _ => .bool
  | .int _ => .int
  | .str _ => .str
  | .tup _ => .tuple
  | .ct _ => .tuple
  | .dic _ _ _ => .dict
  | _ => .list
def isK : Kd → Ty → Bool
  | .int, .int => true
  | .bool, .int => true
  | .bool, .bool => true
  | .str, .str => true
  | .tuple, .tuple => true
  | .list, .list => true
  | .non, .none => true
  | _, _ => false
def isiD (st : Sto) (ts : List Ty) (x : D) : Option Bool := match x with
  | .fn _ => none
  | .dic _ _ _ => none
  | .ref n => match st[n]? with
    | some (.lst _) => some (ts.any (isK (kindD x)))
    | _ => none
  | x => some (ts.any (isK (kindD x)))
def bools : List D → Option (List Bool)
  | [] => some []
  | .bl b :: r => (bools r).map (b :: ·)
  | _ => none
def chars : List D → Option (List Chs)
  | [] => some []
  | .str b :: r => (chars r).map (b :: ·)
  | _ => none
def wide (i j : Int) : Bool := decide (i.natAbs.log2 + j.natAbs.log2 < 1000000)
abbrev Pm := Option (D × Sto)
def guardR (c : Bool) (r : Pm) : Pm := if c then r else none

def addD (st : Sto) (x y : D) : Pm := match x, y with
  | .int i, .int j => some (.int (i + j), st)
  | .str a, .str b => guardR (decide (a.length + b.length ≤ sizeLine)) (some (.str (a ++ b), st))
  | .tup a, .tup b => guardR (decide (a.length + b.length ≤ sizeLine)) (some (.tup (a ++ b), st))
  | .ro _, _ => none
  | _, .ro _ => none
  | x, y => match listOf st x, listOf st y with
    | some a, some b => guardR (decide (a.length + b.length ≤ sizeLine)) (some (.lst (a ++ b), st))
    | _, _ => none
def mulD (st : Sto) (x y : D) : Pm := match x, y with
  | .int i, .int j => guardR (wide i j) (some (.int (i * j), st))
  | .ro _, _ => none
  | .str a, .int k => guardR (decide (0 ≤ k) && decide (k ≤ 16777216) && decide (a.length * k.toNat ≤ sizeLine)) (some (.str (List.replicate k.toNat a).flatten, st))
  | .tup a, .int k => guardR (!a.isEmpty && decide (2 ≤ k) && decide (k ≤ 1000) && decide (a.length ≤ 1000)) (some (.tup (List.replicate k.toNat a).flatten, st))
  | x, .int k => match listOf st x with
    | some a => guardR (decide (-(2 ^ 63) ≤ k) && decide (k < 2 ^ 63) && decide (a.length * k.toNat ≤ sizeLine)) (some (.lst (List.replicate k.toNat a).flatten, st))
    | none => none
  | _, _ => none
/-- text order -/
def ltC (a b : Chs) : Bool := decide (a < b)
def cmpD (p : Pr) (x y : D) : Option Bool := match p, x, y with
  | .lt, .int i, .int j => some (decide (i < j))
  | .le, .int i, .int j => some (decide (i ≤ j))
  | .gt, .int i, .int j => some (decide (j < i))
  | .ge, .int i, .int j => some (decide (j ≤ i))
  | .lt, .str a, .str b => some (ltC a b)
  | .le, .str a, .str b => some (!ltC b a)
  | .gt, .str a, .str b => some (ltC b a)
  | .ge, .str a, .str b => some (!ltC a b)
  | _, _, _ => none
/-- == of data -/
def scalB : D → D → Bool
  | .bl _, .int _ => false
  | .int _, .bl _ => false
  | x, y => flatD x && flatD y
def eqvD (st : Sto) (x y : D) : Option Bool := if scalB x y then some (eqD x y) else match toPD st 65 x, toPD st 65 y with
  | some a, some b => if SeqAt.shaped a && SeqAt.shaped b then some (PyData.eqv a b) else none
  | _, _ => none
def inD (st : Sto) (x y : D) : Option Bool := match x, y with
  | .str [c], .str z => some (decide (c ∈ z))
  | x, .tup ys => if flatD x && ys.all flatD then some (ys.any fun z => eqD z x) else none
  | x, .ct ys => if flatD x && ys.all flatD then some (ys.any fun z => eqD z x) else none
  | x, y => match listOf st y with
    | some ys => if flatD x && ys.all flatD then some (ys.any fun z => eqD z x) else none
    | none => none
def boolR (st : Sto) : Option Bool → Pm
  | some b => some (.bl b, st)
  | none => none
def oneR (st : Sto) : Option D → Pm
  | some d => some (d, st)
  | none => none
def intO : D → Option Int
  | .int i => some i
  | _ => none
def atD (st : Sto) (x : D) (i : Int) : Option D := match x with
  | .str s => if s.length ≤ sizeLine then (L2.atI s i).map fun c => .str [c] else none
  | .tup xs => L2.atI xs i
  | .ct xs => L2.atI xs i
  | x => (listOf st x).bind fun xs => L2.atI xs i
def slD (st : Sto) (x : D) (lo hi : Option Int) : Option D := match x with
  | .str s => if s.length ≤ sizeLine then some (.str (cutL s lo hi)) else none
  | .tup xs => some (.tup (cutL xs lo hi))
  | x => (listOf st x).map fun xs => .lst (cutL xs lo hi)
def lenD (st : Sto) (x : D) : Option D := match x with
  | .str s => if s.length ≤ sizeLine then some (.int s.length) else none
  | .tup xs => some (.int xs.length)
  | .ct xs => some (.int xs.length)
  | x => match listOf st x with
    | some xs => some (.int xs.length)
    | none => (dicOf st x).map fun d => .int d.2.1.length
def strI (i : Int) : Chs := (toString i : Str).cps.toList
def intD : D → Option D
  | .int i => some (.int i)
  | .bl k => some (.int (if k then 1 else 0))
  | .str a => if a.length ≤ sizeLine then (PySem.intText? ⟨a.toArray⟩).map .int else none
  | _ => none
/-- the limit of str of an int -/
def tenK : Nat := 10 ^ 4300
def strD : D → Option D
  | .int i => if i.natAbs < tenK then some (.str (strI i)) else none
  | .str a => some (.str a)
  | _ => none
def tupD (st : Sto) (x : D) : Option D := match x with
  | .tup xs => some (.tup xs)
  | .ct xs => some (.ct xs)
  | x => (listOf st x).map .tup
def lisD (st : Sto) (x : D) : Option D := match x with
  | .tup xs => some (.lst xs)
  | .ct xs => some (.lst xs)
  | x => (listOf st x).map .lst
def reprD (st : Sto) (x : D) : Option D := match toPD st 65 x with
  | some a => if a.showable && decide (a.shown.length ≤ sizeLine) then some (.str a.shown.cps.toList) else none
  | none => none
def splitC (a b : Chs) : List Chs := (Txt.split ⟨a.toArray⟩ ⟨b.toArray⟩).map (·.cps.toList)
def partC (a b : Chs) : Chs × Chs × Chs := ((Txt.partition ⟨a.toArray⟩ ⟨b.toArray⟩).1.cps.toList, (Txt.partition ⟨a.toArray⟩ ⟨b.toArray⟩).2.1.cps.toList, (Txt.partition ⟨a.toArray⟩ ⟨b.toArray⟩).2.2.cps.toList)
def joinC (a : Chs) (ys : List Chs) : Chs := (Txt.join ⟨a.toArray⟩ (ys.map fun y => (⟨y.toArray⟩ : Str))).cps.toList
/-! whole numbers, texts of a list -/
def intsOf : List D → Option (List Int)
  | [] => some []
  | .int i :: r => (intsOf r).map (i :: ·)
  | _ => none
def atsOf (xs : List D) : Option (List At) := xs.mapM atOf
/-- sorted: whole numbers, or texts -/
def sortI (xs : List Int) : List Int := xs.mergeSort fun a b => decide (a ≤ b)
def sortC (xs : List Chs) : List Chs := xs.mergeSort fun a b => decide (a ≤ b)
def sortAbs (xs : List Int) : List Int := xs.mergeSort fun a b => decide (a.natAbs ≤ b.natAbs)
def dedup {α : Type} [DecidableEq α] : List α → List α
  | [] => []
  | x :: xs => if x ∈ xs then dedup xs else x :: dedup xs
def sortD (f : {α : Type} → [DecidableEq α] → List α → List α) (xs : List D) : Option (List D) := match intsOf xs with
  | some is => some ((sortI (f is)).map .int)
  | none => (chars xs).map fun ss => (sortC (f ss)).map .str
def maxI : List Int → Option Int
  | [] => none
  | x :: xs => some (xs.foldl (fun a b => if a < b then b else a) x)
def minI : List Int → Option Int
  | [] => none
  | x :: xs => some (xs.foldl (fun a b => if b < a then b else a) x)
def maxAbs : List Int → Option Int
  | [] => none
  | x :: xs => some (xs.foldl (fun a b => if a.natAbs < b.natAbs then b else a) x)
/-- the first place of an item -/
def findD (y : D) : List D → Option Nat
  | [] => none
  | x :: xs => if eqD x y then some 0 else (findD y xs).map (· + 1)
def endsC (a b : Chs) : Bool := decide (b.length ≤ a.length) && (a.drop (a.length - b.length) == b)
def everyL {α : Type} (xs : List α) : List α := match xs with
  | [] => []
  | [x] => [x]
  | x :: _ :: r => x :: everyL r
def freshP : Pr → Bool
  | .add => true | .mul => true | .list => true | .sl _ _ => true | .split => true | .rev => true | .every _ => true | .sset => true | .sorted => true | .sabs => true
  | .zipl => true | .rngl _ => true | .dictP => true | .dictZ => true | .dcopy => true | .dlist => true | _ => false
/-- a new list, a new dict goes to the store -/
def ownR : Pm → Pm
  | some (.lst xs, st) => some (.ref st.length, st ++ [.lst xs])
  | some (.dic t ks vs, st) => some (.ref st.length, st ++ [.dic t ks vs])
  | _ => none
def rngD0 : Nat → List D → Option (List D)
  | 1, [.int j] => if decide (-(2 ^ 62) ≤ j) && decide (j < 2 ^ 62) then some ((List.range j.toNat).map fun i => .int (0 + (i : Nat) * 1)) else none
  | _, _ => none
/-! ### the primitives, each by its arguments -/
def a1 (f : D → Sto → Pm) (xs : List D) (st : Sto) : Pm := match xs with
  | [x] => f x st
  | _ => none
def a2 (f : D → D → Sto → Pm) (xs : List D) (st : Sto) : Pm := match xs with
  | [x, y] => f x y st
  | _ => none
def a3 (f : D → D → D → Sto → Pm) (xs : List D) (st : Sto) : Pm := match xs with
  | [x, y, z] => f x y z st
  | _ => none
@[simp] theorem a1_1 (f : D → Sto → Pm) (x : D) (st : Sto) : a1 f [x] st = f x st := rfl
@[simp] theorem a2_2 (f : D → D → Sto → Pm) (x y : D) (st : Sto) : a2 f [x, y] st = f x y st := rfl
@[simp] theorem a3_3 (f : D → D → D → Sto → Pm) (x y z : D) (st : Sto) : a3 f [x, y, z] st = f x y z st := rfl
/-- two whole numbers -/
def ii (f : Int → Int → Sto → Pm) (x y : D) (st : Sto) : Pm := match x, y with
  | .int i, .int j => f i j st
  | _, _ => none
@[simp] theorem ii_is (f : Int → Int → Sto → Pm) (i j : Int) (st : Sto) : ii f (.int i) (.int j) st = f i j st := rfl
def negD (x : D) (st : Sto) : Pm := match x with
  | .int i => some (.int (-i), st)
  | _ => none
def absD (x : D) (st : Sto) : Pm := match x with
  | .int i => some (.int (if i < 0 then -i else i), st)
  | _ => none
def isND (x : D) (st : Sto) : Pm := some (.bl (match x with | .non => true | _ => false), st)
def notND (x : D) (st : Sto) : Pm := some (.bl (match x with | .non => false | _ => true), st)
def ixD (x y : D) (st : Sto) : Pm := match y with
  | .int i => oneR st (atD st x i)
  | _ => none
def sl1D (lo : Bool) (x y : D) (st : Sto) : Pm := match y with
  | .int i => oneR st (if lo then slD st x (some i) none else slD st x none (some i))
  | _ => none
def sl2D (x y z : D) (st : Sto) : Pm := match y, z with
  | .int i, .int j => oneR st (slD st x (some i) (some j))
  | _, _ => none
def appendD (x y : D) (st : Sto) : Pm := match x with
  | .ref n => match st[n]? with
    | some (.lst xs) => guardR (decide (xs.length < sizeLine)) (some (.non, st.set n (.lst (xs ++ [y]))))
    | _ => none
  | _ => none
def popD (x : D) (st : Sto) : Pm := match x with
  | .ref n => match st[n]? with
    | some (.lst xs) => match xs[xs.length - 1]? with
      | some y => some (y, st.set n (.lst xs.dropLast))
      | none => none
    | _ => none
  | _ => none
def popAtD (x y : D) (st : Sto) : Pm := match x, y with
  | .ref n, .int i => match st[n]? with
    | some (.lst xs) => match L2.ixN xs.length i with
      | some j => match xs[j]? with
        | some y => some (y, st.set n (.lst (xs.eraseIdx j)))
        | none => none
      | none => none
    | _ => none
  | _, _ => none
def isRo : D → Bool
  | .ro _ => true
  | _ => false
def extendD (x y : D) (st : Sto) : Pm := match x with
  | .ref n => match st[n]? with
    | some (.lst xs) => if isRo y then none else match listOf st y with
      | some ys => guardR (decide (xs.length + ys.length ≤ sizeLine)) (some (.non, st.set n (.lst (xs ++ ys))))
      | none => none
    | _ => none
  | _ => none
def ss (f : Chs → Chs → Sto → Pm) (x y : D) (st : Sto) : Pm := match x, y with
  | .str a, .str b => f a b st
  | _, _ => none
@[simp] theorem ss_is (f : Chs → Chs → Sto → Pm) (a b : Chs) (st : Sto) : ss f (.str a) (.str b) st = f a b st := rfl
def splitD (a b : Chs) (st : Sto) : Pm := guardR (!b.isEmpty && decide (a.length + 2 ≤ sizeLine)) (some (.lst ((splitC a b).map .str), st))
def partD (a b : Chs) (st : Sto) : Pm := guardR (!b.isEmpty && decide (a.length ≤ sizeLine)) (some (.tup [.str (partC a b).1, .str (partC a b).2.1, .str (partC a b).2.2], st))
def joinD (x y : D) (st : Sto) : Pm := match x with
  | .str a => match (seqOf st y).bind chars with
    | some ys => guardR (decide ((ys.map (·.length)).sum + ys.length * a.length ≤ 16777216)) (some (.str (joinC a ys), st))
    | none => none
  | _ => none
def iaddD (x y : D) (st : Sto) : Pm := match x, y with
  | .int i, .int j => some (.int (i + j), st)
  | .str a, .str b => guardR (decide (a.length + b.length ≤ sizeLine)) (some (.str (a ++ b), st))
  | _, _ => none
def shlI (i j : Int) (st : Sto) : Pm := guardR (decide (0 ≤ j) && decide (j ≤ 1000000) && decide (i.natAbs < 2 ^ 64)) (some (.int (i * 2 ^ j.toNat), st))
def shrI (i j : Int) (st : Sto) : Pm := guardR (decide (0 ≤ j)) (some (.int (i / 2 ^ j.toNat), st))
def isBD (b : Bool) (x : D) (st : Sto) : Pm := match x with
  | .bl c => some (.bl (c == b), st)
  | _ => none
def revD (x : D) (st : Sto) : Pm := match x with
  | .tup xs => some (.tup xs.reverse, st)
  | x => oneR st ((listOf st x).map fun xs => .lst xs.reverse)
def everyD (odd : Bool) (x : D) (st : Sto) : Pm := oneR st ((listOf st x).map fun xs => .lst (everyL (if odd then xs.drop 1 else xs)))
def intL (f : List Int → Option D) (x : D) (st : Sto) : Pm := oneR st (((listOf st x).bind intsOf).bind f)
def lsetD (x : D) (st : Sto) : Pm := oneR st (((seqOf st x).bind atsOf).bind fun as => if as.length < 4000 then some (.int (dedup as).length) else none)
def ssetD (x : D) (st : Sto) : Pm := oneR st (((seqOf st x).bind fun xs => if xs.length < 4000 then sortD (fun xs => dedup xs) xs else none).map .lst)
def sortedD (x : D) (st : Sto) : Pm := oneR st (((seqOf st x).bind fun xs => sortD (fun xs => xs) xs).map .lst)
def sabsD (x : D) (st : Sto) : Pm := oneR st (((seqOf st x).bind intsOf).map fun is => .lst ((sortAbs is).map .int))
def mabsD (x : D) (st : Sto) : Pm := oneR st ((((seqOf st x).bind intsOf).bind maxAbs).map .int)
def ziplD (x y : D) (st : Sto) : Pm := match listOf st x, listOf st y with
  | some xs, some ys => some (.lst ((xs.zip ys).map fun p => .tup [p.1, p.2]), st)
  | _, _ => none
def indexD (x y : D) (st : Sto) : Pm := oneR st (((seqOf st x).bind fun xs => if flatD y && xs.all flatD then findD y xs else none).map fun (j : Nat) => .int (j : Nat))
def dictPD (x : D) (st : Sto) : Pm := oneR st (((listOf st x).bind fun xs => (xs.mapM pairOf).bind fun ps => dictL false ps [] []).map fun d => .dic false d.1 d.2)
def dictZD (x y : D) (st : Sto) : Pm := match seqOf st x, seqOf st y with
  | some xs, some ys => oneR st ((dictL false (xs.zip ys) [] []).map fun d => .dic false d.1 d.2)
  | _, _ => none
def dcopyD (x : D) (st : Sto) : Pm := oneR st ((dicOf st x).bind fun d => if d.1 then none else some (.dic d.1 d.2.1 d.2.2))
def dlistD (x : D) (st : Sto) : Pm := oneR st ((dicOf st x).map fun d => .lst (d.2.1.map kyD))
/-- what a primitive gives for its arguments -/
def prim : Pr → List D → Sto → Pm
  | .add => a2 fun x y st => addD st x y
  | .sub => a2 (ii fun i j st => some (.int (i - j), st))
  | .mul => a2 fun x y st => mulD st x y
  | .fdiv => a2 (ii fun i j st => guardR (decide (j ≠ 0) && decide (j.natAbs.log2 < 9000)) (some (.int (i.fdiv j), st)))
  | .mod => a2 (ii fun i j st => guardR (decide (j ≠ 0)) (some (.int (i.fmod j), st)))
  | .pow => a2 (ii fun i j st => guardR (decide (0 ≤ j) && decide (j ≤ 1000000) && decide (i.natAbs < 2 ^ 64)) (some (.int (i ^ j.toNat), st)))
  | .neg => a1 negD
  | .eq => a2 fun x y st => boolR st (eqvD st x y)
  | .ne => a2 fun x y st => boolR st ((eqvD st x y).map not)
  | .lt => a2 fun x y st => boolR st (cmpD .lt x y)
  | .le => a2 fun x y st => boolR st (cmpD .le x y)
  | .gt => a2 fun x y st => boolR st (cmpD .gt x y)
  | .ge => a2 fun x y st => boolR st (cmpD .ge x y)
  | .isin => a2 fun x y st => boolR st (inD st x y)
  | .notin => a2 fun x y st => boolR st ((inD st x y).map not)
  | .isN => a1 isND
  | .notN => a1 notND
  | .ix => a2 ixD
  | .sl false false => a1 fun x st => oneR st (slD st x none none)
  | .sl true false => a2 (sl1D true)
  | .sl false true => a2 (sl1D false)
  | .sl true true => a3 sl2D
  | .len => a1 fun x st => oneR st (lenD st x)
  | .abs => a1 absD
  | .int => a1 fun x st => oneR st (intD x)
  | .str => a1 fun x st => oneR st (strD x)
  | .tuple => a1 fun x st => oneR st (tupD st x)
  | .list => a1 fun x st => oneR st (lisD st x)
  | .all => a1 fun x st => boolR st (((listOf st x).bind bools).map fun bs => bs.all id)
  | .any => a1 fun x st => boolR st (((listOf st x).bind bools).map fun bs => bs.any id)
  | .isi ts => a1 fun x st => boolR st (isiD st ts x)
  | .repr => a1 fun x st => oneR st (reprD st x)
  | .append => a2 appendD
  | .pop => a1 popD
  | .extend => a2 extendD
  | .split => a2 (ss splitD)
  | .partition => a2 (ss partD)
  | .join => a2 joinD
  | .iadd => a2 iaddD
  | .isub => a2 (ii fun i j st => some (.int (i - j), st))
  | .imul => a2 (ii fun i j st => guardR (wide i j) (some (.int (i * j), st)))
  | .shl => a2 (ii shlI)
  | .shr => a2 (ii shrI)
  | .band => a2 (ii fun i j st => some (.int (Builtin.bitAnd i j), st))
  | .isB b => a1 (isBD b)
  | .notB b => a1 (isBD (!b))
  | .rev => a1 revD
  | .every odd => a1 (everyD odd)
  | .max2 => a2 (ii fun i j st => some (.int (if i < j then j else i), st))
  | .min2 => a2 (ii fun i j st => some (.int (if j < i then j else i), st))
  | .maxl => a1 (intL fun is => (maxI is).map .int)
  | .minl => a1 (intL fun is => (minI is).map .int)
  | .sum => a1 (intL fun is => some (.int is.sum))
  | .lset => a1 lsetD
  | .sset => a1 ssetD
  | .sorted => a1 sortedD
  | .sabs => a1 sabsD
  | .mabs => a1 mabsD
  | .zipl => a2 ziplD
  | .rngl n => fun xs st => oneR st ((rngD0 n xs).map .lst)
  | .popAt => a2 popAtD
  | .index => a2 indexD
  | .ends => a2 (ss fun a b st => some (.bl (endsC a b), st))
  | .strip => fun _ _ => none
  | .replace => fun _ _ => none
  | .blen => fun _ _ => none
  | .dictP => a1 dictPD
  | .dictZ => a2 dictZD
  | .dcopy => a1 dcopyD
  | .dlist => a1 dlistD
  | .dget => a2 fun x y st => oneR st (dgetD st x y)
  | .din => a2 fun x y st => boolR st (dinD st x y)
  | .dnin => a2 fun x y st => boolR st ((dinD st x y).map not)
  | .get1 => a2 fun x y st => oneR st (get2D st x y .non)
  | .get2 => a3 fun x y z st => oneR st (get2D st x y z)
  | .own p => fun xs st => if freshP p then ownR (prim p xs st) else none
theorem a1_none {f : D → Sto → Pm} {ds : List D} {st : Sto} (h : ds.length ≠ 1) : a1 f ds st = none := by
  rcases ds with _ | ⟨x, _ | ⟨y, l⟩⟩
  · rfl
  · exact absurd rfl h
  · rfl
theorem a2_none {f : D → D → Sto → Pm} {ds : List D} {st : Sto} (h : ds.length ≠ 2) : a2 f ds st = none := by
  rcases ds with _ | ⟨x, _ | ⟨y, _ | ⟨z, l⟩⟩⟩
  · rfl
  · rfl
  · exact absurd rfl h
  · rfl
theorem a3_none {f : D → D → D → Sto → Pm} {ds : List D} {st : Sto} (h : ds.length ≠ 3) : a3 f ds st = none := by
  rcases ds with _ | ⟨x, _ | ⟨y, _ | ⟨z, _ | ⟨w, l⟩⟩⟩⟩
  · rfl
  · rfl
  · rfl
  · exact absurd rfl h
  · rfl

/-! ### expressions -/
abbrev Call := Nat → List D → Sto → Res D
def getV (env : Env) (i : Nat) : Option D := (env[i]?).join
def setN : List Nat → List D → Env → Option Env
  | [], [], env => some env
  | i :: is, d :: ds, env => setN is ds (env.set i (some d))
  | _, _, _ => none
mutual
def setT : Tg → D → Env → Option Env
  | .nm i, d, env => some (env.set i (some d))
  | .tp ts, d, env => match d with
    | .tup ds => setTs ts ds env
    | _ => none
def setTs : Tgs → List D → Env → Option Env
  | .nil, [], env => some env
  | .cons t ts, d :: ds, env => (setT t d env).bind (setTs ts ds)
  | _, _, _ => none
end
def wipeE : List Nat → Env → Env
  | [], env => env
  | v :: vs, env => (wipeE vs env).set v none
/-- the truth of a value -/
def truD (st : Sto) : D → Option Bool
  | .non => some false
  | .bl b => some b
  | .int i => some (i != 0)
  | .str s => if s.length ≤ sizeLine then some (!s.isEmpty) else none
  | .tup xs => some (!xs.isEmpty)
  | .ct xs => some (!xs.isEmpty)
  | .fn _ => none
  | .dic _ _ _ => none
  | d => (listOf st d).map fun xs => !xs.isEmpty
def rangeL (lo : Int) (c : Int) (n : Nat) : List D := (List.range n).map fun i => .int (lo + (i : Nat) * c)
def inR62 (i : Int) : Bool := decide (-(2 ^ 62) ≤ i) && decide (i < 2 ^ 62)
def rngD : Nat → List D → Option (List D)
  | 1, [.int j] => if inR62 j then some (rangeL 0 1 j.toNat) else none
  | 2, [.int i, .int j] => if inR62 i && inR62 j then some (rangeL i 1 (j - i).toNat) else none
  | 3, [.int i, .int j, .int c] => if decide (c ≠ 0) && decide (c.natAbs < 1073741824) && Builtin.Range.small i j c then some (rangeL i c (Builtin.Range.rangeSize i j c).toNat) else none
  | _, _ => none
def Exs.len : Exs → Nat
  | .nil => 0
  | .cons _ es => es.len + 1
/-- what enumerate takes: a list, a text -/
def enumOf (st : Sto) : D → Option (List D)
  | .str s => some (s.map fun c => .str [c])
  | d => listOf st d
def enumL (xs : List D) : List D := xs.zipIdx.map fun p => .tup [.int (p.2 : Nat), p.1]
def zipL (xs ys : List D) : List D := (xs.zip ys).map fun p => .tup [p.1, p.2]
/-- the lists that are walked stand as they stood -/
def srcOK (g : List (Nat × List D)) (st : Sto) : Prop := ∀ p ∈ g, st[p.1]? = some (.lst p.2)
@[simp] theorem srcOK_nil (st : Sto) : srcOK [] st := fun _ h => nomatch h
open Classical in
/-- a comprehension over what is walked, given how a turn goes: none where the test fails -/
noncomputable def compL (g : List (Nat × List D)) (f : D → Sto → Res (Option D)) : List D → List D → Sto → Res (List D)
  | [], acc, st => if srcOK g st then .ok acc st else .bad
  | d :: ds, acc, st => if srcOK g st then match f d st with
      | .ok (some y) st' => if acc.length < sizeLine then compL g f ds (acc ++ [y]) st' else .bad
      | .ok none st' => compL g f ds acc st'
      | _ => .bad
    else .bad
open Classical in
/-- .. whose turns may each add some -/
noncomputable def compX (g : List (Nat × List D)) (f : D → List D → Sto → Res (List D)) : List D → List D → Sto → Res (List D)
  | [], acc, st => if srcOK g st then .ok acc st else .bad
  | d :: ds, acc, st => if srcOK g st then match f d acc st with
      | .ok acc' st' => compX g f ds acc' st'
      | _ => .bad
    else .bad
/-- which lists of the store are walked -/
def srcOf (st : Sto) : D → List (Nat × List D)
  | .ref n => match st[n]? with
    | some (.lst xs) => [(n, xs)]
    | _ => []
  | _ => []
/-- what a method may be asked of -/
def rcv (p : Pr) (d : D) (st : Sto) : Bool := match p, d with
  | .own p, d => rcv p d st
  | .popAt, .ref n => match st[n]? with
    | some (.lst _) => true
    | _ => false
  | .index, .tup _ => true
  | .index, .ct _ => true
  | .index, d => (listOf st d).isSome
  | .ends, .str _ => true
  | .get1, d => (dicOf st d).isSome
  | .get2, d => (dicOf st d).isSome
  | .append, .ref n => match st[n]? with
    | some (.lst _) => true
    | _ => false
  | .pop, .ref n => match st[n]? with
    | some (.lst _) => true
    | _ => false
  | .extend, .ref n => match st[n]? with
    | some (.lst _) => true
    | _ => false
  | .split, .str _ => true
  | .partition, .str _ => true
  | .join, .str _ => true
  | _, _ => false
def liftP (r : Pm) : Res D := match r with
  | some (d, st) => .ok d st
  | none => .bad
def truR (d : D) (st : Sto) : Res Bool := match truD st d with
  | some b => .ok b st
  | none => .bad
@[simp] theorem liftP_some (d : D) (st : Sto) : liftP (some (d, st)) = .ok d st := rfl
/-- a list, a dict of the store is changed no more -/
def frzR (d : D) (st : Sto) : Res D := match d with
  | .ref n => match st[n]? with
    | some (.lst xs) => .ok (.lst xs) (st.set n .dead)
    | some (.dic t ks vs) => .ok (.dic t ks vs) (st.set n .dead)
    | _ => .bad
  | d => .ok d st
def fldR (c j : Nat) (d : D) (st : Sto) : Res D := match d with
  | .ref n => match st[n]? with
    | some (.ins c' vs) => if c' = c then match vs[j]? with
        | some v => .ok v st
        | none => .bad
      else .bad
    | _ => .bad
  | _ => .bad
/-- it is an instance of that class -/
def insB (c : Nat) (d : D) (st : Sto) : Bool := match d with
  | .ref n => match st[n]? with
    | some (.ins c' _) => decide (c' = c)
    | _ => false
  | _ => false
/-- one turn of a comprehension -/
def noExc {α : Type} (r : Res α) : Res α := match r with
  | .exc _ _ => .bad
  | r => r
open Classical in
/-- a dict comprehension: the pairs of the turns -/
noncomputable def dcL (g : List (Nat × List D)) (f : D → Sto → Res (Option (D × D))) : List D → List Ky → List D → Sto → Res (List Ky × List D)
  | [], ks, vs, st => if srcOK g st then .ok (ks, vs) st else .bad
  | d :: ds, ks, vs, st => if srcOK g st then match f d st with
      | .ok (some (x, y)) st' => match keyIn false x with
        | some k => if ks.length < sizeLine then dcL g f ds (kPut ks vs k y).1 (kPut ks vs k y).2 st' else .bad
        | none => .bad
      | .ok none st' => dcL g f ds ks vs st'
      | _ => .bad
    else .bad
/-- a display of a dict -/
def dlitL (t : Bool) : List D → List D → List Ky → List D → Option (List Ky × List D)
  | [], [], ks, vs => some (ks, vs)
  | x :: xs, y :: ys, ks, vs => match keyIn t x with
    | some k => dlitL t xs ys (kPut ks vs k y).1 (kPut ks vs k y).2
    | none => none
  | _, _, _, _ => none
def mkDic (v t : Bool) (d : List Ky × List D) (st : Sto) : Res D := if v then .ok (.dic t d.1 d.2) st else .ok (.ref st.length) (st ++ [.dic t d.1 d.2])
/-- the arguments of a display stand in turn: key, value, key, value -/
def pairUp : List D → Option (List D × List D)
  | [] => some ([], [])
  | k :: v :: r => (pairUp r).map fun p => (k :: p.1, v :: p.2)
  | _ => none
mutual
noncomputable def evE (cl : Call) : Ex → Env → Sto → Res D
  | .lit d, _, st => .ok d st
  | .var i, env, st => match getV env i with
    | some d => .ok d st
    | none => .bad
  | .tup es, env, st => (evEs cl es env st).bnd fun ds st => if ds.length ≤ sizeLine then .ok (.tup ds) st else .bad
  | .lst es, env, st => (evEs cl es env st).bnd fun ds st => if ds.length ≤ sizeLine then .ok (.ref st.length) (st ++ [.lst ds]) else .bad
  | .vlst es, env, st => (evEs cl es env st).bnd fun ds st => if ds.length ≤ sizeLine then .ok (.lst ds) st else .bad
  | .pr p es, env, st => (evEs cl es env st).bnd fun ds st => liftP (prim p ds st)
  | .mth p o es, env, st => (evE cl o env st).bnd fun d st => if rcv p d st = true then (evEs cl es env st).bnd fun ds st => liftP (prim p (d :: ds) st) else .bad
  | .call f es, env, st => (evEs cl es env st).bnd fun ds st => cl f ds st
  | .callv f es, env, st => (evE cl f env st).bnd fun d st => match d with
    | .fn i => (evEs cl es env st).bnd fun ds st => cl i ds st
    | _ => .bad
  | .andE a b, env, st => (evE cl a env st).bnd fun d st => match d with
    | .bl true => evE cl b env st
    | .bl false => .ok (.bl false) st
    | _ => .bad
  | .orE a b, env, st => (evE cl a env st).bnd fun d st => match d with
    | .bl true => .ok (.bl true) st
    | .bl false => evE cl b env st
    | _ => .bad
  | .notE a, env, st => (evE cl a env st).bnd fun d st => match d with
    | .bl b => .ok (.bl (!b)) st
    | _ => .bad
  | .ife c a b, env, st => (evT cl c env st).bnd fun b' st => if b' = true then evE cl a env st else evE cl b env st
  | .chain p q a b c, env, st => (evE cl a env st).bnd fun x st => (evE cl b env st).bnd fun y st => (liftP (prim p [x, y] st)).bnd fun d st => match d with
    | .bl true => (evE cl c env st).bnd fun z st => liftP (prim q [y, z] st)
    | .bl false => .ok (.bl false) st
    | _ => .bad
  | .comp v wp t it c e, env, st => (evI cl it env st).bnd fun ig st =>
      (compL ig.2 (fun d st => match setT t d (wipeE wp env) with
        | some env' => noExc ((evC cl c env' st).bnd fun b st => if b = true then (evE cl e env' st).bnd fun y st => .ok (some y) st else .ok none st)
        | none => .bad) ig.1 [] st).bnd fun ys st => if v then .ok (.lst ys) st else .ok (.ref st.length) (st ++ [.lst ys])
  | .comp2 v wp t it c wp2 t2 it2 c2 e, env, st => (evI cl it env st).bnd fun ig st =>
      (compX ig.2 (fun d acc st => match setT t d (wipeE wp env) with
        | some env' => noExc ((evC cl c env' st).bnd fun b st => if b = true then (evI cl it2 env' st).bnd fun ig2 st =>
            compL ig2.2 (fun d2 st => match setT t2 d2 (wipeE wp2 env') with
              | some env2 => noExc ((evC cl c2 env2 st).bnd fun b st => if b = true then (evE cl e env2 st).bnd fun y st => .ok (some y) st else .ok none st)
              | none => .bad) ig2.1 acc st
          else .ok acc st)
        | none => .bad) ig.1 [] st).bnd fun ys st => if v then .ok (.lst ys) st else .ok (.ref st.length) (st ++ [.lst ys])
  | .dcomp v t wp tg it c k e, env, st => (evI cl it env st).bnd fun ig st =>
      (dcL ig.2 (fun d st => match setT tg d (wipeE wp env) with
        | some env' => noExc ((evC cl c env' st).bnd fun b st => if b = true then (evE cl k env' st).bnd fun x st => (evE cl e env' st).bnd fun y st => .ok (some (x, y)) st else .ok none st)
        | none => .bad) ig.1 [] [] st).bnd fun d st => if t then .bad else mkDic v t d st
  | .dlit v t es, env, st => (evEs cl es env st).bnd fun ds st => match (pairUp ds).bind fun ps => dlitL t ps.1 ps.2 [] [] with
      | some d => mkDic v t d st
      | none => .bad
  | .frz e, env, st => (evE cl e env st).bnd frzR
  | .new c i es, env, st => (evEs cl es env st).bnd fun ds st => (cl i (.ref st.length :: ds) (st ++ [.ins c []])).bnd fun d st' => match d with
      | .non => .ok (.ref st.length) st'
      | _ => .bad
  | .mcall c i o es, env, st => (evE cl o env st).bnd fun d st => if insB c d st = true then (evEs cl es env st).bnd fun ds st => cl i (d :: ds) st else .bad
  | .fld c j o, env, st => (evE cl o env st).bnd fun d st => fldR c j d st
noncomputable def evT (cl : Call) : Ex → Env → Sto → Res Bool
  | .andE a b, env, st => (evT cl a env st).bnd fun x st => if x = true then evT cl b env st else .ok false st
  | .orE a b, env, st => (evT cl a env st).bnd fun x st => if x = true then .ok true st else evT cl b env st
  | .notE a, env, st => (evT cl a env st).bnd fun x st => .ok (!x) st
  | .ife c a b, env, st => (evT cl c env st).bnd fun x st => if x = true then evT cl a env st else evT cl b env st
  | .pr p es, env, st => (evEs cl es env st).bnd fun ds st => (liftP (prim p ds st)).bnd truR
  | .var i, env, st => match getV env i with
    | some d => truR d st
    | none => .bad
  | .call f es, env, st => (evEs cl es env st).bnd fun ds st => (cl f ds st).bnd truR
  | .mth p o es, env, st => (evE cl o env st).bnd fun d st => if rcv p d st = true then (evEs cl es env st).bnd fun ds st => (liftP (prim p (d :: ds) st)).bnd truR else .bad
  | .mcall c i o es, env, st => (evE cl o env st).bnd fun d st => if insB c d st = true then (evEs cl es env st).bnd fun ds st => (cl i (d :: ds) st).bnd truR else .bad
  | .fld c j o, env, st => (evE cl o env st).bnd fun d st => (fldR c j d st).bnd truR
  | .chain p q a b c, env, st => (evE cl a env st).bnd fun x st => (evE cl b env st).bnd fun y st => (liftP (prim p [x, y] st)).bnd fun d st => match d with
    | .bl true => (evE cl c env st).bnd fun z st => (liftP (prim q [y, z] st)).bnd fun d st => match d with
      | .bl r => .ok r st
      | _ => .bad
    | .bl false => .ok false st
    | _ => .bad
  | _, _, _ => .bad
noncomputable def evEs (cl : Call) : Exs → Env → Sto → Res (List D)
  | .nil, _, st => .ok [] st
  | .cons e es, env, st => (evE cl e env st).bnd fun d st => (evEs cl es env st).bnd fun ds st => .ok (d :: ds) st
/-- tests of a comprehension: none or one -/
noncomputable def evC (cl : Call) : Exs → Env → Sto → Res Bool
  | .nil, _, st => .ok true st
  | .cons e _, env, st => evT cl e env st
/-- what is walked, as a list, and the lists of the store that must stand meanwhile -/
noncomputable def evI (cl : Call) : It → Env → Sto → Res (List D × List (Nat × List D))
  | .seq e, env, st => (evE cl e env st).bnd fun d st => match itemsOf st d with
    | some ds => .ok (ds, srcOf st d) st
    | none => .bad
  | .rng es, env, st => (evEs cl es env st).bnd fun ds st => match rngD es.len ds with
    | some ds => .ok (ds, []) st
    | none => .bad
  | .enum e, env, st => (evE cl e env st).bnd fun d st => match enumOf st d with
    | some ds => .ok (enumL ds, srcOf st d) st
    | none => .bad
  | .zip a b, env, st => (evE cl a env st).bnd fun x st => (evE cl b env st).bnd fun y st => match listOf st x, listOf st y with
    | some xs, some ys => .ok (zipL xs ys, srcOf st x ++ srcOf st y) st
    | _, _ => .bad
end

/-! ### statements -/
open Classical in
noncomputable def forL (g : List (Nat × List D)) (t : Tg) (b : Env → Sto → Out) : List D → Env → Sto → Out
  | [], env, st => if srcOK g st then .nx env st else .bad
  | d :: ds, env, st => if srcOK g st then match setT t d env with
      | some env => match b env st with
        | .nx env st => forL g t b ds env st
        | .cont env st => forL g t b ds env st
        | .brk env st => .nx env st
        | o => o
      | none => .bad
    else .bad
def loopN (c : Env → Sto → Res Bool) (b : Env → Sto → Out) : Nat → Env → Sto → Out
  | 0, _, _ => .bad
  | n + 1, env, st => match c env st with
    | .ok false st => .nx env st
    | .ok true st => match b env st with
      | .nx env st => loopN c b n env st
      | .cont env st => loopN c b n env st
      | .brk env st => .nx env st
      | o => o
    | .exc x st => .exc x env st
    | .bad => .bad
open Classical in
noncomputable def loopW (c : Env → Sto → Res Bool) (b : Env → Sto → Out) (env : Env) (st : Sto) : Out :=
  if h : ∃ n, loopN c b n env st ≠ .bad then loopN c b h.choose env st else .bad
/-- whether an exception class names another (own classes: itself or one above), by the program's table -/
structure Cls where
  up : List Nat
  flds : List Str
  num : Bool := false
abbrev Clss := List Cls
def isA (cs : Clss) (c d : Nat) : Bool := match cs[c]? with
  | some k => k.up.contains d
  | none => false
/-- what the suite of an except clause makes -/
def evH (x : Exc) : He → Option D
  | .lit d => some d
  | .nilL => some (.lst [])
  | .fld c f s pre post => if x.cls = c then match x.flds with
      | [(g, d)] => if g = f then match (if s then strD d else some d) with
          | some (.str a) => if pre.length + a.length + post.length ≤ sizeLine then some (.str (pre ++ a ++ post)) else none
          | _ => none
        else none
      | _ => none
    else none
/-- the slot that an except clause binds -/
def slotOk (i : Option Nat) (env : Env) : Bool := match i with
  | none => true
  | some i => decide (i < env.length)
def hands (cs : Clss) (x : Exc) : List Hd → Env → Sto → Out
  | [], env, st => .exc x env st
  | .on c i e :: hs, env, st => if isA cs x.cls c = true then (if slotOk i env = true then match evH x e with
        | some d => .ret d st
        | none => .bad
      else .bad) else hands cs x hs env st
/-- a number whose text is told when the exception is made -/
def numD : D → Bool
  | .int i => decide (i.natAbs.log2 < 1920) && decide ((strI i).length ≤ 1000)
  | _ => false
def numOk (k : Cls) (ds : List D) : Bool := !k.num || ds.all numD
def zipF : List Str → List D → Option (List (Str × D))
  | [], [] => some []
  | f :: fs, d :: ds => (zipF fs ds).map ((f, d) :: ·)
  | _, _ => none
def Res.out {α : Type} (r : Res α) (env : Env) (f : α → Sto → Out) : Out := match r with
  | .ok a st => f a st
  | .exc x st => .exc x env st
  | .bad => .bad
@[simp] theorem out_ok {α : Type} (a : α) (st : Sto) (env : Env) (f : α → Sto → Out) : (Res.ok a st).out env f = f a st := rfl
@[simp] theorem out_exc {α : Type} (x : Exc) (st : Sto) (env : Env) (f : α → Sto → Out) : (Res.exc x st : Res α).out env f = .exc x env st := rfl
@[simp] theorem out_bad {α : Type} (env : Env) (f : α → Sto → Out) : (Res.bad : Res α).out env f = .bad := rfl
def nxO (e : Option Env) (st : Sto) : Out := match e with
  | some env => .nx env st
  | none => .bad
def Out.sq (o : Out) (k : Env → Sto → Out) : Out := match o with
  | .nx env st => k env st
  | o => o
@[simp] theorem sq_nx (env : Env) (st : Sto) (k : Env → Sto → Out) : (Out.nx env st).sq k = k env st := rfl
@[simp] theorem sq_ret (d : D) (st : Sto) (k : Env → Sto → Out) : (Out.ret d st).sq k = .ret d st := rfl
@[simp] theorem sq_brk (env : Env) (st : Sto) (k : Env → Sto → Out) : (Out.brk env st).sq k = .brk env st := rfl
@[simp] theorem sq_cont (env : Env) (st : Sto) (k : Env → Sto → Out) : (Out.cont env st).sq k = .cont env st := rfl
@[simp] theorem sq_exc (x : Exc) (env : Env) (st : Sto) (k : Env → Sto → Out) : (Out.exc x env st).sq k = .exc x env st := rfl
@[simp] theorem sq_bad (k : Env → Sto → Out) : (Out.bad).sq k = .bad := rfl
def setIx (o i d : D) (st : Sto) : Option Sto := match o, i with
  | .ref n, .int k => match st[n]? with
    | some (.lst xs) => (L2.ixN xs.length k).map fun j => st.set n (.lst (xs.set j d))
    | _ => none
  | _, _ => none
def Out.tr (o : Out) (h : Exc → Env → Sto → Out) : Out := match o with
  | .exc x env st => h x env st
  | o => o
def setKey (o i d : D) (st : Sto) : Option Sto := match o with
  | .ref n => match st[n]? with
    | some (.dic t ks vs) => match keyIn t i with
      | some k => if ks.length < sizeLine then some (st.set n (.dic t (kPut ks vs k d).1 (kPut ks vs k d).2)) else none
      | none => none
    | _ => none
  | _ => none
/-- a field is stored: again, or as the next one of the class -/
def setFld (c j : Nat) (o d : D) (st : Sto) : Option Sto := match o with
  | .ref n => match st[n]? with
    | some (.ins c' vs) => if c' = c then (if j < vs.length then some (st.set n (.ins c (vs.set j d))) else if j = vs.length then some (st.set n (.ins c (vs ++ [d]))) else none) else none
    | _ => none
  | _ => none
def stO (o : Option Sto) (env : Env) : Out := match o with
  | some st => .nx env st
  | none => .bad
mutual
noncomputable def exS (cs : Clss) (cl : Call) : Sm → Env → Sto → Out
  | .asg t e, env, st => (evE cl e env st).out env fun d st => nxO (setT t d env) st
  | .par is es, env, st => (evEs cl es env st).out env fun ds st => nxO (setN is ds env) st
  | .asgIx o i e, env, st => (evE cl e env st).out env fun d st => (evE cl o env st).out env fun x st => (evE cl i env st).out env fun y st => match setIx x y d st with
    | some st => .nx env st
    | none => .bad
  | .aug i p e, env, st => match getV env i with
    | some x => (evE cl e env st).out env fun y st => (liftP (prim p [x, y] st)).out env fun z st => .nx (env.set i (some z)) st
    | none => .bad
  | .asgKey o i e, env, st => (evE cl e env st).out env fun d st => (evE cl o env st).out env fun x st => (evE cl i env st).out env fun y st => stO (setKey x y d st) env
  | .setF c j o e, env, st => (evE cl e env st).out env fun d st => (evE cl o env st).out env fun x st => stO (setFld c j x d st) env
  | .augF c j o p e, env, st => (evE cl o env st).out env fun x st => (fldR c j x st).out env fun y st => (evE cl e env st).out env fun z st => (liftP (prim p [y, z] st)).out env fun d st => stO (setFld c j x d st) env
  | .augIx o i p e, env, st => (evE cl o env st).out env fun x st => (evE cl i env st).out env fun j st => (liftP (oneR st (atD st x (match j with | .int k => k | _ => 0)))).out env fun y st => (evE cl e env st).out env fun z st =>
      (liftP (prim p [y, z] st)).out env fun d st => stO (setIx x j d st) env
  | .ex e, env, st => (evE cl e env st).out env fun _ st => .nx env st
  | .ret e, env, st => (evE cl e env st).out env fun d st => .ret d st
  | .retN, _, st => .ret .non st
  | .ife c a b, env, st => (evT cl c env st).out env fun x st => if x = true then exSs cs cl a env st else exSs cs cl b env st
  | .for_ t it b, env, st => (evI cl it env st).out env fun ig st => forL ig.2 t (exSs cs cl b) ig.1 env st
  | .while_ c b, env, st => loopW (evT cl c) (exSs cs cl b) env st
  | .raise c es, env, st => (noExc (evEs cl es env st)).out env fun ds st => match cs[c]? with
      | some k => if numOk k ds = true then match zipF k.flds ds with
          | some fs => .exc ⟨c, fs⟩ env st
          | none => .bad
        else .bad
      | none => .bad
  | .try_ b hs, env, st => (exSs cs cl b env st).tr fun x env st => hands cs x hs env st
  | .pass, env, st => .nx env st
  | .brk, env, st => .brk env st
  | .cont, env, st => .cont env st
noncomputable def exSs (cs : Clss) (cl : Call) : Sms → Env → Sto → Out
  | .nil, env, st => .nx env st
  | .cons s ss, env, st => (exS cs cl s env st).sq fun env st => exSs cs cl ss env st
end

/-! ### calls -/
/-- a def: how many parameters, how many names, its body -/
structure Fn where
  np : Nat
  nn : Nat
  body : Sms
mutual
/-- no place of the store from n on is told -/
def below (n : Nat) : D → Bool
  | .ref k => decide (k < n)
  | .tup xs => belows n xs
  | .lst xs => belows n xs
  | .ro xs => belows n xs
  | .ct xs => belows n xs
  | .dic _ _ vs => belows n vs
  | _ => true
def belows (n : Nat) : List D → Bool
  | [] => true
  | d :: ds => below n d && belows n ds
end
def soBelow (n : Nat) : SO → Bool
  | .lst xs => belows n xs
  | .dic _ _ vs => belows n vs
  | .ins _ vs => belows n vs
  | .dead => true
/-- behind a call: what it made for itself goes, where nothing tells of it -/
def canCut (st0 st : Sto) : Prop := st0.length ≤ st.length ∧ ∀ i, i < st0.length → st[i]? = st0[i]? ∨ ∃ o, st[i]? = some o ∧ soBelow st0.length o = true
open Classical in
noncomputable def finish (st0 : Sto) : Out → Res D
  | .nx _ st => if canCut st0 st then .ok .non (st.take st0.length) else .ok .non st
  | .ret d st => if canCut st0 st ∧ below st0.length d = true then .ok d (st.take st0.length) else .ok d st
  | .exc x _ st => if canCut st0 st ∧ belows st0.length (x.flds.map (·.2)) = true then .exc x (st.take st0.length) else .exc x st
  | _ => .bad
def startE (nn : Nat) (ds : List D) : Env := ds.map some ++ List.replicate (nn - ds.length) none
structure Prog where
  cs : Clss
  fns : List (Nat × Fn)
def Prog.fn (P : Prog) (i : Nat) : Option Fn := P.fns.lookup i
noncomputable def callF (P : Prog) : Nat → Call
  | 0, _, _, _ => .bad
  | k + 1, f, ds, st => match P.fn f with
    | some fn => if ds.length = fn.np then finish st (exSs P.cs (callF P k) fn.body (startE fn.nn ds) st) else .bad
    | none => .bad
end Mini
end
section
set_option linter.all false
set_option autoImplicit false
set_option maxRecDepth 100000
set_option maxHeartbeats 1000000
/-! How values and stores stand in the abstract heap of the hand layer. -/
namespace Mini
open PySem PySem.Spec PyProof.Rows L2
/-- where defs and classes stand -/
structure RC where
  K : PySem.W.Frag
  fa : Nat → Option Addr
  ca : Nat → Option Addr
  ka : Nat → Option (Addr × List Str) := fun _ => none
  hid : List Addr := []
/-- with these addresses kept for a loop of ours -/
def RC.w (R : RC) (l : List Addr) : RC := { R with hid := l }
def NotLive (m : List Addr) (st : Sto) (a : Addr) : Prop := ∀ n : Nat, m[n]? = some a → st[n]? = some SO.dead
/-- nobody changes it, and no loop of ours fills it -/
def NL (hd : List Addr) (m : List Addr) (st : Sto) (a : Addr) : Prop := NotLive m st a ∧ a ∉ hd
def KTup (K : PySem.W.Frag) (a : Addr) (vs : List V) : Prop :=
  ∃ (o : Obj) (its : Array Value) (n : Nat), K.lookup a = some o ∧ o.cls = .type "tuple" ∧ o.data = .seq its n ∧ its.size ≤ sizeLine ∧ Vals vs its.toList
def KLst (K : PySem.W.Frag) (a : Addr) (vs : List V) : Prop :=
  ∃ (o : Obj) (its : Array Value) (n : Nat), K.lookup a = some o ∧ o.cls = .type "list" ∧ o.dict = none ∧ o.data = .seq its n ∧ its.size ≤ sizeLine ∧ Vals vs its.toList
def TupAt (R : RC) (m : List Addr) (st : Sto) (H : Hp) (a : Addr) (vs : List V) : Prop := H a = some (.tup vs) ∧ NL R.hid m st a
def RoAt (R : RC) (m : List Addr) (st : Sto) (H : Hp) (a : Addr) (vs : List V) : Prop := (Rd H a (.lst vs) ∧ NL R.hid m st a) ∨ KLst R.K a vs
theorem TupAt.sq {R : RC} {m : List Addr} {st : Sto} {H : Hp} {a : Addr} {vs : List V} (h : TupAt R m st H a vs) : SqT R.K H a vs := by
  exact .inl (.inl h.1)
theorem RoAt.sq {R : RC} {m : List Addr} {st : Sto} {H : Hp} {a : Addr} {vs : List V} (h : RoAt R m st H a vs) : SqL R.K H a vs := by
  rcases h with ⟨h, _⟩ | h
  · exact .inl h
  · exact .inr h
/-! keys -/
def At.key : At → Key
  | .i n => .inl n
  | .s x => .inr ⟨x.toArray⟩
def Ky.k0 : Ky → Key
  | .a x => x.key
  | .t _ => .inl 0
def Ky.kt : Ky → List Key
  | .t xs => xs.map At.key
  | .a _ => []
theorem At.key_inj {x y : At} (h : x.key = y.key) : x = y := by
  cases x <;> cases y <;> simp [At.key] at h <;> first | rw [h] | skip
theorem Ky.k0_inj {x y : Ky} (hx : x.fits false = true) (hy : y.fits false = true) (h : x.k0 = y.k0) : x = y := by
  cases x <;> cases y <;> first | (simp [Ky.fits] at hx; done) | (simp [Ky.fits] at hy; done) | (rw [At.key_inj h])
theorem map_key_inj : ∀ {xs ys : List At}, xs.map At.key = ys.map At.key → xs = ys
  | [], [], _ => rfl
  | x :: xs, y :: ys, h => by
    simp only [List.map_cons, List.cons.injEq] at h
    rw [At.key_inj h.1, map_key_inj h.2]
  | [], _ :: _, h => by simp at h
  | _ :: _, [], h => by simp at h
theorem Ky.kt_inj {x y : Ky} (hx : x.fits true = true) (hy : y.fits true = true) (h : x.kt = y.kt) : x = y := by
  cases x <;> cases y <;> first | (simp [Ky.fits] at hx; done) | (simp [Ky.fits] at hy; done) | (rw [map_key_inj h])
/-- a dict in the abstract heap -/
def kHO (t : Bool) (ks : List Ky) (ws : List V) : HO := if t then .dT ((ks.map Ky.kt).zip ws) else .dK ((ks.map Ky.k0).zip ws)
section
variable (R : RC) (m : List Addr) (st : Sto) (H : Hp)
mutual
inductive Rep : D → V → Prop
  | non : Rep .non .non
  | bl (b : Bool) : Rep (.bl b) (.bl b)
  | int (i : Int) : Rep (.int i) (.int i)
  | str (s : Chs) : Rep (.str s) (.str ⟨s.toArray⟩)
  | tup {a : Addr} {vs : List V} {xs : List D} : TupAt R m st H a vs → Reps xs vs → Rep (.tup xs) (.ref a)
  | ct {a : Addr} {vs : List V} {xs : List D} : KTup R.K a vs → Reps xs vs → Rep (.ct xs) (.ref a)
  | lst {a : Addr} {vs : List V} {xs : List D} : H a = some (.lst vs) → NL R.hid m st a → Reps xs vs → Rep (.lst xs) (.ref a)
  | ro {a : Addr} {vs : List V} {xs : List D} : RoAt R m st H a vs → Reps xs vs → Rep (.ro xs) (.ref a)
  | ref {a : Addr} {n : Nat} : m[n]? = some a → Rep (.ref n) (.ref a)
  | fn {a : Addr} {i : Nat} : R.fa i = some a → Rep (.fn i) (.ref a)
  | dic {a : Addr} {t : Bool} {ks : List Ky} {vs : List D} {ws : List V} : H a = some (kHO t ks ws) → NL R.hid m st a → ks.length = vs.length → ks.all (Ky.fits t) = true → Reps vs ws → Rep (.dic t ks vs) (.ref a)
inductive Reps : List D → List V → Prop
  | nil : Reps [] []
  | cons {d : D} {v : V} {ds : List D} {vs : List V} : Rep d v → Reps ds vs → Reps (d :: ds) (v :: vs)
end
end
/-- a thing of the store, at its place -/
inductive SoRep (R : RC) (m : List Addr) (st : Sto) (H : Hp) : SO → Addr → Prop
  | lst {a : Addr} {xs : List D} {vs : List V} : H a = some (.lst vs) → Reps R m st H xs vs → SoRep R m st H (.lst xs) a
  | dic {a : Addr} {t : Bool} {ks : List Ky} {vs : List D} {ws : List V} : H a = some (kHO t ks ws) → ks.length = vs.length → ks.all (Ky.fits t) = true → Reps R m st H vs ws → SoRep R m st H (.dic t ks vs) a
  | ins {a C dx : Addr} {c : Nat} {names : List Str} {vs : List D} {gs : List (Str × V)} : R.ka c = some (C, names) → H a = some (.ins C dx gs) → gs.map (·.1) = names.take vs.length → vs.length ≤ names.length → Reps R m st H vs (gs.map (·.2)) → SoRep R m st H (.ins c vs) a
structure Ext (m : List Addr) (st : Sto) (H : Hp) (m' : List Addr) (st' : Sto) (H' : Hp) : Prop where
  pre : m <+: m'
  fresh : ∀ (n : Nat) a, m.length ≤ n → m'[n]? = some a → H a = none
  dead : ∀ n : Nat, st[n]? = some SO.dead → st'[n]? = some SO.dead
  keep : ∀ a o, H a = some o → NotLive m st a → H' a = some o
  stay : ∀ a, H a ≠ none → H' a ≠ none
/-- .. but for what is kept apart -/
structure ExtH (hd : List Addr) (m : List Addr) (st : Sto) (H : Hp) (m' : List Addr) (st' : Sto) (H' : Hp) : Prop where
  pre : m <+: m'
  fresh : ∀ (n : Nat) a, m.length ≤ n → m'[n]? = some a → H a = none
  dead : ∀ n : Nat, st[n]? = some SO.dead → st'[n]? = some SO.dead
  keep : ∀ a o, H a = some o → NL hd m st a → H' a = some o
  stay : ∀ a, H a ≠ none → H' a ≠ none
theorem Ext.toH {hd : List Addr} {m : List Addr} {st : Sto} {H : Hp} {m' : List Addr} {st' : Sto} {H' : Hp} (x : Ext m st H m' st' H') : ExtH hd m st H m' st' H' := ⟨x.pre, x.fresh, x.dead, fun a o h l => x.keep a o h l.1, x.stay⟩
structure SR (R : RC) (m : List Addr) (st : Sto) (H : Hp) : Prop where
  len : m.length = st.length
  nd : m.Nodup
  trk : ∀ (n : Nat) a, m[n]? = some a → H a ≠ none
  hd : ∀ a ∈ R.hid, H a ≠ none
  dj : ∀ (n : Nat) a, m[n]? = some a → a ∉ R.hid
  obj : ∀ (n : Nat) a o, m[n]? = some a → st[n]? = some o → o ≠ .dead → SoRep R m st H o a
theorem SR.lst {R : RC} {m : List Addr} {st : Sto} {H : Hp} (s : SR R m st H) (n : Nat) (a : Addr) (xs : List D) (h : m[n]? = some a) (e : st[n]? = some (.lst xs)) : ∃ vs, H a = some (.lst vs) ∧ Reps R m st H xs vs := by
  cases s.obj n a _ h e (by simp) with
  | lst h r => exact ⟨_, h, r⟩
theorem SR.dic {R : RC} {m : List Addr} {st : Sto} {H : Hp} (s : SR R m st H) (n : Nat) (a : Addr) (t : Bool) (ks : List Ky) (vs : List D) (h : m[n]? = some a) (e : st[n]? = some (.dic t ks vs)) : ∃ ws, H a = some (kHO t ks ws) ∧ ks.length = vs.length ∧ ks.all (Ky.fits t) = true ∧ Reps R m st H vs ws := by
  cases s.obj n a _ h e (by simp) with
  | dic h k1 k2 r => exact ⟨_, h, k1, k2, r⟩
theorem SR.ins {R : RC} {m : List Addr} {st : Sto} {H : Hp} (s : SR R m st H) (n : Nat) (a : Addr) (c : Nat) (vs : List D) (h : m[n]? = some a) (e : st[n]? = some (.ins c vs)) :
    ∃ (C dx : Addr) (names : List Str) (gs : List (Str × V)), R.ka c = some (C, names) ∧ H a = some (.ins C dx gs) ∧ gs.map (·.1) = names.take vs.length ∧ vs.length ≤ names.length ∧ Reps R m st H vs (gs.map (·.2)) := by
  cases s.obj n a _ h e (by simp) with
  | ins h0 h k1 k2 r => exact ⟨_, _, _, _, h0, h, k1, k2, r⟩
section
variable {R : RC} {m m' m'' : List Addr} {st st' st'' : Sto} {H H' H'' : Hp}
theorem pre_get {m m' : List Addr} (h : m <+: m') {n : Nat} {a : Addr} (e : m[n]? = some a) : m'[n]? = some a := by
  obtain ⟨t, rfl⟩ := h
  have hn : n < m.length := (List.getElem?_eq_some_iff.mp e).1
  rw [List.getElem?_append_left hn]
  exact e
theorem pre_back {m m' : List Addr} (h : m <+: m') {n : Nat} {a : Addr} (hn : n < m.length) (e : m'[n]? = some a) : m[n]? = some a := by
  obtain ⟨t, rfl⟩ := h
  rw [List.getElem?_append_left hn] at e
  exact e
theorem Ext.refl : Ext m st H m st H :=
  ⟨List.prefix_refl _, fun n a h e => by
    have := (List.getElem?_eq_some_iff.mp e).1
    omega, fun _ h => h, fun _ _ h _ => h, fun _ h => h⟩
theorem Ext.notLive (x : Ext m st H m' st' H') {a : Addr} (h : NotLive m st a) (ha : H a ≠ none) : NotLive m' st' a := fun n e => by
  by_cases hn : n < m.length
  · exact x.dead n (h n (pre_back x.pre hn e))
  · exact absurd (x.fresh n a (by omega) e) ha
theorem Ext.trans (x : Ext m st H m' st' H') (y : Ext m' st' H' m'' st'' H'') : Ext m st H m'' st'' H'' where
  pre := x.pre.trans y.pre
  fresh := fun n a hn e => by
    by_cases h : n < m'.length
    · exact x.fresh n a hn (pre_back y.pre h e)
    · have z := y.fresh n a (by omega) e
      cases q : H a with
      | none => rfl
      | some o => exact absurd z (x.stay a (by rw [q]; simp))
  dead := fun n h => y.dead n (x.dead n h)
  keep := fun a o h l => y.keep a o (x.keep a o h l) (x.notLive l (by rw [h]; simp))
  stay := fun a h => y.stay a (x.stay a h)
theorem Ext.nl (x : Ext m st H m' st' H') {hd : List Addr} {a : Addr} (h : NL hd m st a) (ha : H a ≠ none) : NL hd m' st' a := ⟨x.notLive h.1 ha, h.2⟩
theorem Ext.rd (x : Ext m st H m' st' H') {hd : List Addr} {a : Addr} {u : HO} (h : Rd H a u) (l : NL hd m st a) : Rd H' a u ∧ NL hd m' st' a := by
  have hn : H a ≠ none := by
    rcases h with h | ⟨o, h⟩ <;> (rw [h]; simp)
  refine ⟨?_, x.nl l hn⟩
  rcases h with h | ⟨o, h⟩
  · exact .inl (x.keep _ _ h l.1)
  · exact .inr ⟨o, x.keep _ _ h l.1⟩
mutual
theorem Rep.mono (x : Ext m st H m' st' H') : ∀ (d : D) (v : V), Rep R m st H d v → Rep R m' st' H' d v
  | .non, _, .non => .non
  | .bl _, _, .bl b => .bl b
  | .int _, _, .int i => .int i
  | .str _, _, .str s => .str s
  | .tup xs, _, .tup h r => .tup ⟨x.keep _ _ h.1 h.2.1, x.nl h.2 (by rw [h.1]; simp)⟩ (Reps.mono x xs _ r)
  | .ct xs, _, .ct h r => .ct h (Reps.mono x xs _ r)
  | .lst xs, _, .lst h l r => .lst (x.keep _ _ h l.1) (x.nl l (by rw [h]; simp)) (Reps.mono x xs _ r)
  | .ro xs, _, .ro h r => .ro (by
      rcases h with ⟨h, l⟩ | h
      · exact .inl (x.rd h l)
      · exact .inr h) (Reps.mono x xs _ r)
  | .ref _, _, .ref h => .ref (pre_get x.pre h)
  | .fn _, _, .fn h => .fn h
  | .dic t ks vs, _, .dic h l k1 k2 r => .dic (x.keep _ _ h l.1) (x.nl l (by rw [h]; simp)) k1 k2 (Reps.mono x vs _ r)
theorem Reps.mono (x : Ext m st H m' st' H') : ∀ (ds : List D) (vs : List V), Reps R m st H ds vs → Reps R m' st' H' ds vs
  | [], _, .nil => .nil
  | d :: ds, _, .cons h t => .cons (Rep.mono x d _ h) (Reps.mono x ds _ t)
end
theorem SoRep.mono {o : SO} {a : Addr} (x : Ext m st H m' st' H') (k : H' a = H a) (h : SoRep R m st H o a) : SoRep R m' st' H' o a := by
  cases h with
  | lst h r => exact .lst (by rw [k]; exact h) (Reps.mono x _ _ r)
  | dic h k1 k2 r => exact .dic (by rw [k]; exact h) k1 k2 (Reps.mono x _ _ r)
  | ins h0 h k1 k2 r => exact .ins h0 (by rw [k]; exact h) k1 k2 (Reps.mono x _ _ r)
theorem rd_ne {a : Addr} {u : HO} (h : Rd H a u) : H a ≠ none := by
  rcases h with h | ⟨o, h⟩ <;> (rw [h]; simp)
/-- .. where further addresses are kept apart meanwhile -/
def HidOk (hd : List Addr) (hd2 : List Addr) (H : Hp) : Prop := ∀ a ∈ hd2, a ∈ hd ∨ H a = none
theorem NL.hid {hd2 : List Addr} {a : Addr} (c : HidOk R.hid hd2 H) (l : NL R.hid m st a) (h : H a ≠ none) : a ∉ hd2 := fun z => (c a z).elim l.2 h
theorem ExtH.notLive {hd : List Addr} (x : ExtH hd m st H m' st' H') {a : Addr} (h : NotLive m st a) (ha : H a ≠ none) : NotLive m' st' a := fun n e => by
  by_cases hn : n < m.length
  · exact x.dead n (h n (pre_back x.pre hn e))
  · exact absurd (x.fresh n a (by omega) e) ha
theorem ExtH.trans {hd : List Addr} (x : ExtH hd m st H m' st' H') (y : ExtH hd m' st' H' m'' st'' H'') : ExtH hd m st H m'' st'' H'' where
  pre := x.pre.trans y.pre
  fresh := fun n a hn e => by
    by_cases h : n < m'.length
    · exact x.fresh n a hn (pre_back y.pre h e)
    · have z := y.fresh n a (by omega) e
      cases q : H a with
      | none => rfl
      | some o => exact absurd z (x.stay a (by rw [q]; simp))
  dead := fun n h => y.dead n (x.dead n h)
  keep := fun a o h l => y.keep a o (x.keep a o h l) ⟨x.notLive l.1 (by rw [h]; simp), l.2⟩
  stay := fun a h => y.stay a (x.stay a h)
theorem ExtH.poke {hd : List Addr} {A : Addr} {o : HO} (x : ExtH hd m st H m' st' H') (hA : A ∈ hd) : ExtH hd m st H m' st' (upd H' A o) where
  pre := x.pre
  fresh := x.fresh
  dead := x.dead
  keep := fun a u h l => by
    rw [upd_ne (fun z => l.2 (by rw [z]; exact hA))]
    exact x.keep a u h l
  stay := fun a h => by
    by_cases ha : a = A
    · rw [ha, upd_same]
      simp
    · rw [upd_ne ha]
      exact x.stay a h
theorem ExtH.rd (x : ExtH R.hid m st H m' st' H') {a : Addr} {u : HO} (h : Rd H a u) (l : NL R.hid m st a) : Rd H' a u ∧ NotLive m' st' a := by
  refine ⟨?_, x.notLive l.1 (rd_ne h)⟩
  rcases h with h | ⟨o, h⟩
  · exact .inl (x.keep _ _ h l)
  · exact .inr ⟨o, x.keep _ _ h l⟩
mutual
theorem Rep.monoH {hd2 : List Addr} (c : HidOk R.hid hd2 H) (x : ExtH R.hid m st H m' st' H') : ∀ (d : D) (v : V), Rep R m st H d v → Rep (R.w hd2) m' st' H' d v
  | .non, _, .non => .non
  | .bl _, _, .bl b => .bl b
  | .int _, _, .int i => .int i
  | .str _, _, .str s => .str s
  | .tup xs, _, .tup h r => .tup ⟨x.keep _ _ h.1 h.2, x.notLive h.2.1 (by rw [h.1]; simp), h.2.hid c (by rw [h.1]; simp)⟩ (Reps.monoH c x xs _ r)
  | .ct xs, _, .ct h r => .ct h (Reps.monoH c x xs _ r)
  | .lst xs, _, .lst h l r => .lst (x.keep _ _ h l) ⟨x.notLive l.1 (by rw [h]; simp), l.hid c (by rw [h]; simp)⟩ (Reps.monoH c x xs _ r)
  | .ro xs, _, .ro h r => .ro (by
      rcases h with ⟨h, l⟩ | h
      · have z := x.rd h l
        exact .inl ⟨z.1, z.2, l.hid c (rd_ne h)⟩
      · exact .inr h) (Reps.monoH c x xs _ r)
  | .ref _, _, .ref h => .ref (pre_get x.pre h)
  | .fn _, _, .fn h => .fn h
  | .dic t ks vs, _, .dic h l k1 k2 r => .dic (x.keep _ _ h l) ⟨x.notLive l.1 (by rw [h]; simp), l.hid c (by rw [h]; simp)⟩ k1 k2 (Reps.monoH c x vs _ r)
theorem Reps.monoH {hd2 : List Addr} (c : HidOk R.hid hd2 H) (x : ExtH R.hid m st H m' st' H') : ∀ (ds : List D) (vs : List V), Reps R m st H ds vs → Reps (R.w hd2) m' st' H' ds vs
  | [], _, .nil => .nil
  | d :: ds, _, .cons h t => .cons (Rep.monoH c x d _ h) (Reps.monoH c x ds _ t)
end
theorem Reps.length : ∀ {ds : List D} {vs : List V}, Reps R m st H ds vs → ds.length = vs.length
  | [], _, .nil => rfl
  | _ :: ds, _, .cons _ t => by
    rw [List.length_cons, List.length_cons, Reps.length t]
theorem Reps.get : ∀ {ds : List D} {vs : List V} {i : Nat} {d : D}, Reps R m st H ds vs → ds[i]? = some d → ∃ v, vs[i]? = some v ∧ Rep R m st H d v
  | _ :: _, _, 0, _, .cons h _, e => by
    simp at e
    subst e
    exact ⟨_, rfl, h⟩
  | _ :: _, _, i + 1, _, .cons _ t, e => by
    obtain ⟨v, h1, h2⟩ := Reps.get (i := i) t (by simpa using e)
    exact ⟨v, by simpa using h1, h2⟩
theorem Reps.none_of {ds : List D} {vs : List V} {i : Nat} (r : Reps R m st H ds vs) (e : ds[i]? = none) : vs[i]? = none := by
  have h := r.length
  rw [List.getElem?_eq_none_iff] at e ⊢
  omega
theorem Reps.append : ∀ {xs ys : List D} {vs ws : List V}, Reps R m st H xs vs → Reps R m st H ys ws → Reps R m st H (xs ++ ys) (vs ++ ws)
  | [], _, _, _, .nil, h => h
  | _ :: _, _, _, _, .cons a t, h => .cons a (Reps.append t h)
theorem Reps.drop : ∀ {xs : List D} {vs : List V} (n : Nat), Reps R m st H xs vs → Reps R m st H (xs.drop n) (vs.drop n)
  | _, _, 0, h => h
  | [], _, _ + 1, .nil => .nil
  | _ :: _, _, n + 1, .cons _ t => Reps.drop n t
theorem Reps.take : ∀ {xs : List D} {vs : List V} (n : Nat), Reps R m st H xs vs → Reps R m st H (xs.take n) (vs.take n)
  | _, _, 0, h => by
    rw [List.take_zero, List.take_zero]
    exact .nil
  | [], _, _ + 1, .nil => .nil
  | _ :: _, _, n + 1, .cons a t => .cons a (Reps.take n t)
theorem Reps.set : ∀ {xs : List D} {vs : List V} (n : Nat) {d : D} {v : V}, Reps R m st H xs vs → Rep R m st H d v → Reps R m st H (xs.set n d) (vs.set n v)
  | [], _, _, _, _, .nil, _ => .nil
  | _ :: _, _, 0, _, _, .cons _ t, h => .cons h t
  | _ :: _, _, n + 1, _, _, .cons a t, h => .cons a (Reps.set n t h)
theorem Reps.dropLast : ∀ {xs : List D} {vs : List V}, Reps R m st H xs vs → Reps R m st H xs.dropLast vs.dropLast
  | [], _, .nil => .nil
  | [_], _, .cons _ .nil => .nil
  | _ :: _ :: _, _, .cons a (.cons b t) => .cons a (Reps.dropLast (.cons b t))
theorem Reps.cut {xs : List D} {vs : List V} {lo hi : Option Int} (r : Reps R m st H xs vs) : Reps R m st H (cutL xs lo hi) (cutV vs lo hi) := by
  unfold cutL cutV
  rw [r.length]
  exact (r.drop _).take _
theorem Reps.replicate {xs : List D} {vs : List V} (r : Reps R m st H xs vs) : ∀ k : Nat, Reps R m st H (List.replicate k xs).flatten (List.replicate k vs).flatten
  | 0 => .nil
  | k + 1 => by
    rw [List.replicate_succ, List.replicate_succ, List.flatten_cons, List.flatten_cons]
    exact r.append (Reps.replicate r k)
theorem Reps.one {d : D} {vs : List V} (r : Reps R m st H [d] vs) : ∃ v, vs = [v] ∧ Rep R m st H d v := by
  cases r with
  | cons h t =>
    cases t
    exact ⟨_, rfl, h⟩
theorem Reps.two {d e : D} {vs : List V} (r : Reps R m st H [d, e] vs) : ∃ v w, vs = [v, w] ∧ Rep R m st H d v ∧ Rep R m st H e w := by
  cases r with
  | cons h t =>
    obtain ⟨w, rfl, h2⟩ := t.one
    exact ⟨_, _, rfl, h, h2⟩
theorem Reps.three {d e f : D} {vs : List V} (r : Reps R m st H [d, e, f] vs) : ∃ v w x, vs = [v, w, x] ∧ Rep R m st H d v ∧ Rep R m st H e w ∧ Rep R m st H f x := by
  cases r with
  | cons h t =>
    obtain ⟨w, x, rfl, h2⟩ := t.two
    exact ⟨_, _, _, rfl, h, h2⟩
/-! ### steps of the heap -/
theorem SR.back {a : Addr} (s : SR R m st H) (h : H a = none) : ∀ n : Nat, m[n]? ≠ some a := fun n e => s.trk n a e h
theorem SR.notLive {a : Addr} (s : SR R m st H) (h : H a = none) : NL R.hid m st a := ⟨fun n e => absurd e (s.back h n), fun z => s.hd a z h⟩
theorem SR.ne {p a : Addr} {n : Nat} (s : SR R m st H) (h : H p = none) (e : m[n]? = some a) : a ≠ p := fun z => by
  rw [z] at e
  exact s.back h n e
/-- a new object beside the store -/
theorem Ext.new {p : Addr} {o : HO} (h : H p = none) : Ext m st H m st (upd H p o) :=
  ⟨List.prefix_refl _, fun n a hn e => by
    have := (List.getElem?_eq_some_iff.mp e).1
    omega, fun _ h => h, fun a u e _ => by
    rw [upd_ne (ne_of_none e h)]
    exact e, fun a e => by
    by_cases ha : a = p
    · subst ha
      rw [upd_same]
      simp
    · rw [upd_ne ha]
      exact e⟩
theorem SR.ext {H' : Hp} (s : SR R m st H) (x : Ext m st H m st H') (k : ∀ (n : Nat) (a : Addr), m[n]? = some a → H' a = H a) : SR R m st H' :=
  ⟨s.len, s.nd, fun n a e => by
    rw [k n a e]
    exact s.trk n a e, fun a h => x.stay a (s.hd a h), s.dj, fun n a o e h d => SoRep.mono x (k n a e) (s.obj n a o e h d)⟩
theorem SR.new {p : Addr} {o : HO} (s : SR R m st H) (h : H p = none) : SR R m st (upd H p o) :=
  s.ext (Ext.new h) fun n a e => upd_ne (s.ne h e)
/-- a new list of the store -/
theorem Ext.push {p : Addr} {o : HO} {u : SO} (s : SR R m st H) (h : H p = none) : Ext m st H (m ++ [p]) (st ++ [u]) (upd H p o) where
  pre := ⟨[p], rfl⟩
  fresh := fun n a hn e => by
    have hl := (List.getElem?_eq_some_iff.mp e).1
    rw [List.length_append, List.length_singleton] at hl
    obtain rfl : n = m.length := by omega
    rw [List.getElem?_append_right (Nat.le_refl _), Nat.sub_self] at e
    have z : p = a := Option.some.inj e
    rw [← z]
    exact h
  dead := fun n e => by
    have hn := (List.getElem?_eq_some_iff.mp e).1
    rw [List.getElem?_append_left hn]
    exact e
  keep := fun a u e _ => by
    rw [upd_ne (ne_of_none e h)]
    exact e
  stay := fun a e => by
    by_cases ha : a = p
    · subst ha
      rw [upd_same]
      simp
    · rw [upd_ne ha]
      exact e
theorem SR.pushG {p : Addr} {o : HO} {u : SO} (s : SR R m st H) (h : H p = none) (r : Ext m st H (m ++ [p]) (st ++ [u]) (upd H p o) → u ≠ .dead → SoRep R (m ++ [p]) (st ++ [u]) (upd H p o) u p) : SR R (m ++ [p]) (st ++ [u]) (upd H p o) := by
  have x : Ext m st H (m ++ [p]) (st ++ [u]) (upd H p o) := Ext.push s h
  refine ⟨by rw [List.length_append, List.length_append, s.len]; rfl, ?_, fun n a e => ?_, fun a h => x.stay a (s.hd a h), fun n a e => ?_, fun n a y e q d => ?_⟩
  · rw [List.nodup_append]
    refine ⟨s.nd, (by simp), fun a ha b hb z => ?_⟩
    obtain ⟨n, hn⟩ := List.mem_iff_getElem?.mp ha
    rw [List.mem_singleton] at hb
    exact s.back h n (by rw [← hb, ← z]; exact hn)
  · by_cases hn : n < m.length
    · rw [List.getElem?_append_left hn] at e
      rw [upd_ne (s.ne h e)]
      exact s.trk n a e
    · have hl := (List.getElem?_eq_some_iff.mp e).1
      rw [List.length_append, List.length_singleton] at hl
      obtain rfl : n = m.length := by omega
      rw [List.getElem?_append_right (Nat.le_refl _), Nat.sub_self] at e
      have z : p = a := Option.some.inj e
      rw [← z, upd_same]
      simp
  · by_cases hn : n < m.length
    · rw [List.getElem?_append_left hn] at e
      exact s.dj n a e
    · have hl := (List.getElem?_eq_some_iff.mp e).1
      rw [List.length_append, List.length_singleton] at hl
      obtain rfl : n = m.length := by omega
      rw [List.getElem?_append_right (Nat.le_refl _), Nat.sub_self] at e
      have z : p = a := Option.some.inj e
      exact fun w => s.hd a w (by rw [← z]; exact h)
  · by_cases hn : n < m.length
    · rw [List.getElem?_append_left hn] at e
      rw [List.getElem?_append_left (by rw [← s.len]; exact hn)] at q
      exact SoRep.mono x (upd_ne (s.ne h e)) (s.obj n a y e q d)
    · have hl := (List.getElem?_eq_some_iff.mp e).1
      rw [List.length_append, List.length_singleton] at hl
      obtain rfl : n = m.length := by omega
      rw [List.getElem?_append_right (Nat.le_refl _), Nat.sub_self] at e
      rw [s.len, List.getElem?_append_right (Nat.le_refl _), Nat.sub_self] at q
      have z : p = a := Option.some.inj e
      have z2 : u = y := Option.some.inj q
      subst z z2
      exact r x d
theorem SR.push {p : Addr} {xs : List D} {vs : List V} (s : SR R m st H) (h : H p = none) (r : Reps R m st H xs vs) : SR R (m ++ [p]) (st ++ [.lst xs]) (upd H p (.lst vs)) :=
  s.pushG h fun x _ => .lst upd_same (Reps.mono x _ _ r)
/-- a thing of the store is changed -/
theorem Ext.set {n : Nat} {a : Addr} {u u' : SO} {o : HO} (e : m[n]? = some a) (q : st[n]? = some u) (d : u ≠ .dead) : Ext m st H m (st.set n u') (upd H a o) where
  pre := List.prefix_refl _
  fresh := fun k b hk e => by
    have := (List.getElem?_eq_some_iff.mp e).1
    omega
  dead := fun k h => by
    have hk : n ≠ k := fun z => by
      rw [z, h] at q
      exact d (Option.some.inj q).symm
    rw [List.getElem?_set_ne hk]
    exact h
  keep := fun b u h l => by
    have hb : b ≠ a := fun z => by
      rw [z] at l
      have w := l n e
      rw [q] at w
      exact d (Option.some.inj w)
    rw [upd_ne hb]
    exact h
  stay := fun b h => by
    by_cases hb : b = a
    · subst hb
      rw [upd_same]
      simp
    · rw [upd_ne hb]
      exact h
theorem nd_ne {m : List Addr} (h : m.Nodup) {i j : Nat} {a b : Addr} (hi : m[i]? = some a) (hj : m[j]? = some b) (hn : i ≠ j) : a ≠ b := fun z => by
  subst z
  obtain ⟨h1, e1⟩ := List.getElem?_eq_some_iff.mp hi
  obtain ⟨h2, e2⟩ := List.getElem?_eq_some_iff.mp hj
  exact hn ((List.getElem_inj h).mp (e1.trans e2.symm))
theorem SR.setG {n : Nat} {a : Addr} {u u' : SO} {o : HO} (s : SR R m st H) (e : m[n]? = some a) (q : st[n]? = some u) (d : u ≠ .dead) (r : Ext m st H m (st.set n u') (upd H a o) → u' ≠ .dead → SoRep R m (st.set n u') (upd H a o) u' a) : SR R m (st.set n u') (upd H a o) := by
  have x : Ext m st H m (st.set n u') (upd H a o) := Ext.set e q d
  refine ⟨by rw [List.length_set]; exact s.len, s.nd, fun k b h => x.stay b (s.trk k b h), fun b h => x.stay b (s.hd b h), s.dj, fun k b y h t dy => ?_⟩
  by_cases hk : n = k
  · subst hk
    rw [h] at e
    cases e
    have hl := (List.getElem?_eq_some_iff.mp q).1
    rw [List.getElem?_set_self hl] at t
    cases t
    exact r x dy
  · rw [List.getElem?_set_ne hk] at t
    exact SoRep.mono x (upd_ne (nd_ne s.nd h e (Ne.symm hk))) (s.obj k b y h t dy)
theorem SR.set {n : Nat} {a : Addr} {u : SO} {ys : List D} {ws : List V} (s : SR R m st H) (e : m[n]? = some a) (q : st[n]? = some u) (d : u ≠ .dead) (r : Reps R m st H ys ws) : SR R m (st.set n (.lst ys)) (upd H a (.lst ws)) :=
  s.setG e q d fun x _ => .lst upd_same (Reps.mono x _ _ r)
/-- a list of the store is handed out for good -/
theorem Ext.kill {n : Nat} : Ext m st H m (st.set n .dead) H where
  pre := List.prefix_refl _
  fresh := fun k b hk e => by
    have := (List.getElem?_eq_some_iff.mp e).1
    omega
  dead := fun k h => by
    have hl := (List.getElem?_eq_some_iff.mp h).1
    by_cases hk : n = k
    · subst hk
      exact List.getElem?_set_self hl
    · rw [List.getElem?_set_ne hk]
      exact h
  keep := fun _ _ h _ => h
  stay := fun _ h => h
theorem SR.kill {n : Nat} (s : SR R m st H) : SR R m (st.set n .dead) H := by
  refine ⟨by rw [List.length_set]; exact s.len, s.nd, s.trk, s.hd, s.dj, fun k b zs h t d => ?_⟩
  by_cases hk : n = k
  · subst hk
    have hl := (List.getElem?_eq_some_iff.mp t).1
    rw [List.length_set] at hl
    rw [List.getElem?_set_self hl] at t
    cases t
    exact absurd rfl d
  · rw [List.getElem?_set_ne hk] at t
    exact SoRep.mono Ext.kill rfl (s.obj k b zs h t d)
theorem NL.kill {n : Nat} {a : Addr} {u : SO} (s : SR R m st H) (e : m[n]? = some a) (q : st[n]? = some u) : NL R.hid m (st.set n .dead) a := ⟨fun k h => by
  by_cases hk : n = k
  · subst hk
    exact List.getElem?_set_self (List.getElem?_eq_some_iff.mp q).1
  · exact absurd rfl (nd_ne s.nd h e (Ne.symm hk)), s.dj n a e⟩
end
end Mini
end
section
set_option linter.all false
set_option autoImplicit false
set_option maxRecDepth 100000
set_option maxHeartbeats 1000000
/-! What follows a run: Post; leaving out what a call made for itself; the primitives. -/
namespace Mini
open PySem PySem.Spec PyProof.Rows L2
section
variable {R : RC} {m m' : List Addr} {st st' : Sto} {H H' : Hp}
mutual
theorem Rep.bel : ∀ (d : D) (v : V), Rep R m st H d v → Mini.below m.length d = true
  | .non, _, _ => by simp [Mini.below]
  | .bl _, _, _ => by simp [Mini.below]
  | .int _, _, _ => by simp [Mini.below]
  | .str _, _, _ => by simp [Mini.below]
  | .tup xs, _, .tup _ r => by
    simp only [Mini.below]
    exact Reps.bels xs _ r
  | .ct xs, _, .ct _ r => by
    simp only [Mini.below]
    exact Reps.bels xs _ r
  | .lst xs, _, .lst _ _ r => by
    simp only [Mini.below]
    exact Reps.bels xs _ r
  | .ro xs, _, .ro _ r => by
    simp only [Mini.below]
    exact Reps.bels xs _ r
  | .ref n, _, .ref h => by
    simp only [Mini.below, decide_eq_true_eq]
    exact (List.getElem?_eq_some_iff.mp h).1
  | .fn _, _, _ => by simp [Mini.below]
  | .dic _ _ vs, _, .dic _ _ _ _ r => by
    simp only [Mini.below]
    exact Reps.bels vs _ r
theorem Reps.bels : ∀ (ds : List D) (vs : List V), Reps R m st H ds vs → Mini.belows m.length ds = true
  | [], _, _ => by simp [Mini.belows]
  | d :: ds, _, .cons h t => by
    simp only [Mini.belows, Bool.and_eq_true]
    exact ⟨Rep.bel d _ h, Reps.bels ds _ t⟩
end
theorem NotLive.take {a : Addr} {n : Nat} (h : NotLive m st a) : NotLive (m.take n) (st.take n) a := fun k e => by
  have hk : k < n := by
    have := (List.getElem?_eq_some_iff.mp e).1
    rw [List.length_take] at this
    omega
  rw [List.getElem?_take_of_lt hk] at e ⊢
  exact h k e
theorem NL.take {hd : List Addr} {a : Addr} {n : Nat} (h : NL hd m st a) : NL hd (m.take n) (st.take n) a := ⟨h.1.take, h.2⟩
mutual
theorem Rep.shrink {n : Nat} : ∀ (d : D) (v : V), Rep R m st H d v → Mini.below n d = true → Rep R (m.take n) (st.take n) H d v
  | .non, _, .non, _ => .non
  | .bl _, _, .bl b, _ => .bl b
  | .int _, _, .int i, _ => .int i
  | .str _, _, .str s, _ => .str s
  | .tup xs, _, .tup h r, b => .tup ⟨h.1, h.2.take⟩ (Reps.shrink xs _ r (by simpa only [Mini.below] using b))
  | .ct xs, _, .ct h r, b => .ct h (Reps.shrink xs _ r (by simpa only [Mini.below] using b))
  | .lst xs, _, .lst h l r, b => .lst h l.take (Reps.shrink xs _ r (by simpa only [Mini.below] using b))
  | .ro xs, _, .ro h r, b => .ro (by
      rcases h with ⟨h, l⟩ | h
      · exact .inl ⟨h, l.take⟩
      · exact .inr h) (Reps.shrink xs _ r (by simpa only [Mini.below] using b))
  | .ref k, _, .ref h, b => .ref (by
      simp only [Mini.below, decide_eq_true_eq] at b
      rw [List.getElem?_take_of_lt b]
      exact h)
  | .fn _, _, .fn h, _ => .fn h
  | .dic t ks vs, _, .dic h l k1 k2 r, b => .dic h l.take k1 k2 (Reps.shrink vs _ r (by simpa only [Mini.below] using b))
theorem Reps.shrink {n : Nat} : ∀ (ds : List D) (vs : List V), Reps R m st H ds vs → Mini.belows n ds = true → Reps R (m.take n) (st.take n) H ds vs
  | [], _, .nil, _ => .nil
  | d :: ds, _, .cons h t, b => by
    simp only [Mini.belows, Bool.and_eq_true] at b
    exact .cons (Rep.shrink d _ h b.1) (Reps.shrink ds _ t b.2)
end
theorem Ext.cut (x : Ext m st H m' st' H') (s : SR R m st H) : Ext m st H m (st'.take st.length) H' where
  pre := List.prefix_refl _
  fresh := fun n a hn e => by
    have := (List.getElem?_eq_some_iff.mp e).1
    omega
  dead := fun n h => by
    have hn := (List.getElem?_eq_some_iff.mp h).1
    rw [List.getElem?_take_of_lt hn]
    exact x.dead n h
  keep := x.keep
  stay := x.stay
theorem pre_take {m m' : List Addr} (h : m <+: m') : m'.take m.length = m := by
  obtain ⟨t, rfl⟩ := h
  exact List.take_left
theorem SR.cut (x : Ext m st H m' st' H') (s : SR R m st H) (s' : SR R m' st' H') (c : canCut st st') : SR R m (st'.take st.length) H' := by
  obtain ⟨hl, hc⟩ := c
  refine ⟨by rw [List.length_take, s.len]; omega, s.nd, fun n a e => x.stay a (s.trk n a e), fun a h => x.stay a (s.hd a h), s.dj, fun n a o e q d => ?_⟩
  have hn : n < st.length := by
    rw [← s.len]
    exact (List.getElem?_eq_some_iff.mp e).1
  rw [List.getElem?_take_of_lt hn] at q
  have ho := s'.obj n a o (pre_get x.pre e) q d
  have hb : soBelow st.length o = true := by
    rcases hc n hn with z | ⟨o', z, zb⟩
    · rw [q] at z
      rw [← s.len]
      cases s.obj n a o e z.symm d with
      | lst _ r => exact Reps.bels _ _ r
      | dic _ _ _ r => exact Reps.bels _ _ r
      | ins _ _ _ _ r => exact Reps.bels _ _ r
    · rw [q] at z
      cases z
      exact zb
  have key : ∀ {xs : List D} {vs : List V}, Reps R m' st' H' xs vs → Mini.belows st.length xs = true → Reps R m (st'.take st.length) H' xs vs := fun {xs vs} h2 hb => by
    have := Reps.shrink (n := st.length) xs vs h2 hb
    rw [← s.len, pre_take x.pre, s.len] at this
    exact this
  cases ho with
  | lst h r => exact .lst h (key r hb)
  | dic h k1 k2 r => exact .dic h k1 k2 (key r hb)
  | ins h0 h k1 k2 r => exact .ins h0 h k1 k2 (key r hb)
end

/-! ### what follows -/
inductive FReps (R : RC) (m : List Addr) (st : Sto) (H : Hp) : List (Str × D) → List (Str × V) → Prop
  | nil : FReps R m st H [] []
  | cons {f : Str} {d : D} {v : V} {fs : List (Str × D)} {gs : List (Str × V)} : Rep R m st H d v → FReps R m st H fs gs → FReps R m st H ((f, d) :: fs) ((f, v) :: gs)
def XRep (R : RC) (m : List Addr) (st : Sto) (H : Hp) (x : Exc) (c : Value) (dd : Option Addr) : Prop :=
  ∃ C, R.ca x.cls = some C ∧ c = .ref C ∧ ((x.flds = [] ∧ dd = none) ∨ ∃ d gs, dd = some d ∧ H d = some (.xd gs) ∧ NL R.hid m st d ∧ FReps R m st H x.flds gs)
def Post (R : RC) (m : List Addr) (st : Sto) (H : Hp) (r : Res D) (Q : VK) (E : XK) : Prop := match r with
  | .ok d st' => ∀ m' H' v, Ext m st H m' st' H' → SR R m' st' H' → Rep R m' st' H' d v → Q v H'
  | .exc x st' => ∀ m' H' c dd, Ext m st H m' st' H' → SR R m' st' H' → XRep R m' st' H' x c dd → E c dd H'
  | .bad => False
def PostL (R : RC) (m : List Addr) (st : Sto) (H : Hp) (r : Res (List D)) (Q : List V → Hp → Prop) (E : XK) : Prop := match r with
  | .ok d st' => ∀ m' H' v, Ext m st H m' st' H' → SR R m' st' H' → Reps R m' st' H' d v → Q v H'
  | .exc x st' => ∀ m' H' c dd, Ext m st H m' st' H' → SR R m' st' H' → XRep R m' st' H' x c dd → E c dd H'
  | .bad => False
def PostT (R : RC) (m : List Addr) (st : Sto) (H : Hp) (r : Res Bool) (Q : Bool → Hp → Prop) (E : XK) : Prop := match r with
  | .ok b st' => ∀ m' H', Ext m st H m' st' H' → SR R m' st' H' → Q b H'
  | .exc x st' => ∀ m' H' c dd, Ext m st H m' st' H' → SR R m' st' H' → XRep R m' st' H' x c dd → E c dd H'
  | .bad => False
/-- of a primitive -/
def PostP (R : RC) (m : List Addr) (st : Sto) (H : Hp) (r : Pm) (Q : VK) : Prop := match r with
  | some (d, st') => ∀ m' H' v, Ext m st H m' st' H' → SR R m' st' H' → Rep R m' st' H' d v → Q v H'
  | none => False
section
variable {R : RC} {m m' : List Addr} {st st' : Sto} {H H' : Hp} {Q : VK} {E : XK}
theorem FReps.mono (x : Ext m st H m' st' H') : ∀ {fs : List (Str × D)} {gs : List (Str × V)}, FReps R m st H fs gs → FReps R m' st' H' fs gs
  | _, _, .nil => .nil
  | _, _, .cons h t => .cons (Rep.mono x _ _ h) (FReps.mono x t)
theorem Post.shift {r : Res D} (x : Ext m st H m' st' H') (p : Post R m st H r Q E) : Post R m' st' H' r Q E := by
  cases r with
  | ok d s => exact fun m2 H2 v y s2 r2 => p m2 H2 v (x.trans y) s2 r2
  | exc e s => exact fun m2 H2 c dd y s2 r2 => p m2 H2 c dd (x.trans y) s2 r2
  | bad => exact p
theorem PostT.shift {r : Res Bool} {Q : Bool → Hp → Prop} (x : Ext m st H m' st' H') (p : PostT R m st H r Q E) : PostT R m' st' H' r Q E := by
  cases r with
  | ok d s => exact fun m2 H2 y s2 => p m2 H2 (x.trans y) s2
  | exc e s => exact fun m2 H2 c dd y s2 r2 => p m2 H2 c dd (x.trans y) s2 r2
  | bad => exact p
theorem PostL.shift {r : Res (List D)} {Q : List V → Hp → Prop} (x : Ext m st H m' st' H') (p : PostL R m st H r Q E) : PostL R m' st' H' r Q E := by
  cases r with
  | ok d s => exact fun m2 H2 v y s2 r2 => p m2 H2 v (x.trans y) s2 r2
  | exc e s => exact fun m2 H2 c dd y s2 r2 => p m2 H2 c dd (x.trans y) s2 r2
  | bad => exact p
theorem PostP.here {d : D} {v : V} (s : SR R m st H) (p : PostP R m st H (some (d, st)) Q) (r : Rep R m st H d v) : Q v H := p m H v Ext.refl s r
/-- the answer is a new object beside the store -/
theorem PostP.new {d : D} {a : Addr} {o : HO} (s : SR R m st H) (p : PostP R m st H (some (d, st)) Q) (h : H a = none) (r : Rep R m st (upd H a o) d (.ref a)) : Q (.ref a) (upd H a o) :=
  p m _ _ (Ext.new h) (s.new h) r
theorem guardR_some {c : Bool} {r : Pm} (p : PostP R m st H (guardR c r) Q) : c = true ∧ PostP R m st H r Q := by
  unfold guardR at p
  cases c with
  | true => exact ⟨rfl, p⟩
  | false => exact p.elim
end

/-! ### the primitives: from the readings' side -/
/-- r: what the hand layer asks, by values -/
def Sim (R : RC) (p : Pr) (r : List V → Hp → VK → Prop) : Prop :=
  ∀ (m : List Addr) (st : Sto) (H : Hp) (ds : List D) (vs : List V) (Q : VK), SR R m st H → Reps R m st H ds vs → PostP R m st H (prim p ds st) Q → r vs H Q
/-- .. of a primitive whose lists and dicts are new -/
def PostF (R : RC) (m : List Addr) (st : Sto) (H : Hp) (r : Pm) (Q : VK) : Prop := match r with
  | some (.lst xs, st') => st' = st → ∀ a vs, H a = none → Reps R m st H xs vs → Q (.ref a) (upd H a (.lst vs))
  | some (.dic t ks vs, st') => st' = st → ∀ a ws, H a = none → ks.length = vs.length → ks.all (Ky.fits t) = true → Reps R m st H vs ws → Q (.ref a) (upd H a (kHO t ks ws))
  | r => PostP R m st H r Q
def SimF (R : RC) (p : Pr) (r : List V → Hp → VK → Prop) : Prop :=
  ∀ (m : List Addr) (st : Sto) (H : Hp) (ds : List D) (vs : List V) (Q : VK), SR R m st H → Reps R m st H ds vs → PostF R m st H (prim p ds st) Q → r vs H Q
theorem PostF.of {R : RC} {m : List Addr} {st : Sto} {H : Hp} {r : Pm} {Q : VK} (s : SR R m st H) (p : PostP R m st H r Q) : PostF R m st H r Q := by
  unfold PostF
  split
  · intro e a vs h rs
    subst e
    exact p.new s h (.lst upd_same (s.notLive h) (Reps.mono (Ext.new h) _ _ rs))
  · intro e a ws h k1 k2 rs
    subst e
    exact p.new s h (.dic upd_same (s.notLive h) k1 k2 (Reps.mono (Ext.new h) _ _ rs))
  · exact p
theorem SimF.sim {R : RC} {p : Pr} {r : List V → Hp → VK → Prop} (h : SimF R p r) : Sim R p r := fun m st H ds vs Q s rs q => h m st H ds vs Q s rs (PostF.of s q)
theorem rep_last {R : RC} {m : List Addr} {st : Sto} {H : Hp} (s : SR R m st H) (q : Addr) (H' : Hp) (u : SO) : Rep R (m ++ [q]) (st ++ [u]) H' (.ref st.length) (.ref q) := .ref (by
  rw [← s.len, List.getElem?_append_right (Nat.le_refl _), Nat.sub_self]
  rfl)
theorem SimF.own {R : RC} {p : Pr} {r : List V → Hp → VK → Prop} (h : SimF R p r) : Sim R (.own p) r := fun m st H ds vs Q s rs q => by
  refine h m st H ds vs Q s rs ?_
  have q : PostP R m st H (if freshP p then ownR (prim p ds st) else none) Q := q
  split at q
  · unfold PostF
    split
    · rename_i xs st' e
      intro e2 a ws ha ra
      subst e2
      rw [e] at q
      exact q _ _ _ (Ext.push s ha) (s.push ha ra) (rep_last s a _ _)
    · rename_i t ks vs' st' e
      intro e2 a ws ha k1 k2 ra
      subst e2
      rw [e] at q
      exact q _ _ _ (Ext.push s ha) (s.pushG ha fun x _ => .dic upd_same k1 k2 (Reps.mono x _ _ ra)) (rep_last s a _ _)
    · rename_i n1 n2
      cases e : prim p ds st with
      | none =>
        rw [e] at q
        exact q.elim
      | some y =>
        obtain ⟨d, st'⟩ := y
        rw [e] at q
        cases d with
        | lst xs => exact absurd e (n1 xs st')
        | dic t ks vs => exact absurd e (n2 t ks vs st')
        | _ => exact q.elim
  · exact q.elim
section
variable {R : RC} {m : List Addr} {st : Sto} {H : Hp} {Q : VK}
theorem PostF.here {d : D} {v : V} (s : SR R m st H) (p : PostF R m st H (some (d, st)) Q) (h : (match d with | .lst _ => false | .dic _ _ _ => false | _ => true) = true) (r : Rep R m st H d v) : Q v H := by
  cases d <;> first | (cases h; done) | exact p m H v Ext.refl s r
theorem guardF_some {c : Bool} {r : Pm} (p : PostF R m st H (guardR c r) Q) : c = true ∧ PostF R m st H r Q := by
  unfold guardR at p
  cases c with
  | true => exact ⟨rfl, p⟩
  | false => exact p.elim
/-- a list by its items: where it stands -/
theorem listOf_at {d : D} {v : V} {xs : List D} (s : SR R m st H) (r : Rep R m st H d v) (h : listOf st d = some xs) : ∃ a vs, v = .ref a ∧ SqL R.K H a vs ∧ Reps R m st H xs vs := by
  cases r with
  | @lst a vs ys h1 h2 h3 =>
    simp only [listOf, Option.some.injEq] at h
    subst h
    exact ⟨a, vs, rfl, SqL.of h1, h3⟩
  | @ro a vs ys h1 h3 =>
    simp only [listOf, Option.some.injEq] at h
    subst h
    exact ⟨a, vs, rfl, h1.sq, h3⟩
  | @ref a n h1 =>
    simp only [listOf] at h
    split at h
    · rename_i ys e
      simp only [Option.some.injEq] at h
      subst h
      obtain ⟨vs, h2, h3⟩ := s.lst n a ys h1 e
      exact ⟨a, vs, rfl, SqL.of h2, h3⟩
    · cases h
  | non => simp [listOf] at h
  | bl => simp [listOf] at h
  | int => simp [listOf] at h
  | str => simp [listOf] at h
  | tup => simp [listOf] at h
  | fn => simp [listOf] at h
  | dic => simp [listOf] at h
  | ct => simp [listOf] at h
/-- .. tracked, not from outside -/
theorem listOf_trk {d : D} {v : V} {xs : List D} (s : SR R m st H) (r : Rep R m st H d v) (h : listOf st d = some xs) (n : ∀ ys, d ≠ .ro ys) : ∃ a vs, v = .ref a ∧ H a = some (.lst vs) ∧ Reps R m st H xs vs := by
  cases r with
  | @lst a vs ys h1 h2 h3 =>
    simp only [listOf, Option.some.injEq] at h
    subst h
    exact ⟨a, vs, rfl, h1, h3⟩
  | ro => exact absurd rfl (n _)
  | @ref a k h1 =>
    simp only [listOf] at h
    split at h
    · rename_i ys e
      simp only [Option.some.injEq] at h
      subst h
      obtain ⟨vs, h2, h3⟩ := s.lst k a ys h1 e
      exact ⟨a, vs, rfl, h2, h3⟩
    · cases h
  | non => simp [listOf] at h
  | bl => simp [listOf] at h
  | int => simp [listOf] at h
  | str => simp [listOf] at h
  | tup => simp [listOf] at h
  | fn => simp [listOf] at h
  | dic => simp [listOf] at h
  | ct => simp [listOf] at h
theorem Rep.inj_str {s : Chs} {v : V} (r : Rep R m st H (.str s) v) : v = .str ⟨s.toArray⟩ := by
  cases r
  rfl
theorem Rep.inj_int {i : Int} {v : V} (r : Rep R m st H (.int i) v) : v = .int i := by
  cases r
  rfl
theorem Rep.inj_bl {b : Bool} {v : V} (r : Rep R m st H (.bl b) v) : v = .bl b := by
  cases r
  rfl
theorem Rep.inj_tup {xs : List D} {v : V} (r : Rep R m st H (.tup xs) v) : ∃ a vs, v = .ref a ∧ TupAt R m st H a vs ∧ Reps R m st H xs vs := by
  cases r with
  | tup h t => exact ⟨_, _, rfl, h, t⟩
theorem Rep.inj_ct {xs : List D} {v : V} (r : Rep R m st H (.ct xs) v) : ∃ a vs, v = .ref a ∧ KTup R.K a vs ∧ Reps R m st H xs vs := by
  cases r with
  | ct h t => exact ⟨_, _, rfl, h, t⟩
/-- a tuple, a constant one or not -/
theorem seqT_at {d : D} {v : V} {xs : List D} (r : Rep R m st H d v) (h : d = .tup xs ∨ d = .ct xs) : ∃ a vs, v = .ref a ∧ SqT R.K H a vs ∧ Reps R m st H xs vs := by
  rcases h with rfl | rfl
  · obtain ⟨a, vs, e, h, t⟩ := r.inj_tup
    exact ⟨a, vs, e, h.sq, t⟩
  · obtain ⟨a, vs, e, h, t⟩ := r.inj_ct
    exact ⟨a, vs, e, .inr h, t⟩
/-- a list or a tuple by its items -/
theorem seqOf_at {d : D} {v : V} {xs : List D} (s : SR R m st H) (r : Rep R m st H d v) (h : seqOf st d = some xs) : ∃ a vs, v = .ref a ∧ (SqL R.K H a vs ∨ SqT R.K H a vs) ∧ Reps R m st H xs vs := by
  have li : listOf st d = some xs → ∃ a vs, v = .ref a ∧ (SqL R.K H a vs ∨ SqT R.K H a vs) ∧ Reps R m st H xs vs := fun h => by
    obtain ⟨a, vs, e, h1, h2⟩ := listOf_at s r h
    exact ⟨a, vs, e, .inl h1, h2⟩
  cases d with
  | tup ys =>
    cases h
    obtain ⟨a, vs, e, h1, h2⟩ := seqT_at r (.inl rfl)
    exact ⟨a, vs, e, .inr h1, h2⟩
  | ct ys =>
    cases h
    obtain ⟨a, vs, e, h1, h2⟩ := seqT_at r (.inr rfl)
    exact ⟨a, vs, e, .inr h1, h2⟩
  | _ => exact li h
theorem Rep.of_str (x : Str) : Rep R m st H (.str x.cps.toList) (.str x) := by
  obtain ⟨a⟩ := x
  have := Rep.str (R := R) (m := m) (st := st) (H := H) a.toList
  simpa using this
theorem len_str (s : Chs) : (⟨s.toArray⟩ : Str).length = s.length := by simp [Str.length]
end
end Mini
end
section
set_option linter.all false
set_option autoImplicit false
set_option maxRecDepth 100000
set_option maxHeartbeats 1000000
/-! The primitives. -/
namespace Mini
open PySem PySem.Spec PyProof.Rows L2
theorem CallR.or {X : Cx} {f : Value} {r r' : List V → Hp → VK → Prop} (h : CallR X f r) (h' : CallR X f r') : CallR X f (fun xs H Q => r xs H Q ∨ r' xs H Q) := by
  intro pins s σ H xs us Q I rx q
  rcases q with q | q
  · exact h pins s σ H xs us Q I rx q
  · exact h' pins s σ H xs us Q I rx q
def l2 (r : R2) : List V → Hp → VK → Prop := fun vs H Q => ∃ x y, vs = [x, y] ∧ r x y H Q
def l1 (r : V → Hp → VK → Prop) : List V → Hp → VK → Prop := fun vs H Q => ∃ x, vs = [x] ∧ r x H Q
section
variable {R : RC} {m : List Addr} {st : Sto} {H : Hp} {Q : VK}
theorem boolR_some {o : Option Bool} (p : PostP R m st H (boolR st o) Q) : ∃ b, o = some b ∧ PostP R m st H (some (.bl b, st)) Q := by
  cases o with
  | none => exact p.elim
  | some b => exact ⟨b, rfl, p⟩
theorem oneR_some {o : Option D} (p : PostP R m st H (oneR st o) Q) : ∃ b, o = some b ∧ PostP R m st H (some (b, st)) Q := by
  cases o with
  | none => exact p.elim
  | some b => exact ⟨b, rfl, p⟩
theorem sim1 {p : Pr} {r : V → Hp → VK → Prop} (h0 : ∀ (ds : List D) (st : Sto), ds.length ≠ 1 → prim p ds st = none)
    (h : ∀ (m : List Addr) (st : Sto) (H : Hp) (d : D) (v : V) (Q : VK), SR R m st H → Rep R m st H d v → PostP R m st H (prim p [d] st) Q → r v H Q) : Sim R p (l1 r) := by
  intro m st H ds vs Q s rs q
  rcases ds with _ | ⟨x, _ | ⟨y, l⟩⟩
  · rw [h0 [] st (by simp)] at q
    exact q.elim
  · obtain ⟨v, rfl, rv⟩ := rs.one
    exact ⟨v, rfl, h m st H x v Q s rv q⟩
  · rw [h0 _ st (by simp)] at q
    exact q.elim
theorem simF1 {p : Pr} {r : V → Hp → VK → Prop} (h0 : ∀ (ds : List D) (st : Sto), ds.length ≠ 1 → prim p ds st = none)
    (h : ∀ (m : List Addr) (st : Sto) (H : Hp) (d : D) (v : V) (Q : VK), SR R m st H → Rep R m st H d v → PostF R m st H (prim p [d] st) Q → r v H Q) : SimF R p (l1 r) := by
  intro m st H ds vs Q s rs q
  rcases ds with _ | ⟨x, _ | ⟨y, l⟩⟩
  · rw [h0 [] st (by simp)] at q
    exact q.elim
  · obtain ⟨v, rfl, rv⟩ := rs.one
    exact ⟨v, rfl, h m st H x v Q s rv q⟩
  · rw [h0 _ st (by simp)] at q
    exact q.elim
theorem simF2 {p : Pr} {r : R2} (h0 : ∀ (ds : List D) (st : Sto), ds.length ≠ 2 → prim p ds st = none)
    (h : ∀ (m : List Addr) (st : Sto) (H : Hp) (d e : D) (v w : V) (Q : VK), SR R m st H → Rep R m st H d v → Rep R m st H e w → PostF R m st H (prim p [d, e] st) Q → r v w H Q) : SimF R p (l2 r) := by
  intro m st H ds vs Q s rs q
  rcases ds with _ | ⟨x, _ | ⟨y, _ | ⟨z, l⟩⟩⟩
  · rw [h0 [] st (by simp)] at q
    exact q.elim
  · rw [h0 _ st (by simp)] at q
    exact q.elim
  · obtain ⟨v, w, rfl, rv, rw'⟩ := rs.two
    exact ⟨v, w, rfl, h m st H x y v w Q s rv rw' q⟩
  · rw [h0 _ st (by simp)] at q
    exact q.elim
theorem oneF_some {o : Option D} (p : PostF R m st H (oneR st o) Q) : ∃ b, o = some b ∧ PostF R m st H (some (b, st)) Q := by
  cases o with
  | none => exact p.elim
  | some b => exact ⟨b, rfl, p⟩
theorem sim2 {p : Pr} {r : R2} (h0 : ∀ (ds : List D) (st : Sto), ds.length ≠ 2 → prim p ds st = none)
    (h : ∀ (m : List Addr) (st : Sto) (H : Hp) (d e : D) (v w : V) (Q : VK), SR R m st H → Rep R m st H d v → Rep R m st H e w → PostP R m st H (prim p [d, e] st) Q → r v w H Q) : Sim R p (l2 r) := by
  intro m st H ds vs Q s rs q
  rcases ds with _ | ⟨x, _ | ⟨y, _ | ⟨z, l⟩⟩⟩
  · rw [h0 [] st (by simp)] at q
    exact q.elim
  · rw [h0 _ st (by simp)] at q
    exact q.elim
  · obtain ⟨v, w, rfl, rv, rw'⟩ := rs.two
    exact ⟨v, w, rfl, h m st H x y v w Q s rv rw' q⟩
  · rw [h0 _ st (by simp)] at q
    exact q.elim
end
/-! ### + -/
def rAddM (K : PySem.W.Frag) : R2 := fun x y H Q => rI0 (fun i j => .int (i + j)) x y H Q ∨ (∃ i j, x = .str i ∧ y = .str j ∧ i.length + j.length ≤ sizeLine ∧ Q (.str (i ++ j)) H) ∨ rCatA K x y H Q ∨ rCat x y H Q
theorem op_addM {X : Cx} : OpR X (binaryOp .Add) (rAddM X.K) := op_add.or (op_add_str.or (op_catA.or op_cat))
theorem str_app (a b : Chs) : (⟨a.toArray⟩ : Str) ++ ⟨b.toArray⟩ = ⟨(a ++ b).toArray⟩ := by
  show (⟨a.toArray ++ b.toArray⟩ : Str) = _
  simp
theorem simF_add {R : RC} : SimF R .add (l2 (rAddM R.K)) := by
  refine simF2 (fun _ _ h => a2_none h) fun m st H d e v w Q s rd re p => ?_
  have p : PostF R m st H (addD st d e) Q := p
  unfold addD at p
  split at p
  · obtain rfl := rd.inj_int
    obtain rfl := re.inj_int
    exact .inl ⟨_, _, rfl, rfl, p.here s rfl (.int _)⟩
  · obtain rfl := rd.inj_str
    obtain rfl := re.inj_str
    obtain ⟨c, p⟩ := guardF_some p
    refine .inr (.inl ⟨_, _, rfl, rfl, by rw [len_str, len_str]; exact of_decide_eq_true c, ?_⟩)
    rw [str_app]
    exact p.here s rfl (.str _)
  · obtain ⟨a, vs, rfl, ha, ra⟩ := rd.inj_tup
    obtain ⟨b, ws, rfl, hb, rb⟩ := re.inj_tup
    obtain ⟨c, p⟩ := guardF_some p
    have hc := of_decide_eq_true c
    rw [ra.length, rb.length] at hc
    refine .inr (.inr (.inl ⟨a, b, vs, ws, rfl, rfl, ha.sq, hb.sq, hc, fun z => ?_, fun z1 z => ?_, fun z1 z2 q hq => ?_⟩))
    · subst z
      cases ra
      exact p.here s rfl (.tup hb rb)
    · subst z
      cases rb
      rw [List.append_nil] at p
      exact p.here s rfl (.tup ha ra)
    · exact PostP.new s p hq (.tup ⟨upd_same, s.notLive hq⟩ (Reps.mono (Ext.new hq) _ _ (ra.append rb)))
  · exact p.elim
  · exact p.elim
  · split at p
    · rename_i xs ys e1 e2
      obtain ⟨a, vs, rfl, ha, ra⟩ := listOf_trk s rd e1 (by assumption)
      obtain ⟨b, ws, rfl, hb, rb⟩ := listOf_trk s re e2 (by assumption)
      obtain ⟨c, p⟩ := guardF_some p
      have hc := of_decide_eq_true c
      rw [ra.length, rb.length] at hc
      refine .inr (.inr (.inr ⟨a, b, vs, ws, rfl, rfl, ha, hb, hc, fun q hq => ?_⟩))
      exact p rfl q _ hq (ra.append rb)
    · exact p.elim
theorem sim_add {R : RC} : Sim R .add (l2 (rAddM R.K)) := simF_add.sim
/-! ### - * // % ** -/
theorem op_fdivZ {X : Cx} : OpR X (binaryOp .FloorDiv) (rI (fun _ j => j ≠ 0 ∧ j.natAbs.log2 < 9000) fun i j => .int (i.fdiv j)) :=
  opI fun _ _ _ _ _ _ _ hc q => floordiv_int hc.1 q (.inl (PyProof.noPylong_of_log2 hc.2))
theorem sim_sub {R : RC} : Sim R .sub (l2 (rI0 fun i j => .int (i - j))) := by
  refine sim2 (fun _ _ h => a2_none h) fun m st H d e v w Q s rd re p => ?_
  cases rd <;> first | exact p.elim | skip
  cases re <;> first | exact p.elim | skip
  exact ⟨_, _, rfl, rfl, p.here s (.int _)⟩
def rRepS : R2 := fun x y H Q => ∃ z k, x = .str z ∧ y = .int k ∧ 0 ≤ k ∧ k ≤ 16777216 ∧ z.length * k.toNat ≤ sizeLine ∧ Q (.str ⟨((List.replicate k.toNat z.cps.toList).flatten).toArray⟩) H
theorem mul_txt {z : Str} {k : Int} (h : 0 ≤ k) : Txt.mul z k = ⟨((List.replicate k.toNat z.cps.toList).flatten).toArray⟩ := by
  have key : ∀ (n : Nat) (a : Array Nat), (List.replicate n z.cps).foldl (· ++ ·) a = a ++ ((List.replicate n z.cps.toList).flatten).toArray := by
    intro n
    induction n with
    | zero => intro a; simp
    | succ n ih =>
      intro a
      rw [List.replicate_succ, List.foldl_cons, ih, List.replicate_succ, List.flatten_cons, ← List.append_toArray, Array.append_assoc, Array.toArray_toList]
  unfold Txt.mul
  split
  · have e : k.toNat = 0 := by omega
    rw [e]
    rfl
  · split
    · rename_i h1 h2
      rw [Bool.or_eq_true, beq_iff_eq, beq_iff_eq] at h2
      rcases h2 with h2 | h2
      · subst h2
        have e : (1 : Int).toNat = 1 := rfl
        rw [e]
        simp
      · have e : z.cps = #[] := Array.eq_empty_of_size_eq_zero h2
        obtain ⟨c⟩ := z
        dsimp only at e
        subst e
        simp
    · rw [key]
      simp
theorem op_repS {X : Cx} : OpR X (binaryOp .Mult) rRepS := by
  intro pins s σ H x y v u Q I rx ry h
  obtain ⟨z, k, rfl, rfl, h0, h1, h2, q⟩ := h
  obtain ⟨t, rfl⟩ := rx
  obtain ⟨t2, rfl⟩ := ry
  have hok : MulOk z k := by
    refine ⟨?_, fun _ _ => ?_, fun _ _ => ?_⟩
    · rw [decide_eq_false (by omega), decide_eq_false (by omega)]
      rfl
    · have e : (z.length : Int) * k ≤ 16777216 := by
        have e1 : ((z.length * k.toNat : Nat) : Int) ≤ 16777216 := by
          have : (sizeLine : Nat) = 16777216 := by decide
          omega
        rw [Int.natCast_mul, Int.toNat_of_nonneg h0] at e1
        exact e1
      have kp : 0 < k := by omega
      have : (z.length : Int) ≤ (2 ^ 63 - 1) / k := Int.le_ediv_of_mul_le kp (by omega)
      omega
    · exact decide_eq_false (by omega)
  rw [← mul_txt h0] at q
  exact SB.mul hok fun t' k' => ⟨.str _, H, I.tok _, ⟨_, rfl⟩, q⟩
def rMulM (K : PySem.W.Frag) : R2 := fun x y H Q => rI CMulW (fun i j => .int (i * j)) x y H Q ∨ rRep x y H Q ∨ rRepT K x y H Q ∨ rRepS x y H Q
theorem op_mulM {X : Cx} : OpR X (binaryOp .Mult) (rMulM X.K) := op_mulW.or (op_rep.or (op_repT.or op_repS))
theorem simF_mul {R : RC} : SimF R .mul (l2 (rMulM R.K)) := by
  refine simF2 (fun _ _ h => a2_none h) fun m st H d e v w Q s rd re p => ?_
  have p : PostF R m st H (mulD st d e) Q := p
  unfold mulD at p
  split at p
  · obtain rfl := rd.inj_int
    obtain rfl := re.inj_int
    obtain ⟨c, p⟩ := guardF_some p
    exact .inl ⟨_, _, rfl, rfl, by
      unfold wide at c
      have z := of_decide_eq_true c
      exact z, p.here s rfl (.int _)⟩
  · exact p.elim
  · obtain rfl := rd.inj_str
    obtain rfl := re.inj_int
    obtain ⟨c, p⟩ := guardF_some p
    simp only [Bool.and_eq_true, decide_eq_true_eq] at c
    exact .inr (.inr (.inr ⟨_, _, rfl, rfl, c.1.1, c.1.2, by rw [len_str]; exact c.2, p.here s rfl (.str _)⟩))
  · obtain ⟨a, vs, rfl, ha, ra⟩ := rd.inj_tup
    obtain rfl := re.inj_int
    obtain ⟨c, p⟩ := guardF_some p
    simp only [Bool.and_eq_true, decide_eq_true_eq, Bool.not_eq_true', List.isEmpty_eq_false_iff] at c
    obtain ⟨⟨⟨c1, c2⟩, c3⟩, c4⟩ := c
    rw [ra.length] at c4
    refine .inr (.inr (.inl ⟨a, _, vs, rfl, rfl, ha.sq, fun z => c1 ?_, c2, c3, c4, fun q hq => ?_⟩))
    · subst z
      cases ra
      rfl
    · exact PostP.new s p hq (.tup ⟨upd_same, s.notLive hq⟩ (Reps.mono (Ext.new hq) _ _ (ra.replicate _)))
  · obtain rfl := re.inj_int
    split at p
    · rename_i xs e1
      obtain ⟨a, vs, rfl, ha, ra⟩ := listOf_trk s rd e1 (by assumption)
      obtain ⟨c, p⟩ := guardF_some p
      simp only [Bool.and_eq_true, decide_eq_true_eq] at c
      obtain ⟨⟨c1, c2⟩, c3⟩ := c
      rw [ra.length] at c3
      exact .inr (.inl ⟨a, _, vs, rfl, rfl, ha, c1, c2, c3, fun q hq => p rfl q _ hq (ra.replicate _)⟩)
    · exact p.elim
  · exact p.elim
theorem sim_mul {R : RC} : Sim R .mul (l2 (rMulM R.K)) := simF_mul.sim
theorem sim_fdiv {R : RC} : Sim R .fdiv (l2 (rI (fun _ j => j ≠ 0 ∧ j.natAbs.log2 < 9000) fun i j => .int (i.fdiv j))) := by
  refine sim2 (fun _ _ h => a2_none h) fun m st H d e v w Q s rd re p => ?_
  cases rd <;> first | exact p.elim | skip
  cases re <;> first | exact p.elim | skip
  obtain ⟨c, p⟩ := guardR_some p
  simp only [Bool.and_eq_true, decide_eq_true_eq] at c
  exact ⟨_, _, rfl, rfl, c, p.here s (.int _)⟩
theorem sim_mod {R : RC} : Sim R .mod (l2 (rI (fun _ j => j ≠ 0) fun i j => .int (i.fmod j))) := by
  refine sim2 (fun _ _ h => a2_none h) fun m st H d e v w Q s rd re p => ?_
  cases rd <;> first | exact p.elim | skip
  cases re <;> first | exact p.elim | skip
  obtain ⟨c, p⟩ := guardR_some p
  exact ⟨_, _, rfl, rfl, of_decide_eq_true c, p.here s (.int _)⟩
theorem sim_pow {R : RC} : Sim R .pow (l2 (rI CPow fun i j => .int (i ^ j.toNat))) := by
  refine sim2 (fun _ _ h => a2_none h) fun m st H d e v w Q s rd re p => ?_
  cases rd <;> first | exact p.elim | skip
  cases re <;> first | exact p.elim | skip
  obtain ⟨c, p⟩ := guardR_some p
  simp only [Bool.and_eq_true, decide_eq_true_eq] at c
  exact ⟨_, _, rfl, rfl, ⟨c.1.1, c.1.2, c.2⟩, p.here s (.int _)⟩
theorem sim_neg {R : RC} : Sim R .neg (l1 (rU fun i => .int (-i))) := by
  refine sim1 (fun _ _ h => a1_none h) fun m st H d v Q s rd p => ?_
  cases rd <;> first | exact p.elim | skip
  exact ⟨_, rfl, p.here s (.int _)⟩
end Mini
end
section
set_option linter.all false
set_option autoImplicit false
set_option maxRecDepth 100000
set_option maxHeartbeats 1000000
/-! The primitives, further. -/
namespace Mini
open PySem PySem.Spec PyProof.Rows L2
/-! ### order -/
def rLtM : R2 := fun x y H Q => rI0 (fun i j => .bl (decide (i < j))) x y H Q ∨ ∃ i j, x = .str i ∧ y = .str j ∧ Q (.bl (decide (i.cps.toList < j.cps.toList))) H
def rLeM : R2 := fun x y H Q => rI0 (fun i j => .bl (decide (i ≤ j))) x y H Q ∨ ∃ i j, x = .str i ∧ y = .str j ∧ Q (.bl (!decide (j.cps.toList < i.cps.toList))) H
def rGtM : R2 := fun x y H Q => rI0 (fun i j => .bl (decide (j < i))) x y H Q ∨ ∃ i j, x = .str i ∧ y = .str j ∧ Q (.bl (decide (j.cps.toList < i.cps.toList))) H
def rGeM : R2 := fun x y H Q => rI0 (fun i j => .bl (decide (j ≤ i))) x y H Q ∨ ∃ i j, x = .str i ∧ y = .str j ∧ Q (.bl (!decide (i.cps.toList < j.cps.toList))) H
theorem op_ltM {X : Cx} : OpR X (compareOp .Lt) rLtM := op_lt.or op_lt_str
theorem op_leM {X : Cx} : OpR X (compareOp .LtE) rLeM := op_le.or op_le_str
theorem op_gtM {X : Cx} : OpR X (compareOp .Gt) rGtM := op_gt.or op_gt_str
theorem op_geM {X : Cx} : OpR X (compareOp .GtE) rGeM := op_ge.or op_ge_str
theorem cps_str (s : Chs) : (⟨s.toArray⟩ : Str).cps.toList = s := by simp
theorem sim_lt {R : RC} : Sim R .lt (l2 rLtM) := by
  refine sim2 (fun _ _ h => a2_none h) fun m st H d e v w Q s rd re p => ?_
  obtain ⟨b, e1, p⟩ := boolR_some (show PostP R m st H (boolR st (cmpD .lt d e)) Q from p)
  cases rd <;> first | (cases e1; done) | skip
  all_goals (cases re <;> first | (cases e1; done) | skip)
  · cases e1
    exact .inl ⟨_, _, rfl, rfl, p.here s (.bl _)⟩
  · cases e1
    refine .inr ⟨_, _, rfl, rfl, ?_⟩
    rw [cps_str, cps_str]
    exact p.here s (.bl _)
theorem sim_le {R : RC} : Sim R .le (l2 rLeM) := by
  refine sim2 (fun _ _ h => a2_none h) fun m st H d e v w Q s rd re p => ?_
  obtain ⟨b, e1, p⟩ := boolR_some (show PostP R m st H (boolR st (cmpD .le d e)) Q from p)
  cases rd <;> first | (cases e1; done) | skip
  all_goals (cases re <;> first | (cases e1; done) | skip)
  · cases e1
    exact .inl ⟨_, _, rfl, rfl, p.here s (.bl _)⟩
  · cases e1
    refine .inr ⟨_, _, rfl, rfl, ?_⟩
    rw [cps_str, cps_str]
    exact p.here s (.bl _)
theorem sim_gt {R : RC} : Sim R .gt (l2 rGtM) := by
  refine sim2 (fun _ _ h => a2_none h) fun m st H d e v w Q s rd re p => ?_
  obtain ⟨b, e1, p⟩ := boolR_some (show PostP R m st H (boolR st (cmpD .gt d e)) Q from p)
  cases rd <;> first | (cases e1; done) | skip
  all_goals (cases re <;> first | (cases e1; done) | skip)
  · cases e1
    exact .inl ⟨_, _, rfl, rfl, p.here s (.bl _)⟩
  · cases e1
    refine .inr ⟨_, _, rfl, rfl, ?_⟩
    rw [cps_str, cps_str]
    exact p.here s (.bl _)
theorem sim_ge {R : RC} : Sim R .ge (l2 rGeM) := by
  refine sim2 (fun _ _ h => a2_none h) fun m st H d e v w Q s rd re p => ?_
  obtain ⟨b, e1, p⟩ := boolR_some (show PostP R m st H (boolR st (cmpD .ge d e)) Q from p)
  cases rd <;> first | (cases e1; done) | skip
  all_goals (cases re <;> first | (cases e1; done) | skip)
  · cases e1
    exact .inl ⟨_, _, rfl, rfl, p.here s (.bl _)⟩
  · cases e1
    refine .inr ⟨_, _, rfl, rfl, ?_⟩
    rw [cps_str, cps_str]
    exact p.here s (.bl _)
/-! ### == of data -/
section
variable {R : RC} {m : List Addr} {st : Sto} {H : Hp}
theorem dpAll_of (n : Nat) (f : ∀ (d : D) (v : V) (pd : PyData), Rep R m st H d v → toPD st n d = some pd → Dp R.K H v pd) :
    ∀ (xs : List D) (vs : List V) (ps : List PyData), Reps R m st H xs vs → xs.mapM (toPD st n) = some ps → DpAll R.K H vs ps
  | [], _, ps, .nil, h => by
    simp at h
    subst h
    exact .nil
  | x :: xs, _, ps, .cons a t, h => by
    rw [List.mapM_cons] at h
    cases e : toPD st n x with
    | none =>
      rw [e] at h
      cases h
    | some p =>
      cases e2 : xs.mapM (toPD st n) with
      | none =>
        rw [e, e2] at h
        cases h
      | some q =>
        rw [e, e2] at h
        cases h
        exact .cons (f _ _ _ a e) (dpAll_of n f xs _ q t e2)
theorem map_some {α β : Type} {f : α → β} {o : Option α} {b : β} (h : o.map f = some b) : ∃ a, o = some a ∧ f a = b := by
  cases o with
  | none => cases h
  | some a => exact ⟨a, rfl, Option.some.inj h⟩
theorem dp_of (s : SR R m st H) : ∀ (n : Nat) (d : D) (v : V) (pd : PyData), Rep R m st H d v → toPD st n d = some pd → Dp R.K H v pd
  | 0, _, _, _, _, h => by cases h
  | n + 1, d, _, pd, r, h => by
    cases r with
    | non =>
      cases h
      exact .non
    | bl b =>
      cases h
      exact .bl b
    | int i =>
      cases h
      exact .int i
    | str x =>
      cases h
      exact .str _
    | tup h1 h2 =>
      obtain ⟨ps, e, rfl⟩ := map_some h
      exact .tup h1.sq (dpAll_of n (dp_of s n) _ _ _ h2 e)
    | ct h1 h2 =>
      obtain ⟨ps, e, rfl⟩ := map_some h
      exact .tup (.inr h1) (dpAll_of n (dp_of s n) _ _ _ h2 e)
    | lst h1 h2 h3 =>
      obtain ⟨ps, e, rfl⟩ := map_some h
      exact .lst (SqL.of h1) (dpAll_of n (dp_of s n) _ _ _ h3 e)
    | ro h1 h3 =>
      obtain ⟨ps, e, rfl⟩ := map_some h
      exact .lst h1.sq (dpAll_of n (dp_of s n) _ _ _ h3 e)
    | @ref a k h1 =>
      simp only [toPD] at h
      split at h
      · rename_i xs e1
        obtain ⟨ps, e, rfl⟩ := map_some h
        obtain ⟨vs, h2, h3⟩ := s.lst k a xs h1 e1
        exact .lst (SqL.of h2) (dpAll_of n (dp_of s n) _ _ _ h3 e)
      · cases h
    | fn => cases h
    | dic => cases h
theorem scal_of {d e : D} {v w : V} (r : Rep R m st H d v) (q : Rep R m st H e w) (h : scalB d e = true) : scal v w = true ∧ decide (v = w) = eqD d e := by
  cases r <;> cases q <;> first | (cases h; done) | skip
  all_goals
    refine ⟨rfl, ?_⟩
    rw [Bool.eq_iff_iff]
    simp [eqD]
theorem eqvD_some {d e : D} {b : Bool} (h : eqvD st d e = some b) : (scalB d e = true ∧ b = eqD d e) ∨ ∃ p q, toPD st 65 d = some p ∧ toPD st 65 e = some q ∧ SeqAt.shaped p = true ∧ SeqAt.shaped q = true ∧ b = PyData.eqv p q := by
  unfold eqvD at h
  split at h
  · rename_i c
    exact .inl ⟨c, (Option.some.inj h).symm⟩
  refine .inr ?_
  split at h
  · rename_i p q e1 e2
    split at h
    · rename_i c
      rw [Bool.and_eq_true] at c
      exact ⟨p, q, e1, e2, c.1, c.2, (Option.some.inj h).symm⟩
    · cases h
  · cases h
end
def rEqM (K : PySem.W.Frag) : R2 := fun x y H Q => rEq x y H Q ∨ rEqD K x y H Q
def rNeM (K : PySem.W.Frag) : R2 := fun x y H Q => rNe x y H Q ∨ rNeD K x y H Q
theorem op_eqM {X : Cx} (hu : X.A.units + 64 < cLine) : OpR X (compareOp .Eq) (rEqM X.K) := op_eq.or (op_eqD hu)
theorem op_neM {X : Cx} (hu : X.A.units + 64 < cLine) : OpR X (compareOp .NotEq) (rNeM X.K) := op_ne.or (op_neD hu)
theorem sim_eq {R : RC} : Sim R .eq (l2 (rEqM R.K)) := by
  refine sim2 (fun _ _ h => a2_none h) fun m st H d e v w Q s rd re p => ?_
  obtain ⟨b, e1, p⟩ := boolR_some (show PostP R m st H (boolR st (eqvD st d e)) Q from p)
  rcases eqvD_some e1 with ⟨c, rfl⟩ | ⟨x, y, h1, h2, h3, h4, rfl⟩
  · obtain ⟨z1, z2⟩ := scal_of rd re c
    refine .inl ⟨z1, ?_⟩
    rw [z2]
    exact p.here s (.bl _)
  · exact .inr ⟨x, y, dp_of s 65 d v x rd h1, dp_of s 65 e w y re h2, h3, h4, p.here s (.bl _)⟩
theorem sim_ne {R : RC} : Sim R .ne (l2 (rNeM R.K)) := by
  refine sim2 (fun _ _ h => a2_none h) fun m st H d e v w Q s rd re p => ?_
  obtain ⟨b, e1, p⟩ := boolR_some (show PostP R m st H (boolR st ((eqvD st d e).map not)) Q from p)
  obtain ⟨c, e2, rfl⟩ := map_some e1
  rcases eqvD_some e2 with ⟨c, rfl⟩ | ⟨x, y, h1, h2, h3, h4, rfl⟩
  · obtain ⟨z1, z2⟩ := scal_of rd re c
    refine .inl ⟨z1, ?_⟩
    rw [z2]
    exact p.here s (.bl _)
  · exact .inr ⟨x, y, dp_of s 65 d v x rd h1, dp_of s 65 e w y re h2, h3, h4, p.here s (.bl _)⟩
/-! ### in -/
def rInM (K : PySem.W.Frag) (neg : Bool) : R2 := fun x y H Q => (∃ (c : Nat) (z : Str), x = .str ⟨#[c]⟩ ∧ y = .str z ∧ Q (.bl (if neg then !decide (c ∈ z.cps.toList) else decide (c ∈ z.cps.toList))) H) ∨ rIn K neg x y H Q
theorem op_inM {X : Cx} : OpR X (compareOp .In) (rInM X.K false) := op_in_sign.or op_in_seq
theorem op_ninM {X : Cx} : OpR X (compareOp .NotIn) (rInM X.K true) := op_notIn_sign.or op_notIn_seq
section
variable {R : RC} {m : List Addr} {st : Sto} {H : Hp}
theorem flat_of {d : D} {v : V} (r : Rep R m st H d v) (h : flatD d = true) : flatV v = true := by
  cases r <;> first | rfl | cases h
theorem flats_of : ∀ {ds : List D} {vs : List V}, Reps R m st H ds vs → ds.all flatD = true → vs.all flatV = true
  | _, _, .nil, _ => rfl
  | _, _, .cons a t, h => by
    rw [List.all_cons, Bool.and_eq_true] at h ⊢
    exact ⟨flat_of a h.1, flats_of t h.2⟩
theorem beq_arr (a b : Chs) : ((⟨a.toArray⟩ : Str) == ⟨b.toArray⟩) = (a == b) := by
  by_cases e : a = b
  · subst e
    simp
  · have : (⟨a.toArray⟩ : Str) ≠ ⟨b.toArray⟩ := fun z => e (by
      have := congrArg (fun s : Str => s.cps.toList) z
      simpa using this)
    rw [beq_eq_false_iff_ne.mpr this, beq_eq_false_iff_ne.mpr e]
theorem eq_of {d e : D} {v w : V} (r : Rep R m st H d v) (q : Rep R m st H e w) (h : flatD d = true) (h2 : flatD e = true) : eqV v w = eqD d e := by
  cases r <;> first | (cases h; done) | skip
  all_goals (cases q <;> first | (cases h2; done) | rfl | exact beq_arr _ _)
theorem any_of {d : D} {v : V} (r : Rep R m st H d v) (h : flatD d = true) : ∀ {ds : List D} {vs : List V}, Reps R m st H ds vs → ds.all flatD = true → inV v vs = ds.any fun z => eqD z d
  | _, _, .nil, _ => rfl
  | _, _, .cons a t, h2 => by
    rw [List.all_cons, Bool.and_eq_true] at h2
    have ih := any_of r h t h2.2
    unfold inV at ih ⊢
    rw [List.any_cons, List.any_cons, ih, eq_of a r h2.1 h]
theorem in_of {d e : D} {v w : V} {b neg : Bool} {Q : VK} (s : SR R m st H) (rd : Rep R m st H d v) (re : Rep R m st H e w) (h : inD st d e = some b) (q : Q (.bl (if neg then !b else b)) H) : rInM R.K neg v w H Q := by
  unfold inD at h
  split at h
  · obtain rfl := rd.inj_str
    obtain rfl := re.inj_str
    cases h
    refine .inl ⟨_, _, rfl, rfl, ?_⟩
    rw [cps_str]
    exact q
  · obtain ⟨a, vs, rfl, ha, ra⟩ := re.inj_tup
    split at h
    · rename_i c
      rw [Bool.and_eq_true] at c
      cases h
      refine .inr ⟨a, vs, rfl, .inr ha.sq, flat_of rd c.1, flats_of ra c.2, ?_⟩
      rw [any_of rd c.1 ra c.2]
      exact q
    · cases h
  · obtain ⟨a, vs, rfl, ha, ra⟩ := re.inj_ct
    split at h
    · rename_i c
      rw [Bool.and_eq_true] at c
      cases h
      refine .inr ⟨a, vs, rfl, .inr (.inr ha), flat_of rd c.1, flats_of ra c.2, ?_⟩
      rw [any_of rd c.1 ra c.2]
      exact q
    · cases h
  · split at h
    · rename_i ys e1
      split at h
      · rename_i c
        rw [Bool.and_eq_true] at c
        cases h
        obtain ⟨a, vs, rfl, ha, ra⟩ := listOf_at s re e1
        refine .inr ⟨a, vs, rfl, .inl ha, flat_of rd c.1, flats_of ra c.2, ?_⟩
        rw [any_of rd c.1 ra c.2]
        exact q
      · cases h
    · cases h
end
theorem sim_in {R : RC} : Sim R .isin (l2 (rInM R.K false)) := by
  refine sim2 (fun _ _ h => a2_none h) fun m st H d e v w Q s rd re p => ?_
  obtain ⟨b, e1, p⟩ := boolR_some (show PostP R m st H (boolR st (inD st d e)) Q from p)
  exact in_of s rd re e1 (p.here s (.bl _))
theorem sim_nin {R : RC} : Sim R .notin (l2 (rInM R.K true)) := by
  refine sim2 (fun _ _ h => a2_none h) fun m st H d e v w Q s rd re p => ?_
  obtain ⟨b, e1, p⟩ := boolR_some (show PostP R m st H (boolR st ((inD st d e).map not)) Q from p)
  obtain ⟨c, e2, rfl⟩ := map_some e1
  exact in_of s rd re e2 (p.here s (.bl _))
/-! ### is None -/
theorem sim_isN {R : RC} : Sim R .isN (l1 fun x H Q => Q (.bl (decide (x = .non))) H) := by
  refine sim1 (fun _ _ h => a1_none h) fun m st H d v Q s rd p => ?_
  cases rd <;> exact p.here s (.bl _)
theorem sim_notN {R : RC} : Sim R .notN (l1 fun x H Q => Q (.bl (!decide (x = .non))) H) := by
  refine sim1 (fun _ _ h => a1_none h) fun m st H d v Q s rd p => ?_
  cases rd <;> exact p.here s (.bl _)
/-! ### items, slices -/
section
variable {R : RC} {m : List Addr} {st : Sto} {H : Hp}
theorem atI_rep {xs : List D} {vs : List V} {i : Int} {d : D} (r : Reps R m st H xs vs) (h : atI xs i = some d) : ∃ v, atI vs i = some v ∧ Rep R m st H d v := by
  unfold atI at h ⊢
  rw [← r.length]
  cases e : ixN xs.length i with
  | none =>
    rw [e] at h
    cases h
  | some j =>
    rw [e] at h
    exact r.get h
end
theorem sim_ix {R : RC} : Sim R .ix (l2 (rIx R.K)) := by
  refine sim2 (fun _ _ h => a2_none h) fun m st H d e v w Q s rd re p => ?_
  cases re <;> first | (cases rd <;> exact p.elim) | skip
  rename_i i
  have p2 : PostP R m st H (oneR st (atD st d i)) Q := by cases rd <;> exact p
  clear p
  obtain ⟨b, e1, p⟩ := oneR_some p2
  clear p2
  unfold atD at e1
  split at e1
  · obtain rfl := rd.inj_str
    split at e1
    · rename_i hl
      obtain ⟨c, e2, rfl⟩ := map_some e1
      refine .inr (.inr ⟨_, _, c, rfl, rfl, by rw [len_str]; exact hl, by rw [cps_str]; exact e2, ?_⟩)
      exact p.here s (.str [c])
    · cases e1
  · obtain ⟨a, vs, rfl, ha, ra⟩ := rd.inj_tup
    obtain ⟨x, h1, h2⟩ := atI_rep ra e1
    exact .inr (.inl ⟨a, vs, _, x, rfl, rfl, ha.sq, h1, p.here s h2⟩)
  · obtain ⟨a, vs, rfl, ha, ra⟩ := rd.inj_ct
    obtain ⟨x, h1, h2⟩ := atI_rep ra e1
    exact .inr (.inl ⟨a, vs, _, x, rfl, rfl, .inr ha, h1, p.here s h2⟩)
  · cases e2 : listOf st d with
    | none =>
      rw [e2] at e1
      cases e1
    | some xs =>
      rw [e2] at e1
      obtain ⟨a, vs, rfl, ha, ra⟩ := listOf_at s rd e2
      obtain ⟨x, h1, h2⟩ := atI_rep ra e1
      exact .inl ⟨a, vs, _, x, rfl, rfl, ha, h1, p.here s h2⟩
def rSlM (K : PySem.W.Frag) : V → Option Int → Option Int → Hp → VK → Prop := fun x lo hi H Q => rSlL K x lo hi H Q ∨ rSlA K x lo hi H Q ∨ rSlS x lo hi H Q
theorem sl_M {X : Cx} : SlR X (rSlM X.K) := sl_list.or (sl_tupA.or sl_str)
theorem cutS_cut (s : Chs) (lo hi : Option Int) : cutS ⟨s.toArray⟩ lo hi = ⟨(cutL s lo hi).toArray⟩ := by
  unfold cutS cutL
  rw [len_str, cps_str]
theorem cutL_whole {α : Type} (xs : List α) (lo hi : Option Int) (h : HT.sIx xs.length 0 lo = 0 ∧ HT.sIx xs.length xs.length hi = xs.length) : cutL xs lo hi = xs := by
  unfold cutL
  rw [h.1, h.2]
  simp
theorem simF_sl {R : RC} {m : List Addr} {st : Sto} {H : Hp} {d : D} {v : V} {lo hi : Option Int} {Q : VK} (s : SR R m st H) (rd : Rep R m st H d v) (p : PostF R m st H (oneR st (slD st d lo hi)) Q) : rSlM R.K v lo hi H Q := by
  obtain ⟨b, e1, p⟩ := oneF_some p
  unfold slD at e1
  split at e1
  · obtain rfl := rd.inj_str
    split at e1
    · rename_i hl
      cases e1
      refine .inr (.inr ⟨_, rfl, by rw [len_str]; exact hl, ?_⟩)
      rw [cutS_cut]
      exact p.here s rfl (.str _)
    · cases e1
  · obtain ⟨a, vs, rfl, ha, ra⟩ := rd.inj_tup
    cases e1
    refine .inr (.inl ⟨a, vs, rfl, ha.sq, fun z => ?_, fun _ q hq => ?_⟩)
    · rw [← ra.length] at z
      rw [cutL_whole _ _ _ z] at p
      exact p.here s rfl (.tup ha ra)
    · exact PostP.new s p hq (.tup ⟨upd_same, s.notLive hq⟩ (Reps.mono (Ext.new hq) _ _ ra.cut))
  · obtain ⟨xs, e2, rfl⟩ := map_some e1
    obtain ⟨a, vs, rfl, ha, ra⟩ := listOf_at s rd e2
    refine .inl ⟨a, vs, rfl, ha, fun q hq => ?_⟩
    exact p rfl q _ hq ra.cut
theorem sim_sl {R : RC} {m : List Addr} {st : Sto} {H : Hp} {d : D} {v : V} {lo hi : Option Int} {Q : VK} (s : SR R m st H) (rd : Rep R m st H d v) (p : PostP R m st H (oneR st (slD st d lo hi)) Q) : rSlM R.K v lo hi H Q := simF_sl s rd (PostF.of s p)
end Mini
end
section
set_option linter.all false
set_option maxRecDepth 100000
/-! Great numbers and their texts: up to 4300 digits. -/
namespace PySem.W
open PySem PySem.Calls PySem.NumText PyProof.Rows
namespace KIG
theorem imsd {M : Model} {A : Around} {E : Value → Shared → Prop} {s : Shared} {Q : Nat → Shared → Prop} (hd : s.heap.NoDigits) (h : Q 4300 s) : wpAny M A Builtin.intMaxStrDigits Q E s := by
  obtain ⟨mc, hns, hnone⟩ := hd
  unfold Builtin.intMaxStrDigits
  refine wpAny_bind (wpAny_nsGet hns ?_)
  rw [hnone]
  exact wpAny_pure h
set_option maxHeartbeats 4000000 in
theorem wp_big {M : Model} {A : Around} {E : Value → Shared → Prop} {s : Shared} {Q : Value → Shared → Prop} {v : Value} {text : List Nat} {n : Int} (hd : s.heap.NoDigits)
    (hs : ¬ (text.takeWhile (· != 0)).length ≤ 640) (hr : (int_private% "readNumeral") 4300 10 (text.takeWhile (· != 0)) = (int_private% "Numeral.value") n)
    (ha : ((text.takeWhile (· != 0)).length == text.length) = true) (h : Q (.int n s.toks) { s with toks := s.toks + 1 }) :
    wpAny M A ((int_private% "intFromText") v text 10) Q E s := by
  obtain ⟨hp, g, d, tk, os⟩ := s
  repeat (any_goals (first
    | assumption
    | (with_reducible refine wpAny_ite_false (decide_eq_false hs) ?_)
    | (with_reducible refine wpAny_ite_true (decide_eq_true ha) ?_)
    | (with_reducible refine imsd hd ?_)
    | wp_step))
  all_goals (try rw [hr])
  all_goals (try dsimp only)
  repeat (any_goals (first
    | assumption
    | (with_reducible refine wpAny_ite_true (decide_eq_true ha) ?_)
    | wp_step))
structure Hid (p : Prop) : Prop where
  out : p
set_option maxHeartbeats 4000000 in
theorem gives_seen {x : PySem.Str} {u : Tok} {n : Int} (hs : (numSeenOf x).length ≤ 640) (hn : PySem.intText? x = some n) : Gives (Builtin.«int.__new__» ⟨[.type "int", .str x u], []⟩) (.int n) :=
  .of_wp fun M A E s Q h => by
    obtain ⟨hp, g, d, tk, os⟩ := s
    have f1 := F.conv_sub_int
    have f2 := F.madeHere_int
    have f3 := KIN.str_int
    have f4 := KIN.str_idx
    have f5 := KIN.str_trunc
    have f6 : typeOf (.str x u) = pure (.type "str") := rfl
    have hr : (int_private% "readNumeral") 0 10 (numSeenOf x) = (int_private% "Numeral.value") n ∧ ((numSeenOf x).length == (numTextOf x).length) = true := by
      rcases read0 x hs with ⟨m, h1, h2, h3⟩ | ⟨h1, _⟩
      · rw [hn] at h1
        injection h1 with h1
        subst h1
        exact ⟨h3, h2⟩
      · rw [hn] at h1
        cases h1
    have hk := Hid.mk (And.intro hs hr)
    clear hs hr hn
    repeat (any_goals (first
      | assumption
      | ((with_reducible show wpAny _ _ ((int_private% "intFromText") _ _ _) _ _ _); refine KIN.wp_text hk.out.1 hk.out.2.1 hk.out.2.2 ?_)
      | wp_step))
    all_goals first | exact ⟨_, rfl, h⟩ | skip
set_option maxHeartbeats 4000000 in
theorem meets_big {x : PySem.Str} {u : Tok} {n : Int} (hl : ¬ (numSeenOf x).length ≤ 640) (hz : x.length ≤ sizeLine) (hn : PySem.intText? x = some n) :
    Meets (Builtin.«int.__new__» ⟨[.type "int", .str x u], []⟩) (fun A R s => s.heap.NoDigits ∧ R (.ok (.ret (.int n s.toks))) { s with toks := s.toks + 1 }) := fun prog w A R s ⟨hd, h⟩ => by
    obtain ⟨hp, g, d, tk, os⟩ := s
    have f1 := F.conv_sub_int
    have f2 := F.madeHere_int
    have f3 := KIN.str_int
    have f4 := KIN.str_idx
    have f5 := KIN.str_trunc
    have f6 : typeOf (.str x u) = pure (.type "str") := rfl
    have hr : (int_private% "readNumeral") 4300 10 (numSeenOf x) = (int_private% "Numeral.value") n ∧ ((numSeenOf x).length == (numTextOf x).length) = true := by
      rcases read4300 x hz with ⟨m, h1, h2, h3⟩ | ⟨h1, _⟩
      · rw [hn] at h1
        injection h1 with h1
        subst h1
        exact ⟨h3, h2⟩
      · rw [hn] at h1
        cases h1
    have hk := Hid.mk (And.intro hl hr)
    have hdk := Hid.mk hd
    clear hr hl hn hd
    repeat (any_goals (first
      | assumption
      | ((with_reducible show wpAny _ _ ((int_private% "intFromText") _ _ _) _ _ _); refine wp_big hdk.out hk.out.1 hk.out.2.1 hk.out.2.2 ?_)
      | wp_step))
end KIG
end PySem.W
end
section
set_option linter.all false
set_option autoImplicit false
set_option maxRecDepth 100000
set_option maxHeartbeats 1000000
/-! The primitives: built-in functions and methods. -/
namespace Mini
open PySem PySem.Spec PyProof.Rows L2
/-! ### len, abs, int, str, tuple, list, all, any -/
def rLenM (K : PySem.W.Frag) : List V → Hp → VK → Prop := fun xs H Q => (∃ p ys, xs = [.ref p] ∧ (SqL K H p ys ∨ SqT K H p ys) ∧ Q (.int ys.length) H) ∨ (∃ z, xs = [.str z] ∧ z.length ≤ sizeLine ∧ Q (.int z.length) H) ∨
  (∃ a kvs, xs = [V.ref a] ∧ H a = some (.dK kvs) ∧ Q (.int kvs.length) H) ∨ rLenT xs H Q
theorem call_lenM {X : Cx} : CallR X (.builtin "len") (rLenM X.K) := CallR.or call_len_seq (CallR.or call_len_str (CallR.or call_lenD call_len_dT))
theorem simL1 {R : RC} {p : Pr} {r : List V → Hp → VK → Prop} (h0 : ∀ (ds : List D) (st : Sto), ds.length ≠ 1 → prim p ds st = none)
    (h : ∀ (m : List Addr) (st : Sto) (H : Hp) (d : D) (v : V) (Q : VK), SR R m st H → Rep R m st H d v → PostP R m st H (prim p [d] st) Q → r [v] H Q) : Sim R p r := by
  intro m st H ds vs Q s rs q
  obtain ⟨v, rfl, z⟩ := sim1 (r := fun v H Q => r [v] H Q) h0 h m st H ds vs Q s rs q
  exact z
theorem dicOf_at {R : RC} {m : List Addr} {st : Sto} {H : Hp} {d : D} {v : V} {t : Bool} {ks : List Ky} {vs : List D} (s : SR R m st H) (r : Rep R m st H d v) (h : dicOf st d = some (t, ks, vs)) :
    ∃ a ws, v = .ref a ∧ H a = some (kHO t ks ws) ∧ ks.length = vs.length ∧ ks.all (Ky.fits t) = true ∧ Reps R m st H vs ws := by
  cases r with
  | dic h1 h2 h3 h4 h5 =>
    cases h
    exact ⟨_, _, rfl, h1, h3, h4, h5⟩
  | @ref a n h1 =>
    simp only [dicOf] at h
    split at h
    · rename_i t' ks' vs' e
      cases h
      obtain ⟨ws, h2, h3⟩ := s.dic n a _ _ _ h1 e
      exact ⟨a, ws, rfl, h2, h3⟩
    · cases h
  | _ => cases h
theorem sim_len {R : RC} : Sim R .len (rLenM R.K) := by
  refine simL1 (fun _ _ h => a1_none h) fun m st H d v Q s rd p => ?_
  obtain ⟨b, e1, p⟩ := oneR_some (show PostP R m st H (oneR st (lenD st d)) Q from p)
  unfold lenD at e1
  split at e1
  · obtain rfl := rd.inj_str
    split at e1
    · rename_i hl
      cases e1
      refine .inr (.inl ⟨_, rfl, by rw [len_str]; exact hl, ?_⟩)
      rw [len_str]
      exact p.here s (.int _)
    · cases e1
  · obtain ⟨a, vs, rfl, ha, ra⟩ := rd.inj_tup
    cases e1
    refine .inl ⟨a, vs, rfl, .inr ha.sq, ?_⟩
    rw [← ra.length]
    exact p.here s (.int _)
  · obtain ⟨a, vs, rfl, ha, ra⟩ := rd.inj_ct
    cases e1
    refine .inl ⟨a, vs, rfl, .inr (.inr ha), ?_⟩
    rw [← ra.length]
    exact p.here s (.int _)
  · split at e1
    · rename_i xs e2
      cases e1
      obtain ⟨a, vs, rfl, ha, ra⟩ := listOf_at s rd e2
      refine .inl ⟨a, vs, rfl, .inl ha, ?_⟩
      rw [← ra.length]
      exact p.here s (.int _)
    · obtain ⟨⟨t, ks, vs⟩, e2, rfl⟩ := map_some e1
      obtain ⟨a, ws, rfl, ha, k1, k2, ra⟩ := dicOf_at s rd e2
      refine .inr (.inr ?_)
      unfold kHO at ha
      have hl : ks.length = ws.length := by rw [k1, ra.length]
      cases t with
      | false =>
        rw [if_neg (by simp)] at ha
        refine .inl ⟨a, _, rfl, ha, ?_⟩
        rw [List.length_zip, List.length_map, ← hl, Nat.min_self]
        exact p.here s (.int _)
      | true =>
        rw [if_pos rfl] at ha
        refine .inr ⟨a, _, rfl, ha, ?_⟩
        rw [List.length_zip, List.length_map, ← hl, Nat.min_self]
        exact p.here s (.int _)
theorem sim_abs {R : RC} : Sim R .abs (fun xs H Q => ∃ i, xs = [.int i] ∧ Q (.int (if i < 0 then -i else i)) H) := by
  refine simL1 (fun _ _ h => a1_none h) fun m st H d v Q s rd p => ?_
  cases rd <;> first | exact p.elim | skip
  exact ⟨_, rfl, p.here s (.int _)⟩
def rIntM : List V → Hp → VK → Prop := fun xs H Q => ((∃ i, xs = [.int i] ∧ Q (.int i) H) ∨ ∃ k, xs = [.bl k] ∧ Q (.int (if k then 1 else 0)) H) ∨ ∃ a n, xs = [.str a] ∧ PySem.intText? a = some n ∧ a.length ≤ sizeLine ∧ Q (.int n) H
theorem call_intT {X : Cx} (hd : X.base.NoDigits) : CallR X (.type "int") (fun xs H Q => ∃ a n, xs = [.str a] ∧ PySem.intText? a = some n ∧ a.length ≤ sizeLine ∧ Q (.int n) H) := by
  intro pins s σ H xs us Q I r h
  obtain ⟨a, n, rfl, hn, hz, q⟩ := h
  by_cases h6 : a.length ≤ 640
  · exact call_int_str pins s σ H _ us Q I r ⟨a, n, rfl, hn, h6, q⟩
  · obtain ⟨u, rfl, t, rfl⟩ := vals1 r
    have I1 : Inv X pins σ H { s with toks := s.toks + 1 } := I.tok _
    by_cases h7 : (PySem.numSeenOf a).length ≤ 640
    · exact call_int_1 (PySem.W.KIG.gives_seen h7 hn).meets (show (Made.int n).post _ s from ⟨rfl, .int n, H, I.tok _, ⟨_, rfl⟩, q⟩)
    · exact call_int_1 (PySem.W.KIG.meets_big h7 hz hn) ⟨hd.keeps fun b o e => I.bk b o e, typeIs_int _ _ _, .int n, H, I1, ⟨_, rfl⟩, q⟩
theorem call_intM {X : Cx} (hd : X.base.NoDigits) : CallR X (.type "int") rIntM := CallR.or call_int1 (call_intT hd)
theorem sim_int {R : RC} : Sim R .int rIntM := by
  refine simL1 (fun _ _ h => a1_none h) fun m st H d v Q s rd p => ?_
  obtain ⟨b, e1, p⟩ := oneR_some (show PostP R m st H (oneR st (intD d)) Q from p)
  cases rd <;> first | (cases e1; done) | skip
  · cases e1
    exact .inl (.inr ⟨_, rfl, p.here s (.int _)⟩)
  · cases e1
    exact .inl (.inl ⟨_, rfl, p.here s (.int _)⟩)
  · simp only [intD] at e1
    split at e1
    · rename_i hl
      obtain ⟨n, e2, rfl⟩ := map_some e1
      exact .inr ⟨_, n, rfl, e2, by rw [len_str]; exact hl, p.here s (.int _)⟩
    · cases e1
def rStrM : List V → Hp → VK → Prop := fun xs H Q => (∃ i, xs = [.int i] ∧ i.natAbs < tenK ∧ Q (.str (toString i)) H) ∨ ∃ a, xs = [.str a] ∧ Q (.str a) H
section
variable {prog : Program} {w : World} {A : Around} {E : Value → Shared → Prop} {s : Shared} {a : Int} {t : Tok}
open PySem.Builtin.Int PySem.Builtin
theorem int_repr_lt {Q : Value → Shared → Prop} (hn : s.heap.NoDigits) (hl : a.natAbs < 10 ^ 4300) (h1 : Q (.str (toString a) s.toks) { s with toks := s.toks + 1 }) :
    wpAny (model prog w) A (call (.builtin "int.__repr__") [.int a t]) Q E s := by
  refine wpAny_call_entry F.slot_int_repr (typeIs_int s a t) F.entry_int_repr ?_ (F.args_int_repr_1 _)
  unfold Builtin.«int.__repr__»
  show wpAny _ _ (do let r ← Builtin.overDigitLimit? a; _) _ _ s
  exact wpAny_bind (overDigitLimit_any hn (fun hlt => wpAny_bind (wpAny_mkStr (wpAny_pure ⟨_, rfl, h1⟩) (int_text_fits10 hlt))) (fun hge => absurd hl (Nat.not_lt.2 hge)))
theorem strOf_int_lt {Q : Value → Shared → Prop} (hn : s.heap.NoDigits) (hl : a.natAbs < 10 ^ 4300) (h1 : Q (.str (toString a) s.toks) { s with toks := s.toks + 1 }) :
    wpAny (model prog w) A (PySem.Builtin.Str.strOf (.int a t)) Q E s := by
  unfold PySem.Builtin.Str.strOf
  rw [show PySem.Builtin.Str.isExactStr (.int a t) = false from rfl]
  try (have hv : [Value.int a t].any Value.onHeap = false := rfl; simp only [cRoomFor, hv, Bool.false_eq_true, if_false, pure_bind])
  refine wpAny_bind (m := callSpecial? (.int a t) (PySem.Str.ofString "__str__")) (wpAny_callSpecial?_slot (name := PySem.Str.ofString "__str__") (typeIs_int s a t) F.slot_int_str ?_)
  refine wpAny_call_entry F.slot_int_str (typeIs_int s a t) entry_object_str ?_ (args_object_str _)
  unfold Builtin.«object.__str__»
  refine wpAny_bind (m := slotArgs "__str__" 0 _) (wpAny_pure ?_)
  try (have hv : [Value.int a t].any Value.onHeap = false := rfl; simp only [cRoomFor, hv, Bool.false_eq_true, if_false, pure_bind])
  refine wpAny_bind (m := callSpecialIfBound? (.int a t) (PySem.Str.ofString "__repr__")) (wpAny_callSpecialIfBound?_slot (name := PySem.Str.ofString "__repr__") (typeIs_int s a t) F.slot_int_repr
    (int_repr_lt hn hl ?_))
  exact wpAny_pure ⟨_, rfl, wpAny_pure h1⟩
theorem str_of_int_lt {Q : Value → Shared → Prop} (hn : s.heap.NoDigits) (hl : a.natAbs < 10 ^ 4300) (h1 : Q (.str (toString a) s.toks) { s with toks := s.toks + 1 }) :
    wpAny (model prog w) A (call (.type "str") [.int a t]) Q E s :=
  callType_new F.called_str (by decide) (F.typeCall_str_1 _) (F.newCall_str_1 _) (fun obj => F.args_object_init_2 obj _) F.entry_str_new
    (meets_str_new (S := fun A R s => s.heap.NoDigits ∧ R (.ok (.ret (.str (toString a) s.toks))) { s with toks := s.toks + 1 })
      fun _ _ _ _ _ hq => strOf_int_lt hq.1 hl hq.2)
    ⟨hn, typeIs_str _ _ _, h1⟩
end
theorem call_str_intB {X : Cx} (hd : X.base.NoDigits) : CallR X (.type "str") (fun xs H Q => ∃ i, xs = [.int i] ∧ i.natAbs < tenK ∧ Q (.str (toString i)) H) := by
  intro pins s σ H xs us Q I r h
  obtain ⟨i, rfl, hz, q⟩ := h
  obtain ⟨u, rfl, t, rfl⟩ := vals1 r
  exact str_of_int_lt (hd.keeps fun b o e => I.bk b o e) hz ⟨.str _, H, I.tok _, ⟨_, rfl⟩, q⟩
theorem call_strM {X : Cx} (hd : X.base.NoDigits) : CallR X (.type "str") rStrM := CallR.or (call_str_intB hd) SkE.call_str_str
theorem sim_str {R : RC} : Sim R .str rStrM := by
  refine simL1 (fun _ _ h => a1_none h) fun m st H d v Q s rd p => ?_
  obtain ⟨b, e1, p⟩ := oneR_some (show PostP R m st H (oneR st (strD d)) Q from p)
  cases rd <;> first | (cases e1; done) | skip
  · simp only [strD] at e1
    split at e1
    · rename_i hl
      cases e1
      exact .inl ⟨_, rfl, hl, p.here s (.of_str _)⟩
    · cases e1
  · cases e1
    exact .inr ⟨_, rfl, p.here s (.str _)⟩
theorem sim_tuple {R : RC} : Sim R .tuple (fun xs H Q => ∃ p ys, xs = [.ref p] ∧ ((SqL R.K H p ys ∧ ∀ l, H l = none → Q (.ref l) (upd H l (.tup ys))) ∨ (SqT R.K H p ys ∧ Q (.ref p) H))) := by
  refine simL1 (fun _ _ h => a1_none h) fun m st H d v Q s rd p => ?_
  obtain ⟨b, e1, p⟩ := oneR_some (show PostP R m st H (oneR st (tupD st d)) Q from p)
  unfold tupD at e1
  split at e1
  · obtain ⟨a, vs, rfl, ha, ra⟩ := rd.inj_tup
    cases e1
    exact ⟨a, vs, rfl, .inr ⟨ha.sq, p.here s (.tup ha ra)⟩⟩
  · obtain ⟨a, vs, rfl, ha, ra⟩ := rd.inj_ct
    cases e1
    exact ⟨a, vs, rfl, .inr ⟨.inr ha, p.here s (.ct ha ra)⟩⟩
  · obtain ⟨xs, e2, rfl⟩ := map_some e1
    obtain ⟨a, vs, rfl, ha, ra⟩ := listOf_at s rd e2
    refine ⟨a, vs, rfl, .inl ⟨ha, fun q hq => ?_⟩⟩
    exact p.new s hq (.tup ⟨upd_same, s.notLive hq⟩ (Reps.mono (Ext.new hq) _ _ ra))
def rLisM (K : PySem.W.Frag) : List V → Hp → VK → Prop := fun xs H Q => ∃ p ys, xs = [.ref p] ∧ (SqL K H p ys ∨ SqT K H p ys) ∧ ∀ l, H l = none → Q (.ref l) (upd H l (.lst ys))
theorem lisD_seq {st : Sto} {d b : D} (h : lisD st d = some b) : ∃ xs, seqOf st d = some xs ∧ b = .lst xs := by
  unfold lisD at h
  split at h
  · cases h
    exact ⟨_, rfl, rfl⟩
  · cases h
    exact ⟨_, rfl, rfl⟩
  · obtain ⟨xs, e, rfl⟩ := map_some h
    refine ⟨xs, ?_, rfl⟩
    cases d <;> first | (cases e; done) | exact e
theorem simF_list {R : RC} : SimF R .list (rLisM R.K) := by
  intro m st H ds vs Q s rs p
  rcases ds with _ | ⟨x, _ | ⟨y, l⟩⟩
  · exact p.elim
  · obtain ⟨v, rfl, rd⟩ := rs.one
    obtain ⟨b, e1, p⟩ := oneF_some (show PostF R m st H (oneR st (lisD st x)) Q from p)
    obtain ⟨xs, e2, rfl⟩ := lisD_seq e1
    obtain ⟨a, vs, rfl, ha, ra⟩ := seqOf_at s rd e2
    exact ⟨a, vs, rfl, ha, fun q hq => p rfl q vs hq ra⟩
  · exact p.elim
theorem sim_list {R : RC} : Sim R .list (rLisM R.K) := simF_list.sim
section
variable {R : RC} {m : List Addr} {st : Sto} {H : Hp}
theorem bools_rep : ∀ {ds : List D} {vs : List V} {bs : List Bool}, Reps R m st H ds vs → bools ds = some bs → vs = bs.map V.bl
  | [], _, _, .nil, h => by
    cases h
    rfl
  | d :: ds, _, bs, .cons a t, h => by
    cases a <;> first | (cases h; done) | skip
    obtain ⟨cs, e, rfl⟩ := map_some h
    rw [bools_rep t e]
    rfl
theorem chars_rep : ∀ {ds : List D} {vs : List V} {bs : List Chs}, Reps R m st H ds vs → chars ds = some bs → vs = (bs.map fun y => (⟨y.toArray⟩ : Str)).map V.str
  | [], _, _, .nil, h => by
    cases h
    rfl
  | d :: ds, _, bs, .cons a t, h => by
    cases a <;> first | (cases h; done) | skip
    obtain ⟨cs, e, rfl⟩ := map_some h
    rw [chars_rep t e]
    rfl
theorem strs_rep : ∀ ys : List Chs, Reps R m st H (ys.map D.str) ((ys.map fun y => (⟨y.toArray⟩ : Str)).map V.str)
  | [] => .nil
  | y :: ys => .cons (.str y) (strs_rep ys)
end
theorem bind_some {α β : Type} {f : α → Option β} {o : Option α} {b : β} (h : o.bind f = some b) : ∃ a, o = some a ∧ f a = some b := by
  cases o with
  | none => cases h
  | some a => exact ⟨a, rfl, h⟩
theorem sim_all {R : RC} : Sim R .all (rAll R.K) := by
  refine simL1 (fun _ _ h => a1_none h) fun m st H d v Q s rd p => ?_
  obtain ⟨b, e1, p⟩ := boolR_some (show PostP R m st H (boolR st (((listOf st d).bind bools).map fun bs => bs.all id)) Q from p)
  obtain ⟨bs, e2, rfl⟩ := map_some e1
  obtain ⟨xs, e3, e4⟩ := bind_some e2
  obtain ⟨a, vs, rfl, ha, ra⟩ := listOf_at s rd e3
  rw [bools_rep ra e4] at ha
  exact ⟨a, bs, rfl, ha, p.here s (.bl _)⟩
theorem sim_any {R : RC} : Sim R .any (rAny R.K) := by
  refine simL1 (fun _ _ h => a1_none h) fun m st H d v Q s rd p => ?_
  obtain ⟨b, e1, p⟩ := boolR_some (show PostP R m st H (boolR st (((listOf st d).bind bools).map fun bs => bs.any id)) Q from p)
  obtain ⟨bs, e2, rfl⟩ := map_some e1
  obtain ⟨xs, e3, e4⟩ := bind_some e2
  obtain ⟨a, vs, rfl, ha, ra⟩ := listOf_at s rd e3
  rw [bools_rep ra e4] at ha
  exact ⟨a, bs, rfl, ha, p.here s (.bl _)⟩
/-! ### isinstance -/
def tyN : Ty → Option String
  | .int => some "int"
  | .bool => some "bool"
  | .str => some "str"
  | .tuple => some "tuple"
  | .list => some "list"
  | _ => none
section
variable {R : RC} {m : List Addr} {st : Sto} {H : Hp}
def kdN : Kd → String
  | .non => "NoneType"
  | .bool => "bool"
  | .int => "int"
  | .str => "str"
  | .tuple => "tuple"
  | .list => "list"
  | .dict => "dict"
theorem kitB_of (k : Kd) (t : Ty) (n : String) (h : tyN t = some n) : kitB (kdN k) n = some (isK k t) := by
  cases k <;> cases t <;> first | (cases h; done) | (cases h; decide +kernel)
theorem ty_of {d : D} {v : V} {t : Ty} {n : String} {b : Bool} (s : SR R m st H) (r : Rep R m st H d v) (hn : tyN t = some n) (h : isiD st [t] d = some b) : ∃ tv, TyX R.K H v tv ∧ PySem.W.kitOne R.K tv (.type n) = some b := by
  have fin : ∀ k : Kd, kindD d = k → some ([t].any (isK (kindD d))) = some b → PySem.W.kitOne R.K (.type (kdN k)) (.type n) = some b := fun k e z => by
    rw [e] at z
    simp only [List.any_cons, List.any_nil, Bool.or_false, Option.some.injEq] at z
    rw [← z]
    exact kit_ty (kitB_of k t n hn)
  cases r with
  | non => exact ⟨_, .base .non, fin .non rfl h⟩
  | bl x => exact ⟨_, .base (.bl _), fin .bool rfl h⟩
  | int x => exact ⟨_, .base (.int _), fin .int rfl h⟩
  | str x => exact ⟨_, .base (.str _), fin .str rfl h⟩
  | @tup a vs xs h1 h2 =>
    refine ⟨.type "tuple", ?_, fin .tuple rfl h⟩
    exact .base (.tup h1.1)
  | @ct a vs xs h1 h2 =>
    obtain ⟨o, its, k, h1, h2, _⟩ := h1
    exact ⟨.type "tuple", .kTuple h1 h2, fin .tuple rfl h⟩
  | @lst a vs xs h1 h2 h3 => exact ⟨_, .base (.lst h1), fin .list rfl h⟩
  | @ro a vs xs h1 h2 =>
    refine ⟨.type "list", ?_, fin .list rfl h⟩
    rcases h1 with ⟨(h1 | ⟨o, h1⟩), _⟩ | ⟨o, its, k, h1, h2, _⟩
    · exact .base (.lst h1)
    · exact .base (.frz h1)
    · exact .kList h1 h2
  | @ref a k h1 =>
    simp only [isiD] at h
    split at h
    · rename_i xs e1
      obtain ⟨vs, h2, h3⟩ := s.lst k a xs h1 e1
      exact ⟨_, .base (.lst h2), fin .list rfl h⟩
    · cases h
  | fn => cases h
  | dic => cases h
end
def rIsM (K : PySem.W.Frag) (n : String) : V → Hp → VK → Prop := fun v H Q => ∃ tv b, TyX K H v tv ∧ PySem.W.kitOne K tv (.type n) = some b ∧ Q (.bl b) H
theorem sim_isi {R : RC} {t : Ty} {n : String} (hn : tyN t = some n) : Sim R (.isi [t]) (l1 (rIsM R.K n)) := by
  refine sim1 (fun _ _ h => a1_none h) fun m st H d v Q s rd p => ?_
  obtain ⟨b, e1, p⟩ := boolR_some (show PostP R m st H (boolR st (isiD st [t] d)) Q from p)
  obtain ⟨tv, h1, h2⟩ := ty_of s rd hn e1
  exact ⟨tv, b, h1, h2, p.here s (.bl _)⟩
end Mini
end
section
set_option linter.all false
set_option autoImplicit false
set_option maxRecDepth 100000
set_option maxHeartbeats 1000000
/-! The primitives: repr, methods. -/
namespace Mini
open PySem PySem.Spec PyProof.Rows L2
section
variable {st : Sto}
theorem mapM_cons_some {α β : Type} {f : α → Option β} {x : α} {xs : List α} {ps : List β} (h : (x :: xs).mapM f = some ps) : ∃ p qs, f x = some p ∧ xs.mapM f = some qs ∧ ps = p :: qs := by
  rw [List.mapM_cons] at h
  cases e : f x with
  | none =>
    rw [e] at h
    cases h
  | some p =>
    cases e2 : xs.mapM f with
    | none =>
      rw [e, e2] at h
      cases h
    | some q =>
      rw [e, e2] at h
      cases h
      exact ⟨p, q, rfl, rfl, rfl⟩
theorem toPD_alls (n : Nat) (f : ∀ d p, toPD st n d = some p → p.depth ≤ n ∧ p.hasDict = false) : ∀ (xs : List D) (ps : List PyData), xs.mapM (toPD st n) = some ps → PyData.depthAll ps ≤ n ∧ PyData.hasDictAll ps = false
  | [], ps, h => by
    simp at h
    subst h
    exact ⟨by simp [PyData.depthAll], by simp [PyData.hasDictAll]⟩
  | x :: xs, ps, h => by
    obtain ⟨p, qs, h1, h2, rfl⟩ := mapM_cons_some h
    obtain ⟨a, b⟩ := f x p h1
    obtain ⟨c, d⟩ := toPD_alls n f xs qs h2
    refine ⟨?_, by simp [PyData.hasDictAll, b, d]⟩
    simp only [PyData.depthAll]
    omega
theorem toPD_ok : ∀ (n : Nat) (d : D) (p : PyData), toPD st n d = some p → p.depth ≤ n ∧ p.hasDict = false
  | 0, _, _, h => by cases h
  | n + 1, d, p, h => by
    have tu : ∀ (xs : List D), (xs.mapM (toPD st n)).map PyData.tuple = some p → p.depth ≤ n + 1 ∧ p.hasDict = false := fun xs e => by
      obtain ⟨ps, e1, rfl⟩ := map_some e
      obtain ⟨a, b⟩ := toPD_alls n (toPD_ok n) xs ps e1
      exact ⟨by simp only [PyData.depth]; omega, by simp only [PyData.hasDict]; exact b⟩
    have li : ∀ (xs : List D), (xs.mapM (toPD st n)).map PyData.list = some p → p.depth ≤ n + 1 ∧ p.hasDict = false := fun xs e => by
      obtain ⟨ps, e1, rfl⟩ := map_some e
      obtain ⟨a, b⟩ := toPD_alls n (toPD_ok n) xs ps e1
      exact ⟨by simp only [PyData.depth]; omega, by simp only [PyData.hasDict]; exact b⟩
    cases d with
    | tup xs => exact tu xs h
    | lst xs => exact li xs h
    | ro xs => exact li xs h
    | ref k =>
      simp only [toPD] at h
      split at h
      · exact li _ h
      · cases h
    | fn i => cases h
    | dic t ks vs => cases h
    | ct xs => exact tu xs h
    | non =>
      cases h
      exact ⟨by simp [PyData.depth], by simp [PyData.hasDict]⟩
    | bl b =>
      cases h
      exact ⟨by simp [PyData.depth], by simp [PyData.hasDict]⟩
    | int i =>
      cases h
      exact ⟨by simp [PyData.depth], by simp [PyData.hasDict]⟩
    | str x =>
      cases h
      exact ⟨by simp [PyData.depth], by simp [PyData.hasDict]⟩
end
def rReprM (K : PySem.W.Frag) : V → Hp → VK → Prop := fun x H Q => ∃ d, Dp K H x d ∧ d.depth ≤ 65 ∧ d.hasDict = false ∧ d.showable = true ∧ d.shown.length ≤ sizeLine ∧ Q (.str d.shown) H
theorem call_reprM {X : Cx} (hg : X.A.guards = some []) (hu : X.A.units + 100 < cLine) : CallR X (.builtin "repr") (l1 (rReprM X.K)) := by
  intro pins s σ H xs us Q I r h
  obtain ⟨x, rfl, d, hd, dep, nd, sh, hz, q⟩ := h
  obtain ⟨u, rfl, ru⟩ := vals1 r
  have big : ∀ (a : Addr), RelV x (.ref a) → wpAny (model X.prog X.w) X.A (call (.builtin "repr") [.ref a]) (EP X pins σ Q) X.xe s := fun a ra => by
    obtain ⟨as, rd⟩ := Dp.reads I d x _ hd ra
    refine repr_of_reads' rd sh (fun z => ?_) hg (by omega) (fun b o e => e) (fun h' u tk hk => ?_) hz
    · rw [nd] at z
      cases z
    · exact ⟨.str _, H, I.kept (t' := tk) hk, ⟨_, rfl⟩, q⟩
  cases hd with
  | non =>
    cases ru
    exact PySem.P.repr_of_none ⟨.str _, H, I.tok _, ⟨_, rfl⟩, q⟩
  | bl b =>
    cases ru
    refine PySem.P.repr_of_bool ⟨.str _, H, I.tok _, ⟨_, rfl⟩, ?_⟩
    have e : PyData.shown (.bool b) = (if b then "True" else "False" : Str) := by
      cases b <;> rfl
    rw [← e]
    exact q
  | int i =>
    obtain ⟨t, rfl⟩ := ru
    refine PySem.P.repr_of_int (by simpa [PyData.showable] using sh) ⟨.str _, H, I.tok _, ⟨_, rfl⟩, ?_⟩
    exact q
  | str z =>
    obtain ⟨t, rfl⟩ := ru
    exact PySem.P.repr_of_str ⟨.str _, H, I.tok _, ⟨_, rfl⟩, q⟩ hz
  | lst h1 h2 =>
    cases ru
    exact big _ rfl
  | tup h1 h2 =>
    cases ru
    exact big _ rfl
theorem sim_repr {R : RC} : Sim R .repr (l1 (rReprM R.K)) := by
  refine sim1 (fun _ _ h => a1_none h) fun m st H d v Q s rd p => ?_
  obtain ⟨b, e1, p⟩ := oneR_some (show PostP R m st H (oneR st (reprD st d)) Q from p)
  unfold reprD at e1
  split at e1
  · rename_i a e2
    split at e1
    · rename_i c
      simp only [Bool.and_eq_true, decide_eq_true_eq] at c
      cases e1
      obtain ⟨h1, h2⟩ := toPD_ok 65 d a e2
      exact ⟨a, dp_of s 65 d v a rd e2, h1, h2, c.1, c.2, p.here s (.of_str _)⟩
    · cases e1
  · cases e1
/-! ### methods: receiver first -/
def lm (r : V → List V → Hp → VK → Prop) : List V → Hp → VK → Prop := fun vs H Q => ∃ x xs, vs = x :: xs ∧ r x xs H Q
theorem PostP.set {R : RC} {m : List Addr} {st : Sto} {H : Hp} {Q : VK} {d : D} {v : V} {n : Nat} {a : Addr} {xs ys : List D} {ws : List V} (s : SR R m st H) (p : PostP R m st H (some (d, st.set n (.lst ys))) Q) (e : m[n]? = some a)
    (q : st[n]? = some (.lst xs)) (r : Reps R m st H ys ws) (rd : Rep R m st H d v) : Q v (upd H a (.lst ws)) :=
  p m _ v (Ext.set e q (by simp)) (s.set e q (by simp) r) (Rep.mono (Ext.set e q (by simp)) _ _ rd)
theorem rep_ref {R : RC} {m : List Addr} {st : Sto} {H : Hp} {n : Nat} {v : V} (r : Rep R m st H (.ref n) v) : ∃ a, v = .ref a ∧ m[n]? = some a := by
  cases r with
  | ref h => exact ⟨_, rfl, h⟩
theorem sim_append {R : RC} : Sim R .append (lm rAppend) := by
  intro m st H ds vs Q s rs p
  rcases ds with _ | ⟨x, _ | ⟨y, _ | ⟨z, l⟩⟩⟩
  · exact p.elim
  · cases x <;> exact p.elim
  · obtain ⟨v, w, rfl, rv, rw'⟩ := rs.two
    cases x <;> first | exact p.elim | skip
    rename_i n
    obtain ⟨a, rfl, ha⟩ := rep_ref rv
    simp only [prim, a2_2, appendD] at p
    split at p
    · rename_i xs e1
      obtain ⟨c, p⟩ := guardR_some p
      have c := of_decide_eq_true c
      obtain ⟨us, h1, h2⟩ := s.lst n a xs ha e1
      refine ⟨.ref a, [w], rfl, a, us, w, rfl, rfl, h1, by rw [← h2.length]; exact c, ?_⟩
      exact p.set s ha e1 (h2.append (.cons rw' .nil)) .non
    · exact p.elim
  · cases x <;> exact p.elim
theorem sim_pop {R : RC} : Sim R .pop (lm rPop) := by
  intro m st H ds vs Q s rs p
  rcases ds with _ | ⟨x, _ | ⟨y, l⟩⟩
  · exact p.elim
  · obtain ⟨v, rfl, rv⟩ := rs.one
    cases x <;> first | exact p.elim | skip
    rename_i n
    obtain ⟨a, rfl, ha⟩ := rep_ref rv
    simp only [prim, a1_1, popD] at p
    split at p
    · rename_i xs e1
      split at p
      · rename_i y e2
        obtain ⟨us, h1, h2⟩ := s.lst n a xs ha e1
        obtain ⟨w, h3, h4⟩ := h2.get e2
        refine ⟨.ref a, [], rfl, a, us, w, rfl, rfl, h1, by rw [← h2.length]; exact h3, ?_⟩
        exact p.set s ha e1 h2.dropLast h4
      · exact p.elim
    · exact p.elim
  · cases x <;> exact p.elim
theorem sim_extend {R : RC} : Sim R .extend (lm rExtend) := by
  intro m st H ds vs Q s rs p
  rcases ds with _ | ⟨x, _ | ⟨y, _ | ⟨z, l⟩⟩⟩
  · exact p.elim
  · cases x <;> exact p.elim
  · obtain ⟨v, w, rfl, rv, rw'⟩ := rs.two
    cases x <;> first | exact p.elim | skip
    rename_i n
    obtain ⟨a, rfl, ha⟩ := rep_ref rv
    simp only [prim, a2_2, extendD] at p
    split at p
    · rename_i xs e1
      split at p
      · exact p.elim
      rename_i nr0
      have nr : ∀ ys, y ≠ .ro ys := fun ys z => nr0 (by rw [z]; rfl)
      split at p
      · rename_i ys e2
        obtain ⟨c, p⟩ := guardR_some p
        have c := of_decide_eq_true c
        obtain ⟨us, h1, h2⟩ := s.lst n a xs ha e1
        obtain ⟨b, ws, rfl, hb, rb⟩ := listOf_trk s rw' e2 nr
        refine ⟨.ref a, [.ref b], rfl, a, b, us, ws, rfl, rfl, h1, hb, by rw [← h2.length, ← rb.length]; exact c, ?_⟩
        exact p.set s ha e1 (h2.append rb) .non
      · exact p.elim
    · exact p.elim
  · cases x <;> exact p.elim
def rSplitM : V → List V → Hp → VK → Prop := fun x xs H Q => ∃ a b, x = .str a ∧ xs = [.str b] ∧ (b.length == 0) = false ∧ a.length + 2 ≤ sizeLine ∧ rNewStrs (Txt.split a b) H Q
theorem len0 {b : Chs} (h : b.isEmpty = false) : ((⟨b.toArray⟩ : Str).length == 0) = false := by
  rw [len_str]
  cases b with
  | nil => cases h
  | cons x l => rfl
theorem strs_of {R : RC} {m : List Addr} {st : Sto} {H : Hp} : ∀ ys : List Str, Reps R m st H ((ys.map (·.cps.toList)).map D.str) (ys.map V.str)
  | [] => .nil
  | y :: ys => .cons (.of_str y) (strs_of ys)
theorem simF_split {R : RC} : SimF R .split (lm rSplitM) := by
  intro m st H ds vs Q s rs p
  rcases ds with _ | ⟨x, _ | ⟨y, _ | ⟨z, l⟩⟩⟩
  · exact p.elim
  · cases x <;> exact p.elim
  · obtain ⟨v, w, rfl, rv, rw'⟩ := rs.two
    cases rv <;> first | exact p.elim | skip
    cases rw' <;> first | exact p.elim | skip
    obtain ⟨c, p⟩ := guardF_some p
    simp only [Bool.and_eq_true, Bool.not_eq_true', decide_eq_true_eq] at c
    refine ⟨_, _, rfl, _, _, rfl, rfl, len0 c.1, by rw [len_str]; exact c.2, fun q hq => ?_⟩
    exact p rfl q _ hq (strs_of _)
  · cases x <;> first | exact p.elim | (cases y <;> exact p.elim)
theorem sim_split {R : RC} : Sim R .split (lm rSplitM) := simF_split.sim
def rPartM : V → List V → Hp → VK → Prop := fun x xs H Q => ∃ a b, x = .str a ∧ xs = [.str b] ∧ (b.length == 0) = false ∧ a.length ≤ sizeLine ∧
    ∀ p, H p = none → Q (.ref p) (upd H p (.tup [.str (Txt.partition a b).1, .str (Txt.partition a b).2.1, .str (Txt.partition a b).2.2]))
theorem sim_partition {R : RC} : Sim R .partition (lm rPartM) := by
  intro m st H ds vs Q s rs p
  rcases ds with _ | ⟨x, _ | ⟨y, _ | ⟨z, l⟩⟩⟩
  · exact p.elim
  · cases x <;> exact p.elim
  · obtain ⟨v, w, rfl, rv, rw'⟩ := rs.two
    cases rv <;> first | exact p.elim | skip
    cases rw' <;> first | exact p.elim | skip
    obtain ⟨c, p⟩ := guardR_some p
    simp only [Bool.and_eq_true, Bool.not_eq_true', decide_eq_true_eq] at c
    refine ⟨_, _, rfl, _, _, rfl, rfl, len0 c.1, by rw [len_str]; exact c.2, fun q hq => ?_⟩
    exact p.new s hq (.tup ⟨upd_same, s.notLive hq⟩ (.cons (.of_str _) (.cons (.of_str _) (.cons (.of_str _) .nil))))
  · cases x <;> first | exact p.elim | (cases y <;> exact p.elim)
def rJoinM (K : PySem.W.Frag) : V → List V → Hp → VK → Prop := fun x xs H Q => ∃ a p, ∃ ys : List Str, x = .str a ∧ xs = [.ref p] ∧ (SqL K H p (ys.map V.str) ∨ SqT K H p (ys.map V.str)) ∧
    (ys.map (·.length)).sum + ys.length * a.length ≤ 16777216 ∧ Q (.str (Txt.join a ys)) H
theorem lens_of : ∀ ys : List Chs, ((ys.map fun y => (⟨y.toArray⟩ : Str)).map (·.length)).sum = (ys.map (·.length)).sum
  | [] => rfl
  | y :: ys => by
    simp only [List.map_cons, List.sum_cons]
    rw [lens_of ys, len_str]
theorem sim_join {R : RC} : Sim R .join (lm (rJoinM R.K)) := by
  intro m st H ds vs Q s rs p
  rcases ds with _ | ⟨x, _ | ⟨y, _ | ⟨z, l⟩⟩⟩
  · exact p.elim
  · cases x <;> exact p.elim
  · obtain ⟨v, w, rfl, rv, rw'⟩ := rs.two
    cases rv <;> first | exact p.elim | skip
    rename_i a
    simp only [prim, a2_2, joinD] at p
    split at p
    · rename_i ys e1
      obtain ⟨xs, e2, e3⟩ := bind_some e1
      obtain ⟨c, p⟩ := guardR_some p
      have c := of_decide_eq_true c
      have len : (ys.map fun y => (⟨y.toArray⟩ : Str)).length = ys.length := List.length_map _
      have fin : ∀ b : Addr, w = .ref b → (SqL R.K H b ((ys.map fun y => (⟨y.toArray⟩ : Str)).map V.str) ∨ SqT R.K H b ((ys.map fun y => (⟨y.toArray⟩ : Str)).map V.str)) → lm (rJoinM R.K) [.str ⟨a.toArray⟩, w] H Q := fun b eb hb => by
        subst eb
        refine ⟨_, _, rfl, _, b, _, rfl, rfl, hb, by rw [lens_of, len, len_str]; exact c, ?_⟩
        exact p.here s (.of_str _)
      obtain ⟨b, us, rfl, ha, ra⟩ := seqOf_at s rw' e2
      rw [chars_rep ra e3] at ha
      exact fin b rfl ha
    · exact p.elim
  · cases x <;> first | exact p.elim | (cases y <;> exact p.elim)
end Mini
end
section
set_option linter.all false
set_option autoImplicit false
set_option maxRecDepth 100000
set_option maxHeartbeats 1000000
/-! Readings that tell what the small language's functions give. -/
namespace Mini
open PySem PySem.Spec PyProof.Rows L2
def ER (R : RC) (m : List Addr) (st : Sto) (H : Hp) (σ : L2.St) (env : Env) : Prop := env.length = σ.length ∧ ∀ (i : Nat) (d : D), env[i]? = some (some d) → ∃ v : V, σ[i]? = some (some v) ∧ Rep R m st H d v
theorem ER.mono {R : RC} {m m' : List Addr} {st st' : Sto} {H H' : Hp} {σ : L2.St} {env : Env} (e : ER R m st H σ env) (x : Ext m st H m' st' H') : ER R m' st' H' σ env :=
  ⟨e.1, fun i d h => let ⟨v, h1, h2⟩ := e.2 i d h; ⟨v, h1, Rep.mono x _ _ h2⟩⟩
def tE (R : RC) (W : WX) (f : Env → Sto → Res D) : TE := fun σ H Q => ∃ hd m env st, SR (R.w hd) m st H ∧ ER (R.w hd) m st H σ env ∧ Post (R.w hd) m st H (f env st) Q (fun c dd H' => W c dd σ H')
def tT (R : RC) (W : WX) (f : Env → Sto → Res Bool) : TT := fun σ H Q => ∃ hd m env st, SR (R.w hd) m st H ∧ ER (R.w hd) m st H σ env ∧ PostT (R.w hd) m st H (f env st) Q (fun c dd H' => W c dd σ H')
def tA (R : RC) (W : WX) (f : Env → Sto → Res (List D)) : TA := fun σ H Q => ∃ hd m env st, SR (R.w hd) m st H ∧ ER (R.w hd) m st H σ env ∧ PostL (R.w hd) m st H (f env st) Q (fun c dd H' => W c dd σ H')
theorem PE.imp {X : Cx} {e : Expr} {t t' : TE} (h : PE X e t) (i : ∀ σ H Q, t' σ H Q → t σ H Q) : PE X e t' := ⟨fun pins s σ H Q I q => h.run pins s σ H Q I (i σ H Q q)⟩
theorem PT.imp {X : Cx} {e : Expr} {t t' : TT} (h : PT X e t) (i : ∀ σ H Q, t' σ H Q → t σ H Q) : PT X e t' := ⟨fun pins s σ H Q I q => h.run pins s σ H Q I (i σ H Q q)⟩
theorem PW.imp {X : Cx} {e : Expr} {t t' : TT} (h : PW X e t) (i : ∀ σ H Q, t' σ H Q → t σ H Q) : PW X e t' := ⟨fun w pins s σ H Q I q => h.run w pins s σ H Q I (i σ H Q q)⟩
theorem PA.imp {X : Cx} {e : List Expr} {t t' : TA} (h : PA X e t) (i : ∀ σ H Q, t' σ H Q → t σ H Q) : PA X e t' := ⟨fun pos pins s σ H Q I q => h.run pos pins s σ H Q I (i σ H Q q)⟩
section
variable {R : RC} {W : WX} {m : List Addr} {st : Sto} {H : Hp} {σ : L2.St} {env : Env} {E : XK}
/-- one after the other -/
theorem tE_seq {α : Type} {P : List Addr → Sto → Hp → Res α → Prop} {hd : List Addr} {f : Env → Sto → Res D} {k : D → Sto → Res α} {C : VK} (s : SR (R.w hd) m st H) (er : ER (R.w hd) m st H σ env)
    (hb : ¬ P m st H .bad) (hx : ∀ x st1, P m st H (.exc x st1) → ∀ m' H' c dd, Ext m st H m' st1 H' → SR (R.w hd) m' st1 H' → XRep (R.w hd) m' st1 H' x c dd → W c dd σ H')
    (hs : ∀ r m1 st1 H1, Ext m st H m1 st1 H1 → P m st H r → P m1 st1 H1 r) (p : P m st H ((f env st).bnd k))
    (hk : ∀ d st1 m1 H1 v, Ext m st H m1 st1 H1 → SR (R.w hd) m1 st1 H1 → ER (R.w hd) m1 st1 H1 σ env → Rep (R.w hd) m1 st1 H1 d v → P m1 st1 H1 (k d st1) → C v H1) : tE R W f σ H C := by
  refine ⟨hd, m, env, st, s, er, ?_⟩
  cases e : f env st with
  | ok d st1 =>
    rw [e] at p
    exact fun m1 H1 v x s1 r1 => hk d st1 m1 H1 v x s1 (er.mono x) r1 (hs _ _ _ _ x p)
  | exc x st1 =>
    rw [e] at p
    exact hx x st1 p
  | bad =>
    rw [e] at p
    exact (hb p).elim
theorem seqE {hd : List Addr} {f : Env → Sto → Res D} {k : D → Sto → Res D} {C Q : VK} (s : SR (R.w hd) m st H) (er : ER (R.w hd) m st H σ env) (p : Post (R.w hd) m st H ((f env st).bnd k) Q (fun c dd H' => W c dd σ H'))
    (hk : ∀ d st1 m1 H1 v, Ext m st H m1 st1 H1 → SR (R.w hd) m1 st1 H1 → ER (R.w hd) m1 st1 H1 σ env → Rep (R.w hd) m1 st1 H1 d v → Post (R.w hd) m1 st1 H1 (k d st1) Q (fun c dd H' => W c dd σ H') → C v H1) : tE R W f σ H C :=
  tE_seq (P := fun m st H r => Post (R.w hd) m st H r Q (fun c dd H' => W c dd σ H')) s er (fun h => h) (fun _ _ h => h) (fun _ _ _ _ x h => h.shift x) p hk
theorem seqL {hd : List Addr} {f : Env → Sto → Res D} {k : D → Sto → Res (List D)} {C : VK} {Q : List V → Hp → Prop} (s : SR (R.w hd) m st H) (er : ER (R.w hd) m st H σ env) (p : PostL (R.w hd) m st H ((f env st).bnd k) Q (fun c dd H' => W c dd σ H'))
    (hk : ∀ d st1 m1 H1 v, Ext m st H m1 st1 H1 → SR (R.w hd) m1 st1 H1 → ER (R.w hd) m1 st1 H1 σ env → Rep (R.w hd) m1 st1 H1 d v → PostL (R.w hd) m1 st1 H1 (k d st1) Q (fun c dd H' => W c dd σ H') → C v H1) : tE R W f σ H C :=
  tE_seq (P := fun m st H r => PostL (R.w hd) m st H r Q (fun c dd H' => W c dd σ H')) s er (fun h => h) (fun _ _ h => h) (fun _ _ _ _ x h => h.shift x) p hk
theorem seqT {hd : List Addr} {f : Env → Sto → Res D} {k : D → Sto → Res Bool} {C : VK} {Q : Bool → Hp → Prop} (s : SR (R.w hd) m st H) (er : ER (R.w hd) m st H σ env) (p : PostT (R.w hd) m st H ((f env st).bnd k) Q (fun c dd H' => W c dd σ H'))
    (hk : ∀ d st1 m1 H1 v, Ext m st H m1 st1 H1 → SR (R.w hd) m1 st1 H1 → ER (R.w hd) m1 st1 H1 σ env → Rep (R.w hd) m1 st1 H1 d v → PostT (R.w hd) m1 st1 H1 (k d st1) Q (fun c dd H' => W c dd σ H') → C v H1) : tE R W f σ H C :=
  tE_seq (P := fun m st H r => PostT (R.w hd) m st H r Q (fun c dd H' => W c dd σ H')) s er (fun h => h) (fun _ _ h => h) (fun _ _ _ _ x h => h.shift x) p hk
/-- .. behind an argument list -/
theorem tA_seq {α : Type} {P : List Addr → Sto → Hp → Res α → Prop} {hd : List Addr} {f : Env → Sto → Res (List D)} {k : List D → Sto → Res α} {C : List V → Hp → Prop} (s : SR (R.w hd) m st H) (er : ER (R.w hd) m st H σ env)
    (hb : ¬ P m st H .bad) (hx : ∀ x st1, P m st H (.exc x st1) → ∀ m' H' c dd, Ext m st H m' st1 H' → SR (R.w hd) m' st1 H' → XRep (R.w hd) m' st1 H' x c dd → W c dd σ H')
    (hs : ∀ r m1 st1 H1, Ext m st H m1 st1 H1 → P m st H r → P m1 st1 H1 r) (p : P m st H ((f env st).bnd k))
    (hk : ∀ d st1 m1 H1 v, Ext m st H m1 st1 H1 → SR (R.w hd) m1 st1 H1 → ER (R.w hd) m1 st1 H1 σ env → Reps (R.w hd) m1 st1 H1 d v → P m1 st1 H1 (k d st1) → C v H1) : tA R W f σ H C := by
  refine ⟨hd, m, env, st, s, er, ?_⟩
  cases e : f env st with
  | ok d st1 =>
    rw [e] at p
    exact fun m1 H1 v x s1 r1 => hk d st1 m1 H1 v x s1 (er.mono x) r1 (hs _ _ _ _ x p)
  | exc x st1 =>
    rw [e] at p
    exact hx x st1 p
  | bad =>
    rw [e] at p
    exact (hb p).elim
theorem aseqE {hd : List Addr} {f : Env → Sto → Res (List D)} {k : List D → Sto → Res D} {C : List V → Hp → Prop} {Q : VK} (s : SR (R.w hd) m st H) (er : ER (R.w hd) m st H σ env) (p : Post (R.w hd) m st H ((f env st).bnd k) Q (fun c dd H' => W c dd σ H'))
    (hk : ∀ d st1 m1 H1 v, Ext m st H m1 st1 H1 → SR (R.w hd) m1 st1 H1 → ER (R.w hd) m1 st1 H1 σ env → Reps (R.w hd) m1 st1 H1 d v → Post (R.w hd) m1 st1 H1 (k d st1) Q (fun c dd H' => W c dd σ H') → C v H1) : tA R W f σ H C :=
  tA_seq (P := fun m st H r => Post (R.w hd) m st H r Q (fun c dd H' => W c dd σ H')) s er (fun h => h) (fun _ _ h => h) (fun _ _ _ _ x h => h.shift x) p hk
theorem aseqL {hd : List Addr} {f : Env → Sto → Res (List D)} {k : List D → Sto → Res (List D)} {C : List V → Hp → Prop} {Q : List V → Hp → Prop} (s : SR (R.w hd) m st H) (er : ER (R.w hd) m st H σ env) (p : PostL (R.w hd) m st H ((f env st).bnd k) Q (fun c dd H' => W c dd σ H'))
    (hk : ∀ d st1 m1 H1 v, Ext m st H m1 st1 H1 → SR (R.w hd) m1 st1 H1 → ER (R.w hd) m1 st1 H1 σ env → Reps (R.w hd) m1 st1 H1 d v → PostL (R.w hd) m1 st1 H1 (k d st1) Q (fun c dd H' => W c dd σ H') → C v H1) : tA R W f σ H C :=
  tA_seq (P := fun m st H r => PostL (R.w hd) m st H r Q (fun c dd H' => W c dd σ H')) s er (fun h => h) (fun _ _ h => h) (fun _ _ _ _ x h => h.shift x) p hk
theorem aseqT {hd : List Addr} {f : Env → Sto → Res (List D)} {k : List D → Sto → Res Bool} {C : List V → Hp → Prop} {Q : Bool → Hp → Prop} (s : SR (R.w hd) m st H) (er : ER (R.w hd) m st H σ env) (p : PostT (R.w hd) m st H ((f env st).bnd k) Q (fun c dd H' => W c dd σ H'))
    (hk : ∀ d st1 m1 H1 v, Ext m st H m1 st1 H1 → SR (R.w hd) m1 st1 H1 → ER (R.w hd) m1 st1 H1 σ env → Reps (R.w hd) m1 st1 H1 d v → PostT (R.w hd) m1 st1 H1 (k d st1) Q (fun c dd H' => W c dd σ H') → C v H1) : tA R W f σ H C :=
  tA_seq (P := fun m st H r => PostT (R.w hd) m st H r Q (fun c dd H' => W c dd σ H')) s er (fun h => h) (fun _ _ h => h) (fun _ _ _ _ x h => h.shift x) p hk
/-- .. behind a test -/
theorem tT_seq {α : Type} {P : List Addr → Sto → Hp → Res α → Prop} {hd : List Addr} {f : Env → Sto → Res Bool} {k : Bool → Sto → Res α} {C : Bool → Hp → Prop} (s : SR (R.w hd) m st H) (er : ER (R.w hd) m st H σ env)
    (hb : ¬ P m st H .bad) (hx : ∀ x st1, P m st H (.exc x st1) → ∀ m' H' c dd, Ext m st H m' st1 H' → SR (R.w hd) m' st1 H' → XRep (R.w hd) m' st1 H' x c dd → W c dd σ H')
    (hs : ∀ r m1 st1 H1, Ext m st H m1 st1 H1 → P m st H r → P m1 st1 H1 r) (p : P m st H ((f env st).bnd k))
    (hk : ∀ d st1 m1 H1, Ext m st H m1 st1 H1 → SR (R.w hd) m1 st1 H1 → ER (R.w hd) m1 st1 H1 σ env → P m1 st1 H1 (k d st1) → C d H1) : tT R W f σ H C := by
  refine ⟨hd, m, env, st, s, er, ?_⟩
  cases e : f env st with
  | ok d st1 =>
    rw [e] at p
    exact fun m1 H1 x s1 => hk d st1 m1 H1 x s1 (er.mono x) (hs _ _ _ _ x p)
  | exc x st1 =>
    rw [e] at p
    exact hx x st1 p
  | bad =>
    rw [e] at p
    exact (hb p).elim
theorem tseqE {hd : List Addr} {f : Env → Sto → Res Bool} {k : Bool → Sto → Res D} {C : Bool → Hp → Prop} {Q : VK} (s : SR (R.w hd) m st H) (er : ER (R.w hd) m st H σ env) (p : Post (R.w hd) m st H ((f env st).bnd k) Q (fun c dd H' => W c dd σ H'))
    (hk : ∀ d st1 m1 H1, Ext m st H m1 st1 H1 → SR (R.w hd) m1 st1 H1 → ER (R.w hd) m1 st1 H1 σ env → Post (R.w hd) m1 st1 H1 (k d st1) Q (fun c dd H' => W c dd σ H') → C d H1) : tT R W f σ H C :=
  tT_seq (P := fun m st H r => Post (R.w hd) m st H r Q (fun c dd H' => W c dd σ H')) s er (fun h => h) (fun _ _ h => h) (fun _ _ _ _ x h => h.shift x) p hk
theorem tseqT {hd : List Addr} {f : Env → Sto → Res Bool} {k : Bool → Sto → Res Bool} {C : Bool → Hp → Prop} {Q : Bool → Hp → Prop} (s : SR (R.w hd) m st H) (er : ER (R.w hd) m st H σ env) (p : PostT (R.w hd) m st H ((f env st).bnd k) Q (fun c dd H' => W c dd σ H'))
    (hk : ∀ d st1 m1 H1, Ext m st H m1 st1 H1 → SR (R.w hd) m1 st1 H1 → ER (R.w hd) m1 st1 H1 σ env → PostT (R.w hd) m1 st1 H1 (k d st1) Q (fun c dd H' => W c dd σ H') → C d H1) : tT R W f σ H C :=
  tT_seq (P := fun m st H r => PostT (R.w hd) m st H r Q (fun c dd H' => W c dd σ H')) s er (fun h => h) (fun _ _ h => h) (fun _ _ _ _ x h => h.shift x) p hk
theorem Post.here {d : D} {v : V} {Q : VK} (s : SR R m st H) (p : Post R m st H (.ok d st) Q E) (r : Rep R m st H d v) : Q v H := p m H v Ext.refl s r
theorem Post.liftP {r : Pm} {Q : VK} (p : Post R m st H (liftP r) Q E) : PostP R m st H r Q := by
  cases r with
  | none => exact p
  | some x => exact p
theorem Post.unliftP {r : Pm} {Q : VK} (p : PostP R m st H r Q) : Post R m st H (Mini.liftP r) Q E := by
  cases r with
  | none => exact p
  | some x => exact p
/-- behind a primitive: a test -/
theorem seqP {p : Pr} {r : List V → Hp → VK → Prop} {ds : List D} {vs : List V} {k : D → Sto → Res Bool} {Q : Bool → Hp → Prop} {C : VK} (sm : Sim R p r) (s : SR R m st H) (rs : Reps R m st H ds vs)
    (q : PostT R m st H ((liftP (prim p ds st)).bnd k) Q E) (hk : ∀ d st1 m1 H1 v, Ext m st H m1 st1 H1 → SR R m1 st1 H1 → Rep R m1 st1 H1 d v → PostT R m1 st1 H1 (k d st1) Q E → C v H1) : r vs H C := by
  refine sm m st H ds vs C s rs ?_
  cases e : prim p ds st with
  | none =>
    rw [e] at q
    exact q.elim
  | some x =>
    obtain ⟨d, st1⟩ := x
    rw [e] at q
    exact fun m1 H1 v x s1 r1 => hk d st1 m1 H1 v x s1 r1 (PostT.shift x q)
theorem seqPE {p : Pr} {r : List V → Hp → VK → Prop} {ds : List D} {vs : List V} {k : D → Sto → Res D} {Q C : VK} (sm : Sim R p r) (s : SR R m st H) (rs : Reps R m st H ds vs)
    (q : Post R m st H ((liftP (prim p ds st)).bnd k) Q E) (hk : ∀ d st1 m1 H1 v, Ext m st H m1 st1 H1 → SR R m1 st1 H1 → Rep R m1 st1 H1 d v → Post R m1 st1 H1 (k d st1) Q E → C v H1) : r vs H C := by
  refine sm m st H ds vs C s rs ?_
  cases e : prim p ds st with
  | none =>
    rw [e] at q
    exact q.elim
  | some x =>
    obtain ⟨d, st1⟩ := x
    rw [e] at q
    exact fun m1 H1 v x s1 r1 => hk d st1 m1 H1 v x s1 r1 (Post.shift x q)
end
/-! ### the rules -/
section
variable {X : Cx} {R : RC} {W : WX}
theorem pe_lit {e : Expr} {d : D} {v : V} (h : PE X e (tC v)) (r : ∀ hd m st H, Rep (R.w hd) m st H d v) : PE X e (tE R W fun _ st => .ok d st) :=
  PE.imp h fun σ H Q ⟨hd, m, env, st, s, er, p⟩ => Post.here s p (r hd m st H)
theorem pe_v {e : Expr} {i : Nat} (h : PE X e (tVar i)) : PE X e (tE R W fun env st => match getV env i with | some d => .ok d st | none => .bad) := by
  refine PE.imp h fun σ H Q ⟨hd, m, env, st, s, er, p⟩ => ?_
  dsimp only at p
  cases e1 : getV env i with
  | none =>
    rw [e1] at p
    exact p.elim
  | some d =>
    rw [e1] at p
    have e2 : env[i]? = some (some d) := by
      unfold getV at e1
      cases q : env[i]? with
      | none =>
        rw [q] at e1
        cases e1
      | some o =>
        rw [q] at e1
        cases o with
        | none => cases e1
        | some y =>
          cases e1
          rfl
    obtain ⟨v, h1, h2⟩ := er.2 i d e2
    exact ⟨v, h1, Post.here s p h2⟩
theorem pa_n : PA X [] (tA R W fun _ st => .ok [] st) := PA.imp pa_nil fun σ H Q ⟨hd, m, env, st, s, er, p⟩ => p m H [] Ext.refl s .nil
theorem pa_c {e : Expr} {es : List Expr} {f : Env → Sto → Res D} {g : Env → Sto → Res (List D)} (hs : starEach (e :: es) X.env = (false, eval e X.env) :: starEach es X.env) (h : PE X e (tE R W f)) (t : PA X es (tA R W g)) :
    PA X (e :: es) (tA R W fun env st => (f env st).bnd fun d st => (g env st).bnd fun ds st => .ok (d :: ds) st) := by
  refine PA.imp (pa_cons h t hs) fun σ H Q ⟨hd, m, env, st, s, er, p⟩ => ?_
  refine seqL s er p fun d st1 m1 H1 v x1 s1 er1 r1 p1 => ?_
  refine aseqL s1 er1 p1 fun ds st2 m2 H2 vs x2 s2 er2 r2 p2 => ?_
  exact p2 m2 H2 _ Ext.refl s2 (.cons (Rep.mono x2 _ _ r1) r2)
theorem pe_t {es : List Expr} {x1 : Nat} {pos : Pos} {g : Env → Sto → Res (List D)} (h : PA X es (tA R W g)) :
    PE X (.Tuple es x1 pos) (tE R W fun env st => (g env st).bnd fun ds st => if ds.length ≤ sizeLine then .ok (.tup ds) st else .bad) := by
  refine PE.imp (pe_tup h) fun σ H Q ⟨hd, m, env, st, s, er, p⟩ => ?_
  refine aseqE s er p fun ds st1 m1 H1 vs x1 s1 er1 r1 p1 => ?_
  split at p1
  · rename_i hl
    refine ⟨by rw [← r1.length]; exact hl, fun q hq => ?_⟩
    exact p1 m1 _ _ (Ext.new hq) (s1.new hq) (.tup ⟨upd_same, s1.notLive hq⟩ (Reps.mono (Ext.new hq) _ _ r1))
  · exact p1.elim
theorem pe_vl {es : List Expr} {pos : Pos} {g : Env → Sto → Res (List D)} (h : PA X es (tA R W g)) :
    PE X (.List es pos) (tE R W fun env st => (g env st).bnd fun ds st => if ds.length ≤ sizeLine then .ok (.lst ds) st else .bad) := by
  refine PE.imp (pe_lst h) fun σ H Q ⟨hd, m, env, st, s, er, p⟩ => ?_
  refine aseqE s er p fun ds st1 m1 H1 vs x1 s1 er1 r1 p1 => ?_
  split at p1
  · rename_i hl
    refine ⟨by rw [← r1.length]; exact hl, fun q hq => ?_⟩
    exact p1 m1 _ _ (Ext.new hq) (s1.new hq) (.lst upd_same (s1.notLive hq) (Reps.mono (Ext.new hq) _ _ r1))
  · exact p1.elim
theorem pe_l {es : List Expr} {pos : Pos} {g : Env → Sto → Res (List D)} (h : PA X es (tA R W g)) :
    PE X (.List es pos) (tE R W fun env st => (g env st).bnd fun ds st => if ds.length ≤ sizeLine then .ok (.ref st.length) (st ++ [.lst ds]) else .bad) := by
  refine PE.imp (pe_lst h) fun σ H Q ⟨hd, m, env, st, s, er, p⟩ => ?_
  refine aseqE s er p fun ds st1 m1 H1 vs x1 s1 er1 r1 p1 => ?_
  split at p1
  · rename_i hl
    refine ⟨by rw [← r1.length]; exact hl, fun q hq => ?_⟩
    exact p1 _ _ _ (Ext.push s1 hq) (s1.push hq r1) (rep_last s1 q _ _)
  · exact p1.elim
/-! tests -/
theorem pt_n {a : Expr} {pos : Pos} {f : Env → Sto → Res Bool} (h : PT X a (tT R W f)) : PT X (.UnaryOp .Not a pos) (tT R W fun env st => (f env st).bnd fun x st => .ok (!x) st) := by
  refine PT.imp (pt_not h) fun σ H Q ⟨hd, m, env, st, s, er, p⟩ => ?_
  exact tseqT s er p fun d st1 m1 H1 x1 s1 er1 p1 => p1 m1 H1 Ext.refl s1
theorem PT.pw {op : BoolOp} {l : List Expr} {pos : Pos} {t : TT} (h : PT X (.BoolOp op l pos) t) : PW X (.BoolOp op l pos) t := ⟨fun _ pins s σ H Q I q => h.run pins s σ H Q I q⟩
theorem pt_and {a b : Expr} {rest : List Expr} {pos : Pos} {f g : Env → Sto → Res Bool} (ha : PT X a (tT R W f)) (hb : PW X (.BoolOp .And (b :: rest) pos) (tT R W g)) :
    PT X (.BoolOp .And (a :: b :: rest) pos) (tT R W fun env st => (f env st).bnd fun x st => if x = true then g env st else .ok false st) := by
  refine PT.imp (pw_and ha hb).pt fun σ H Q ⟨hd, m, env, st, s, er, p⟩ => ?_
  refine tseqT s er p fun d st1 m1 H1 x1 s1 er1 p1 => ?_
  cases d with
  | true => exact ⟨_, m1, env, st1, s1, er1, p1⟩
  | false => exact p1 m1 H1 Ext.refl s1
theorem pt_or {a b : Expr} {rest : List Expr} {pos : Pos} {f g : Env → Sto → Res Bool} (ha : PT X a (tT R W f)) (hb : PW X (.BoolOp .Or (b :: rest) pos) (tT R W g)) :
    PT X (.BoolOp .Or (a :: b :: rest) pos) (tT R W fun env st => (f env st).bnd fun x st => if x = true then .ok true st else g env st) := by
  refine PT.imp (pw_or ha hb).pt fun σ H Q ⟨hd, m, env, st, s, er, p⟩ => ?_
  refine tseqT s er p fun d st1 m1 H1 x1 s1 er1 p1 => ?_
  cases d with
  | true => exact p1 m1 H1 Ext.refl s1
  | false => exact ⟨_, m1, env, st1, s1, er1, p1⟩
theorem pe_andM {a b : Expr} {rest : List Expr} {pos : Pos} {f g : Env → Sto → Res D} (ha : PE X a (tE R W f)) (hb : PE X (.BoolOp .And (b :: rest) pos) (tE R W g)) :
    PE X (.BoolOp .And (a :: b :: rest) pos) (tE R W fun env st => (f env st).bnd fun d st => match d with
      | .bl true => g env st
      | .bl false => .ok (.bl false) st
      | _ => .bad) := by
  refine PE.imp (pe_and ha hb) fun σ H Q ⟨hd, m, env, st, s, er, p⟩ => ?_
  refine seqE s er p fun d st1 m1 H1 v x1 s1 er1 r1 p1 => ?_
  split at p1
  · cases r1
    exact ⟨true, rfl, _, m1, env, st1, s1, er1, p1⟩
  · cases r1
    exact ⟨false, rfl, Post.here s1 p1 (.bl false)⟩
  · exact p1.elim
theorem pe_orM {a b : Expr} {rest : List Expr} {pos : Pos} {f g : Env → Sto → Res D} (ha : PE X a (tE R W f)) (hb : PE X (.BoolOp .Or (b :: rest) pos) (tE R W g)) :
    PE X (.BoolOp .Or (a :: b :: rest) pos) (tE R W fun env st => (f env st).bnd fun d st => match d with
      | .bl true => .ok (.bl true) st
      | .bl false => g env st
      | _ => .bad) := by
  refine PE.imp (pe_or ha hb) fun σ H Q ⟨hd, m, env, st, s, er, p⟩ => ?_
  refine seqE s er p fun d st1 m1 H1 v x1 s1 er1 r1 p1 => ?_
  split at p1
  · cases r1
    exact ⟨true, rfl, Post.here s1 p1 (.bl true)⟩
  · cases r1
    exact ⟨false, rfl, _, m1, env, st1, s1, er1, p1⟩
  · exact p1.elim
theorem pe_notM {a : Expr} {pos : Pos} {f : Env → Sto → Res D} (ha : PE X a (tE R W f)) :
    PE X (.UnaryOp .Not a pos) (tE R W fun env st => (f env st).bnd fun d st => match d with
      | .bl b => .ok (.bl (!b)) st
      | _ => .bad) := by
  refine PE.imp (pe_not ha) fun σ H Q ⟨hd, m, env, st, s, er, p⟩ => ?_
  refine seqE s er p fun d st1 m1 H1 v x1 s1 er1 r1 p1 => ?_
  split at p1
  · cases r1
    exact ⟨_, rfl, Post.here s1 p1 (.bl _)⟩
  · exact p1.elim
theorem pe_ifM {c a b : Expr} {pos : Pos} {f : Env → Sto → Res Bool} {g h : Env → Sto → Res D} (hc : PT X c (tT R W f)) (ha : PE X a (tE R W g)) (hb : PE X b (tE R W h)) :
    PE X (.IfExp c a b pos) (tE R W fun env st => (f env st).bnd fun x st => if x = true then g env st else h env st) := by
  refine PE.imp (pe_ifExp hc ha hb) fun σ H Q ⟨hd, m, env, st, s, er, p⟩ => ?_
  refine tseqE s er p fun d st1 m1 H1 x1 s1 er1 p1 => ?_
  cases d with
  | true => exact ⟨_, m1, env, st1, s1, er1, p1⟩
  | false => exact ⟨_, m1, env, st1, s1, er1, p1⟩
theorem pt_ifM {c a b : Expr} {pos : Pos} {f g h : Env → Sto → Res Bool} (hc : PT X c (tT R W f)) (ha : PT X a (tT R W g)) (hb : PT X b (tT R W h)) :
    PT X (.IfExp c a b pos) (tT R W fun env st => (f env st).bnd fun x st => if x = true then g env st else h env st) := by
  refine ⟨fun pins s0 σ H Q I ⟨hd, m, env, st, s, er, p⟩ => ?_⟩
  show wpAny _ _ (do if ← isTrue c X.env (eval c X.env) then isTrue a X.env (eval a X.env) else isTrue b X.env (eval b X.env)) _ _ _
  refine wpAny_bind (thn (hc.run pins s0 σ H (fun x H1 => if x = true then tT R W g σ H1 Q else tT R W h σ H1 Q) I ?_) fun x s1 ⟨H1, I1, q1⟩ => ?_)
  · refine tseqT s er p fun d st1 m1 H1 x1 s1 er1 p1 => ?_
    cases d with
    | true => exact ⟨_, m1, env, st1, s1, er1, p1⟩
    | false => exact ⟨_, m1, env, st1, s1, er1, p1⟩
  · cases x with
    | true => exact ha.run pins s1 σ H1 Q I1 q1
    | false => exact hb.run pins s1 σ H1 Q I1 q1
end
end Mini
end
section
set_option linter.all false
set_option autoImplicit false
set_option maxRecDepth 100000
set_option maxHeartbeats 1000000
/-! Rules: primitives by their syntax. -/
namespace Mini
open PySem PySem.Spec PyProof.Rows L2
theorem bnd_assoc {α β γ : Type} (r : Res α) (f : α → Sto → Res β) (g : β → Sto → Res γ) : (r.bnd f).bnd g = r.bnd fun a st => (f a st).bnd g := by
  cases r <;> rfl
section
variable {X : Cx} {R : RC} {W : WX} {p : Pr}
def f1 (p : Pr) (f : Env → Sto → Res D) : Env → Sto → Res D := fun env st => (f env st).bnd fun d st => liftP (prim p [d] st)
def f2 (p : Pr) (f g : Env → Sto → Res D) : Env → Sto → Res D := fun env st => (f env st).bnd fun d st => (g env st).bnd fun e st => liftP (prim p [d, e] st)
def f3 (p : Pr) (f g h : Env → Sto → Res D) : Env → Sto → Res D := fun env st => (f env st).bnd fun d st => (g env st).bnd fun e st => (h env st).bnd fun x st => liftP (prim p [d, e, x] st)
def fA (p : Pr) (g : Env → Sto → Res (List D)) : Env → Sto → Res D := fun env st => (g env st).bnd fun ds st => liftP (prim p ds st)
theorem two_imp {r : R2} {f g : Env → Sto → Res D} (sm : ∀ hd, Sim (R.w hd) p (l2 r)) {σ : L2.St} {H : Hp} {Q : VK} (h : tE R W (f2 p f g) σ H Q) : tOp r (tE R W f) (tE R W g) σ H Q := by
  obtain ⟨hd, m, env, st, s, er, q⟩ := h
  refine seqE s er q fun d st1 m1 H1 v x1 s1 er1 r1 p1 => ?_
  refine seqE s1 er1 p1 fun e st2 m2 H2 w x2 s2 er2 r2 p2 => ?_
  obtain ⟨x, y, e1, z⟩ := sm _ m2 st2 H2 [d, e] [v, w] Q s2 (.cons (Rep.mono x2 _ _ r1) (.cons r2 .nil)) p2.liftP
  cases e1
  exact z
theorem pe_bin {op : Operator} {r : R2} {a b : Expr} {pos : Pos} {f g : Env → Sto → Res D} (sm : ∀ hd, Sim (R.w hd) p (l2 r)) (ho : OpR X (binaryOp op) r) (ha : PE X a (tE R W f)) (hb : PE X b (tE R W g)) :
    PE X (.BinOp a op b pos) (tE R W (f2 p f g)) := PE.imp (pe_op ho ha hb) fun _ _ _ h => two_imp sm h
theorem pe_cmpM {op : CmpOp} {r : R2} {a b : Expr} {pos : Pos} {f g : Env → Sto → Res D} (sm : ∀ hd, Sim (R.w hd) p (l2 r)) (ho : OpR X (compareOp op) r) (ha : PE X a (tE R W f)) (hb : PE X b (tE R W g)) (hm : behindInMarks op b = false) :
    PE X (.Compare a [op] [b] pos) (tE R W (f2 p f g)) := PE.imp (pe_cmpR ho ha hb hm) fun _ _ _ h => two_imp sm h
/-- it answers True or False -/
def IsBl (p : Pr) : Prop := ∀ ds st d st', prim p ds st = some (d, st') → ∃ b, d = .bl b
theorem truR_bl (b : Bool) (st : Sto) : truR (.bl b) st = .ok b st := rfl
theorem pt_cmpM {op : CmpOp} {r : R2} {a b : Expr} {pos : Pos} {f g : Env → Sto → Res D} (bl : IsBl p) (sm : ∀ hd, Sim (R.w hd) p (l2 r)) (ho : OpR X (compareOp op) r) (ha : PE X a (tE R W f)) (hb : PE X b (tE R W g)) (hm : behindInMarks op b = false) :
    PT X (.Compare a [op] [b] pos) (tT R W fun env st => (f2 p f g env st).bnd truR) := by
  refine PT.imp (pt_cmpR ho ha hb hm) fun σ H Q ⟨hd, m, env, st, s, er, q⟩ => ?_
  unfold f2 at q
  dsimp only at q
  rw [bnd_assoc] at q
  refine seqT s er q fun d st1 m1 H1 v x1 s1 er1 r1 p1 => ?_
  rw [bnd_assoc] at p1
  refine seqT s1 er1 p1 fun e st2 m2 H2 w x2 s2 er2 r2 p2 => ?_
  obtain ⟨x, y, e1, z⟩ := sm _ m2 st2 H2 [d, e] [v, w] (fun x H' => ∃ k, x = .bl k ∧ Q k H') s2 (.cons (Rep.mono x2 _ _ r1) (.cons r2 .nil)) (by
    cases e : prim p [d, e] st2 with
    | none =>
      rw [e] at p2
      exact p2.elim
    | some y =>
      obtain ⟨c, st3⟩ := y
      rw [e] at p2
      obtain ⟨b', rfl⟩ := bl _ _ _ _ e
      intro m3 H3 u x3 s3 r3
      cases r3
      exact ⟨b', rfl, p2 m3 H3 x3 s3⟩)
  cases e1
  exact z
theorem pe_unM {op : UnaryOp} {r : V → Hp → VK → Prop} {a : Expr} {pos : Pos} {f : Env → Sto → Res D} (sm : ∀ hd, Sim (R.w hd) p (l1 r)) (ho : UnR X (unaryOp op) r) (ha : PE X a (tE R W f)) : PE X (.UnaryOp op a pos) (tE R W (f1 p f)) := by
  refine PE.imp (pe_un ho ha) fun σ H Q ⟨hd, m, env, st, s, er, q⟩ => ?_
  refine seqE s er q fun d st1 m1 H1 v x1 s1 er1 r1 p1 => ?_
  obtain ⟨x, e1, z⟩ := sm _ m1 st1 H1 [d] [v] Q s1 (.cons r1 .nil) p1.liftP
  cases e1
  exact z
theorem pe_isNM {a : Expr} {j : Nat} {pos pos' : Pos} {f : Env → Sto → Res D} (ha : PE X a (tE R W f)) : PE X (.Compare a [.Is] [.Constant .none j pos'] pos) (tE R W (f1 .isN f)) := by
  refine PE.imp (pe_cmp (pc_isN ha) rfl) fun σ H Q ⟨hd, m, env, st, s, er, q⟩ => ?_
  refine seqE s er q fun d st1 m1 H1 v x1 s1 er1 r1 p1 => ?_
  obtain ⟨x, e1, z⟩ := sim_isN m1 st1 H1 [d] [v] Q s1 (.cons r1 .nil) p1.liftP
  cases e1
  exact z
theorem pe_notNM {a : Expr} {j : Nat} {pos pos' : Pos} {f : Env → Sto → Res D} (ha : PE X a (tE R W f)) : PE X (.Compare a [.IsNot] [.Constant .none j pos'] pos) (tE R W (f1 .notN f)) := by
  refine PE.imp (pe_cmp (pc_notN ha) rfl) fun σ H Q ⟨hd, m, env, st, s, er, q⟩ => ?_
  refine seqE s er q fun d st1 m1 H1 v x1 s1 er1 r1 p1 => ?_
  obtain ⟨x, e1, z⟩ := sim_notN m1 st1 H1 [d] [v] Q s1 (.cons r1 .nil) p1.liftP
  cases e1
  exact z
theorem isN_test {p : Pr} {a : Expr} {op : CmpOp} {j : Nat} {pos pos' : Pos} {t : TE} {f : Env → Sto → Res D} (hp : p = .isN ∨ p = .notN) (hc : PC X op a (.Constant .none j pos') t) (hm : behindInMarks op (.Constant .none j pos') = false)
    (ht : ∀ σ H Q, tE R W (f1 p f) σ H Q → t σ H Q) : PT X (.Compare a [op] [.Constant .none j pos'] pos) (tT R W fun env st => (f1 p f env st).bnd truR) := by
  refine PT.imp (pt_cmp hc hm) fun σ H Q ⟨hd, m, env, st, s, er, q⟩ => ?_
  refine ht σ H _ ⟨hd, m, env, st, s, er, ?_⟩
  have hb : ∀ d st1, f1 p f env st = .ok d st1 → ∃ b, d = .bl b := fun d st1 h => by
    unfold f1 at h
    cases e : f env st with
    | ok x st2 =>
      rw [e, bnd_ok] at h
      rcases hp with rfl | rfl
      · cases x <;> (cases h; exact ⟨_, rfl⟩)
      · cases x <;> (cases h; exact ⟨_, rfl⟩)
    | exc x st2 =>
      rw [e] at h
      cases h
    | bad =>
      rw [e] at h
      cases h
  dsimp only at q
  cases e : f1 p f env st with
  | ok d st1 =>
    obtain ⟨b, rfl⟩ := hb d st1 e
    rw [e] at q
    intro m1 H1 v x1 s1 r1
    cases r1
    exact ⟨b, rfl, q m1 H1 x1 s1⟩
  | exc x st1 =>
    rw [e] at q
    exact q
  | bad =>
    rw [e] at q
    exact q
theorem pt_isNM {a : Expr} {j : Nat} {pos pos' : Pos} {f : Env → Sto → Res D} (ha : PE X a (tE R W f)) : PT X (.Compare a [.Is] [.Constant .none j pos'] pos) (tT R W fun env st => (f1 .isN f env st).bnd truR) :=
  isN_test (.inl rfl) (pc_isN ha) rfl fun σ H Q ⟨hd, m, env, st, s, er, q⟩ => by
    refine seqE s er q fun d st1 m1 H1 v x1 s1 er1 r1 p1 => ?_
    obtain ⟨x, e1, z⟩ := sim_isN m1 st1 H1 [d] [v] Q s1 (.cons r1 .nil) p1.liftP
    cases e1
    exact z
theorem pt_notNM {a : Expr} {j : Nat} {pos pos' : Pos} {f : Env → Sto → Res D} (ha : PE X a (tE R W f)) : PT X (.Compare a [.IsNot] [.Constant .none j pos'] pos) (tT R W fun env st => (f1 .notN f env st).bnd truR) :=
  isN_test (.inr rfl) (pc_notN ha) rfl fun σ H Q ⟨hd, m, env, st, s, er, q⟩ => by
    refine seqE s er q fun d st1 m1 H1 v x1 s1 er1 r1 p1 => ?_
    obtain ⟨x, e1, z⟩ := sim_notN m1 st1 H1 [d] [v] Q s1 (.cons r1 .nil) p1.liftP
    cases e1
    exact z
theorem pe_ixM {a b : Expr} {pos : Pos} {f g : Env → Sto → Res D} (hx : R.K = X.K) (hs : PlainIx b) (ha : PE X a (tE R W f)) (hb : PE X b (tE R W g)) : PE X (.Subscript a b pos) (tE R W (f2 .ix f g)) :=
  PE.imp (pe_ix (r := rIx R.K) (by
    rw [hx]
    exact ix_seq) ha hb hs) fun _ _ _ h => two_imp (r := rIx R.K) (fun l => sim_ix (R := R.w l)) h
/-! slices -/
theorem po_sM {e : Expr} {f : Env → Sto → Res D} (h : PE X e (tE R W f)) : PO X (some e) (tPart (tE R W f)) := po_some h
theorem sl00 {a : Expr} {pos p2 : Pos} {f : Env → Sto → Res D} (hx : R.K = X.K) (ha : PE X a (tE R W f)) : PE X (.Subscript a (.Slice none none none p2) pos) (tE R W (f1 (.sl false false) f)) := by
  refine PE.imp (pe_slice sl_M ha po_none po_none) fun σ H Q ⟨hd, m, env, st, s, er, q⟩ => ?_
  refine seqE s er q fun d st1 m1 H1 v x1 s1 er1 r1 p1 => ?_
  show rSlM X.K v none none H1 Q
  rw [← hx]
  exact sim_sl (R := R.w hd) s1 r1 p1.liftP
theorem sl10 {a b : Expr} {pos p2 : Pos} {f g : Env → Sto → Res D} (hx : R.K = X.K) (ha : PE X a (tE R W f)) (hb : PE X b (tE R W g)) : PE X (.Subscript a (.Slice (some b) none none p2) pos) (tE R W (f2 (.sl true false) f g)) := by
  refine PE.imp (pe_slice sl_M ha (po_some hb) po_none) fun σ H Q ⟨hd, m, env, st, s, er, q⟩ => ?_
  refine seqE s er q fun d st1 m1 H1 v x1 s1 er1 r1 p1 => ?_
  refine seqE s1 er1 p1 fun e st2 m2 H2 w x2 s2 er2 r2 p2 => ?_
  cases r2 <;> first | exact p2.elim | skip
  refine ⟨_, rfl, ?_⟩
  show rSlM X.K v _ none H2 Q
  rw [← hx]
  exact sim_sl (R := R.w hd) s2 (Rep.mono x2 _ _ r1) p2.liftP
theorem sl01 {a b : Expr} {pos p2 : Pos} {f g : Env → Sto → Res D} (hx : R.K = X.K) (ha : PE X a (tE R W f)) (hb : PE X b (tE R W g)) : PE X (.Subscript a (.Slice none (some b) none p2) pos) (tE R W (f2 (.sl false true) f g)) := by
  refine PE.imp (pe_slice sl_M ha po_none (po_some hb)) fun σ H Q ⟨hd, m, env, st, s, er, q⟩ => ?_
  refine seqE s er q fun d st1 m1 H1 v x1 s1 er1 r1 p1 => ?_
  refine seqE s1 er1 p1 fun e st2 m2 H2 w x2 s2 er2 r2 p2 => ?_
  cases r2 <;> first | exact p2.elim | skip
  refine ⟨_, rfl, ?_⟩
  show rSlM X.K v none _ H2 Q
  rw [← hx]
  exact sim_sl (R := R.w hd) s2 (Rep.mono x2 _ _ r1) p2.liftP
theorem sl11 {a b c : Expr} {pos p2 : Pos} {f g h : Env → Sto → Res D} (hx : R.K = X.K) (ha : PE X a (tE R W f)) (hb : PE X b (tE R W g)) (hc : PE X c (tE R W h)) (hn : ∀ env st x s, h env st ≠ .exc x s) : PE X (.Subscript a (.Slice (some b) (some c) none p2) pos) (tE R W (f3 (.sl true true) f g h)) := by
  refine PE.imp (pe_slice sl_M ha (po_some hb) (po_some hc)) fun σ H Q ⟨hd, m, env, st, s, er, q⟩ => ?_
  refine seqE s er q fun d st1 m1 H1 v x1 s1 er1 r1 p1 => ?_
  refine seqE s1 er1 p1 fun e st2 m2 H2 w x2 s2 er2 r2 p2 => ?_
  have e2 : (∃ i, e = .int i) ∨ ∀ i, e ≠ .int i := by
    cases e <;> first | exact .inl ⟨_, rfl⟩ | (right; intro i z; cases z)
  have bad : (∀ i, e ≠ .int i) → ∀ x s, prim (.sl true true) [d, e, x] s = none := fun z x s => by
    cases e <;> first | exact absurd rfl (z _) | rfl
  rcases e2 with ⟨i, rfl⟩ | e2
  · obtain rfl := r2.inj_int
    refine ⟨_, rfl, ?_⟩
    refine seqE s2 er2 p2 fun e3 st3 m3 H3 w3 x3 s3 er3 r3 p3 => ?_
    cases r3 <;> first | exact p3.elim | skip
    refine ⟨_, rfl, ?_⟩
    show rSlM X.K v _ _ H3 Q
    rw [← hx]
    exact sim_sl (R := R.w hd) s3 (Rep.mono x3 _ _ (Rep.mono x2 _ _ r1)) p3.liftP
  · exfalso
    cases e3 : h env st2 with
    | ok x st3 =>
      rw [e3, bnd_ok, bad e2] at p2
      exact p2.elim
    | exc x st3 => exact hn _ _ _ _ e3
    | bad =>
      rw [e3] at p2
      exact p2.elim
/-! built-in functions, types, methods -/
theorem argsR {r : List V → Hp → VK → Prop} {g : Env → Sto → Res (List D)} (sm : ∀ hd, Sim (R.w hd) p r) {σ : L2.St} {H : Hp} {Q : VK} (h : tE R W (fA p g) σ H Q) : tA R W g σ H fun vs H1 => r vs H1 Q := by
  obtain ⟨hd, m, env, st, s, er, q⟩ := h
  exact aseqE s er q fun ds st1 m1 H1 vs x1 s1 er1 r1 p1 => sm _ m1 st1 H1 ds vs Q s1 r1 p1.liftP
theorem pe_bfn {x : Str} {q pos : Pos} {e : Expr} {es : List Expr} {id : String} {r : List V → Hp → VK → Prop} {g : Env → Sto → Res (List D)} (sm : ∀ hd, Sim (R.w hd) p r) (hc : CallR X (.builtin id) r) (hg : Gl X x) (hm : X.mg x = none)
    (hv : bootBuiltins x = some (.builtin id)) (ha : PA X (e :: es) (tA R W g)) (hn : x ≠ "__name__") (hdb : (x == ("__debug__" : Str)) = false) (he : starEach (e :: es) X.env = (false, eval e X.env) :: starEach es X.env)
    (hpl : (backTo pos (starEach es X.env)).any (·.1) = false) : PE X (.Call (.Name x q) (e :: es) [] pos) (tE R W (fA p g)) :=
  PE.imp (pe_callB hc hg hm hv ha hn hdb he hpl) fun _ _ _ h => argsR sm h
theorem pe_bty {x : Str} {q pos : Pos} {e : Expr} {es : List Expr} {T : String} {r : List V → Hp → VK → Prop} {g : Env → Sto → Res (List D)} (sm : ∀ hd, Sim (R.w hd) p r) (hc : CallR X (.type T) r) (hg : Gl X x) (hm : X.mg x = none)
    (hv : bootBuiltins x = some (.type T)) (ha : PA X (e :: es) (tA R W g)) (hn : x ≠ "__name__") (hdb : (x == ("__debug__" : Str)) = false) (he : starEach (e :: es) X.env = (false, eval e X.env) :: starEach es X.env)
    (hpl : (backTo pos (starEach es X.env)).any (·.1) = false) : PE X (.Call (.Name x q) (e :: es) [] pos) (tE R W (fA p g)) :=
  PE.imp (pe_callTy hc hg hm hv ha hn hdb he hpl) fun _ _ _ h => argsR sm h
/-- isinstance(e, T) -/
theorem pe_isiM {q q2 pos : Pos} {e : Expr} {T : Str} {n : String} {t : Ty} {f : Env → Sto → Res D} (hx : R.K = X.K) (hn : tyN t = some n) (hg : Gl X "isinstance") (hm : X.mg "isinstance" = none) (hgT : Gl X T) (hmT : X.mg T = none) (hvT : bootBuiltins T = some (.type n))
    (hT : T ≠ "__name__") (hTd : (T == ("__debug__" : Str)) = false) (ha : PE X e (tE R W f)) (hs : starEach [e, .Name T q2] X.env = (false, eval e X.env) :: starEach [.Name T q2] X.env) :
    PE X (.Call (.Name "isinstance" q) [e, .Name T q2] [] pos) (tE R W (f1 (.isi [t]) f)) := by
  have hT2 : PE X (.Name T q2) (tC (.ty n)) := pe_bltn hgT hmT hvT rfl hT hTd
  refine PE.imp (pe_callB call_isi hg hm (by decide +kernel) (pa_cons ha (pa_cons hT2 pa_nil) hs) (by decide) (by decide) hs rfl) fun σ H Q ⟨hd, m, env, st, s, er, q⟩ => ?_
  refine seqE s er q fun d st1 m1 H1 v x1 s1 er1 r1 p1 => ?_
  obtain ⟨x, e1, tv, b, h1, h2, h3⟩ := sim_isi hn m1 st1 H1 [d] [v] Q s1 (.cons r1 .nil) p1.liftP
  cases e1
  refine ⟨v, .ty n, tv, .type n, b, rfl, .ty n, ?_, ?_, h3⟩
  · rw [← hx]
    exact h1
  · rw [← hx]
    exact h2
/-- the receiver's type -/
def TyOK (R : RC) (T : String) (p : Pr) : Prop := ∀ (m : List Addr) (st : Sto) (H : Hp) (d : D) (v : V), SR R m st H → Rep R m st H d v → rcv p d st = true → tyV R.K T v H
theorem tyOK_str {p : Pr} (h : ∀ d st, rcv p d st = true → ∃ a, d = .str a) : TyOK R "str" p := fun m st H d v s r hp => by
  obtain ⟨a, rfl⟩ := h d st hp
  obtain rfl := r.inj_str
  rfl
theorem tyOK_list {p : Pr} (h : ∀ d st, rcv p d st = true → ∃ (n : Nat) (xs : List D), d = .ref n ∧ st[n]? = some (.lst xs)) : TyOK R "list" p := fun m st H d v s r hp => by
  obtain ⟨n, xs, rfl, e⟩ := h d st hp
  obtain ⟨a, rfl, ha⟩ := rep_ref r
  obtain ⟨vs, h1, h2⟩ := s.lst n a xs ha e
  exact .inl ⟨rfl, vs, SqL.of h1⟩
def fM (p : Pr) (f : Env → Sto → Res D) (g : Env → Sto → Res (List D)) : Env → Sto → Res D := fun env st => (f env st).bnd fun d st => if rcv p d st = true then (g env st).bnd fun ds st => liftP (prim p (d :: ds) st) else .bad
/-- o.m() -/
theorem pe_mt0 {T id : String} {name : Str} {o : Expr} {apos cpos : Pos} {r : V → List V → Hp → VK → Prop} {f : Env → Sto → Res D} (hx : R.K = X.K) (ty : ∀ hd, TyOK (R.w hd) T p) (sm : ∀ hd, Sim (R.w hd) p (lm r)) (pa : PlainAttrs T) (slot : Slot T name id) (hty : typeOf (.builtin id) = pure (.type "method_descriptor"))
    (hm : MtR X id r) (ho : PE X o (tE R W f)) (hbase : attributeBase o name X.env (eval o X.env) = eval o X.env) (hline : (apos.endLine == cpos.line) = true) : PE X (.Call (.Attribute o name apos) [] [] cpos) (tE R W (fM p f fun _ st => .ok [] st)) := by
  refine PE.imp (pe_bm0 pa slot hty hm ho hbase hline) fun σ H Q ⟨hd, m, env, st, s, er, q⟩ => ?_
  refine seqE s er q fun d st1 m1 H1 v x1 s1 er1 r1 p1 => ?_
  split at p1
  · rename_i hr
    refine ⟨?_, ?_⟩
    · rw [← hx]
      exact ty hd m1 st1 H1 d v s1 r1 hr
    · obtain ⟨x, xs, e1, z⟩ := sm _ m1 st1 H1 [d] [v] Q s1 (.cons r1 .nil) p1.liftP
      cases e1
      exact z
  · exact p1.elim
/-- o.m(e, ..) -/
theorem pe_mtA {T id : String} {name : Str} {o e : Expr} {es : List Expr} {apos cpos : Pos} {r : V → List V → Hp → VK → Prop} {f : Env → Sto → Res D} {g : Env → Sto → Res (List D)} (hx : R.K = X.K) (ty : ∀ hd, TyOK (R.w hd) T p) (sm : ∀ hd, Sim (R.w hd) p (lm r)) (pa : PlainAttrs T) (slot : Slot T name id)
    (hty : typeOf (.builtin id) = pure (.type "method_descriptor")) (hm : MtR X id r) (ho : PE X o (tE R W f)) (ha : PA X (e :: es) (tA R W g)) (hbase : attributeBase o name X.env (eval o X.env) = eval o X.env)
    (hfew : ((backTo cpos (starEach (e :: es) X.env)).all (fun x => !x.1) && (backToKw cpos (keywordEach [] X.env)).all (fun x => x.1.isSome) && decide ((e :: es).length + ([] : List Keyword).length + (if ([] : List Keyword).isEmpty then 0 else 1) < 30)) = true)
    (hline : (apos.endLine == cpos.line) = true) (hs : starEach (e :: es) X.env = (false, eval e X.env) :: starEach es X.env) (hplain : (backTo cpos (starEach es X.env)).any (·.1) = false) :
    PE X (.Call (.Attribute o name apos) (e :: es) [] cpos) (tE R W (fM p f g)) := by
  refine PE.imp (pe_bm pa slot hty hm ho ha hbase hfew hline hs hplain) fun σ H Q ⟨hd, m, env, st, s, er, q⟩ => ?_
  refine seqE s er q fun d st1 m1 H1 v x1 s1 er1 r1 p1 => ?_
  split at p1
  · rename_i hr
    refine ⟨?_, ?_⟩
    · rw [← hx]
      exact ty hd m1 st1 H1 d v s1 r1 hr
    · refine aseqE s1 er1 p1 fun ds st2 m2 H2 vs x2 s2 er2 r2 p2 => ?_
      obtain ⟨x, xs, e1, z⟩ := sm _ m2 st2 H2 (d :: ds) (v :: vs) Q s2 (.cons (Rep.mono x2 _ _ r1) r2) p2.liftP
      cases e1
      exact z
  · exact p1.elim
/-- the truth of a value, by the value -/
theorem tru_of {m : List Addr} {st : Sto} {H : Hp} {d : D} {v : V} {b : Bool} (s : SR R m st H) (r : Rep R m st H d v) (h : truD st d = some b) : TruV R.K v H b := by
  have li : ∀ (xs : List D), listOf st d = some xs → b = !xs.isEmpty → TruV R.K v H b := fun xs e hb => by
    obtain ⟨a, vs, rfl, ha, ra⟩ := listOf_at s r e
    refine .inl ⟨vs, ha, ?_⟩
    subst hb
    cases ra <;> rfl
  cases r with
  | non =>
    cases h
    rfl
  | bl x =>
    cases h
    rfl
  | int i =>
    cases h
    rfl
  | str x =>
    simp only [truD] at h
    split at h
    · rename_i hl
      cases h
      refine ⟨by rw [len_str]; exact hl, ?_⟩
      rw [len_str]
      cases x <;> rfl
    · cases h
  | @tup a vs xs h1 h2 =>
    cases h
    refine .inr (.inl ⟨vs, h1.sq, ?_⟩)
    cases h2 <;> rfl
  | @lst a vs xs h1 h2 h3 =>
    cases h
    exact li xs rfl rfl
  | @ro a vs xs h1 h3 =>
    cases h
    exact li xs rfl rfl
  | @ref a n h1 =>
    simp only [truD] at h
    obtain ⟨xs, e, rfl⟩ := map_some h
    exact li xs e rfl
  | fn => cases h
  | dic => cases h
  | @ct a vs xs h1 h2 =>
    cases h
    refine .inr (.inl ⟨vs, .inr h1, ?_⟩)
    cases h2 <;> rfl
theorem pt_tru {e : Expr} {f : Env → Sto → Res D} (hx : R.K = X.K) (h : PE X e (tE R W f)) (he : ∀ whole, isTrue e X.env whole = (do let v ← whole; standAt e.pos; holding [v] (truthy v))) : PT X e (tT R W fun env st => (f env st).bnd truR) := by
  refine PT.imp (pt_truth h he) fun σ H Q ⟨hd, m, env, st, s, er, q⟩ => ?_
  refine seqT s er q fun d st1 m1 H1 v x1 s1 er1 r1 p1 => ?_
  unfold truR at p1
  split at p1
  · rename_i b e1
    refine ⟨b, ?_, p1 m1 H1 Ext.refl s1⟩
    rw [← hx]
    exact tru_of (R := R.w hd) s1 r1 e1
  · exact p1.elim
/-! a < b < c -/
def fC (p q : Pr) (f g h : Env → Sto → Res D) : Env → Sto → Res D := fun env st => (f env st).bnd fun x st => (g env st).bnd fun y st => (liftP (prim p [x, y] st)).bnd fun d st => match d with
    | .bl true => (h env st).bnd fun z st => liftP (prim q [y, z] st)
    | .bl false => .ok (.bl false) st
    | _ => .bad
theorem pe_chainM {p q : Pr} {op op' : CmpOp} {r r' : R2} {a b c : Expr} {pos : Pos} {f g h : Env → Sto → Res D} (sm : ∀ hd, Sim (R.w hd) p (l2 r)) (sm' : ∀ hd, Sim (R.w hd) q (l2 r')) (ho : OpR X (compareOp op) r) (ho' : OpR X (compareOp op') r')
    (ha : PE X a (tE R W f)) (hb : PE X b (tE R W g)) (hc : PE X c (tE R W h)) (hm : lastMarks [op, op'] [b, c] = false) : PE X (.Compare a [op, op'] [b, c] pos) (tE R W (fC p q f g h)) := by
  refine PE.imp (pe_chain ho ho' ha hb hc hm) fun σ H Q ⟨hd, m, env, st, s, er, pp⟩ => ?_
  refine seqE s er pp fun d st1 m1 H1 v x1 s1 er1 r1 p1 => ?_
  refine seqE s1 er1 p1 fun e st2 m2 H2 w x2 s2 er2 r2 p2 => ?_
  obtain ⟨x, y, e1, z⟩ := seqPE (C := fun z H3 => ∃ k, z = .bl k ∧ (if k = true then tE R W h σ H3 fun w' H4 => r' w w' H4 Q else Q (.bl false) H3)) (sm hd) s2 (.cons (Rep.mono x2 _ _ r1) (.cons r2 .nil)) p2 fun k st3 m3 H3 u x3 s3 r3 p3 => by
    split at p3
    · cases r3
      refine ⟨true, rfl, ?_⟩
      refine seqE s3 (er2.mono x3) p3 fun e4 st4 m4 H4 w4 x4 s4 er4 r4 p4 => ?_
      obtain ⟨x, y, e1, z⟩ := sm' _ m4 st4 H4 [e, e4] [w, w4] Q s4 (.cons (Rep.mono x4 _ _ (Rep.mono x3 _ _ r2)) (.cons r4 .nil)) p4.liftP
      cases e1
      exact z
    · cases r3
      exact ⟨false, rfl, Post.here s3 p3 (.bl false)⟩
    · exact p3.elim
  cases e1
  exact z
def fCT (p q : Pr) (f g h : Env → Sto → Res D) : Env → Sto → Res Bool := fun env st => (f env st).bnd fun x st => (g env st).bnd fun y st => (liftP (prim p [x, y] st)).bnd fun d st => match d with
    | .bl true => (h env st).bnd fun z st => (liftP (prim q [y, z] st)).bnd fun d st => match d with
      | .bl r => .ok r st
      | _ => .bad
    | .bl false => .ok false st
    | _ => .bad
theorem pt_chainM {p q : Pr} {op op' : CmpOp} {r r' : R2} {a b c : Expr} {pos : Pos} {f g h : Env → Sto → Res D} (sm : ∀ hd, Sim (R.w hd) p (l2 r)) (sm' : ∀ hd, Sim (R.w hd) q (l2 r')) (ho : OpR X (compareOp op) r) (ho' : OpR X (compareOp op') r')
    (ha : PE X a (tE R W f)) (hb : PE X b (tE R W g)) (hc : PE X c (tE R W h)) (hm : lastMarks [op, op'] [b, c] = false) : PT X (.Compare a [op, op'] [b, c] pos) (tT R W (fCT p q f g h)) := by
  refine PT.imp (pt_chain ho ho' ha hb hc hm) fun σ H Q ⟨hd, m, env, st, s, er, pp⟩ => ?_
  refine seqT s er pp fun d st1 m1 H1 v x1 s1 er1 r1 p1 => ?_
  refine seqT s1 er1 p1 fun e st2 m2 H2 w x2 s2 er2 r2 p2 => ?_
  obtain ⟨x, y, e1, z⟩ := seqP (C := fun z H3 => ∃ k, z = .bl k ∧ (if k = true then tE R W h σ H3 fun w' H4 => r' w w' H4 (fun x H' => ∃ k, x = .bl k ∧ Q k H') else (∃ k, V.bl false = .bl k ∧ Q k H3))) (sm hd) s2 (.cons (Rep.mono x2 _ _ r1) (.cons r2 .nil)) p2 fun k st3 m3 H3 u x3 s3 r3 p3 => by
    split at p3
    · cases r3
      refine ⟨true, rfl, ?_⟩
      refine seqT s3 (er2.mono x3) p3 fun e4 st4 m4 H4 w4 x4 s4 er4 r4 p4 => ?_
      obtain ⟨x, y, e1, z⟩ := seqP (C := fun x H' => ∃ k, x = .bl k ∧ Q k H') (sm' hd) s4 (.cons (Rep.mono x4 _ _ (Rep.mono x3 _ _ r2)) (.cons r4 .nil)) p4 fun k5 st5 m5 H5 u5 x5 s5 r5 p5 => by
        split at p5
        · cases r5
          exact ⟨_, rfl, p5 m5 H5 Ext.refl s5⟩
        · exact p5.elim
      cases e1
      exact z
    · cases r3
      exact ⟨false, rfl, false, rfl, p3 m3 H3 Ext.refl s3⟩
    · exact p3.elim
  cases e1
  exact z
end
end Mini
end
section
set_option linter.all false
set_option autoImplicit false
set_option maxRecDepth 100000
set_option maxHeartbeats 1000000
/-! Calls; what is walked; comprehensions. -/
namespace Mini
open PySem PySem.Spec PyProof.Rows L2
/-- a def keeps its promise wherever there is room and no repr runs -/
structure FnG (P : Program) (w : World) (K : PySem.W.Frag) (mg : Str → Option Value) (base : Heap) (k : Nat) (f : Addr) (fd : FuncData) (ps : List Str) (sp : Sp) : Prop where
  len : ∀ vs H Q E, sp vs H Q E → vs.length = ps.length
  run : ∀ (A : Around) (outer : List PySem.Env) (s : Shared) (H : Hp) (args : Args) (us : List Value) (vs : List V) (Q : VK) (E : XK), Room k A → A.guards = some [] → Env0 P w K mg base A outer s H → BindsTo s fd args (ps.zip us) →
    Vals vs us → sp vs H Q E → codeAny (model P w) A (.call (.ref f) args) (CR (L2.CX P w) outer P w H s Q E) s
theorem FnG.mono {P : Program} {w : World} {K : PySem.W.Frag} {mg : Str → Option Value} {base : Heap} {j k : Nat} {f : Addr} {fd : FuncData} {ps : List Str} {sp : Sp} (F : FnG P w K mg base j f fd ps sp) (h : j ≤ k) : FnG P w K mg base k f fd ps sp :=
  ⟨F.len, fun A outer s H args us vs Q E hr => F.run A outer s H args us vs Q E (hr.mono h)⟩
section
variable {X : Cx} {R : RC} {W : WX} {k : Nat} {f : Addr} {fd : FuncData} {ps : List Str} {sp : Sp}
theorem run_G {pins : List (Addr × Obj)} {σ : L2.St} {H : Hp} {s : Shared} {Q : VK} {us : List Value} {vs : List V} (F : FnG X.prog X.w X.K X.mg X.base k f fd ps sp) (hr : Room k X.A) (hg : X.A.guards = some []) (hb : Binds X.K fd ps []) (tk : Takes X W)
    (I : Inv X pins σ H s) (r : Vals vs us) (h : sp vs H Q (fun c dd H' => W c dd σ H')) : wpAny (model X.prog X.w) X.A (PySem.call (.ref f) us) (EP X pins σ Q) X.xe s := by
  have b := hb s us I.kIn (by
    rw [List.append_nil, ← r.length]
    exact F.len _ _ _ _ h)
  rw [List.append_nil] at b
  refine wpAny_call (codeAny_mono (F.run X.A X.stack s H ⟨us, []⟩ us vs Q _ hr hg I.env0 b r h) ?_)
  intro res s' hq
  cases res with
  | ok fl =>
    cases fl with
    | ret u => exact I.after hq
    | next => exact hq.elim
    | brk => exact hq.elim
    | cont => exact hq.elim
  | error e => exact tk _ _ (XE.of_call I (fun _ _ _ z => z) hq)
/-- f(e, ..) -/
theorem pe_callM {x : Str} {p pos : Pos} {e : Expr} {es : List Expr} {g : Env → Sto → Res (List D)} {cl : List D → Sto → Res D} (F : FnG X.prog X.w X.K X.mg X.base k f fd ps sp) (hr : Room k X.A) (hgd : X.A.guards = some []) (hb : Binds X.K fd ps []) (tk : Takes X W)
    (hsp : ∀ hd m st H ds vs Q E, SR (R.w hd) m st H → Reps (R.w hd) m st H ds vs → Post (R.w hd) m st H (cl ds st) Q E → sp vs H Q E)
    (hg : Gl X x) (hm : X.mg x = some (.ref f)) (hk : PySem.W.keepIn X.K (.ref f) = true) (ha : PA X (e :: es) (tA R W g)) (hdb : (x == ("__debug__" : Str)) = false)
    (he : starEach (e :: es) X.env = (false, eval e X.env) :: starEach es X.env) (hpl : (backTo pos (starEach es X.env)).any (·.1) = false) :
    PE X (.Call (.Name x p) (e :: es) [] pos) (tE R W fun env st => (g env st).bnd fun ds st => cl ds st) := by
  refine ⟨fun pins s σ H Q I ⟨hd, m, env, st, sr, er, q⟩ => wpAny_Call_Name_kw (ld_glob I hg hm ?_ hdb)⟩
  refine PySem.W.callWith_K (h₀ := X.base) I.ok.mod.kin hk (thn (ha.run pos pins s σ H (fun vs H1 => sp vs H1 Q (fun c dd H' => W c dd σ H')) I ?_) fun us s1 ⟨vs, H1, I1, r, q1⟩ => ⟨I1.kIn, run_G F hr hgd hb tk I1 r q1⟩) he hpl
  exact aseqE sr er q fun ds st1 m1 H1 vs x1 s1 er1 r1 p1 => hsp hd m1 st1 H1 ds vs Q _ s1 r1 p1
/-- f() -/
theorem pe_callM0 {x : Str} {p pos : Pos} {cl : List D → Sto → Res D} (F : FnG X.prog X.w X.K X.mg X.base k f fd ps sp) (hr : Room k X.A) (hgd : X.A.guards = some []) (hb : Binds X.K fd ps []) (tk : Takes X W)
    (hsp : ∀ hd m st H ds vs Q E, SR (R.w hd) m st H → Reps (R.w hd) m st H ds vs → Post (R.w hd) m st H (cl ds st) Q E → sp vs H Q E)
    (hg : Gl X x) (hm : X.mg x = some (.ref f)) (hk : PySem.W.keepIn X.K (.ref f) = true) (hdb : (x == ("__debug__" : Str)) = false) :
    PE X (.Call (.Name x p) [] [] pos) (tE R W fun env st => (Res.ok [] st).bnd fun ds st => cl ds st) := by
  refine ⟨fun pins s σ H Q I ⟨hd, m, env, st, sr, er, q⟩ => wpAny_Call_Name_kw (ld_glob I hg hm ?_ hdb)⟩
  exact PySem.W.callWith_K0 I.kIn hk (run_G (us := []) (vs := []) F hr hgd hb tk I .nil (hsp hd m st H [] [] Q _ sr .nil q))
/-- what a def of the program is, by its place -/
def FnAt (X : Cx) (R : RC) (k : Nat) (cl : Call) (i : Nat) : Prop := ∃ (f : Addr) (fd : FuncData) (ps : List Str) (sp : Sp), R.fa i = some f ∧ PySem.W.keepIn X.K (.ref f) = true ∧ Binds X.K fd ps [] ∧ FnG X.prog X.w X.K X.mg X.base k f fd ps sp ∧
  ∀ hd m st H ds vs Q E, SR (R.w hd) m st H → Reps (R.w hd) m st H ds vs → Post (R.w hd) m st H (cl i ds st) Q E → sp vs H Q E
/-- g(e, ..), g an expression that gives a def -/
theorem pe_callvM {fe e : Expr} {es : List Expr} {pos : Pos} {f : Env → Sto → Res D} {g : Env → Sto → Res (List D)} {cl : Call} (hf : PE X fe (tE R W f)) (hr : Room k X.A) (hgd : X.A.guards = some []) (tk : Takes X W) (hfn : ∀ i a, R.fa i = some a → FnAt X R k cl i)
    (ha : PA X (e :: es) (tA R W g)) (he : starEach (e :: es) X.env = (false, eval e X.env) :: starEach es X.env) (hpl : (backTo pos (starEach es X.env)).any (·.1) = false)
    (hc : eval (.Call fe (e :: es) [] pos) X.env = (do callWith pos (← eval fe X.env) [] (backTo pos (starEach (e :: es) X.env)) (backToKw pos (keywordEach [] X.env)))) :
    PE X (.Call fe (e :: es) [] pos) (tE R W fun env st => (f env st).bnd fun d st => match d with
      | .fn i => (g env st).bnd fun ds st => cl i ds st
      | _ => .bad) := by
  refine ⟨fun pins s σ H Q I ⟨hd, m, env, st, sr, er, q⟩ => ?_⟩
  let C : VK := fun v H1 => ∃ i a m1 st1, v = .ref a ∧ R.fa i = some a ∧ SR (R.w hd) m1 st1 H1 ∧ ER (R.w hd) m1 st1 H1 σ env ∧ Post (R.w hd) m1 st1 H1 ((g env st1).bnd fun ds st => cl i ds st) Q (fun c dd H' => W c dd σ H')
  have h0 : tE R W f σ H C := seqE sr er q fun d st1 m1 H1 v x1 s1 er1 r1 p1 => by
    cases r1 <;> first | exact p1.elim | skip
    rename_i a i hi
    exact ⟨i, a, m1, st1, rfl, hi, s1, er1, p1⟩
  rw [hc]
  refine wpAny_bind (thn (hf.run pins s σ H C I h0) fun u s1 ⟨v, H1, I1, rv, i, a, m1, st1, ev, hi, sr1, er1, p1⟩ => ?_)
  subst ev
  cases rv
  obtain ⟨f', fd, ps, sp, h1, h2, h3, h4, h5⟩ := hfn i a hi
  rw [hi] at h1
  cases h1
  refine PySem.W.callWith_K (h₀ := X.base) I.ok.mod.kin h2 (thn (ha.run pos pins s1 σ H1 (fun vs H2 => sp vs H2 Q (fun c dd H' => W c dd σ H')) I1 ?_) fun us s2 ⟨vs, H2, I2, r, q2⟩ => ⟨I2.kIn, run_G h4 hr hgd h3 tk I2 r q2⟩) he hpl
  exact aseqE sr1 er1 p1 fun ds st2 m2 H2 vs x2 s2 er2 r2 p2 => h5 hd m2 st2 H2 ds vs Q _ s2 r2 p2
end

/-! ### what is walked -/
def Walks (R : RC) (J : L2.It) (ds : List D) (g : List (Nat × List D)) (m : List Addr) (st : Sto) (H : Hp) : Prop :=
  ∀ hd2 m2 st2 H2, HidOk R.hid hd2 H → ExtH R.hid m st H m2 st2 H2 → SR (R.w hd2) m2 st2 H2 → srcOK g st2 →
    (∀ i, i < ds.length → J.go i H2) ∧ J.stop ds.length H2 ∧ ∀ i x H3, i < ds.length → J.yld i H2 x H3 → ∃ d, ds[i]? = some d ∧ Ext m2 st2 H2 m2 st2 H3 ∧ SR (R.w hd2) m2 st2 H3 ∧ Rep (R.w hd2) m2 st2 H3 d x
def tI (R : RC) (W : WX) (f : Env → Sto → Res (List D × List (Nat × List D))) : TI := fun σ H Rk => ∃ hd m env st, SR (R.w hd) m st H ∧ ER (R.w hd) m st H σ env ∧ match f env st with
  | .ok ig st' => ∀ m' H' J, Ext m st H m' st' H' → SR (R.w hd) m' st' H' → Walks (R.w hd) J ig.1 ig.2 m' st' H' → Rk J H'
  | .exc x st' => ∀ m' H' c dd, Ext m st H m' st' H' → SR (R.w hd) m' st' H' → XRep (R.w hd) m' st' H' x c dd → W c dd σ H'
  | .bad => False
section
variable {X : Cx} {R : RC} {W : WX}
theorem PI.imp {tg e : Expr} {t t' : TI} (h : PI X tg e t) (i : ∀ σ H Q, t' σ H Q → t σ H Q) : PI X tg e t' := ⟨fun pins s σ H Q I q => h.run pins s σ H Q I (i σ H Q q)⟩
/-- a list by its items, at each turn -/
theorem list_stands {m : List Addr} {st : Sto} {H : Hp} {d : D} {v : V} {xs : List D} (r : Rep R m st H d v) (h : listOf st d = some xs) :
    ∃ a, v = .ref a ∧ ∀ hd2 m2 st2 H2, HidOk R.hid hd2 H → ExtH R.hid m st H m2 st2 H2 → SR (R.w hd2) m2 st2 H2 → srcOK (srcOf st d) st2 → ∃ vs, SqL R.K H2 a vs ∧ Reps (R.w hd2) m2 st2 H2 xs vs := by
  cases r with
  | @lst a vs ys h1 h2 h3 =>
    simp only [listOf, Option.some.injEq] at h
    subst h
    exact ⟨a, rfl, fun hd2 m2 st2 H2 c x s _ => ⟨vs, SqL.of (x.keep _ _ h1 h2), Reps.monoH c x _ _ h3⟩⟩
  | @ro a vs ys h1 h3 =>
    simp only [listOf, Option.some.injEq] at h
    subst h
    refine ⟨a, rfl, fun hd2 m2 st2 H2 c x s _ => ⟨vs, ?_, Reps.monoH c x _ _ h3⟩⟩
    rcases h1 with ⟨h1, l⟩ | h1
    · exact .inl (x.rd h1 l).1
    · exact .inr h1
  | @ref a n h1 =>
    simp only [listOf] at h
    split at h
    · rename_i ys e
      simp only [Option.some.injEq] at h
      subst h
      refine ⟨a, rfl, fun hd2 m2 st2 H2 c x s g => ?_⟩
      have e2 : st2[n]? = some (.lst ys) := g (n, ys) (by
        unfold srcOf
        simp [e])
      obtain ⟨vs, h2, h3⟩ := s.lst n a ys (pre_get x.pre h1) e2
      exact ⟨vs, SqL.of h2, h3⟩
    · cases h
  | non => simp [listOf] at h
  | bl => simp [listOf] at h
  | int => simp [listOf] at h
  | str => simp [listOf] at h
  | tup => simp [listOf] at h
  | fn => simp [listOf] at h
  | dic => simp [listOf] at h
  | ct => simp [listOf] at h
theorem reps_at {m : List Addr} {st : Sto} {H : Hp} {ds : List D} {vs : List V} (r : Reps R m st H ds vs) {i : Nat} (hi : i < ds.length) : ∃ d v, ds[i]? = some d ∧ vs[i]? = some v ∧ Rep R m st H d v := by
  have e : ds[i]? = some ds[i] := List.getElem?_eq_getElem hi
  obtain ⟨v, h1, h2⟩ := r.get e
  exact ⟨_, v, e, h1, h2⟩
theorem walks_list {m : List Addr} {st : Sto} {H : Hp} {d : D} {v : V} {xs : List D} (r : Rep R m st H d v) (h : listOf st d = some xs) : ∃ a, v = .ref a ∧ (SR R m st H → ∃ vs, SqL R.K H a vs) ∧ Walks R (Itl R.K a) xs (srcOf st d) m st H := by
  obtain ⟨a, rfl, st1⟩ := list_stands r h
  refine ⟨a, rfl, fun s => ?_, fun hd2 m2 st2 H2 c x s g => ?_⟩
  · obtain ⟨b, vs, e, h1, _⟩ := listOf_at s r h
    cases e
    exact ⟨vs, h1⟩
  · obtain ⟨vs, h1, h2⟩ := st1 hd2 m2 st2 H2 c x s g
    refine ⟨fun i hi => ?_, ⟨vs, h1, by rw [h2.length]; exact Nat.le_refl _⟩, fun i y H3 hi hy => ?_⟩
    · obtain ⟨d, v, e1, e2, _⟩ := reps_at h2 hi
      exact ⟨vs, v, h1, e2⟩
    · obtain ⟨d, v, e1, e2, e3⟩ := reps_at h2 hi
      obtain ⟨rfl, hy⟩ := hy
      have e4 := hy vs h1
      rw [e2] at e4
      cases e4
      exact ⟨d, e1, Ext.refl, s, e3⟩
theorem walks_tup {m : List Addr} {st : Sto} {H : Hp} {a : Addr} {vs : List V} {xs : List D} (ra : Reps R m st H xs vs) (h : ∀ (hd2 : List Addr) m2 st2 H2, ExtH R.hid m st H m2 st2 H2 → SqT R.K H2 a vs) : Walks R (Itt R.K a) xs [] m st H := by
  intro hd2 m2 st2 H2 c x s g
  have ha2 := h hd2 m2 st2 H2 x
  have h2 := Reps.monoH c x _ _ ra
  refine ⟨fun i hi => ?_, ⟨vs, ha2, by rw [h2.length]; exact Nat.le_refl _⟩, fun i y H3 hi hy => ?_⟩
  · obtain ⟨d, v, e1, e2, _⟩ := reps_at h2 hi
    exact ⟨vs, v, ha2, e2⟩
  · obtain ⟨d, v, e1, e2, e3⟩ := reps_at h2 hi
    obtain ⟨rfl, hy⟩ := hy
    have e4 := hy vs ha2
    rw [e2] at e4
    cases e4
    exact ⟨d, e1, Ext.refl, s, e3⟩
theorem pi_seqM {tg e : Expr} {f : Env → Sto → Res D} (hx : R.K = X.K) (h : PE X e (tE R W f)) : PI X tg e (tI R W fun env st => (f env st).bnd fun d st => match itemsOf st d with
    | some ds => .ok (ds, srcOf st d) st
    | none => .bad) := by
  refine ⟨fun pins s σ H Rk I ⟨hd, m, env, st, sr, er, p⟩ => ?_⟩
  dsimp only at p
  cases e1 : f env st with
  | bad =>
    rw [e1] at p
    exact p.elim
  | exc x st1 =>
    rw [e1] at p
    refine (pi_list (X := X) (tg := tg) h).run pins s σ H Rk I ⟨hd, m, env, st, sr, er, ?_⟩
    rw [e1]
    exact p
  | ok d st1 =>
    rw [e1, bnd_ok] at p
    have li : ∀ xs, listOf st1 d = some xs → itemsOf st1 d = some xs → wpAny (model X.prog X.w) X.A (eval e X.env) (fun v s1 => wpAny (model X.prog X.w) X.A (pyIter v) (PIE X pins σ tg Rk) X.xe s1) X.xe s := fun xs e2 e3 => by
      rw [e3] at p
      refine (pi_list (X := X) (tg := tg) h).run pins s σ H Rk I ⟨hd, m, env, st, sr, er, ?_⟩
      rw [e1]
      intro m1 H1 v x1 s1 r1
      obtain ⟨a, rfl, h1, h2⟩ := walks_list r1 e2
      rw [← hx]
      exact ⟨a, rfl, h1 s1, p m1 H1 _ x1 s1 h2⟩
    cases d with
    | non => exact p.elim
    | bl b => exact p.elim
    | int i => exact p.elim
    | fn i => exact p.elim
    | dic t ks vs => exact p.elim
    | lst xs => exact li xs rfl rfl
    | ro xs => exact li xs rfl rfl
    | ref n =>
      cases e2 : listOf st1 (.ref n) with
      | none =>
        have e3 : itemsOf st1 (.ref n) = none := e2
        rw [e3] at p
        exact p.elim
      | some xs => exact li xs e2 e2
    | tup xs =>
      refine (pi_tup (X := X) (tg := tg) h).run pins s σ H Rk I ⟨hd, m, env, st, sr, er, ?_⟩
      rw [e1]
      intro m1 H1 v x1 s1 r1
      obtain ⟨a, vs, rfl, ha, ra⟩ := r1.inj_tup
      rw [← hx]
      exact ⟨a, rfl, ⟨vs, ha.sq⟩, p m1 H1 _ x1 s1 (walks_tup ra fun hd2 m2 st2 H2 x => .inl (.inl (x.keep _ _ ha.1 ha.2)))⟩
    | ct xs =>
      refine (pi_tup (X := X) (tg := tg) h).run pins s σ H Rk I ⟨hd, m, env, st, sr, er, ?_⟩
      rw [e1]
      intro m1 H1 v x1 s1 r1
      obtain ⟨a, vs, rfl, ha, ra⟩ := r1.inj_ct
      rw [← hx]
      exact ⟨a, rfl, ⟨vs, .inr ha⟩, p m1 H1 _ x1 s1 (walks_tup ra fun hd2 m2 st2 H2 x => .inr ha)⟩
    | str z =>
      refine (pi_str (X := X) (tg := tg) h).run pins s σ H Rk I ⟨hd, m, env, st, sr, er, ?_⟩
      rw [e1]
      intro m1 H1 v x1 s1 r1
      obtain rfl := r1.inj_str
      refine ⟨_, rfl, p m1 H1 _ x1 s1 fun hd2 m2 st2 H2 c x s g => ?_⟩
      have hl : (z.map fun c => D.str [c]).length = z.length := List.length_map _
      refine ⟨fun i hi => ?_, ?_, fun i y H3 hi hy => ?_⟩
      · show i < z.toArray.size
        rw [hl] at hi
        simpa using hi
      · show z.toArray.size ≤ _
        rw [hl]
        simp
      · obtain ⟨rfl, c, h1, rfl⟩ := hy
        rw [hl] at hi
        have h1 : z[i]? = some c := by simpa using h1
        exact ⟨.str [c], by rw [List.getElem?_map, h1]; rfl, Ext.refl, s, .str [c]⟩
end
end Mini
end
section
set_option linter.all false
set_option autoImplicit false
set_option maxRecDepth 100000
set_option maxHeartbeats 1000000
/-! Ranges, enumerate, zip; targets; comprehensions. -/
namespace Mini
open PySem PySem.Spec PyProof.Rows L2
def fR (n : Nat) (g : Env → Sto → Res (List D)) : Env → Sto → Res (List D × List (Nat × List D)) := fun env st => (g env st).bnd fun ds st => match rngD n ds with
  | some ds => .ok (ds, []) st
  | none => .bad
section
variable {X : Cx} {R : RC} {W : WX}
theorem rangeL_length (lo c : Int) (n : Nat) : (rangeL lo c n).length = n := by simp [rangeL]
theorem rangeL_get (lo c : Int) (n i : Nat) (h : i < n) : (rangeL lo c n)[i]? = some (.int (lo + (i : Nat) * c)) := by
  unfold rangeL
  rw [List.getElem?_map, List.getElem?_range h]
  rfl
theorem walks_range {m : List Addr} {st : Sto} {H : Hp} (lo : Int) (n : Nat) : Walks R (Itr lo n) (rangeL lo 1 n) [] m st H := fun hd2 m2 st2 H2 c x s g => by
  rw [rangeL_length]
  refine ⟨fun i hi => hi, Nat.le_refl _, fun i y H3 hi hy => ?_⟩
  obtain ⟨rfl, rfl⟩ := hy
  exact ⟨_, rangeL_get lo 1 n i hi, Ext.refl, s, by
    rw [Int.mul_one]
    exact .int _⟩
theorem walks_rangeC {m : List Addr} {st : Sto} {H : Hp} (lo c : Int) (n : Nat) : Walks R (Itc lo c n) (rangeL lo c n) [] m st H := fun hd2 m2 st2 H2 hc x s g => by
  rw [rangeL_length]
  refine ⟨fun i hi => hi, Nat.le_refl _, fun i y H3 hi hy => ?_⟩
  obtain ⟨rfl, rfl⟩ := hy
  exact ⟨_, rangeL_get lo c n i hi, Ext.refl, s, .int _⟩
/-- behind an argument list: what is walked -/
theorem aseqI {g : Env → Sto → Res (List D)} {k : List D → Sto → Res (List D × List (Nat × List D))} {C : List V → Hp → Prop} {Rk : L2.It → Hp → Prop} {σ : L2.St} {H : Hp}
    (h : tI R W (fun env st => (g env st).bnd k) σ H Rk)
    (hk : ∀ hd ds st1 m1 H1 vs ig st2, SR (R.w hd) m1 st1 H1 → Reps (R.w hd) m1 st1 H1 ds vs → k ds st1 = .ok ig st2 → st2 = st1 → (∀ J, Walks (R.w hd) J ig.1 ig.2 m1 st1 H1 → Rk J H1) → C vs H1)
    (hb : ∀ ds st1, k ds st1 = .bad ∨ ∃ ig, k ds st1 = .ok ig st1) : tA R W g σ H C := by
  obtain ⟨hd, m, env, st, s, er, p⟩ := h
  refine ⟨hd, m, env, st, s, er, ?_⟩
  dsimp only at p
  cases e : g env st with
  | bad =>
    rw [e] at p
    exact p.elim
  | exc x st1 =>
    rw [e] at p
    exact p
  | ok ds st1 =>
    rw [e, bnd_ok] at p
    intro m1 H1 vs x1 s1 r1
    rcases hb ds st1 with z | ⟨ig, z⟩
    · rw [z] at p
      exact p.elim
    · rw [z] at p
      exact hk hd ds st1 m1 H1 vs ig st1 s1 r1 z rfl fun J w => p m1 H1 J x1 s1 w
theorem inR_of {i : Int} (h : inR62 i = true) : -(2 ^ 62) ≤ i ∧ i < 2 ^ 62 := by
  unfold inR62 at h
  simpa using h
theorem rng_ok (n : Nat) (ds : List D) (st1 : Sto) : (match rngD n ds with
  | some ds => Res.ok (ds, ([] : List (Nat × List D))) st1
  | none => .bad) = .bad ∨ ∃ ig, (match rngD n ds with
  | some ds => Res.ok (ds, ([] : List (Nat × List D))) st1
  | none => .bad) = .ok ig st1 := by
  cases rngD n ds with
  | none => exact .inl rfl
  | some x => exact .inr ⟨_, rfl⟩
theorem rng_some {n : Nat} {ds : List D} {st1 st2 : Sto} {ig : List D × List (Nat × List D)} (e : (match rngD n ds with
  | some ds => Res.ok (ds, ([] : List (Nat × List D))) st1
  | none => .bad) = .ok ig st2) : rngD n ds = some ig.1 ∧ ig.2 = [] := by
  cases q : rngD n ds with
  | none =>
    rw [q] at e
    cases e
  | some x =>
    rw [q] at e
    cases e
    exact ⟨rfl, rfl⟩
theorem pi_r1 {tg a : Expr} {p pos : Pos} {g : Env → Sto → Res (List D)} (hg : Gl X "range") (hm : X.mg "range" = none) (ha : PA X [a] (tA R W g)) (hs : starEach [a] X.env = [(false, eval a X.env)]) :
    PI X tg (.Call (.Name "range" p) [a] [] pos) (tI R W (fR 1 g)) := by
  refine PI.imp (pi_range1 hg hm ha hs) fun σ H Rk h => ?_
  refine aseqI h (fun hd ds st1 m1 H1 vs ig st2 s1 r1 e z w => ?_) (rng_ok 1)
  obtain ⟨ys, gs⟩ := ig
  obtain ⟨e1, e2⟩ := rng_some e
  dsimp only at e1 e2 w
  subst e2
  rcases ds with _ | ⟨d, _ | ⟨d2, l⟩⟩
  · cases e1
  · obtain ⟨v, rfl, rv⟩ := r1.one
    cases d <;> first | (cases e1; done) | skip
    rename_i j
    simp only [rngD] at e1
    split at e1
    · rename_i hj
      cases e1
      obtain ⟨h1, h2⟩ := inR_of hj
      obtain rfl := rv.inj_int
      exact ⟨j, rfl, h1, h2, w _ (walks_range 0 _)⟩
    · cases e1
  · cases d <;> cases e1
theorem pi_r2 {tg a b : Expr} {p pos : Pos} {g : Env → Sto → Res (List D)} (hg : Gl X "range") (hm : X.mg "range" = none) (ha : PA X [a, b] (tA R W g)) (hs : starEach [a, b] X.env = [(false, eval a X.env), (false, eval b X.env)])
    (hs2 : starEach [b] X.env = [(false, eval b X.env)]) : PI X tg (.Call (.Name "range" p) [a, b] [] pos) (tI R W (fR 2 g)) := by
  refine PI.imp (pi_range2 hg hm ha hs hs2) fun σ H Rk h => ?_
  refine aseqI h (fun hd ds st1 m1 H1 vs ig st2 s1 r1 e z w => ?_) (rng_ok 2)
  obtain ⟨ys, gs⟩ := ig
  obtain ⟨e1, e2⟩ := rng_some e
  dsimp only at e1 e2 w
  subst e2
  rcases ds with _ | ⟨d, _ | ⟨d2, _ | ⟨d3, l⟩⟩⟩
  · cases e1
  · cases d <;> cases e1
  · obtain ⟨v, v2, rfl, rv, rv2⟩ := r1.two
    cases d <;> first | (cases e1; done) | skip
    cases d2 <;> first | (cases e1; done) | skip
    rename_i i j
    simp only [rngD] at e1
    split at e1
    · rename_i hj
      cases e1
      rw [Bool.and_eq_true] at hj
      obtain ⟨h1, h2⟩ := inR_of hj.1
      obtain ⟨h3, h4⟩ := inR_of hj.2
      obtain rfl := rv.inj_int
      obtain rfl := rv2.inj_int
      exact ⟨i, j, rfl, ⟨h1, h2, h3, h4⟩, w _ (walks_range i _)⟩
    · cases e1
  · cases d <;> first | (cases e1; done) | (cases d2 <;> cases e1)
theorem pi_r3 {tg a b c : Expr} {p pos : Pos} {g : Env → Sto → Res (List D)} (hg : Gl X "range") (hm : X.mg "range" = none) (ha : PA X [a, b, c] (tA R W g)) (hs : starEach [a, b, c] X.env = (false, eval a X.env) :: starEach [b, c] X.env)
    (hpl : (backTo pos (starEach [b, c] X.env)).any (·.1) = false) : PI X tg (.Call (.Name "range" p) [a, b, c] [] pos) (tI R W (fR 3 g)) := by
  refine PI.imp (pi_range3 hg hm ha hs hpl) fun σ H Rk h => ?_
  refine aseqI h (fun hd ds st1 m1 H1 vs ig st2 s1 r1 e z w => ?_) (rng_ok 3)
  obtain ⟨ys, gs⟩ := ig
  obtain ⟨e1, e2⟩ := rng_some e
  dsimp only at e1 e2 w
  subst e2
  rcases ds with _ | ⟨d, _ | ⟨d2, _ | ⟨d3, _ | ⟨d4, l⟩⟩⟩⟩
  · cases e1
  · cases d <;> cases e1
  · cases d <;> first | (cases e1; done) | (cases d2 <;> cases e1)
  · obtain ⟨v, v2, v3, rfl, rv, rv2, rv3⟩ := r1.three
    cases d <;> first | (cases e1; done) | skip
    cases d2 <;> first | (cases e1; done) | skip
    cases d3 <;> first | (cases e1; done) | skip
    rename_i i j c
    simp only [rngD] at e1
    split at e1
    · rename_i hj
      cases e1
      simp only [Bool.and_eq_true, decide_eq_true_eq] at hj
      obtain ⟨⟨h1, h2⟩, h3⟩ := hj
      obtain rfl := rv.inj_int
      obtain rfl := rv2.inj_int
      obtain rfl := rv3.inj_int
      have nn : 0 ≤ Builtin.Range.rangeSize i j c := by
        unfold Builtin.Range.rangeSize
        split
        · split
          · have := Int.ediv_nonneg (a := j - i - 1) (b := c) (by omega) (by omega)
            omega
          · omega
        · split
          · have := Int.ediv_nonneg (a := i - j - 1) (b := -c) (by omega) (by omega)
            omega
          · omega
      exact ⟨i, j, c, _, rfl, ⟨h1, h2, h3, (Int.toNat_of_nonneg nn).symm⟩, w _ (walks_rangeC i c _)⟩
    · cases e1
  · cases d <;> first | (cases e1; done) | (cases d2 <;> first | (cases e1; done) | (cases d3 <;> cases e1))
/-! enumerate, zip over lists -/
theorem enumL_length (xs : List D) : (enumL xs).length = xs.length := by simp [enumL]
theorem enumL_get {xs : List D} {i : Nat} {d : D} (h : xs[i]? = some d) : (enumL xs)[i]? = some (.tup [.int (i : Nat), d]) := by
  simp [enumL, List.getElem?_map, List.getElem?_zipIdx, h]
theorem zipL_get {xs ys : List D} {i : Nat} {d e : D} (h : xs[i]? = some d) (h2 : ys[i]? = some e) : (zipL xs ys)[i]? = some (.tup [d, e]) := by
  have z : (xs.zip ys)[i]? = some (d, e) := by
    rw [List.getElem?_zip_eq_some]
    exact ⟨h, h2⟩
  unfold zipL
  rw [List.getElem?_map, z]
  rfl
/-- a new tuple of two, beside the store -/
theorem pair_new {m : List Addr} {st : Sto} {H : Hp} {T : Addr} {d e : D} {v w : V} (s : SR R m st H) (hT : H T = none) (r : Rep R m st H d v) (q : Rep R m st H e w) :
    Ext m st H m st (upd H T (.tup [v, w])) ∧ SR R m st (upd H T (.tup [v, w])) ∧ Rep R m st (upd H T (.tup [v, w])) (.tup [d, e]) (.ref T) :=
  ⟨Ext.new hT, s.new hT, .tup ⟨upd_same, s.notLive hT⟩ (Reps.mono (Ext.new hT) _ _ (.cons r (.cons q .nil)))⟩
theorem pi_zipM {e e2 : Expr} {p pos tpos : Pos} {elts : List Expr} {kk : Nat} {f g : Env → Sto → Res D} (hx : R.K = X.K) (hg : Gl X "zip") (hm : X.mg "zip" = none) (h : PE X e (tE R W f)) (h2 : PE X e2 (tE R W g))
    (hs : starEach [e, e2] X.env = (false, eval e X.env) :: starEach [e2] X.env) (hs2 : starEach [e2] X.env = (false, eval e2 X.env) :: starEach [] X.env) (hpl : (backTo pos (starEach [e2] X.env)).any (·.1) = false) :
    PI X (.Tuple elts kk tpos) (.Call (.Name "zip" p) [e, e2] [] pos) (tI R W fun env st => (f env st).bnd fun x st => (g env st).bnd fun y st => match listOf st x, listOf st y with
      | some xs, some ys => .ok (zipL xs ys, srcOf st x ++ srcOf st y) st
      | _, _ => .bad) := by
  refine PI.imp (pi_zip hg hm (pa_cons h (pa_cons h2 pa_nil hs2) hs) hs hpl) fun σ H Rk ⟨hd, m, env, st, s, er, q⟩ => ?_
  refine ⟨hd, m, env, st, s, er, ?_⟩
  dsimp only at q
  cases e1 : f env st with
  | bad =>
    rw [e1] at q
    exact q.elim
  | exc x st1 =>
    rw [e1] at q
    exact q
  | ok dx st1 =>
    rw [e1, bnd_ok] at q
    intro m1 H1 v x1 s1 r1
    refine ⟨hd, m1, env, st1, s1, er.mono x1, ?_⟩
    cases e3 : g env st1 with
    | bad =>
      rw [e3] at q
      exact q.elim
    | exc x st2 =>
      rw [e3] at q
      exact fun m2 H2 c dd x2 s2 r2 => q m2 H2 c dd (x1.trans x2) s2 r2
    | ok dy st2 =>
      rw [e3, bnd_ok] at q
      intro m2 H2 w x2 s2 r2
      cases e4 : listOf st2 dx with
      | none =>
        rw [e4] at q
        exact q.elim
      | some xs =>
        cases e5 : listOf st2 dy with
        | none =>
          rw [e4, e5] at q
          exact q.elim
        | some ys =>
          rw [e4, e5] at q
          have r3 := Rep.mono x2 _ _ r1
          obtain ⟨a, rfl, sta⟩ := list_stands r3 e4
          obtain ⟨b, rfl, stb⟩ := list_stands r2 e5
          obtain ⟨a', vs, ea, ha, _⟩ := listOf_at s2 r3 e4
          obtain ⟨b', ws, eb, hb, _⟩ := listOf_at s2 r2 e5
          cases ea
          cases eb
          rw [← hx]
          refine ⟨a, b, vs, ws, rfl, ha, hb, q m2 H2 _ (x1.trans x2) s2 fun hd3 m3 st3 H3 c x s gg => ?_⟩
          obtain ⟨us, h3, h4⟩ := sta hd3 m3 st3 H3 c x s fun z hz => gg z (List.mem_append_left _ hz)
          obtain ⟨us2, h5, h6⟩ := stb hd3 m3 st3 H3 c x s fun z hz => gg z (List.mem_append_right _ hz)
          dsimp only
          have hl : (zipL xs ys).length = min xs.length ys.length := by simp [zipL]
          rw [hl]
          refine ⟨fun i hi => ?_, ⟨us, us2, h3, h5, ?_⟩, fun i y H4 hi hy => ?_⟩
          · obtain ⟨d, v, e1, e2, _⟩ := reps_at h4 (i := i) (by omega)
            obtain ⟨d', v', e1', e2', _⟩ := reps_at h6 (i := i) (by omega)
            exact ⟨us, us2, v, v', h3, h5, e2, e2'⟩
          · rw [← h4.length, ← h6.length]
            omega
          · obtain ⟨d, v, e1, e2, e3⟩ := reps_at h4 (i := i) (by omega)
            obtain ⟨d', v', e1', e2', e3'⟩ := reps_at h6 (i := i) (by omega)
            obtain ⟨T, z, z', rfl, hT, rfl, hz, hz'⟩ := hy
            have q1 := hz us h3
            have q2 := hz' us2 h5
            rw [e2] at q1
            rw [e2'] at q2
            cases q1
            cases q2
            obtain ⟨p1, p2, p3⟩ := pair_new s hT e3 e3'
            exact ⟨_, zipL_get e1 e1', p1, p2, p3⟩
end
end Mini
end
section
set_option linter.all false
set_option maxRecDepth 100000
set_option maxHeartbeats 1000000
/-! enumerate over a text, a tuple. -/
namespace Mini
open PySem PySem.Spec PyProof.Rows L2 PySem.Builtin
/-- enumerate(v) from nought, v told by how its iterator begins -/
theorem enum_new1 {v : Value} {ob : Obj} {Hh : Heap → Prop} (B : Begins v ob Hh) :
    Meets (Builtin.«enumerate.__new__» ⟨[.type "enumerate", v], []⟩) (fun _ R st => Hh st.heap ∧
      R (.ok (.ret (.ref (st.heap.push ob).objs.size))) { st with heap := (st.heap.push ob).push { cls := .type "enumerate", data := .fields #[.none, .bool false, .ref st.heap.objs.size, rawInt 0, .none, .none] } }) :=
  .of_wp fun prog w A R st hh => by
    obtain ⟨hp, gn, dr, tk, os⟩ := st
    obtain ⟨hb, hh⟩ := hh
    have sub0 := sub_enumerate
    have it0 : ∀ {A' : Around} {E : Value → Shared → Prop} {Q : Value → Shared → Prop}, Q (.ref hp.objs.size) ⟨hp.push ob, gn, dr, tk, os⟩ → wpAny (model prog w) A' (pyIter v) Q E ⟨hp, gn, dr, tk, os⟩ :=
      fun q => B.iter prog w _ _ ⟨hp, gn, dr, tk, os⟩ _ hb q
    wp_walk using it0
    refine wpAny_stack_any fun st => wpAny_pure ?_
    split
    · rename_i cc _ _ _ _ _
      cases (cc == Value.type "enumerate")
      · wp_walk using it0
        exact ⟨_, rfl, hh⟩
      · wp_walk using it0
        exact ⟨_, rfl, hh⟩
    · wp_walk using it0
      exact ⟨_, rfl, hh⟩
theorem callEnum1 {prog : Program} {w : World} {A : Around} {E : Value → Shared → Prop} {s : Shared} {v : Value} {ob : Obj} {Hh : Heap → Prop} {Q : Value → Shared → Prop} (B : Begins v ob Hh) (hb : Hh s.heap)
    (h : ∀ h', IsEnum h' (s.heap.objs.size + 1) s.heap.objs.size 0 .none → h'.get? s.heap.objs.size = some ob → (∀ b o, s.heap.get? b = some o → h'.get? b = some o) → Q (.ref (s.heap.objs.size + 1)) { s with heap := h' }) :
    wpAny (model prog w) A (call (.type "enumerate") [v]) Q E s := by
  refine callType_new F.called_enumerate (by decide) (F.typeCall_enumerate_1 _) (F.newCall_enumerate_1 _) (fun obj => F.args_object_init_2 obj _) F.entry_enumerate_new (enum_new1 B) ⟨hb, ?_⟩
  have hz : (s.heap.push ob).objs.size = s.heap.objs.size + 1 := Heap.size_push ..
  show _ ∧ _
  rw [hz]
  have he : IsEnum ((s.heap.push ob).push { cls := .type "enumerate", data := .fields #[.none, .bool false, .ref s.heap.objs.size, rawInt 0, .none, .none] }) (s.heap.objs.size + 1) s.heap.objs.size 0 .none := by
    have q := Heap.get?_push_size (s.heap.push ob) (o := { cls := .type "enumerate", data := .fields #[.none, .bool false, .ref s.heap.objs.size, rawInt 0, .none, .none] }) rfl
    rw [hz] at q
    exact q
  exact ⟨⟨_, he, rfl⟩, h _ he (Heap.get?_push_of_some _ (Heap.get?_push_size _ B.free)) fun b o x => Heap.get?_push_of_some _ (Heap.get?_push_of_some _ x)⟩
/-- the pairs of a text's signs with their places -/
def IteS (x : Str) : L2.It := ⟨fun i _ => i < x.cps.size, fun i H v H' => ∃ T c, v = .ref T ∧ H T = none ∧ H' = upd H T (.tup [.int (i : Nat), .str ⟨#[c]⟩]) ∧ x.cps[i]? = some c, fun i _ => i = x.cps.size⟩
/-- .. of a tuple's items -/
def IteT (K : PySem.W.Frag) (a : Addr) : L2.It :=
  ⟨fun i H => ∃ (xs : List V) (x : V), SqT K H a xs ∧ xs[i]? = some x, fun i H v H' => ∃ T x, v = .ref T ∧ H T = none ∧ H' = upd H T (.tup [.int (i : Nat), x]) ∧ ∀ xs, SqT K H a xs → xs[i]? = some x, fun i H => ∃ xs : List V, SqT K H a xs ∧ xs.length ≤ i⟩
/-- one pair comes -/
theorem enum_item {X : Cx} {elts : List Expr} {kk : Nat} {tpos : Pos} {e it : Addr} {fp : List Addr} {n i : Nat} {P : Nat → Value → Prop} {St : Nat → Heap → Prop} {pins : List (Addr × Obj)} {s : Shared} {σ : L2.St} {H : Hp} {E : Value → Shared → Prop} {J : L2.It}
    (I : Inv X pins σ H s) (hf : ∀ b ∈ [e, it], FpOk X pins H b) (D : Draws X.prog X.w X.A.in1 it fp n P St) {old : Value} (he : IsEnum s.heap e it ((i : Nat) : Int) old) (hil : it < s.heap.objs.size) (hst : St i s.heap) (hlt : i < n) (hne : e ≠ it) (hef : e ∉ fp)
    (R : Nat → Heap → Prop) (keep : ∀ j h h', St j h → (∀ o, h.get? it = some o → h'.get? it = some o) → R j h')
    (hP : ∀ u, P i u → ∃ x, RelV x u ∧ J.yld i H (.ref s.heap.objs.size) (upd H s.heap.objs.size (.tup [.int (i : Nat), x]))) :
    wpAny (model X.prog X.w) X.A (pyNext (.ref e)) (fun r s1 => ∃ u, r = some u ∧
      wpAny (model X.prog X.w) X.A (letOwnedTupleGo (.Tuple elts kk tpos) (.ref e) u) (fun _ s2 => ∃ x H', Inv X pins σ H' s2 ∧ RelV x u ∧ J.yld i H x H' ∧ ((∃ old, IsEnum s2.heap e it ((i + 1 : Nat) : Int) old) ∧ R (i + 1) s2.heap ∧ e ≠ it) ∧ ∀ b ∈ [e, it], H' b = none) E s1) E s := by
  have hel : e < s.heap.objs.size := Heap.lt_size he
  refine wpAny_pyNext_enum_itemC D he hst hlt hne hef fun u h' tk pu ho st' hT hsz hk => ?_
  obtain ⟨x, ru, hy⟩ := hP u pu
  refine ⟨_, rfl, wpAny_letOwnedTupleGo_enum (s := { s with heap := h', toks := tk + 1 }) ho fun h'' he' sb => ?_⟩
  have hT2 : h''.get? s.heap.objs.size = some { cls := .type "tuple", data := .seq #[.int i tk, u] } := (sb.2 _ (Nat.ne_of_gt hel)).trans hT
  have new : ObjOk X.prog X.w (upd H s.heap.objs.size (.tup [.int (i : Nat), x])) h'' s.heap.objs.size (.tup [.int (i : Nat), x]) :=
    ⟨by show 2 ≤ sizeLine; decide, [.int i tk, u], .cons ⟨_, rfl⟩ (.cons ru .nil), ⟨_, hT2, rfl, _, rfl⟩⟩
  have I1 : Inv X pins σ (upd H s.heap.objs.size (.tup [.int (i : Nat), x])) { s with heap := h'', toks := tk + 1 } :=
    I.turnedNew (ch := [e, it]) (fun b ob hb q => (sb.2 b (fun z => hb (by simp [z]))).trans (hk b ob (fun z => hb (by simp [z])) (fun z => hb (by simp [z])) q)) hf (Nat.le_refl _) new
  refine ⟨.ref s.heap.objs.size, _, I1, rfl, hy, ⟨⟨u, ?_⟩, keep _ _ _ st' fun o q => (sb.2 it (Ne.symm hne)).trans q, hne⟩, fun b hb => ?_⟩
  · have e1 : ((i + 1 : Nat) : Int) = (i : Int) + 1 := by omega
    rw [e1]
    exact he'
  · have hb' : b < s.heap.objs.size := by
      have e' : b = e ∨ b = it := by simpa using hb
      rcases e' with z | z
      · rw [z]
        exact hel
      · rw [z]
        exact hil
    rw [upd_ne (Nat.ne_of_lt hb')]
    exact (hf b hb).1
theorem turn_enumS {P : Program} {w : World} {K : PySem.W.Frag} {elts : List Expr} {kk : Nat} {tpos : Pos} (e it : Addr) (x : Str) (t : Tok) :
    Turn P w K (.Tuple elts kk tpos) (IteS x) [e, it] e (fun i h => (∃ old, IsEnum h e it ((i : Nat) : Int) old) ∧ h.IsStrIter it (strIterType x) x t i ∧ e ≠ it) where
  mem := by simp
  obj := fun i h st b hb => by
    obtain ⟨⟨old, he⟩, ⟨o, ho, hc, hd⟩, _⟩ := st
    have e' : b = e ∨ b = it := by simpa using hb
    rcases e' with z | z
    · rw [z]
      exact ⟨_, he, fun v q => nomatch q⟩
    · rw [z]
      exact ⟨o, ho, fun v q => by rw [hd] at q; cases q⟩
  keep := fun i h h' st k => let ⟨⟨old, he⟩, ⟨o, ho, r⟩, hne⟩ := st; ⟨⟨old, k e (by simp) _ he⟩, ⟨o, k it (by simp) o ho, r⟩, hne⟩
  item := by
    intro X hP hw hK hc i pins s σ H E I hf st hg
    subst hP hw hK
    obtain ⟨⟨old, he⟩, hit, hne⟩ := st
    have hil : it < s.heap.objs.size := by obtain ⟨_, q, _⟩ := hit; exact Heap.lt_size q
    refine enum_item (J := IteS x) I hf (Draws.text (A := X.A.in1) (I.ok.hd hc) it x t) he hil hit hg hne (by simpa using hne) (fun j h => h.IsStrIter it (strIterType x) x t j) (fun j h h' q k => let ⟨o, ho, r⟩ := q; ⟨o, k o ho, r⟩) fun u ⟨c, tk, hc, eu⟩ => ?_
    exact ⟨.str ⟨#[c]⟩, ⟨tk, eu⟩, _, c, rfl, I.hok.fresh (Nat.le_refl _), rfl, hc⟩
  done := by
    intro X hP hw hK hc i pins s σ H E I hf st hg
    subst hP hw hK
    obtain ⟨⟨old, he⟩, hit, hne⟩ := st
    obtain ⟨f0, f1, f2, f3, f4, f5⟩ := hf it (by simp)
    have D := Draws.text (prog := X.prog) (w := X.w) (A := X.A.in1) (I.ok.hd hc) it x t
    have hg : i = x.cps.size := hg
    subst hg
    exact wpAny_pyNext_enum_endD D he hit fun h' eb => ⟨rfl, I.turned (t' := s.toks) (fun b o hb q => eb b o hb q) f0 f1 f3 f4 f5⟩
  self := fun A i s Q E st h => let ⟨⟨_, he⟩, _⟩ := st; wpAny_pyIter_enum he h
def iEnumS (ta : TA) : TI := fun σ H R => ta σ H fun vs H1 => ∃ x, vs = [.str x] ∧ R (IteS x) H1
theorem pi_enumS {X : Cx} {e : Expr} {ta : TA} {p pos tpos : Pos} {elts : List Expr} {kk : Nat} (hg : Gl X "enumerate") (hm : X.mg "enumerate" = none) (ha : PA X [e] ta) (hs : starEach [e] X.env = [(false, eval e X.env)] := by rfl) :
    PI X (.Tuple elts kk tpos) (.Call (.Name "enumerate" p) [e] [] pos) (iEnumS ta) := by
  refine ⟨fun pins s σ H R I h => ?_⟩
  refine Call_ (ld_blt I hg hm boot_enumerate (PyProof.Rows.callWith_type1 (thn (ha.run pos pins s σ H _ I h) fun us s1 ⟨vs, H1, I1, r1, q1⟩ => ?_) hs rfl))
  obtain ⟨x, ex, q⟩ := q1
  subst ex
  cases r1 with
  | cons r rr =>
    cases rr
    obtain ⟨t, rfl⟩ := r
    refine callEnum1 (begins_text x t) trivial fun h' he hit hk => wpAny_pyIter_enum he ?_
    have I2 : Inv X pins σ H1 { s1 with heap := h' } := I1.kept (t' := s1.toks) hk
    refine ⟨s1.heap.objs.size + 1, [s1.heap.objs.size + 1, s1.heap.objs.size], _, _, H1, rfl, I2, turn_enumS (s1.heap.objs.size + 1) s1.heap.objs.size x t, ⟨⟨.none, he⟩, ⟨_, hit, rfl, rfl⟩, Nat.succ_ne_self _⟩, fun b hb => ?_, q⟩
    have e' : b = s1.heap.objs.size + 1 ∨ b = s1.heap.objs.size := by simpa using hb
    have hle : s1.heap.objs.size ≤ b := by
      rcases e' with z | z
      · rw [z]
        exact Nat.le_add_right _ _
      · rw [z]
        exact Nat.le_refl _
    exact I1.fpOk hle (I1.hok.fresh hle)
section
variable {X : Cx} {R : RC} {W : WX}
theorem pi_enumM {e : Expr} {p pos tpos : Pos} {elts : List Expr} {kk : Nat} {f : Env → Sto → Res D} (hx : R.K = X.K) (hg : Gl X "enumerate") (hm : X.mg "enumerate" = none) (h : PE X e (tE R W f)) (hs : starEach [e] X.env = [(false, eval e X.env)]) :
    PI X (.Tuple elts kk tpos) (.Call (.Name "enumerate" p) [e] [] pos) (tI R W fun env st => (f env st).bnd fun d st => match enumOf st d with
      | some ds => .ok (enumL ds, srcOf st d) st
      | none => .bad) := by
  refine ⟨fun pins s0 σ H Rk I0 ⟨hd, m, env, st, s, er, q⟩ => ?_⟩
  have lst := (pi_enum (elts := elts) (kk := kk) (tpos := tpos) (pos := pos) (p := p) hg hm (pa_cons h pa_nil hs) hs).run pins s0 σ H Rk I0
  have txt := (pi_enumS (elts := elts) (kk := kk) (tpos := tpos) (pos := pos) (p := p) hg hm (pa_cons h pa_nil hs) hs).run pins s0 σ H Rk I0
  dsimp only at q
  cases e1 : f env st with
  | bad =>
    rw [e1] at q
    exact q.elim
  | exc x st1 =>
    rw [e1] at q
    refine lst ⟨hd, m, env, st, s, er, ?_⟩
    rw [e1]
    exact q
  | ok d st1 =>
    rw [e1, bnd_ok] at q
    by_cases hz : ∃ z, d = .str z
    · obtain ⟨z, rfl⟩ := hz
      refine txt ⟨hd, m, env, st, s, er, ?_⟩
      rw [e1]
      intro m1 H1 v x1 s1 r1
      obtain rfl := r1.inj_str
      refine ⟨_, rfl, q m1 H1 _ x1 s1 fun hd2 m2 st2 H2 c x s g => ?_⟩
      have hl : (z.map fun c => D.str [c]).length = z.length := List.length_map _
      have hl2 : (enumL (z.map fun c => D.str [c])).length = z.length := by rw [enumL_length, hl]
      refine ⟨fun i hi => ?_, ?_, fun i y H3 hi hy => ?_⟩
      · show i < z.toArray.size
        rw [hl2] at hi
        simpa using hi
      · show _ = z.toArray.size
        rw [hl2]
        simp
      · obtain ⟨T, c, rfl, hT, rfl, h1⟩ := hy
        have h1 : z[i]? = some c := by simpa using h1
        have h2 : (z.map fun c => D.str [c])[i]? = some (D.str [c]) := by rw [List.getElem?_map, h1]; rfl
        obtain ⟨p1, p2, p3⟩ := pair_new s hT (.int (i : Nat)) (Rep.str [c])
        exact ⟨_, enumL_get h2, p1, p2, p3⟩
    · have eo : enumOf st1 d = listOf st1 d := by
        cases d <;> first | rfl | exact absurd ⟨_, rfl⟩ hz
      refine lst ⟨hd, m, env, st, s, er, ?_⟩
      rw [e1]
      intro m1 H1 v x1 s1 r1
      rw [eo] at q
      cases e2 : listOf st1 d with
      | none =>
        rw [e2] at q
        exact q.elim
      | some xs =>
        rw [e2] at q
        obtain ⟨a, rfl, st3⟩ := list_stands r1 e2
        obtain ⟨b, vs, eb, h1, _⟩ := listOf_at s1 r1 e2
        cases eb
        rw [← hx]
        refine ⟨a, vs, rfl, h1, q m1 H1 _ x1 s1 fun hd2 m2 st2 H2 c x s g => ?_⟩
        obtain ⟨ws, h2, h3⟩ := st3 hd2 m2 st2 H2 c x s g
        dsimp only
        rw [enumL_length]
        refine ⟨fun i hi => ?_, ⟨ws, h2, by rw [h3.length]; exact Nat.le_refl _⟩, fun i y H3 hi hy => ?_⟩
        · obtain ⟨d, v, e1, e2, _⟩ := reps_at h3 hi
          exact ⟨ws, v, h2, e2⟩
        · obtain ⟨d, v, e1, e2, e3⟩ := reps_at h3 hi
          obtain ⟨T, z, rfl, hT, rfl, hz⟩ := hy
          have e4 := hz ws h2
          rw [e2] at e4
          cases e4
          obtain ⟨p1, p2, p3⟩ := pair_new s hT (.int (i : Nat)) e3
          exact ⟨_, enumL_get e1, p1, p2, p3⟩
end
end Mini
end
section
set_option linter.all false
set_option autoImplicit false
set_option maxRecDepth 100000
set_option maxHeartbeats 1000000
/-! Targets; comprehensions. -/
namespace Mini
open PySem PySem.Spec PyProof.Rows L2
/-! ### targets -/
def Tgs.len : Tgs → Nat
  | .nil => 0
  | .cons _ ts => ts.len + 1
mutual
def gM (K : PySem.W.Frag) : Tg → TG
  | .nm i => gName i
  | .tp ts => gTup K ts.len (gMs K ts)
def gMs (K : PySem.W.Frag) : Tgs → TGs
  | .nil => gNil
  | .cons t ts => gCons (gM K t) (gMs K ts)
end
mutual
def slotsT : Tg → List Nat
  | .nm i => [i]
  | .tp ts => slotsTs ts
def slotsTs : Tgs → List Nat
  | .nil => []
  | .cons t ts => slotsT t ++ slotsTs ts
end
/-- σ' is σ but at some slots -/
def Chg (is : List Nat) (σ σ' : L2.St) : Prop := σ'.length = σ.length ∧ ∀ j, j ∉ is → σ'[j]? = σ[j]?
theorem Chg.refl {is : List Nat} {σ : L2.St} : Chg is σ σ := ⟨rfl, fun _ _ => rfl⟩
theorem Chg.set {is : List Nat} {σ σ' : L2.St} {i : Nat} {v : V} (h : Chg is σ σ') (hi : i ∈ is) : Chg is σ (σ'.set i (some v)) :=
  ⟨by rw [List.length_set]; exact h.1, fun j hj => by
    have ne : i ≠ j := fun z => hj (by rw [← z]; exact hi)
    rw [List.getElem?_set_ne ne]
    exact h.2 j hj⟩
section
variable {R : RC} {m : List Addr} {st : Sto} {H : Hp} {σ : L2.St} {env : Env}
theorem ER.set {i : Nat} {d : D} {v : V} (e : ER R m st H σ env) (r : Rep R m st H d v) : ER R m st H (σ.set i (some v)) (env.set i (some d)) := by
  refine ⟨by rw [List.length_set, List.length_set]; exact e.1, fun j d' h => ?_⟩
  by_cases hj : i = j
  · subst hj
    by_cases hl : i < env.length
    · rw [List.getElem?_set_self hl] at h
      cases h
      exact ⟨v, List.getElem?_set_self (by rw [← e.1]; exact hl), r⟩
    · rw [List.getElem?_eq_none (by rw [List.length_set]; omega)] at h
      cases h
  · rw [List.getElem?_set_ne hj] at h ⊢
    exact e.2 j d' h
mutual
theorem setT_in (is0 : List Nat) : ∀ (t : Tg) (d : D) (v : V) (σ σ0 : L2.St) (env env' : Env) (Q : L2.St → Hp → Prop), (∀ i ∈ slotsT t, i ∈ is0) → Chg is0 σ0 σ → ER R m st H σ env → Rep R m st H d v → setT t d env = some env' →
    (∀ σ', Chg is0 σ0 σ' → ER R m st H σ' env' → Q σ' H) → gM R.K t v σ H Q
  | .nm i, d, v, σ, σ0, env, env', Q, hi, hc, e, r, h, k => by
    simp only [setT, Option.some.injEq] at h
    subst h
    simp only [gM]
    exact k _ (hc.set (hi i (by simp [slotsT]))) (e.set r)
  | .tp ts, d, v, σ, σ0, env, env', Q, hi, hc, e, r, h, k => by
    cases d <;> first | (simp only [setT] at h; cases h; done) | skip
    rename_i xs
    obtain ⟨a, vs, rfl, ha, ra⟩ := r.inj_tup
    simp only [setT] at h
    have z := setTs_in is0 ts xs vs σ σ0 env env' Q (by simpa only [slotsT] using hi) hc e ra h k
    simp only [gM]
    exact ⟨a, vs, rfl, ha.sq, by rw [← ra.length]; exact z.1, z.2⟩
theorem setTs_in (is0 : List Nat) : ∀ (ts : Tgs) (ds : List D) (vs : List V) (σ σ0 : L2.St) (env env' : Env) (Q : L2.St → Hp → Prop), (∀ i ∈ slotsTs ts, i ∈ is0) → Chg is0 σ0 σ → ER R m st H σ env → Reps R m st H ds vs → setTs ts ds env = some env' →
    (∀ σ', Chg is0 σ0 σ' → ER R m st H σ' env' → Q σ' H) → ds.length = ts.len ∧ gMs R.K ts vs σ H Q
  | .nil, ds, vs, σ, σ0, env, env', Q, hi, hc, e, rs, h, k => by
    cases ds with
    | cons => simp only [setTs] at h; cases h
    | nil =>
      simp only [setTs, Option.some.injEq] at h
      subst h
      cases rs
      simp only [gMs]
      exact ⟨rfl, rfl, k σ hc e⟩
  | .cons t ts, ds, vs, σ, σ0, env, env', Q, hi, hc, e, rs, h, k => by
    cases ds with
    | nil => simp only [setTs] at h; cases h
    | cons d ds =>
      simp only [setTs] at h
      cases rs with
      | @cons _ v _ vs r rs =>
      cases e1 : setT t d env with
      | none =>
        rw [e1] at h
        cases h
      | some env1 =>
        rw [e1] at h
        have h : setTs ts ds env1 = some env' := h
        have hi2 : ∀ i ∈ slotsTs ts, i ∈ is0 := fun i q => hi i (by simp only [slotsTs]; exact List.mem_append_right _ q)
        have hl := setTs_len ts ds env1 env' h
        simp only [gMs]
        refine ⟨by rw [List.length_cons, hl]; rfl, v, vs, rfl, ?_⟩
        exact setT_in is0 t d v σ σ0 env env1 _ (fun i q => hi i (by simp only [slotsTs]; exact List.mem_append_left _ q)) hc e r e1 fun σ1 c1 er1 => (setTs_in is0 ts ds vs σ1 σ0 env1 env' Q hi2 c1 er1 rs h k).2
theorem setTs_len : ∀ (ts : Tgs) (ds : List D) (env env' : Env), setTs ts ds env = some env' → ds.length = ts.len
  | .nil, ds, env, env', h => by
    cases ds with
    | nil => rfl
    | cons => simp only [setTs] at h; cases h
  | .cons t ts, ds, env, env', h => by
    cases ds with
    | nil => simp only [setTs] at h; cases h
    | cons d ds =>
      simp only [setTs] at h
      cases e1 : setT t d env with
      | none =>
        rw [e1] at h
        cases h
      | some env1 =>
        rw [e1] at h
        rw [List.length_cons, setTs_len ts ds env1 env' h]
        rfl
end
theorem setT_ok {t : Tg} {d : D} {v : V} {env' : Env} {Q : L2.St → Hp → Prop} (e : ER R m st H σ env) (r : Rep R m st H d v) (h : setT t d env = some env') (k : ∀ σ', Chg (slotsT t) σ σ' → ER R m st H σ' env' → Q σ' H) : gM R.K t v σ H Q :=
  setT_in (slotsT t) t d v σ σ env env' Q (fun _ z => z) .refl e r h k
/-! slots forgotten -/
theorem wipe_in : ∀ {vs : List Nat} {i : Nat} {σ : L2.St}, i ∈ vs → i < σ.length → (wipe σ vs)[i]? = some none
  | v :: vs, i, σ, h, hl => by
    unfold wipe
    by_cases e : v = i
    · subst e
      rw [List.getElem?_set_self (by rw [wipe_length]; exact hl)]
    · rw [List.getElem?_set_ne e]
      rcases List.mem_cons.mp h with z | z
      · exact absurd z.symm e
      · exact wipe_in z hl
theorem wipe_eq {vs : List Nat} {σ σ' : L2.St} (h : Chg vs σ σ') : wipe σ' vs = wipe σ vs := by
  apply List.ext_getElem?
  intro j
  by_cases hj : j ∈ vs
  · by_cases hl : j < σ.length
    · rw [wipe_in hj hl, wipe_in hj (by rw [h.1]; exact hl)]
    · rw [List.getElem?_eq_none (by rw [wipe_length, h.1]; omega), List.getElem?_eq_none (by rw [wipe_length]; omega)]
  · rw [wipe_out hj, wipe_out hj, h.2 j hj]
theorem wipe_chg (vs : List Nat) (σ : L2.St) : Chg vs σ (wipe σ vs) := ⟨wipe_length σ vs, fun j hj => wipe_out hj⟩
theorem Chg.trans {is : List Nat} {a b c : L2.St} (h : Chg is a b) (k : Chg is b c) : Chg is a c := ⟨k.1.trans h.1, fun j hj => (k.2 j hj).trans (h.2 j hj)⟩
theorem Chg.sub {is js : List Nat} {a b : L2.St} (h : Chg is a b) (s : ∀ i ∈ is, i ∈ js) : Chg js a b := ⟨h.1, fun j hj => h.2 j fun z => hj (s j z)⟩
theorem wipeE_get : ∀ {vs : List Nat} {j : Nat} {d : D} {env : Env}, (wipeE vs env)[j]? = some (some d) → j ∉ vs ∧ env[j]? = some (some d)
  | [], _, _, _, h => ⟨by simp, h⟩
  | v :: vs, j, d, env, h => by
    unfold wipeE at h
    by_cases e : v = j
    · subst e
      by_cases hl : v < (wipeE vs env).length
      · rw [List.getElem?_set_self hl] at h
        cases h
      · rw [List.getElem?_eq_none (by rw [List.length_set]; omega)] at h
        cases h
    · rw [List.getElem?_set_ne e] at h
      obtain ⟨h1, h2⟩ := wipeE_get h
      exact ⟨fun z => (List.mem_cons.mp z).elim (fun z => e z.symm) h1, h2⟩
theorem wipeE_length (vs : List Nat) (env : Env) : (wipeE vs env).length = env.length := by
  induction vs with
  | nil => rfl
  | cons v vs ih =>
    unfold wipeE
    rw [List.length_set]
    exact ih
theorem ER.wipe {vs : List Nat} (e : ER R m st H σ env) : ER R m st H (L2.wipe σ vs) (wipeE vs env) :=
  ⟨by rw [wipeE_length, wipe_length]; exact e.1, fun j d h => by
    obtain ⟨h1, h2⟩ := wipeE_get h
    obtain ⟨v, h3, h4⟩ := e.2 j d h2
    exact ⟨v, by rw [wipe_out h1]; exact h3, h4⟩⟩
end

/-! ### the list that a comprehension fills -/
section
variable {R : RC} {m : List Addr} {st : Sto} {H : Hp} {A : Addr}
theorem NL.hide {hd : List Addr} {a : Addr} (h : NL hd m st a) (ne : a ≠ A) : NL (A :: hd) m st a := ⟨h.1, fun z => (List.mem_cons.mp z).elim ne h.2⟩
theorem NL.show {hd : List Addr} {a : Addr} (h : NL (A :: hd) m st a) : NL hd m st a ∧ a ≠ A := ⟨⟨h.1, fun z => h.2 (List.mem_cons_of_mem _ z)⟩, fun z => h.2 (z ▸ List.mem_cons_self)⟩
theorem NL.ne {hd : List Addr} {a : Addr} (l : NL hd m st a) (hm : A ∈ hd) : a ≠ A := fun z => l.2 (by
  rw [z]
  exact hm)
mutual
/-- a new address is kept apart -/
theorem Rep.hide {o : HO} (hA : H A = none) : ∀ (d : D) (v : V), Rep R m st H d v → Rep (R.w (A :: R.hid)) m st (upd H A o) d v
  | .non, _, .non => .non
  | .bl _, _, .bl b => .bl b
  | .int _, _, .int i => .int i
  | .str _, _, .str s => .str s
  | .tup xs, _, .tup h r => by
      have ne := ne_of_none h.1 hA
      exact .tup ⟨by rw [upd_ne ne]; exact h.1, h.2.hide ne⟩ (Reps.hide hA xs _ r)
  | .ct xs, _, .ct h r => .ct h (Reps.hide hA xs _ r)
  | .dic t ks vs, _, .dic h l k1 k2 r => by
      have ne := ne_of_none h hA
      exact .dic (by rw [upd_ne ne]; exact h) (l.hide ne) k1 k2 (Reps.hide hA vs _ r)
  | .lst xs, _, .lst h l r => by
      have ne := ne_of_none h hA
      exact .lst (by rw [upd_ne ne]; exact h) (l.hide ne) (Reps.hide hA xs _ r)
  | .ro xs, _, .ro h r => .ro (by
      rcases h with ⟨h, l⟩ | h
      · rcases h with h | ⟨u, h⟩
        · have ne := ne_of_none h hA
          exact .inl ⟨.inl (by rw [upd_ne ne]; exact h), l.hide ne⟩
        · have ne := ne_of_none h hA
          exact .inl ⟨.inr ⟨u, by rw [upd_ne ne]; exact h⟩, l.hide ne⟩
      · exact .inr h) (Reps.hide hA xs _ r)
  | .ref _, _, .ref h => .ref h
  | .fn _, _, .fn h => .fn h
theorem Reps.hide {o : HO} (hA : H A = none) : ∀ (ds : List D) (vs : List V), Reps R m st H ds vs → Reps (R.w (A :: R.hid)) m st (upd H A o) ds vs
  | [], _, .nil => .nil
  | d :: ds, _, .cons h t => .cons (Rep.hide hA d _ h) (Reps.hide hA ds _ t)
end
mutual
/-- what is kept apart is filled -/
theorem Rep.poke {hd : List Addr} {o : HO} (hm : A ∈ R.hid) : ∀ (d : D) (v : V), Rep R m st H d v → Rep R m st (upd H A o) d v
  | .non, _, .non => .non
  | .bl _, _, .bl b => .bl b
  | .int _, _, .int i => .int i
  | .str _, _, .str s => .str s
  | .tup xs, _, .tup h r => by
      have ne := h.2.ne hm
      exact .tup ⟨by rw [upd_ne ne]; exact h.1, h.2⟩ (Reps.poke (hd := hd) hm xs _ r)
  | .ct xs, _, .ct h r => .ct h (Reps.poke (hd := hd) hm xs _ r)
  | .dic t ks vs, _, .dic h l k1 k2 r => by
      have ne := l.ne hm
      exact .dic (by rw [upd_ne ne]; exact h) l k1 k2 (Reps.poke (hd := hd) hm vs _ r)
  | .lst xs, _, .lst h l r => by
      have ne := l.ne hm
      exact .lst (by rw [upd_ne ne]; exact h) l (Reps.poke (hd := hd) hm xs _ r)
  | .ro xs, _, .ro h r => .ro (by
      rcases h with ⟨h, l⟩ | h
      · have ne := l.ne hm
        rcases h with h | ⟨u, h⟩
        · exact .inl ⟨.inl (by rw [upd_ne ne]; exact h), l⟩
        · exact .inl ⟨.inr ⟨u, by rw [upd_ne ne]; exact h⟩, l⟩
      · exact .inr h) (Reps.poke (hd := hd) hm xs _ r)
  | .ref _, _, .ref h => .ref h
  | .fn _, _, .fn h => .fn h
theorem Reps.poke {hd : List Addr} {o : HO} (hm : A ∈ R.hid) : ∀ (ds : List D) (vs : List V), Reps R m st H ds vs → Reps R m st (upd H A o) ds vs
  | [], _, .nil => .nil
  | d :: ds, _, .cons h t => .cons (Rep.poke (hd := hd) hm d _ h) (Reps.poke (hd := hd) hm ds _ t)
end
mutual
/-- it is kept apart no more -/
theorem Rep.reveal : ∀ (d : D) (v : V), Rep (R.w (A :: R.hid)) m st H d v → Rep R m st H d v
  | .non, _, .non => .non
  | .bl _, _, .bl b => .bl b
  | .int _, _, .int i => .int i
  | .str _, _, .str s => .str s
  | .tup xs, _, .tup h r => .tup ⟨h.1, h.2.show.1⟩ (Reps.reveal xs _ r)
  | .ct xs, _, .ct h r => .ct h (Reps.reveal xs _ r)
  | .dic t ks vs, _, .dic h l k1 k2 r => .dic h l.show.1 k1 k2 (Reps.reveal vs _ r)
  | .lst xs, _, .lst h l r => .lst h l.show.1 (Reps.reveal xs _ r)
  | .ro xs, _, .ro h r => .ro (by
      rcases h with ⟨h, l⟩ | h
      · exact .inl ⟨h, l.show.1⟩
      · exact .inr h) (Reps.reveal xs _ r)
  | .ref _, _, .ref h => .ref h
  | .fn _, _, .fn h => .fn h
theorem Reps.reveal : ∀ (ds : List D) (vs : List V), Reps (R.w (A :: R.hid)) m st H ds vs → Reps R m st H ds vs
  | [], _, .nil => .nil
  | d :: ds, _, .cons h t => .cons (Rep.reveal d _ h) (Reps.reveal ds _ t)
end
theorem SR.hide {o : HO} (s : SR R m st H) (hA : H A = none) : SR (R.w (A :: R.hid)) m st (upd H A o) := by
  have x : Ext m st H m st (upd H A o) := Ext.new hA
  refine ⟨s.len, s.nd, fun n a e => x.stay a (s.trk n a e), fun a h => ?_, fun n a e z => ?_, fun n a u e q d => ?_⟩
  · rcases List.mem_cons.mp h with z | z
    · rw [z, upd_same]
      simp
    · exact x.stay a (s.hd a z)
  · rcases List.mem_cons.mp z with z | z
    · exact s.ne hA e z
    · exact s.dj n a e z
  · have ne := s.ne hA e
    cases s.obj n a u e q d with
    | lst h r => exact .lst (by rw [upd_ne ne]; exact h) (Reps.hide hA _ _ r)
    | dic h k1 k2 r => exact .dic (by rw [upd_ne ne]; exact h) k1 k2 (Reps.hide hA _ _ r)
    | ins h0 h k1 k2 r => exact .ins h0 (by rw [upd_ne ne]; exact h) k1 k2 (Reps.hide hA _ _ r)
theorem SR.poke {o : HO} (s : SR R m st H) (hm : A ∈ R.hid) : SR R m st (upd H A o) := by
  have st1 : ∀ a, H a ≠ none → upd H A o a ≠ none := fun a h => by
    by_cases ha : a = A
    · rw [ha, upd_same]
      simp
    · rw [upd_ne ha]
      exact h
  have ne : ∀ (n : Nat) (a : Addr), m[n]? = some a → a ≠ A := fun n a e z => s.dj n a e (z ▸ hm)
  refine ⟨s.len, s.nd, fun n a e => st1 a (s.trk n a e), fun a h => st1 a (s.hd a h), s.dj, fun n a u e q d => ?_⟩
  have ne := ne n a e
  cases s.obj n a u e q d with
  | lst h r => exact .lst (by rw [upd_ne ne]; exact h) (Reps.poke (hd := []) hm _ _ r)
  | dic h k1 k2 r => exact .dic (by rw [upd_ne ne]; exact h) k1 k2 (Reps.poke (hd := []) hm _ _ r)
  | ins h0 h k1 k2 r => exact .ins h0 (by rw [upd_ne ne]; exact h) k1 k2 (Reps.poke (hd := []) hm _ _ r)
theorem SR.reveal (s : SR (R.w (A :: R.hid)) m st H) : SR R m st H :=
  ⟨s.len, s.nd, s.trk, fun a h => s.hd a (List.mem_cons_of_mem _ h), fun n a e z => s.dj n a e (List.mem_cons_of_mem _ z), fun n a u e q d => by
    cases s.obj n a u e q d with
    | lst h r => exact .lst h (Reps.reveal _ _ r)
    | dic h k1 k2 r => exact .dic h k1 k2 (Reps.reveal _ _ r)
    | ins h0 h k1 k2 r => exact .ins h0 h k1 k2 (Reps.reveal _ _ r)⟩
theorem ER.hide {o : HO} {σ : L2.St} {env : Env} (e : ER R m st H σ env) (hA : H A = none) : ER (R.w (A :: R.hid)) m st (upd H A o) σ env :=
  ⟨e.1, fun i d h => let ⟨v, h1, h2⟩ := e.2 i d h; ⟨v, h1, Rep.hide hA _ _ h2⟩⟩
theorem ER.poke {o : HO} {σ : L2.St} {env : Env} (e : ER R m st H σ env) (hm : A ∈ R.hid) : ER R m st (upd H A o) σ env :=
  ⟨e.1, fun i d h => let ⟨v, h1, h2⟩ := e.2 i d h; ⟨v, h1, Rep.poke (hd := []) hm _ _ h2⟩⟩
/-- what was there ahead does not see it filled -/
theorem Ext.poke {m0 : List Addr} {st0 : Sto} {H0 : Hp} {o : HO} (x : Ext m0 st0 H0 m st H) (hA : H0 A = none) : Ext m0 st0 H0 m st (upd H A o) where
  pre := x.pre
  fresh := x.fresh
  dead := x.dead
  keep := fun a u h l => by
    rw [upd_ne (ne_of_none h hA)]
    exact x.keep a u h l
  stay := fun a h => by
    by_cases ha : a = A
    · rw [ha, upd_same]
      simp
    · rw [upd_ne ha]
      exact x.stay a h
/-- it becomes a list of the store -/
theorem Ext.adopt {u : SO} {m0 : List Addr} {st0 : Sto} {H0 : Hp} (x : Ext m0 st0 H0 m st H) (hA : H0 A = none) (s : SR R m st H) : Ext m0 st0 H0 (m ++ [A]) (st ++ [u]) H where
  pre := x.pre.trans ⟨[A], rfl⟩
  fresh := fun n a hn e => by
    by_cases h : n < m.length
    · rw [List.getElem?_append_left h] at e
      exact x.fresh n a hn e
    · have hl := (List.getElem?_eq_some_iff.mp e).1
      rw [List.length_append, List.length_singleton] at hl
      obtain rfl : n = m.length := by omega
      rw [List.getElem?_append_right (Nat.le_refl _), Nat.sub_self] at e
      have z : A = a := Option.some.inj e
      rw [← z]
      exact hA
  dead := fun n h => by
    have h2 := x.dead n h
    rw [List.getElem?_append_left (List.getElem?_eq_some_iff.mp h2).1]
    exact h2
  keep := x.keep
  stay := x.stay
theorem at_last {u : SO} {l : List Addr} {s : Sto} (hl : l.length = s.length) {n : Nat} {a : Addr} (e : (l ++ [A])[n]? = some a) : (l[n]? = some a ∧ (s ++ [u])[n]? = s[n]?) ∨ (a = A ∧ n = s.length ∧ (s ++ [u])[n]? = some u) := by
  by_cases h : n < l.length
  · rw [List.getElem?_append_left h] at e
    exact .inl ⟨e, List.getElem?_append_left (by omega)⟩
  · have hz := (List.getElem?_eq_some_iff.mp e).1
    rw [List.length_append, List.length_singleton] at hz
    obtain rfl : n = l.length := by omega
    rw [List.getElem?_append_right (Nat.le_refl _), Nat.sub_self] at e
    refine .inr ⟨(Option.some.inj e).symm, hl, ?_⟩
    rw [hl, List.getElem?_append_right (Nat.le_refl _), Nat.sub_self]
    rfl
theorem NL.adopt {u : SO} {hd : List Addr} {a : Addr} (hl : m.length = st.length) (l : NL (A :: hd) m st a) : NL hd (m ++ [A]) (st ++ [u]) a := ⟨fun n e => by
  rcases at_last (u := u) hl e with ⟨h1, h2⟩ | ⟨h1, _⟩
  · rw [h2]
    exact l.1 n h1
  · exact absurd h1 (l.ne List.mem_cons_self), l.show.1.2⟩
mutual
theorem Rep.adopt {u : SO} (hl : m.length = st.length) : ∀ (d : D) (v : V), Rep (R.w (A :: R.hid)) m st H d v → Rep R (m ++ [A]) (st ++ [u]) H d v
  | .non, _, .non => .non
  | .bl _, _, .bl b => .bl b
  | .int _, _, .int i => .int i
  | .str _, _, .str s => .str s
  | .tup xs, _, .tup h r => .tup ⟨h.1, h.2.adopt hl⟩ (Reps.adopt hl xs _ r)
  | .ct xs, _, .ct h r => .ct h (Reps.adopt hl xs _ r)
  | .dic t ks vs, _, .dic h l k1 k2 r => .dic h (l.adopt hl) k1 k2 (Reps.adopt hl vs _ r)
  | .lst xs, _, .lst h l r => .lst h (l.adopt hl) (Reps.adopt hl xs _ r)
  | .ro xs, _, .ro h r => .ro (by
      rcases h with ⟨h, l⟩ | h
      · exact .inl ⟨h, l.adopt hl⟩
      · exact .inr h) (Reps.adopt hl xs _ r)
  | .ref _, _, .ref h => .ref (by
      rw [List.getElem?_append_left (List.getElem?_eq_some_iff.mp h).1]
      exact h)
  | .fn _, _, .fn h => .fn h
theorem Reps.adopt {u : SO} (hl : m.length = st.length) : ∀ (ds : List D) (vs : List V), Reps (R.w (A :: R.hid)) m st H ds vs → Reps R (m ++ [A]) (st ++ [u]) H ds vs
  | [], _, .nil => .nil
  | d :: ds, _, .cons h t => .cons (Rep.adopt hl d _ h) (Reps.adopt hl ds _ t)
end
theorem SoRep.adopt {u o : SO} {a : Addr} (hl : m.length = st.length) (h : SoRep (R.w (A :: R.hid)) m st H o a) : SoRep R (m ++ [A]) (st ++ [u]) H o a := by
  cases h with
  | lst h r => exact .lst h (Reps.adopt hl _ _ r)
  | dic h k1 k2 r => exact .dic h k1 k2 (Reps.adopt hl _ _ r)
  | ins h0 h k1 k2 r => exact .ins h0 h k1 k2 (Reps.adopt hl _ _ r)
theorem SR.adoptG {u : SO} (s : SR (R.w (A :: R.hid)) m st H) (nh : A ∉ R.hid) (r : SoRep (R.w (A :: R.hid)) m st H u A) : SR R (m ++ [A]) (st ++ [u]) H := by
  have nm : ∀ n : Nat, m[n]? ≠ some A := fun n e => s.dj n A e List.mem_cons_self
  have hA : H A ≠ none := s.hd A List.mem_cons_self
  refine ⟨by rw [List.length_append, List.length_append, s.len]; rfl, ?_, fun n a e => ?_, fun a h => s.hd a (List.mem_cons_of_mem _ h), fun n a e => ?_, fun n a y e q d => ?_⟩
  · rw [List.nodup_append]
    refine ⟨s.nd, by simp, fun a ha b hb z => ?_⟩
    obtain ⟨n, hn⟩ := List.mem_iff_getElem?.mp ha
    rw [List.mem_singleton] at hb
    exact nm n (by rw [← hb, ← z]; exact hn)
  · rcases at_last (u := u) s.len e with ⟨h1, _⟩ | ⟨rfl, _⟩
    · exact s.trk n a h1
    · exact hA
  · rcases at_last (u := u) s.len e with ⟨h1, _⟩ | ⟨rfl, _⟩
    · exact fun z => s.dj n a h1 (List.mem_cons_of_mem _ z)
    · exact nh
  · rcases at_last (u := u) s.len e with ⟨h1, h2⟩ | ⟨rfl, _, h2⟩
    · rw [h2] at q
      exact SoRep.adopt s.len (s.obj n a y h1 q d)
    · rw [h2] at q
      cases q
      exact SoRep.adopt s.len r
theorem SR.adopt {xs : List D} {vs : List V} (s : SR (R.w (A :: R.hid)) m st H) (nh : A ∉ R.hid) (h : H A = some (.lst vs)) (r : Reps (R.w (A :: R.hid)) m st H xs vs) : SR R (m ++ [A]) (st ++ [.lst xs]) H := s.adoptG nh (.lst h r)
end
/-! ### the rule -/
def W0 : WX := fun _ _ _ _ => False
section
variable {X : Cx} {R : RC} {W : WX}
theorem compL_cases (g : List (Nat × List D)) (f : D → Sto → Res (Option D)) : ∀ (ds acc : List D) (st : Sto), compL g f ds acc st = .bad ∨ ∃ ys st', compL g f ds acc st = .ok ys st'
  | [], acc, st => by
    unfold compL
    split
    · exact .inr ⟨_, _, rfl⟩
    · exact .inl rfl
  | d :: ds, acc, st => by
    unfold compL
    split
    · split
      · split
        · exact compL_cases g f ds _ _
        · exact .inl rfl
      · exact compL_cases g f ds _ _
      · exact .inl rfl
    · exact .inl rfl
theorem compL_nil {g : List (Nat × List D)} {f : D → Sto → Res (Option D)} {acc ys : List D} {st st' : Sto} (h : compL g f [] acc st = .ok ys st') : srcOK g st ∧ ys = acc ∧ st' = st := by
  unfold compL at h
  split at h
  · rename_i c
    cases h
    exact ⟨c, rfl, rfl⟩
  · cases h
theorem compL_cons {g : List (Nat × List D)} {f : D → Sto → Res (Option D)} {d : D} {ds acc ys : List D} {st st' : Sto} (h : compL g f (d :: ds) acc st = .ok ys st') :
    srcOK g st ∧ ((∃ y st1, f d st = .ok (some y) st1 ∧ acc.length < sizeLine ∧ compL g f ds (acc ++ [y]) st1 = .ok ys st') ∨ ∃ st1, f d st = .ok none st1 ∧ compL g f ds acc st1 = .ok ys st') := by
  unfold compL at h
  split at h
  · rename_i c
    refine ⟨c, ?_⟩
    split at h
    · rename_i y st1 e
      split at h
      · rename_i l
        exact .inl ⟨y, st1, e, l, h⟩
      · cases h
    · rename_i st1 e
      exact .inr ⟨st1, e, h⟩
    · cases h
  · cases h
theorem noExc_ok {α : Type} {r : Res α} {a : α} {st : Sto} (h : noExc r = .ok a st) : r = .ok a st := by
  cases r with
  | ok b s =>
    cases h
    rfl
  | exc x s => cases h
  | bad => cases h
theorem bnd_is {α β : Type} {r : Res α} {f : α → Sto → Res β} {b : β} {st : Sto} (h : r.bnd f = .ok b st) : ∃ a s, r = .ok a s ∧ f a s = .ok b st := by
  cases r with
  | ok a s => exact ⟨a, s, rfl, h⟩
  | exc x s => cases h
  | bad => cases h
noncomputable def fComp (v : Bool) (wp : List Nat) (t : Tg) (fi : Env → Sto → Res (List D × List (Nat × List D))) (fc : Env → Sto → Res Bool) (fe : Env → Sto → Res D) : Env → Sto → Res D := fun env st => (fi env st).bnd fun ig st =>
      (compL ig.2 (fun d st => match setT t d (wipeE wp env) with
        | some env' => noExc ((fc env' st).bnd fun b st => if b = true then (fe env' st).bnd fun y st => .ok (some y) st else .ok none st)
        | none => .bad) ig.1 [] st).bnd fun ys st => if v then .ok (.lst ys) st else .ok (.ref st.length) (st ++ [.lst ys])
theorem comp_imp {own : List (Str × Nat)} {t : Tg} {fi : Env → Sto → Res (List D × List (Nat × List D))} {fc : Env → Sto → Res Bool} {fe : Env → Sto → Res D} {v : Bool} (hsub : ∀ i ∈ slotsT t, i ∈ own.map (·.2)) {σ : L2.St} {H : Hp} {Q : VK}
    (h : tE R W (fComp v (own.map (·.2)) t fi fc fe) σ H Q) : tLc (tI R W fi) (gM R.K t) (tT R W0 fc) (tE R W0 fe) (own.map (·.2)) σ H Q := by
  obtain ⟨hd, m, env, st, s, er, q⟩ := h
  refine ⟨hd, m, env, st, s, er, ?_⟩
  unfold fComp at q
  cases e1 : fi env st with
  | bad =>
    rw [e1] at q
    exact q.elim
  | exc x st1 =>
    rw [e1] at q
    exact q
  | ok ig st1 =>
    rw [e1, bnd_ok] at q
    obtain ⟨ds, g⟩ := ig
    dsimp only at q ⊢
    intro m1 H1 J x1 s1 wk A hA
    have er1 := er.mono x1
    have nh : A ∉ hd := fun z => s1.hd A z hA
    obtain ⟨body, hbody⟩ : ∃ body : D → Sto → Res (Option D), body = fun d st => match setT t d (wipeE (own.map (·.2)) env) with
        | some env' => noExc ((fc env' st).bnd fun b st => if b = true then (fe env' st).bnd fun y st => .ok (some y) st else .ok none st)
        | none => .bad := ⟨_, rfl⟩
    rw [← hbody] at q
    rcases compL_cases g body ds [] st1 with z | ⟨ys, stf, z⟩
    · rw [z] at q
      exact q.elim
    rw [z, bnd_ok] at q
    have hok : HidOk (R.w hd).hid (A :: hd) H1 := fun a ha => (List.mem_cons.mp ha).elim (fun z => .inr (by rw [z]; exact hA)) .inl
    refine ⟨fun i μ H' => i ≤ ds.length ∧ μ = ds.length - i ∧ ∃ m2 st2 acc vs, Ext m1 st1 H1 m2 st2 H' ∧ SR (R.w (A :: hd)) m2 st2 H' ∧ H' A = some (.lst vs) ∧ Reps (R.w (A :: hd)) m2 st2 H' acc vs ∧ ER (R.w (A :: hd)) m2 st2 H' σ env ∧
      compL g body (ds.drop i) acc st2 = .ok ys stf, ⟨_, Nat.zero_le _, rfl, m1, st1, [], [], Ext.new hA, s1.hide hA, upd_same, .nil, er1.hide hA, z⟩, ?_⟩
    rintro i μ H' ⟨hi, rfl, m2, st2, acc, vs, x2, s2, hA2, racc, er2, hr⟩
    have nm : NotLive m2 st2 A := fun n e => absurd List.mem_cons_self (s2.dj n A e)
    cases hd0 : ds.drop i with
    | nil =>
      rw [hd0] at hr
      obtain ⟨hsrc, rfl, rfl⟩ := compL_nil hr
      have hlen : i = ds.length := by
        have := List.drop_eq_nil_iff.mp hd0
        omega
      subst hlen
      have w2 := wk (A :: hd) m2 stf H' hok x2.toH s2 hsrc
      refine .inl ⟨w2.2.1, ?_⟩
      have s3 : SR (R.w hd) m2 stf H' := SR.reveal (R := R.w hd) s2
      cases v with
      | true => exact q m2 H' _ (x1.trans x2) s3 (.lst hA2 ⟨nm, nh⟩ (Reps.reveal (R := R.w hd) _ _ racc))
      | false =>
        refine q (m2 ++ [A]) H' _ (x1.trans (Ext.adopt x2 hA s3)) (SR.adopt (R := R.w hd) s2 nh hA2 racc) (.ref ?_)
        rw [← s2.len, List.getElem?_append_right (Nat.le_refl _), Nat.sub_self]
        rfl
    | cons d rest =>
      rw [hd0] at hr
      obtain ⟨hsrc, hr⟩ := compL_cons hr
      have hlt : i < ds.length := by
        have : (ds.drop i).length = (d :: rest).length := by rw [hd0]
        rw [List.length_drop, List.length_cons] at this
        omega
      have hget : ds[i]? = some d := by
        have : (ds.drop i)[0]? = some d := by rw [hd0]; rfl
        rw [List.getElem?_drop] at this
        simpa using this
      have hrest : ds.drop (i + 1) = rest := by
        have : (ds.drop i).drop 1 = rest := by rw [hd0]; rfl
        rw [List.drop_drop] at this
        exact this
      have w2 := wk (A :: hd) m2 st2 H' hok x2.toH s2 hsrc
      refine .inr ⟨w2.1 i hlt, fun H'' => (i + 1) ≤ ds.length ∧ ∃ m2 st2 acc vs, Ext m1 st1 H1 m2 st2 H'' ∧ SR (R.w (A :: hd)) m2 st2 H'' ∧ H'' A = some (.lst vs) ∧ Reps (R.w (A :: hd)) m2 st2 H'' acc vs ∧ ER (R.w (A :: hd)) m2 st2 H'' σ env ∧
        compL g body (ds.drop (i + 1)) acc st2 = .ok ys stf, fun H'' ⟨h1, h2⟩ => ⟨ds.length - (i + 1), by omega, h1, rfl, h2⟩, fun y H3 hy => ?_⟩
      obtain ⟨d', e2, x3, s3, r3⟩ := w2.2.2 i y H3 hlt hy
      rw [hget] at e2
      cases e2
      -- the target
      have hA3 : H3 A = some (.lst vs) := x3.keep _ _ hA2 nm
      cases et : setT t d (wipeE (own.map (·.2)) env) with
      | none =>
        have : body d st2 = .bad := by rw [hbody]; dsimp only; rw [et]
        rcases hr with ⟨_, _, e, _⟩ | ⟨_, e, _⟩
        · rw [this] at e
          cases e
        · rw [this] at e
          cases e
      | some env' =>
        have eb : body d st2 = noExc ((fc env' st2).bnd fun b st => if b = true then (fe env' st).bnd fun y st => .ok (some y) st else .ok none st) := by rw [hbody]; dsimp only; rw [et]
        rw [eb] at hr
        have er3 := er2.mono x3
        refine setT_ok (R := R.w (A :: hd)) er3.wipe r3 et fun σ2 hch er4 => ⟨wipe_eq ((wipe_chg _ σ).trans (hch.sub hsub)), ?_⟩
        have hb : ∃ b st4, fc env' st2 = .ok b st4 ∧ ((b = true ∧ ∃ y st5, fe env' st4 = .ok y st5 ∧ acc.length < sizeLine ∧ compL g body rest (acc ++ [y]) st5 = .ok ys stf) ∨ (b = false ∧ compL g body rest acc st4 = .ok ys stf)) := by
          rcases hr with ⟨y', st5, e, l, c⟩ | ⟨st5, e, c⟩
          · obtain ⟨b, st4, e4, e5⟩ := bnd_is (noExc_ok e)
            cases b with
            | true =>
              obtain ⟨y2, st6, e6, e7⟩ := bnd_is e5
              cases e7
              exact ⟨true, st4, e4, .inl ⟨rfl, _, _, e6, l, c⟩⟩
            | false => cases e5
          · obtain ⟨b, st4, e4, e5⟩ := bnd_is (noExc_ok e)
            cases b with
            | true =>
              obtain ⟨y2, st6, e6, e7⟩ := bnd_is e5
              cases e7
            | false =>
              cases e5
              exact ⟨false, _, e4, .inr ⟨rfl, c⟩⟩
        obtain ⟨b, st4, e4, hb⟩ := hb
        refine ⟨A :: hd, m2, env', st2, s3, er4, ?_⟩
        rw [e4]
        intro m4 H4 x4 s4
        have hA4 : H4 A = some (.lst vs) := x4.keep _ _ hA3 nm
        have nm4 : NotLive m4 st4 A := fun n e => absurd List.mem_cons_self (s4.dj n A e)
        rcases hb with ⟨rfl, y', st5, e5, l, c⟩ | ⟨rfl, c⟩
        · rw [if_pos rfl]
          refine ⟨A :: hd, m4, env', st4, s4, er4.mono x4, ?_⟩
          rw [e5]
          intro m5 H5 u x5 s5 r5
          have hA5 : H5 A = some (.lst vs) := x5.keep _ _ hA4 nm4
          refine ⟨vs, hA5, by rw [← racc.length]; exact l, hlt, m5, st5, acc ++ [y'], vs ++ [u], Ext.poke (((x2.trans x3).trans x4).trans x5) hA, s5.poke List.mem_cons_self, upd_same, ?_, ?_, ?_⟩
          · exact (Reps.poke (hd := []) List.mem_cons_self _ _ (Reps.mono ((x3.trans x4).trans x5) _ _ racc)).append (.cons (Rep.poke (hd := []) List.mem_cons_self _ _ r5) .nil)
          · exact (er2.mono ((x3.trans x4).trans x5)).poke List.mem_cons_self
          · rw [hrest]
            exact c
        · rw [if_neg Bool.false_ne_true]
          refine ⟨hlt, m4, st4, acc, vs, (x2.trans x3).trans x4, s4, hA4, Reps.mono (x3.trans x4) _ _ racc, er2.mono (x3.trans x4), ?_⟩
          rw [hrest]
          exact c
theorem pe_comp {e it : Expr} {tg : Expr} {ifs : List Expr} {scope : Scope} {own : List (Str × Nat)} {pos : Pos} {t : Tg} {fi : Env → Sto → Res (List D × List (Nat × List D))} {fc : Env → Sto → Res Bool} {fe : Env → Sto → Res D} {v : Bool}
    (hc : X.calm = true) (hN : X.N.Nodup) (hi : PI X tg it (tI R W fi)) (ok : BlkOk X.N X.env.scope scope own)
    (hg : ∀ (s : Shared) (H : Hp) (C : Addr) (cl : List (Str × Addr)) (fp : List Addr), PG (X.blk s H scope (compEnvC scope cl C X.env) fp) tg (gM R.K t)) (ht : ∀ (s : Shared) (H : Hp) (C : Addr) (cl : List (Str × Addr)) (fp : List Addr), PTs (X.blk s H scope (compEnvC scope cl C X.env) fp) ifs (tT R W0 fc))
    (he : ∀ (s : Shared) (H : Hp) (C : Addr) (cl : List (Str × Addr)) (fp : List Addr), PE (X.blk s H scope (compEnvC scope cl C X.env) fp) e (tE R W0 fe)) (hs : ∀ x, foldedSetIterable it X.env x = pure x) (hsub : ∀ i ∈ slotsT t, i ∈ own.map (·.2)) :
    PE X (.ListComp e [⟨tg, it, ifs, 0⟩] scope pos) (tE R W (fComp v (own.map (·.2)) t fi fc fe)) := PE.imp (pe_lc hc hN hi ok hg ht he hs) fun _ _ _ h => comp_imp hsub h
end
end Mini
end
section
set_option linter.all false
set_option autoImplicit false
set_option maxRecDepth 100000
set_option maxHeartbeats 1000000
/-! Statements. -/
namespace Mini
open PySem PySem.Spec PyProof.Rows L2
def PostS (R : RC) (m : List Addr) (st : Sto) (H : Hp) (o : Out) (D : Ends) (W : WX) : Prop := match o with
  | .nx env' st' => ∀ m' H' σ', Ext m st H m' st' H' → SR R m' st' H' → ER R m' st' H' σ' env' → D.nx σ' H'
  | .brk env' st' => ∀ m' H' σ', Ext m st H m' st' H' → SR R m' st' H' → ER R m' st' H' σ' env' → D.bk σ' H'
  | .cont env' st' => ∀ m' H' σ', Ext m st H m' st' H' → SR R m' st' H' → ER R m' st' H' σ' env' → D.ct σ' H'
  | .ret d st' => ∀ m' H' v, Ext m st H m' st' H' → SR R m' st' H' → Rep R m' st' H' d v → D.rt v H'
  | .exc x env' st' => ∀ m' H' σ' c dd, Ext m st H m' st' H' → SR R m' st' H' → ER R m' st' H' σ' env' → XRep R m' st' H' x c dd → W c dd σ' H'
  | .bad => False
def tS (R : RC) (W : WX) (f : Env → Sto → Out) : TS := fun D σ H => ∃ hd m env st, SR (R.w hd) m st H ∧ ER (R.w hd) m st H σ env ∧ PostS (R.w hd) m st H (f env st) D W
theorem PS.imp {X : Cx} {s : Stmt} {t t' : TS} (h : PS X s t) (i : ∀ D σ H, t' D σ H → t D σ H) : PS X s t' := ⟨fun pins s σ H D I q => h.run pins s σ H D I (i D σ H q)⟩
theorem PSs.imp {X : Cx} {s : List Stmt} {t t' : TS} (h : PSs X s t) (i : ∀ D σ H, t' D σ H → t D σ H) : PSs X s t' := ⟨fun pins s σ H D I q => h.run pins s σ H D I (i D σ H q)⟩
section
variable {R : RC} {W : WX} {m m' : List Addr} {st st' : Sto} {H H' : Hp} {σ : L2.St} {env : Env} {D : Ends} {hd : List Addr}
theorem PostS.shift {o : Out} (x : Ext m st H m' st' H') (p : PostS R m st H o D W) : PostS R m' st' H' o D W := by
  cases o with
  | nx e s => exact fun m2 H2 σ' y s2 r2 => p m2 H2 σ' (x.trans y) s2 r2
  | brk e s => exact fun m2 H2 σ' y s2 r2 => p m2 H2 σ' (x.trans y) s2 r2
  | cont e s => exact fun m2 H2 σ' y s2 r2 => p m2 H2 σ' (x.trans y) s2 r2
  | ret d s => exact fun m2 H2 v y s2 r2 => p m2 H2 v (x.trans y) s2 r2
  | exc e env s => exact fun m2 H2 σ' c dd y s2 er r2 => p m2 H2 σ' c dd (x.trans y) s2 er r2
  | bad => exact p
theorem outE {f : Env → Sto → Res Mini.D} {k : Mini.D → Sto → Out} {C : VK} (s : SR (R.w hd) m st H) (er : ER (R.w hd) m st H σ env) (p : PostS (R.w hd) m st H ((f env st).out env k) D W)
    (hk : ∀ d st1 m1 H1 v, Ext m st H m1 st1 H1 → SR (R.w hd) m1 st1 H1 → ER (R.w hd) m1 st1 H1 σ env → Rep (R.w hd) m1 st1 H1 d v → PostS (R.w hd) m1 st1 H1 (k d st1) D W → C v H1) : tE R W f σ H C := by
  refine ⟨hd, m, env, st, s, er, ?_⟩
  cases e : f env st with
  | ok d st1 =>
    rw [e] at p
    exact fun m1 H1 v x s1 r1 => hk d st1 m1 H1 v x s1 (er.mono x) r1 (PostS.shift x p)
  | exc x st1 =>
    rw [e] at p
    exact fun m1 H1 c dd x s1 r1 => p m1 H1 σ c dd x s1 (er.mono x) r1
  | bad =>
    rw [e] at p
    exact p.elim
theorem outL {f : Env → Sto → Res (List Mini.D)} {k : List Mini.D → Sto → Out} {C : List V → Hp → Prop} (s : SR (R.w hd) m st H) (er : ER (R.w hd) m st H σ env) (p : PostS (R.w hd) m st H ((f env st).out env k) D W)
    (hk : ∀ d st1 m1 H1 v, Ext m st H m1 st1 H1 → SR (R.w hd) m1 st1 H1 → ER (R.w hd) m1 st1 H1 σ env → Reps (R.w hd) m1 st1 H1 d v → PostS (R.w hd) m1 st1 H1 (k d st1) D W → C v H1) : tA R W f σ H C := by
  refine ⟨hd, m, env, st, s, er, ?_⟩
  cases e : f env st with
  | ok d st1 =>
    rw [e] at p
    exact fun m1 H1 v x s1 r1 => hk d st1 m1 H1 v x s1 (er.mono x) r1 (PostS.shift x p)
  | exc x st1 =>
    rw [e] at p
    exact fun m1 H1 c dd x s1 r1 => p m1 H1 σ c dd x s1 (er.mono x) r1
  | bad =>
    rw [e] at p
    exact p.elim
theorem outT {f : Env → Sto → Res Bool} {k : Bool → Sto → Out} {C : Bool → Hp → Prop} (s : SR (R.w hd) m st H) (er : ER (R.w hd) m st H σ env) (p : PostS (R.w hd) m st H ((f env st).out env k) D W)
    (hk : ∀ d st1 m1 H1, Ext m st H m1 st1 H1 → SR (R.w hd) m1 st1 H1 → ER (R.w hd) m1 st1 H1 σ env → PostS (R.w hd) m1 st1 H1 (k d st1) D W → C d H1) : tT R W f σ H C := by
  refine ⟨hd, m, env, st, s, er, ?_⟩
  cases e : f env st with
  | ok d st1 =>
    rw [e] at p
    exact fun m1 H1 x s1 => hk d st1 m1 H1 x s1 (er.mono x) (PostS.shift x p)
  | exc x st1 =>
    rw [e] at p
    exact fun m1 H1 c dd x s1 r1 => p m1 H1 σ c dd x s1 (er.mono x) r1
  | bad =>
    rw [e] at p
    exact p.elim
theorem PostS.nx0 {env' : Env} {σ' : L2.St} (p : PostS R m st H (.nx env' st) D W) (s : SR R m st H) (e : ER R m st H σ' env') : D.nx σ' H := p m H σ' Ext.refl s e
theorem nxO_some {e : Option Env} (p : PostS R m st H (nxO e st) D W) : ∃ env', e = some env' ∧ PostS R m st H (.nx env' st) D W := by
  cases e with
  | none => exact p.elim
  | some e => exact ⟨e, rfl, p⟩
end
section
variable {X : Cx} {R : RC} {W : WX}
theorem pss_n : PSs X [] (tS R W fun env st => .nx env st) := PSs.imp pss_nil fun D σ H ⟨hd, m, env, st, s, er, p⟩ => p.nx0 s er
theorem pss_c {s : Stmt} {ss : List Stmt} {f g : Env → Sto → Out} (h : PS X s (tS R W f)) (t : PSs X ss (tS R W g)) : PSs X (s :: ss) (tS R W fun env st => (f env st).sq fun env st => g env st) := by
  refine PSs.imp (pss_cons h t) fun D σ H ⟨hd, m, env, st, s, er, p⟩ => ⟨hd, m, env, st, s, er, ?_⟩
  dsimp only at p
  cases e : f env st with
  | nx env' st' =>
    rw [e] at p
    exact fun m1 H1 σ1 x s1 er1 => ⟨hd, m1, env', st', s1, er1, PostS.shift x p⟩
  | brk env' st' =>
    rw [e] at p
    exact p
  | cont env' st' =>
    rw [e] at p
    exact p
  | ret d st' =>
    rw [e] at p
    exact p
  | exc x env' st' =>
    rw [e] at p
    exact p
  | bad =>
    rw [e] at p
    exact p.elim
theorem ps_passM {pos : Pos} : PS X (.Pass pos) (tS R W fun env st => .nx env st) := PS.imp ps_pass fun D σ H ⟨hd, m, env, st, s, er, p⟩ => p.nx0 s er
theorem ps_brkM {pos : Pos} : PS X (.Break pos) (tS R W fun env st => .brk env st) := PS.imp ps_break fun D σ H ⟨hd, m, env, st, s, er, p⟩ => p m H σ Ext.refl s er
theorem ps_contM {pos : Pos} : PS X (.Continue pos) (tS R W fun env st => .cont env st) := PS.imp ps_continue fun D σ H ⟨hd, m, env, st, s, er, p⟩ => p m H σ Ext.refl s er
/-- target = e -/
theorem asg_imp {t : Tg} {f : Env → Sto → Res Mini.D} {D : Ends} {σ : L2.St} {H : Hp} (h : tS R W (fun env st => (f env st).out env fun d st => nxO (setT t d env) st) D σ H) : tAsg (tE R W f) (gM R.K t) D σ H := by
  obtain ⟨hd, m, env, st, s, er, p⟩ := h
  refine outE s er p fun d st1 m1 H1 v x1 s1 er1 r1 p1 => ?_
  obtain ⟨env', e1, p2⟩ := nxO_some p1
  exact setT_ok (R := R.w hd) er1 r1 e1 fun σ' _ er2 => p2.nx0 s1 er2
theorem ps_asgM {tg e : Expr} {pos : Pos} {t : Tg} {f : Env → Sto → Res Mini.D} (he : PE X e (tE R W f)) (hg : PG X tg (gM R.K t)) (hs : swapsWithSole [tg] e pos.line X.env = pure false) (hw : swappedStores [tg] e X.env = pure none)
    (h1 : (assignEach [tg] X.env).map (·.2) = [assign tg X.env]) : PS X (.Assign [tg] e pos) (tS R W fun env st => (f env st).out env fun d st => nxO (setT t d env) st) := PS.imp (ps_asg he hg hs hw h1) fun _ _ _ h => asg_imp h
theorem ps_setM {i : Nat} {x : Str} {e : Expr} {pos pos' : Pos} {f : Env → Sto → Res Mini.D} (hN : X.N.Nodup) (hi : X.N[i]? = some x) (hx : Loc X.env.scope x) (he : PE X e (tE R W f)) (hs : swapsWith e (some (.Name x pos')) pos.line X.env = pure false)
    (hf : X.fn x = true ∨ X.env.scope.names.lookup x = some .local) : PS X (.Assign [.Name x pos'] e pos) (tS R W fun env st => (f env st).out env fun d st => nxO (setT (.nm i) d env) st) := PS.imp (ps_set hN hi hx he hs hf) fun _ _ _ h => asg_imp (t := .nm i) h
theorem ps_compM {i : Nat} {y : Str} {py : Pos} {e it : Expr} {tg : Expr} {ifs : List Expr} {scope : Scope} {own : List (Str × Nat)} {pos spos : Pos} {t : Tg} {fi : Env → Sto → Res (List Mini.D × List (Nat × List Mini.D))} {fc : Env → Sto → Res Bool} {fe : Env → Sto → Res Mini.D} {v : Bool}
    (hc : X.calm = true) (hN : X.N.Nodup) (hy : X.N[i]? = some y) (hyl : X.env.scope.names.lookup y = some .local) (hsw : swapsWith (.ListComp e [⟨tg, it, ifs, 0⟩] scope pos) (some (.Name y py)) spos.line X.env = pure true) (hi : PI X tg it (tI R W fi)) (ok : BlkOk X.N X.env.scope scope own)
    (hg : ∀ (s : Shared) (H : Hp) (C : Addr) (cl : List (Str × Addr)) (fp : List Addr), PG (X.blk s H scope (compEnvC scope cl C X.env) fp) tg (gM R.K t)) (ht : ∀ (s : Shared) (H : Hp) (C : Addr) (cl : List (Str × Addr)) (fp : List Addr), PTs (X.blk s H scope (compEnvC scope cl C X.env) fp) ifs (tT R W0 fc))
    (he : ∀ (s : Shared) (H : Hp) (C : Addr) (cl : List (Str × Addr)) (fp : List Addr), PE (X.blk s H scope (compEnvC scope cl C X.env) fp) e (tE R W0 fe)) (hs : ∀ x, foldedSetIterable it X.env x = pure x) (hsub : ∀ i ∈ slotsT t, i ∈ own.map (·.2)) :
    PS X (.Assign [.Name y py] (.ListComp e [⟨tg, it, ifs, 0⟩] scope pos) spos) (tS R W fun env st => (fComp v (own.map (·.2)) t fi fc fe env st).out env fun d st => nxO (setT (.nm i) d env) st) := by
  refine PS.imp (ps_setLc hc hN hy hyl hsw hi ok hg ht he hs) fun D σ H h => ?_
  exact comp_imp hsub (asg_imp (t := .nm i) h)
/-- a, b = x, y -/
theorem ps_parM {i j : Nat} {x y : Str} {a b : Expr} {px py pt : Pos} {kt k2 : Nat} {pt2 pos : Pos} {g : Env → Sto → Res (List Mini.D)} (hc : X.calm = true) (hN : X.N.Nodup) (hi : X.N[i]? = some x) (hj : X.N[j]? = some y) (hij : i ≠ j)
    (hx : X.env.scope.names.lookup x = some .local) (hy : X.env.scope.names.lookup y = some .local) (ha : PA X [a, b] (tA R W g)) (hw : swappedStores [.Tuple [.Name x px, .Name y py] kt pt] (.Tuple [a, b] k2 pt2) X.env = pure (some [x, y]))
    (hs : swapsWithSole [.Tuple [.Name x px, .Name y py] kt pt] (.Tuple [a, b] k2 pt2) pos.line X.env = pure false) :
    PS X (.Assign [.Tuple [.Name x px, .Name y py] kt pt] (.Tuple [a, b] k2 pt2) pos) (tS R W fun env st => (g env st).out env fun ds st => nxO (setN [i, j] ds env) st) := by
  refine PS.imp (ps_par hc hN hi hj hij hx hy ha hw hs) fun D σ H ⟨hd, m, env, st, s, er, p⟩ => ?_
  refine outL s er p fun ds st1 m1 H1 vs x1 s1 er1 r1 p1 => ?_
  obtain ⟨env', e1, p2⟩ := nxO_some p1
  rcases ds with _ | ⟨d, _ | ⟨d2, _ | ⟨d3, l⟩⟩⟩ <;> first | (cases e1; done) | skip
  cases e1
  obtain ⟨v, w, rfl, h1, h2⟩ := r1.two
  exact ⟨v, w, rfl, p2.nx0 s1 ((er1.set h1).set h2)⟩
theorem ps_parM3 {i j l : Nat} {x y z : Str} {a b c : Expr} {px py pz pt : Pos} {kt k2 : Nat} {pt2 pos : Pos} {g : Env → Sto → Res (List Mini.D)} (hc : X.calm = true) (hN : X.N.Nodup) (hi : X.N[i]? = some x) (hj : X.N[j]? = some y) (hl : X.N[l]? = some z) (hij : i ≠ j) (hil : i ≠ l) (hjl : j ≠ l)
    (hx : X.env.scope.names.lookup x = some .local) (hy : X.env.scope.names.lookup y = some .local) (hz : X.env.scope.names.lookup z = some .local) (ha : PA X [a, b, c] (tA R W g))
    (hw : swappedStores [.Tuple [.Name x px, .Name y py, .Name z pz] kt pt] (.Tuple [a, b, c] k2 pt2) X.env = pure (some [x, y, z])) (hs : swapsWithSole [.Tuple [.Name x px, .Name y py, .Name z pz] kt pt] (.Tuple [a, b, c] k2 pt2) pos.line X.env = pure false) :
    PS X (.Assign [.Tuple [.Name x px, .Name y py, .Name z pz] kt pt] (.Tuple [a, b, c] k2 pt2) pos) (tS R W fun env st => (g env st).out env fun ds st => nxO (setN [i, j, l] ds env) st) := by
  refine PS.imp (ps_par3 hc hN hi hj hl hij hil hjl hx hy hz ha hw hs) fun D σ H ⟨hd, m, env, st, s, er, p⟩ => ?_
  refine outL s er p fun ds st1 m1 H1 vs x1 s1 er1 r1 p1 => ?_
  obtain ⟨env', e1, p2⟩ := nxO_some p1
  rcases ds with _ | ⟨d, _ | ⟨d2, _ | ⟨d3, _ | ⟨d4, l⟩⟩⟩⟩ <;> first | (cases e1; done) | skip
  cases e1
  obtain ⟨v, w, u, rfl, h1, h2, h3⟩ := r1.three
  exact ⟨v, w, u, rfl, p2.nx0 s1 (((er1.set h1).set h2).set h3)⟩
/-- o[i] = e -/
theorem setIx_ok {m : List Addr} {st st' : Sto} {H : Hp} {o i d : Mini.D} {ov iv v : V} {Q : Hp → Prop} (s : SR R m st H) (ro : Rep R m st H o ov) (ri : Rep R m st H i iv) (rd : Rep R m st H d v) (h : setIx o i d st = some st')
    (k : ∀ H', Ext m st H m st' H' → SR R m st' H' → Q H') : rSetL ov iv v H Q := by
  unfold setIx at h
  split at h
  · rename_i n k'
    split at h
    · rename_i xs e
      obtain ⟨j, hj, rfl⟩ := map_some h
      obtain ⟨a, rfl, ha⟩ := rep_ref ro
      obtain rfl := ri.inj_int
      obtain ⟨vs, h1, h2⟩ := s.lst n a xs ha e
      exact ⟨a, vs, k', j, rfl, rfl, h1, by rw [← h2.length]; exact hj, k _ (Ext.set ha e (by simp)) (s.set ha e (by simp) (h2.set j rd))⟩
    · cases h
  · cases h
theorem ps_asgIxM {o i e : Expr} {pos pos' : Pos} {fo fi fe : Env → Sto → Res Mini.D} (ho : PE X o (tE R W fo)) (hi : PE X i (tE R W fi)) (he : PE X e (tE R W fe)) (hg : PG X (.Subscript o i pos') (gSub (tE R W fo) (tE R W fi) rSetL))
    (hs : swapsWithSole [.Subscript o i pos'] e pos.line X.env = pure false) (hw : swappedStores [.Subscript o i pos'] e X.env = pure none) (h1 : (assignEach [.Subscript o i pos'] X.env).map (·.2) = [assign (.Subscript o i pos') X.env]) :
    PS X (.Assign [.Subscript o i pos'] e pos) (tS R W fun env st => (fe env st).out env fun d st => (fo env st).out env fun x st => (fi env st).out env fun y st => match setIx x y d st with
      | some st => .nx env st
      | none => .bad) := by
  refine PS.imp (ps_asg he hg hs hw h1) fun D σ H ⟨hd, m, env, st, s, er, p⟩ => ?_
  refine outE s er p fun d st1 m1 H1 v x1 s1 er1 r1 p1 => ?_
  refine outE s1 er1 p1 fun od st2 m2 H2 ov x2 s2 er2 r2 p2 => ?_
  refine outE s2 er2 p2 fun id st3 m3 H3 iv x3 s3 er3 r3 p3 => ?_
  cases e4 : setIx od id d st3 with
  | none =>
    rw [e4] at p3
    exact p3.elim
  | some st4 =>
    rw [e4] at p3
    exact setIx_ok s3 (Rep.mono x3 _ _ r2) r3 (Rep.mono x3 _ _ (Rep.mono x2 _ _ r1)) e4 fun H4 x4 s4 => p3 m3 H4 σ x4 s4 (er3.mono x4)
/-- an expression alone -/
theorem ps_exM {e : Expr} {pos : Pos} {f : Env → Sto → Res Mini.D} (he : PE X e (tE R W f)) (hs : swapsWith e none pos.line X.env = pure false) : PS X (.Expr e pos) (tS R W fun env st => (f env st).out env fun _ st => .nx env st) := by
  refine PS.imp (ps_expr he hs) fun D σ H ⟨hd, m, env, st, s, er, p⟩ => ?_
  exact outE s er p fun d st1 m1 H1 v x1 s1 er1 r1 p1 => p1.nx0 s1 er1
theorem ps_retM {e : Expr} {pos : Pos} {f : Env → Sto → Res Mini.D} (he : PE X e (tE R W f)) : PS X (.Return (some e) pos) (tS R W fun env st => (f env st).out env fun d st => .ret d st) := by
  refine PS.imp (ps_ret he) fun D σ H ⟨hd, m, env, st, s, er, p⟩ => ?_
  exact outE s er p fun d st1 m1 H1 v x1 s1 er1 r1 p1 => p1 m1 H1 v Ext.refl s1 r1
theorem ps_retNM {pos : Pos} : PS X (.Return none pos) (tS R W fun _ st => .ret .non st) := PS.imp ps_retN fun D σ H ⟨hd, m, env, st, s, er, p⟩ => p m H _ Ext.refl s .non
theorem ps_ifM {c : Expr} {a b : List Stmt} {pos : Pos} {f : Env → Sto → Res Bool} {g h : Env → Sto → Out} (hc : PT X c (tT R W f)) (ha : PSs X a (tS R W g)) (hb : PSs X b (tS R W h)) :
    PS X (.If c a b pos) (tS R W fun env st => (f env st).out env fun x st => if x = true then g env st else h env st) := by
  refine PS.imp (ps_if hc ha hb) fun D σ H ⟨hd, m, env, st, s, er, p⟩ => ?_
  refine outT s er p fun d st1 m1 H1 x1 s1 er1 p1 => ?_
  cases d with
  | true => exact ⟨hd, m1, env, st1, s1, er1, p1⟩
  | false => exact ⟨hd, m1, env, st1, s1, er1, p1⟩
/-- name op= e -/
theorem ps_augM {p : Pr} {op : Operator} {r : R2} {i : Nat} {x : Str} {e : Expr} {pos pos' : Pos} {f : Env → Sto → Res Mini.D} (sm : ∀ hd, Sim (R.w hd) p (l2 r)) (ho : OpR X (inplaceOp op) r) (hN : X.N.Nodup) (hi : X.N[i]? = some x) (hx : Loc X.env.scope x) (he : PE X e (tE R W f))
    (hf : X.fn x = true ∨ X.env.scope.names.lookup x = some .local) : PS X (.AugAssign (.Name x pos') op e pos) (tS R W fun env st => match getV env i with
      | some x => (f env st).out env fun y st => (liftP (prim p [x, y] st)).out env fun z st => .nx (env.set i (some z)) st
      | none => .bad) := by
  refine PS.imp (ps_aug hN hi hx he ho hf) fun D σ H ⟨hd, m, env, st, s, er, q⟩ => ?_
  dsimp only at q
  cases e1 : getV env i with
  | none =>
    rw [e1] at q
    exact q.elim
  | some d0 =>
    rw [e1] at q
    have e2 : env[i]? = some (some d0) := by
      unfold getV at e1
      cases z : env[i]? with
      | none =>
        rw [z] at e1
        cases e1
      | some o =>
        rw [z] at e1
        cases o with
        | none => cases e1
        | some y =>
          cases e1
          rfl
    obtain ⟨v0, h1, h2⟩ := er.2 i d0 e2
    refine ⟨v0, h1, ?_⟩
    refine outE s er q fun d st1 m1 H1 v x1 s1 er1 r1 p1 => ?_
    obtain ⟨a, b, e3, z⟩ := sm hd m1 st1 H1 [d0, d] [v0, v] (fun z H2 => D.nx (σ.set i (some z)) H2) s1 (.cons (Rep.mono x1 _ _ h2) (.cons r1 .nil)) (by
      cases e4 : prim p [d0, d] st1 with
      | none =>
        rw [e4] at p1
        exact p1.elim
      | some w =>
        obtain ⟨c, st2⟩ := w
        rw [e4] at p1
        exact fun m2 H2 u x2 s2 r2 => p1 m2 H2 _ x2 s2 ((er1.mono x2).set r2))
    cases e3
    exact z
end
end Mini
end
section
set_option linter.all false
set_option autoImplicit false
set_option maxRecDepth 100000
set_option maxHeartbeats 1000000
/-! Loops. -/
namespace Mini
open PySem PySem.Spec PyProof.Rows L2
section
variable {X : Cx} {R : RC} {W : WX}
theorem while_imp {c : Env → Sto → Res Bool} {b : Env → Sto → Out} {D : Ends} {σ : L2.St} {H : Hp} (h : tS R W (loopW c b) D σ H) : tWhile (tT R W c) (tS R W b) D σ H := by
  obtain ⟨hd, m, env, st, s, er, p⟩ := h
  unfold loopW at p
  split at p
  · rename_i hn
    refine ⟨fun k σ H => tS R W (loopN c b k) D σ H, ⟨hn.choose, hd, m, env, st, s, er, p⟩, ?_⟩
    rintro k σ H ⟨hd, m, env, st, s, er, p⟩
    cases k with
    | zero => exact p.elim
    | succ k =>
      unfold loopN at p
      refine ⟨hd, m, env, st, s, er, ?_⟩
      cases e : c env st with
      | ok x st1 =>
        rw [e] at p
        intro m1 H1 x1 s1
        cases x with
        | false => exact p m1 H1 σ x1 s1 (er.mono x1)
        | true =>
          rw [if_pos rfl]
          refine ⟨fun σ' H' => tS R W (loopN c b k) D σ' H', fun σ' H' h => ⟨k, Nat.lt_succ_self k, h⟩, hd, m1, env, st1, s1, er.mono x1, ?_⟩
          dsimp only at p
          have p := PostS.shift x1 p
          cases eb : b env st1 with
          | nx env' st' =>
            rw [eb] at p
            exact fun m2 H2 σ2 x2 s2 er2 => ⟨hd, m2, env', st', s2, er2, PostS.shift x2 p⟩
          | cont env' st' =>
            rw [eb] at p
            exact fun m2 H2 σ2 x2 s2 er2 => ⟨hd, m2, env', st', s2, er2, PostS.shift x2 p⟩
          | brk env' st' =>
            rw [eb] at p
            exact p
          | ret d st' =>
            rw [eb] at p
            exact p
          | exc x env' st' =>
            rw [eb] at p
            exact p
          | bad =>
            rw [eb] at p
            exact p.elim
      | exc x st1 =>
        rw [e] at p
        exact fun m1 H1 cc dd x1 s1 r1 => p m1 H1 σ cc dd x1 s1 (er.mono x1) r1
      | bad =>
        rw [e] at p
        exact p.elim
  · exact p.elim
theorem ps_whileM {c : Expr} {body : List Stmt} {pos : Pos} {fc : Env → Sto → Res Bool} {fb : Env → Sto → Out} (hp : PassesOwn (model X.prog X.w) X.A X.env X.xe) (hc : PT X c (tT R W fc)) (hb : PSs X body (tS R W fb)) :
    PS X (.While c body [] pos) (tS R W fun env st => loopW fc fb env st) := PS.imp (ps_while hp hc hb) fun _ _ _ h => while_imp h
theorem for_imp {t : Tg} {fi : Env → Sto → Res (List Mini.D × List (Nat × List Mini.D))} {b : Env → Sto → Out} {D : Ends} {σ : L2.St} {H : Hp} (h : tS R W (fun env st => (fi env st).out env fun ig st => forL ig.2 t b ig.1 env st) D σ H) :
    tFor (tI R W fi) (gM R.K t) (tS R W b) D σ H := by
  obtain ⟨hd, m, env, st, s, er, p⟩ := h
  refine ⟨hd, m, env, st, s, er, ?_⟩
  dsimp only at p
  cases e1 : fi env st with
  | bad =>
    rw [e1] at p
    exact p.elim
  | exc x st1 =>
    rw [e1] at p
    exact fun m1 H1 c dd x1 s1 r1 => p m1 H1 σ c dd x1 s1 (er.mono x1) r1
  | ok ig st1 =>
    rw [e1, out_ok] at p
    obtain ⟨ds, g⟩ := ig
    dsimp only at p ⊢
    intro m1 H1 J x1 s1 wk
    have hok : HidOk (R.w hd).hid hd H1 := fun a ha => .inl ha
    refine ⟨fun i k σ' H' => i ≤ ds.length ∧ k = ds.length - i ∧ ∃ m2 env2 st2, Ext m1 st1 H1 m2 st2 H' ∧ SR (R.w hd) m2 st2 H' ∧ ER (R.w hd) m2 st2 H' σ' env2 ∧ PostS (R.w hd) m2 st2 H' (forL g t b (ds.drop i) env2 st2) D W,
      ⟨_, Nat.zero_le _, rfl, m1, env, st1, Ext.refl, s1, er.mono x1, PostS.shift x1 p⟩, ?_⟩
    rintro i k σ' H' ⟨hi, rfl, m2, env2, st2, x2, s2, er2, p2⟩
    cases hd0 : ds.drop i with
    | nil =>
      rw [hd0] at p2
      unfold forL at p2
      split at p2
      · rename_i hsrc
        have hlen : i = ds.length := by
          have := List.drop_eq_nil_iff.mp hd0
          omega
        subst hlen
        exact .inl ⟨(wk hd m2 st2 H' hok x2.toH s2 hsrc).2.1, p2.nx0 s2 er2⟩
      · exact p2.elim
    | cons d rest =>
      rw [hd0] at p2
      unfold forL at p2
      split at p2
      · rename_i hsrc
        have hlt : i < ds.length := by
          have : (ds.drop i).length = (d :: rest).length := by rw [hd0]
          rw [List.length_drop, List.length_cons] at this
          omega
        have hget : ds[i]? = some d := by
          have : (ds.drop i)[0]? = some d := by rw [hd0]; rfl
          rw [List.getElem?_drop] at this
          simpa using this
        have hrest : ds.drop (i + 1) = rest := by
          have : (ds.drop i).drop 1 = rest := by rw [hd0]; rfl
          rw [List.drop_drop] at this
          exact this
        have w2 := wk hd m2 st2 H' hok x2.toH s2 hsrc
        refine .inr ⟨w2.1 i hlt, fun σ'' H'' => (i + 1) ≤ ds.length ∧ ∃ m2 env2 st2, Ext m1 st1 H1 m2 st2 H'' ∧ SR (R.w hd) m2 st2 H'' ∧ ER (R.w hd) m2 st2 H'' σ'' env2 ∧ PostS (R.w hd) m2 st2 H'' (forL g t b (ds.drop (i + 1)) env2 st2) D W,
          fun σ'' H'' ⟨h1, h2⟩ => ⟨ds.length - (i + 1), by omega, h1, rfl, h2⟩, fun y H3 hy => ?_⟩
        obtain ⟨d', e2, x3, s3, r3⟩ := w2.2.2 i y H3 hlt hy
        rw [hget] at e2
        cases e2
        cases et : setT t d env2 with
        | none =>
          rw [et] at p2
          exact p2.elim
        | some env3 =>
          rw [et] at p2
          dsimp only at p2
          refine setT_ok (R := R.w hd) (er2.mono x3) r3 et fun σ3 _ er3 => ⟨hd, m2, env3, st2, s3, er3, ?_⟩
          have p3 := PostS.shift x3 p2
          cases eb : b env3 st2 with
          | nx env' st' =>
            rw [eb] at p3
            refine fun m4 H4 σ4 x4 s4 er4 => ⟨hlt, m4, env', st', (x2.trans x3).trans x4, s4, er4, ?_⟩
            rw [hrest]
            exact PostS.shift x4 p3
          | cont env' st' =>
            rw [eb] at p3
            refine fun m4 H4 σ4 x4 s4 er4 => ⟨hlt, m4, env', st', (x2.trans x3).trans x4, s4, er4, ?_⟩
            rw [hrest]
            exact PostS.shift x4 p3
          | brk env' st' =>
            rw [eb] at p3
            exact p3
          | ret d st' =>
            rw [eb] at p3
            exact p3
          | exc x env' st' =>
            rw [eb] at p3
            exact p3
          | bad =>
            rw [eb] at p3
            exact p3.elim
      · exact p2.elim
theorem ps_forM {tg iter : Expr} {body : List Stmt} {pos : Pos} {t : Tg} {fi : Env → Sto → Res (List Mini.D × List (Nat × List Mini.D))} {fb : Env → Sto → Out} (hp : PassesOwn (model X.prog X.w) X.A X.env X.xe) (hc : X.calm = true) (hi : PI X tg iter (tI R W fi)) (hg : PG X tg (gM R.K t))
    (hb : PSs X body (tS R W fb)) (hs : ∀ x, foldedSetIterable iter X.env x = pure x) : PS X (.For tg iter body [] pos) (tS R W fun env st => (fi env st).out env fun ig st => forL ig.2 t fb ig.1 env st) :=
  PS.imp (ps_for hp hc hi hg hb hs) fun _ _ _ h => for_imp h
/-! raise -/
def tM (R : RC) (cs : Clss) (c : Nat) (g : Env → Sto → Res (List Mini.D)) : L2.St → Hp → XK → Prop := fun σ H Q => ∃ hd m env st, SR (R.w hd) m st H ∧ ER (R.w hd) m st H σ env ∧ match g env st with
  | .ok ds st' => ∃ k fs, cs[c]? = some k ∧ numOk k ds = true ∧ zipF k.flds ds = some fs ∧ ∀ m' H' cv dd, Ext m st H m' st' H' → SR (R.w hd) m' st' H' → XRep (R.w hd) m' st' H' ⟨c, fs⟩ cv dd → Q cv dd H'
  | _ => False
theorem ps_raiseM {cs : Clss} {c : Nat} {e : Expr} {pos : Pos} {g : Env → Sto → Res (List Mini.D)} {t : L2.St → Hp → XK → Prop} (hc : X.calm = true) (tk : Takes X W) (he : PMk X e t) (ht : ∀ σ H Q, tM R cs c g σ H Q → t σ H Q) :
    PS X (.Raise (some e) none pos) (tS R W fun env st => (noExc (g env st)).out env fun ds st => match cs[c]? with
      | some k => if numOk k ds = true then match zipF k.flds ds with
          | some fs => .exc ⟨c, fs⟩ env st
          | none => .bad
        else .bad
      | none => .bad) := by
  refine PS.imp (ps_raise hc tk he) fun D σ H ⟨hd, m, env, st, s, er, p⟩ => ht _ _ _ ⟨hd, m, env, st, s, er, ?_⟩
  dsimp only at p
  cases e1 : g env st with
  | bad =>
    rw [e1] at p
    exact p.elim
  | exc x st1 =>
    rw [e1] at p
    exact p.elim
  | ok ds st1 =>
    rw [e1] at p
    unfold noExc at p
    rw [out_ok] at p
    split at p
    · rename_i k ek
      split at p
      · rename_i en
        split at p
        · rename_i fs ef
          exact ⟨k, fs, ek, en, ef, fun m1 H1 cv dd x1 s1 r1 => p m1 H1 σ cv dd x1 s1 (er.mono x1) r1⟩
        · exact p.elim
      · exact p.elim
    · exact p.elim
/-- a class without fields: whatever it is told is not kept -/
theorem tM_none {cs : Clss} {c : Nat} {C : Addr} {k : Cls} (hk : cs[c]? = some k) (hf : k.flds = []) (hC : R.ca c = some C) {σ : L2.St} {H : Hp} {Q : XK} (h : tM R cs c (fun _ st => .ok [] st) σ H Q) : Q (.ref C) none H := by
  obtain ⟨hd, m, env, st, s, er, k', fs, e1, en, e2, q⟩ := h
  rw [hk] at e1
  cases e1
  rw [hf] at e2
  cases e2
  exact q m H _ _ Ext.refl s ⟨C, hC, rfl, .inl ⟨rfl, rfl⟩⟩
end
end Mini
end
section
set_option linter.all false
set_option autoImplicit false
set_option maxRecDepth 100000
set_option maxHeartbeats 1000000
/-! try. -/
namespace Mini
open PySem PySem.Spec PyProof.Rows L2
/-- what an except suite is to reach, the exception standing at a -/
def tH (R : RC) (he : He) (io : Option Nat) (a : Addr) (cls : Value) (dd : Option Addr) : TS := fun D σ H => (∀ i, io = some i → σ[i]? = some (some (.ref a))) ∧ ∃ hd m st x d, SR (R.w hd) m st H ∧ XRep (R.w hd) m st H x cls dd ∧ evH x he = some d ∧
  ∀ m' H' v, Ext m st H m' st H' → SR (R.w hd) m' st H' → Rep (R.w hd) m' st H' d v → D.rt v H'
def SuiteOK (X : Cx) (R : RC) (he : He) (io : Option Nat) (suite : List Stmt) : Prop := ∀ (a : Addr) (oe : Obj) (cls : Value) (dd : Option Addr) (pn : List (Addr × Obj)), Zc cls dd oe → (∃ vs, oe.data = .fields vs) → PSs (X.suite a ((a, oe) :: pn)) suite (tH R he io a cls dd)
/-- an exception of ours by the class that a clause names -/
def ClsOK (R : RC) (cs : Clss) (c : Nat) (cv : Value) : Prop := ∀ x C, R.ca x = some C → PySem.W.exmOne R.K (.ref C) cv = some (isA cs x c)
inductive HsOK (X : Cx) (R : RC) (cs : Clss) : List ExceptHandler → List Hd → List (Value × (Addr → Value → Option Addr → TS)) → Prop
  | nil : HsOK X R cs [] [] []
  | cons {x : Str} {cv : Value} {c : Nat} {he : He} {b₀ : Stmt} {suite : List Stmt} {np pos' : Pos} {hds : List ExceptHandler} {hs : List Hd} {l : List (Value × (Addr → Value → Option Addr → TS))} (hc : Names X x cv) (ck : ClsOK R cs c cv)
      (hsu : SuiteOK X R he none (b₀ :: suite)) (r : HsOK X R cs hds hs l) : HsOK X R cs (.ExceptHandler (some (.Name x np)) none (b₀ :: suite) pos' :: hds) (.on c none he :: hs) ((cv, tH R he none) :: l)
section
variable {X : Cx} {R : RC} {W : WX} {cs : Clss}
theorem HsOK.hds {hds : List ExceptHandler} {hs : List Hd} {l : List (Value × (Addr → Value → Option Addr → TS))} (h : HsOK X R cs hds hs l) : HdsOk X hds l := by
  induction h with
  | nil => exact .nil
  | cons hc ck hsu r ih => exact .cons hc (fun a oe cls d pn z f => hsu a oe cls d pn z f) ih
theorem hands_many (hx : R.K = X.K) {hds : List ExceptHandler} {hs : List Hd} {l : List (Value × (Addr → Value → Option Addr → TS))} (h : HsOK X R cs hds hs l) {D : Ends} {x : Exc} {env : Env} {st : Sto} {hd : List Addr} {m : List Addr} {H : Hp} {σ : L2.St} {cls : Value} {dd : Option Addr}
    (s : SR (R.w hd) m st H) (er : ER (R.w hd) m st H σ env) (xr : XRep (R.w hd) m st H x cls dd) (p : PostS (R.w hd) m st H (hands cs x hs env st) D W) : wMany X.K W D l cls dd σ H := by
  induction h with
  | nil => exact p m H σ cls dd Ext.refl s er xr
  | @cons nm cv c he b₀ suite np pos' hds hs l hc ck hsu r ih =>
    obtain ⟨C, h1, rfl, h3⟩ := id xr
    refine ⟨isA cs x.cls c, by rw [← hx]; exact ck _ _ h1, fun e a ha => ?_, fun e => ?_⟩
    · unfold hands at p
      rw [if_pos e] at p
      have hs2 : slotOk none env = true := rfl
      rw [if_pos hs2] at p
      cases e2 : evH x he with
      | none =>
        rw [e2] at p
        exact p.elim
      | some d =>
        rw [e2] at p
        exact ⟨fun i z => (nomatch z), hd, m, st, x, d, s, xr, e2, fun m' H' v x1 s1 r1 => p m' H' v x1 s1 r1⟩
    · unfold hands at p
      rw [if_neg (by rw [e]; exact Bool.false_ne_true)] at p
      exact ih p
theorem try_imp (hx : R.K = X.K) {hds : List ExceptHandler} {hs : List Hd} {l : List (Value × (Addr → Value → Option Addr → TS))} (h : HsOK X R cs hds hs l) {f : Env → Sto → Out} {D : Ends} {σ : L2.St} {H : Hp}
    (q : tS R W (fun env st => (f env st).tr fun x env st => hands cs x hs env st) D σ H) : tS R (wMany X.K W D l) f D σ H := by
  obtain ⟨hd, m, env, st, s, er, p⟩ := q
  refine ⟨hd, m, env, st, s, er, ?_⟩
  dsimp only at p
  cases e : f env st with
  | exc x env' st' =>
    rw [e] at p
    exact fun m1 H1 σ1 c dd x1 s1 er1 r1 => hands_many hx h s1 er1 r1 (PostS.shift x1 p)
  | nx env' st' =>
    rw [e] at p
    exact p
  | brk env' st' =>
    rw [e] at p
    exact p
  | cont env' st' =>
    rw [e] at p
    exact p
  | ret d st' =>
    rw [e] at p
    exact p
  | bad =>
    rw [e] at p
    exact p
theorem ps_tryM {body : List Stmt} {h₀ : ExceptHandler} {hds : List ExceptHandler} {hs : List Hd} {l : List (Value × (Addr → Value → Option Addr → TS))} {pos : Pos} {f : Env → Sto → Out} (hx : R.K = X.K) (hst : X.stack = X.env :: X.outer) (hf : X.env.frame = some X.env.locals) (tk : Takes X W)
    (hb : ∀ (W : WX) (pn : List (Addr × Obj)) (xe : Value → Shared → Prop), Takes (X.tr pn xe) W → PassesOwn (model X.prog X.w) X.A X.env xe → PSs (X.tr pn xe) body (tS R W f)) (hh : HsOK X R cs (h₀ :: hds) hs l) :
    PS X (.Try body (h₀ :: hds) [] [] pos) (tS R W fun env st => (f env st).tr fun x env st => hands cs x hs env st) :=
  PS.imp (ps_try_many hst hf tk hb hh.hds) fun _ _ _ h => try_imp hx hh h
theorem hands_as (hx : R.K = X.K) {cv : Value} {c i : Nat} {he : He} (ck : ClsOK R cs c cv) {D : Ends} {x : Exc} {env : Env} {st : Sto} {hd : List Addr} {m : List Addr} {H : Hp} {σ : L2.St} {cls : Value} {dd : Option Addr}
    (s : SR (R.w hd) m st H) (er : ER (R.w hd) m st H σ env) (xr : XRep (R.w hd) m st H x cls dd) (p : PostS (R.w hd) m st H (hands cs x [.on c (some i) he] env st) D W) : wAs X.K cv i (tH R he (some i)) W D cls dd σ H := by
  obtain ⟨C, h1, rfl, h3⟩ := id xr
  refine ⟨isA cs x.cls c, by rw [← hx]; exact ck _ _ h1, fun e a ha => ?_, fun e => ?_⟩
  · unfold hands at p
    rw [if_pos e] at p
    split at p
    · rename_i hs2
      have hlt : i < env.length := of_decide_eq_true hs2
      cases e2 : evH x he with
      | none =>
        rw [e2] at p
        exact p.elim
      | some d =>
        rw [e2] at p
        exact ⟨fun j z => by
          cases z
          exact List.getElem?_set_self (by rw [← er.1]; exact hlt), hd, m, st, x, d, s, xr, e2, fun m' H' v x1 s1 r1 => p m' H' v x1 s1 r1⟩
    · exact p.elim
  · unfold hands at p
    rw [if_neg (by rw [e]; exact Bool.false_ne_true)] at p
    exact p m H σ _ dd Ext.refl s er xr
theorem ps_tryAsM {body suite : List Stmt} {b₀ : Stmt} {x n : Str} {cv : Value} {c i : Nat} {he : He} {np pos' pos : Pos} {f : Env → Sto → Out} (hx : R.K = X.K) (hst : X.stack = X.env :: X.outer) (hf : X.env.frame = some X.env.locals) (tk : Takes X W)
    (hN : X.N.Nodup) (hi : X.N[i]? = some n) (hln : X.env.kindOf n = some .local) (hc : Names X x cv) (ck : ClsOK R cs c cv) (hsu : SuiteOK X R he (some i) (b₀ :: suite))
    (hb : ∀ (W : WX) (pn : List (Addr × Obj)) (xe : Value → Shared → Prop), Takes (X.tr pn xe) W → PassesOwn (model X.prog X.w) X.A X.env xe → PSs (X.tr pn xe) body (tS R W f)) :
    PS X (.Try body [.ExceptHandler (some (.Name x np)) (some n) (b₀ :: suite) pos'] [] [] pos) (tS R W fun env st => (f env st).tr fun x env st => hands cs x [.on c (some i) he] env st) := by
  refine PS.imp (ps_try_as hst hf hN hi hln hc tk hb hsu) fun D σ H q => ?_
  obtain ⟨hd, m, env, st, s, er, p⟩ := q
  refine ⟨hd, m, env, st, s, er, ?_⟩
  dsimp only at p
  cases e : f env st with
  | exc x env' st' =>
    rw [e] at p
    exact fun m1 H1 σ1 c dd x1 s1 er1 r1 => hands_as hx ck s1 er1 r1 (PostS.shift x1 p)
  | nx env' st' =>
    rw [e] at p
    exact p
  | brk env' st' =>
    rw [e] at p
    exact p
  | cont env' st' =>
    rw [e] at p
    exact p
  | ret d st' =>
    rw [e] at p
    exact p
  | bad =>
    rw [e] at p
    exact p
/-! ### suites -/
/-- return a constant -/
theorem suite_lit {d : Mini.D} {v : V} {io : Option Nat} {e : Expr} {pos : Pos} (he : ∀ a pn, PE (X.suite a pn) e (tC v)) (r : ∀ hd m st H, Rep (R.w hd) m st H d v) : SuiteOK X R (.lit d) io [.Return (some e) pos] := by
  intro a oe cls dd pn z hf
  refine PSs.imp (pss_cons (ps_ret (he a _)) pss_nil) fun D σ H ⟨_, hd, m, st, x, d', s, xr, e1, k⟩ => ?_
  cases e1
  exact k m H v Ext.refl s (r _ _ _ _)
theorem suite_nil {io : Option Nat} {pos pos' : Pos} : SuiteOK X R .nilL io [.Return (some (.List [] pos')) pos] := by
  intro a oe cls dd pn z hf
  refine PSs.imp (pss_cons (ps_ret (pe_lst pa_nil)) pss_nil) fun D σ H ⟨_, hd, m, st, x, d', s, xr, e1, k⟩ => ?_
  cases e1
  exact ⟨by simp, fun q hq => k m _ _ (Ext.new hq) (s.new hq) (.lst upd_same (s.notLive hq) .nil)⟩
/-- err.f in a suite -/
theorem suite_fld {c i : Nat} {f n : Str} {C : Addr} {q0 q1 : Pos} {a : Addr} {oe : Obj} {cls : Value} {dd : Option Addr} {pn : List (Addr × Obj)} (hC : R.ca c = some C) (T : XfC X.K C) (hno : PySem.W.findIn X.K (.ref C) f = some none) (hi : X.N[i]? = some n) (hv : Vis X.env.scope n)
    (hd1 : (n == ("__debug__" : Str)) = false) (hd2 : (n == ("__classdict__" : Str)) = false) (z : Zc cls dd oe) (hf : ∃ vs, oe.data = .fields vs) (hb : attributeBase (.Name n q0) f X.env (eval (.Name n q0) X.env) = eval (.Name n q0) X.env) :
    PE (X.suite a ((a, oe) :: pn)) (.Attribute (.Name n q0) f q1) (tXf a cls dd C f (tVar i)) := pe_xf T hno z hf (pe_var hi hv hd1 hd2) hb
theorem xf_of {c : Nat} {f : Str} {C : Addr} {s : Bool} {pre post : Chs} {x : Exc} {d : Mini.D} {m : List Addr} {st : Sto} {H : Hp} {cls : Value} {dd : Option Addr} (hC : R.ca c = some C) (xr : XRep R m st H x cls dd) (h : evH x (.fld c f s pre post) = some d) :
    cls = .ref C ∧ ∃ (d0 : Mini.D) (a : Chs) (da : Addr) (gs : List (Str × V)) (v : V), (if s then strD d0 else some d0) = some (.str a) ∧ pre.length + a.length + post.length ≤ sizeLine ∧ d = .str (pre ++ a ++ post) ∧ dd = some da ∧ H da = some (.xd gs) ∧ gs.lookup f = some v ∧ Rep R m st H d0 v := by
  obtain ⟨C', h1, rfl, h3⟩ := xr
  simp only [evH] at h
  split at h
  · rename_i e0
    rw [e0, hC] at h1
    cases h1
    refine ⟨rfl, ?_⟩
    split at h
    · rename_i g d0 ef
      split at h
      · rename_i eg
        subst eg
        split at h
        · rename_i a ea
          split at h
          · rename_i hl
            cases h
            rcases h3 with ⟨h4, _⟩ | ⟨da, gs, rfl, h5, h6, h7⟩
            · rw [h4] at ef
              cases ef
            · rw [ef] at h7
              cases h7 with
              | cons r t =>
                cases t
                exact ⟨d0, a, da, _, _, ea, hl, rfl, rfl, h5, by simp [List.lookup], r⟩
          · cases h
        · cases h
      · cases h
    · cases h
  · cases h
/-- return err.f -/
theorem suite_f0 {c i : Nat} {f n : Str} {C : Addr} {q0 q1 pos : Pos} (hC : R.ca c = some C) (T : XfC X.K C) (hno : PySem.W.findIn X.K (.ref C) f = some none) (hi : X.N[i]? = some n) (hv : Vis X.env.scope n)
    (hd1 : (n == ("__debug__" : Str)) = false) (hd2 : (n == ("__classdict__" : Str)) = false) (hb : attributeBase (.Name n q0) f X.env (eval (.Name n q0) X.env) = eval (.Name n q0) X.env) :
    SuiteOK X R (.fld c f false [] []) (some i) [.Return (some (.Attribute (.Name n q0) f q1)) pos] := by
  intro a oe cls dd pn z hf
  refine PSs.imp (pss_cons (ps_ret (suite_fld hC T hno hi hv hd1 hd2 z hf hb)) pss_nil) fun D σ H ⟨hi, hd, m, st, x, d', s, xr, e1, k⟩ => ?_
  obtain ⟨rfl, d0, t, da, gs, v, h1, h2, rfl, rfl, h5, h6, h7⟩ := xf_of (R := R.w hd) hC xr e1
  cases h1
  refine ⟨_, hi i rfl, rfl, rfl, da, gs, v, rfl, h5, h6, ?_⟩
  exact k m H v Ext.refl s (by simpa using h7)
/-- return pre + str(err.f) + post -/
theorem suite_f3 {c i : Nat} {f n : Str} {C : Addr} {q0 q1 q2 q3 q4 q5 q6 q7 pos : Pos} {j1 j2 : Nat} {pre post : Chs} {p1 p2 : Str} (ep1 : p1 = ⟨pre.toArray⟩) (ep2 : p2 = ⟨post.toArray⟩) (hC : R.ca c = some C) (T : XfC X.K C) (hno : PySem.W.findIn X.K (.ref C) f = some none) (hi : X.N[i]? = some n) (hv : Vis X.env.scope n)
    (hd1 : (n == ("__debug__" : Str)) = false) (hd2 : (n == ("__classdict__" : Str)) = false) (hb : attributeBase (.Name n q0) f X.env (eval (.Name n q0) X.env) = eval (.Name n q0) X.env) (hg : Gl X "str") (hm : X.mg "str" = none) (hdig : X.base.NoDigits)
    (hs : starEach [.Attribute (.Name n q0) f q1] X.env = [(false, eval (.Attribute (.Name n q0) f q1) X.env)]) :
    SuiteOK X R (.fld c f true pre post) (some i) [.Return (some (.BinOp (.BinOp (.Constant (.str p1) j1 q2) .Add (.Call (.Name "str" q3) [.Attribute (.Name n q0) f q1] [] q4) q5) .Add (.Constant (.str p2) j2 q6) q7)) pos] := by
  subst ep1 ep2
  intro a oe cls dd pn z hf
  have hA : PA (X.suite a ((a, oe) :: pn)) [.Attribute (.Name n q0) f q1] (tCons (tXf a cls dd C f (tVar i)) tNil) := pa_cons (suite_fld hC T hno hi hv hd1 hd2 z hf hb) pa_nil hs
  have hS := pe_callTy (X := X.suite a ((a, oe) :: pn)) (p := q3) (pos := q4) (call_strM hdig) hg hm (by decide +kernel) hA (by decide) (by decide) hs rfl
  refine PSs.imp (pss_cons (ps_ret (pe_op op_add_str (pe_op op_add_str pe_str hS) pe_str)) pss_nil) fun D σ H ⟨hi, hd, m, st, x, d', s, xr, e1, k⟩ => ?_
  obtain ⟨rfl, d0, t, da, gs, v, h1, h2, rfl, rfl, h5, h6, h7⟩ := xf_of (R := R.w hd) hC xr e1
  have h1 : strD d0 = some (.str t) := h1
  refine ⟨_, hi i rfl, rfl, rfl, da, gs, v, rfl, h5, h6, ?_⟩
  dsimp only [tNil, tC]
  refine sim_str (R := R.w hd) m st H [d0] [v] _ s (.cons h7 .nil) ?_
  have h8 : prim .str [d0] st = some (.str t, st) := by
    show oneR st (strD d0) = _
    rw [h1]
    rfl
  rw [h8]
  intro m1 H1 u x1 s1 r1
  obtain rfl := r1.inj_str
  refine ⟨_, _, rfl, rfl, by rw [len_str, len_str]; omega, ?_⟩
  rw [str_app]
  refine ⟨_, _, rfl, rfl, by rw [len_str, len_str, List.length_append]; omega, ?_⟩
  rw [str_app]
  exact k m1 H1 _ x1 s1 (.str _)
end
end Mini
end
section
set_option linter.all false
set_option autoImplicit false
set_option maxRecDepth 100000
set_option maxHeartbeats 1000000
/-! Instances of own classes; what is changed no more. -/
namespace Mini
open PySem PySem.Spec PyProof.Rows L2
section
variable {X : Cx} {R : RC} {W : WX}
/-- changed no more from here on -/
theorem pe_frz {e : Expr} {f : Env → Sto → Res Mini.D} (he : PE X e (tE R W f)) : PE X e (tE R W fun env st => (f env st).bnd frzR) := by
  refine PE.imp he fun σ H Q ⟨hd, m, env, st, s, er, p⟩ => ?_
  refine seqE s er p fun d st1 m1 H1 v x1 s1 er1 r1 p1 => ?_
  unfold frzR at p1
  split at p1
  · rename_i n
    obtain ⟨a, rfl, ha⟩ := rep_ref r1
    split at p1
    · rename_i xs e
      obtain ⟨vs, h1, h2⟩ := s1.lst n a xs ha e
      exact p1 m1 H1 _ Ext.kill s1.kill (.lst h1 (NL.kill s1 ha e) (Reps.mono Ext.kill _ _ h2))
    · rename_i t ks vs e
      obtain ⟨ws, h1, k1, k2, h2⟩ := s1.dic n a t ks vs ha e
      exact p1 m1 H1 _ Ext.kill s1.kill (.dic h1 (NL.kill s1 ha e) k1 k2 (Reps.mono Ext.kill _ _ h2))
    · exact p1.elim
  · exact Post.here s1 p1 r1
/-- what of the module a class must have -/
structure KOk (X : Cx) (R : RC) (c : Nat) : Prop where
  nd : ∀ C names, R.ka c = some (C, names) → names.Nodup ∧ names.length < 1000 ∧ L2.Cls X.K C ∧ ∀ f ∈ names, NoAttr X.K C f
theorem lookup_zip {f : Str} {v : V} : ∀ {gs : List (Str × V)} {j : Nat}, (gs.map (·.1)).Nodup → gs[j]? = some (f, v) → gs.lookup f = some v
  | [], _, _, h => by simp at h
  | (g, w) :: gs, 0, nd, h => by
    simp at h
    obtain ⟨rfl, rfl⟩ := h
    simp [List.lookup]
  | (g, w) :: gs, j + 1, nd, h => by
    simp only [List.getElem?_cons_succ] at h
    simp only [List.map_cons, List.nodup_cons] at nd
    have hf : f ∈ gs.map (·.1) := List.mem_map.mpr ⟨(f, v), List.mem_of_getElem? h, rfl⟩
    have ne : (f == g) = false := beq_eq_false_iff_ne.mpr fun z => nd.1 (z ▸ hf)
    simp only [List.lookup, ne]
    exact lookup_zip nd.2 h
theorem lookup_not {f : Str} : ∀ {gs : List (Str × V)}, f ∉ gs.map (·.1) → gs.lookup f = none
  | [], _ => rfl
  | (g, w) :: gs, h => by
    simp only [List.map_cons, List.mem_cons, not_or] at h
    have ne : (f == g) = false := beq_eq_false_iff_ne.mpr h.1
    simp only [List.lookup, ne]
    exact lookup_not h.2
/-- a field's value by its place -/
theorem fld_at {gs : List (Str × V)} {names : List Str} {vs : List Mini.D} {j : Nat} {f : Str} {d : Mini.D} {m : List Addr} {st : Sto} {H : Hp} (nd : names.Nodup) (h1 : gs.map (·.1) = names.take vs.length) (r : Reps R m st H vs (gs.map (·.2))) (hf : names[j]? = some f) (hd : vs[j]? = some d) :
    ∃ v, gs.lookup f = some v ∧ Rep R m st H d v := by
  obtain ⟨v, h2, h3⟩ := r.get hd
  rw [List.getElem?_map] at h2
  cases e : gs[j]? with
  | none =>
    rw [e] at h2
    cases h2
  | some g =>
    obtain ⟨g1, g2⟩ := g
    rw [e] at h2
    cases h2
    have h4 : (gs.map (·.1))[j]? = some g1 := by rw [List.getElem?_map, e]; rfl
    have hj : j < vs.length := (List.getElem?_eq_some_iff.mp hd).1
    rw [h1, List.getElem?_take_of_lt hj, hf] at h4
    cases h4
    exact ⟨_, lookup_zip (by rw [h1]; exact nd.sublist (List.take_sublist _ _)) e, h3⟩
theorem fldR_at {c j : Nat} {d e : Mini.D} {v : V} {st st' : Sto} {m : List Addr} {H : Hp} (s : SR R m st H) (rd : Rep R m st H d v) (h : fldR c j d st = .ok e st') :
    st' = st ∧ ∃ (a C dx : Addr) (names : List Str) (vs : List Mini.D) (gs : List (Str × V)), v = .ref a ∧ R.ka c = some (C, names) ∧ H a = some (.ins C dx gs) ∧ gs.map (·.1) = names.take vs.length ∧ vs.length ≤ names.length ∧ Reps R m st H vs (gs.map (·.2)) ∧ vs[j]? = some e ∧ ∃ n, d = .ref n ∧ m[n]? = some a ∧ st[n]? = some (.ins c vs) := by
  unfold fldR at h
  split at h
  · rename_i n
    obtain ⟨a, rfl, ha⟩ := rep_ref rd
    split at h
    · rename_i c' vs e1
      split at h
      · rename_i hc
        subst hc
        split at h
        · rename_i w e2
          cases h
          obtain ⟨C, dx, names, gs, k1, k2, k3, k4, k5⟩ := s.ins n a _ vs ha e1
          exact ⟨rfl, a, C, dx, names, vs, gs, rfl, k1, k2, k3, k4, k5, e2, n, rfl, ha, e1⟩
        · cases h
      · cases h
    · cases h
  · cases h
theorem fldR_cases (c j : Nat) (d : Mini.D) (st : Sto) : fldR c j d st = .bad ∨ ∃ e, fldR c j d st = .ok e st := by
  unfold fldR
  split
  · split
    · split
      · split
        · exact .inr ⟨_, rfl⟩
        · exact .inl rfl
      · exact .inl rfl
    · exact .inl rfl
  · exact .inl rfl
/-- o.f -/
theorem pe_fldM {c j : Nat} {o : Expr} {f : Str} {pos : Pos} {fo : Env → Sto → Res Mini.D} (hx : R.K = X.K) (ko : KOk X R c) (hf : ∀ C names, R.ka c = some (C, names) → names[j]? = some f) (ho : PE X o (tE R W fo)) (hb : attributeBase o f X.env (eval o X.env) = eval o X.env) :
    PE X (.Attribute o f pos) (tE R W fun env st => (fo env st).bnd fun d st => fldR c j d st) := by
  refine PE.imp (pe_fld ho hb) fun σ H Q ⟨hd, m, env, st, s, er, p⟩ => ?_
  refine seqE s er p fun d st1 m1 H1 v x1 s1 er1 r1 p1 => ?_
  rcases fldR_cases c j d st1 with e | ⟨e, h⟩
  · rw [e] at p1
    exact p1.elim
  · rw [h] at p1
    obtain ⟨_, a, C, dx, names, vs, gs, rfl, k1, k2, k3, k4, k5, k6, _⟩ := fldR_at s1 r1 h
    obtain ⟨n1, n2, n3, n4⟩ := ko.nd C names k1
    obtain ⟨w, h1, h2⟩ := fld_at n1 k3 k5 (hf C names k1) k6
    exact ⟨a, C, dx, gs, w, rfl, k2, n3, n4 f (List.mem_of_getElem? (hf C names k1)), h1, Post.here s1 p1 h2⟩
theorem putF_set {f : Str} {v : V} : ∀ {gs : List (Str × V)} {j : Nat}, (gs.map (·.1)).Nodup → (gs.map (·.1))[j]? = some f → (putF f v gs).map (·.1) = gs.map (·.1) ∧ (putF f v gs).map (·.2) = (gs.map (·.2)).set j v
  | [], _, _, h => by simp at h
  | (g, w) :: gs, 0, nd, h => by
    simp at h
    subst h
    simp [putF]
  | (g, w) :: gs, j + 1, nd, h => by
    simp only [List.map_cons, List.getElem?_cons_succ] at h
    simp only [List.map_cons, List.nodup_cons] at nd
    have ne : ¬ g = f := fun z => nd.1 (by rw [z]; exact List.mem_of_getElem? h)
    obtain ⟨i1, i2⟩ := putF_set (v := v) nd.2 h
    simp only [putF, if_neg ne, List.map_cons, i1, i2, List.set_cons_succ, and_self]
theorem putF_new {f : Str} {v : V} : ∀ {gs : List (Str × V)}, f ∉ gs.map (·.1) → putF f v gs = gs ++ [(f, v)]
  | [], _ => rfl
  | (g, w) :: gs, h => by
    simp only [List.map_cons, List.mem_cons, not_or] at h
    simp only [putF, if_neg (Ne.symm h.1), putF_new h.2, List.cons_append]
theorem Reps.push {m : List Addr} {st : Sto} {H : Hp} {xs : List Mini.D} {vs : List V} {d : Mini.D} {v : V} (r : Reps R m st H xs vs) (h : Rep R m st H d v) : Reps R m st H (xs ++ [d]) (vs ++ [v]) := r.append (.cons h .nil)
/-- a field is stored -/
theorem setFld_ok {c j : Nat} {f : Str} {m : List Addr} {st st' : Sto} {H : Hp} {o d : Mini.D} {ov v : V} {Q : Hp → Prop} (ko : KOk X R c) (hf : ∀ C names, R.ka c = some (C, names) → names[j]? = some f) (s : SR R m st H) (ro : Rep R m st H o ov) (rd : Rep R m st H d v) (h : setFld c j o d st = some st')
    (k : ∀ H', Ext m st H m st' H' → SR R m st' H' → Q H') : ∃ a C dx fs, ov = .ref a ∧ H a = some (.ins C dx fs) ∧ L2.Cls X.K C ∧ NoAttr X.K C f ∧ fs.length < 1000 ∧ Q (upd H a (.ins C dx (putF f v fs))) := by
  unfold setFld at h
  split at h
  · rename_i n
    obtain ⟨a, rfl, ha⟩ := rep_ref ro
    split at h
    · rename_i c' vs e1
      split at h
      · rename_i hc
        subst hc
        obtain ⟨C, dx, names, gs, k1, k2, k3, k4, k5⟩ := s.ins n a _ vs ha e1
        obtain ⟨n1, n2, n3, n4⟩ := ko.nd C names k1
        have hj := hf C names k1
        have hlen : gs.length = vs.length := by rw [k5.length, List.length_map]
        have nd : (gs.map (·.1)).Nodup := by
          rw [k3]
          exact n1.sublist (List.take_sublist _ _)
        have hl : gs.length < 1000 := by omega
        refine ⟨a, C, dx, gs, rfl, k2, n3, n4 f (List.mem_of_getElem? hj), hl, ?_⟩
        split at h
        · rename_i hjl
          cases h
          have hat : (gs.map (·.1))[j]? = some f := by rw [k3, List.getElem?_take_of_lt hjl]; exact hj
          obtain ⟨i1, i2⟩ := putF_set (v := v) nd hat
          refine k _ (Ext.set ha e1 (by simp)) (s.setG ha e1 (by simp) fun x _ => .ins k1 upd_same (by rw [i1, List.length_set]; exact k3) (by rw [List.length_set]; exact k4) ?_)
          rw [i2]
          exact Reps.mono x _ _ (k5.set j rd)
        · split at h
          · rename_i _ hjl
            cases h
            have hn : f ∉ gs.map (·.1) := fun z => by
              rw [k3] at z
              obtain ⟨i, hi⟩ := List.mem_iff_getElem?.mp z
              have hi2 : i < vs.length := by
                have := (List.getElem?_eq_some_iff.mp hi).1
                rw [List.length_take] at this
                omega
              rw [List.getElem?_take_of_lt hi2] at hi
              obtain ⟨h1, e1⟩ := List.getElem?_eq_some_iff.mp hi
              obtain ⟨h2, e2⟩ := List.getElem?_eq_some_iff.mp hj
              have := (List.getElem_inj n1).mp (e1.trans e2.symm)
              omega
            rw [putF_new hn]
            have hjn : j < names.length := (List.getElem?_eq_some_iff.mp hj).1
            refine k _ (Ext.set ha e1 (by simp)) (s.setG ha e1 (by simp) fun x _ => .ins k1 upd_same ?_ (by simp; omega) ?_)
            · rw [List.map_append, k3, List.length_append, List.length_singleton, List.take_add_one, ← hjl, hj]
              rfl
            · rw [List.map_append]
              exact Reps.mono x _ _ (k5.push rd)
          · cases h
      · cases h
    · cases h
  · cases h
theorem stO_some {m : List Addr} {st : Sto} {H : Hp} {D : Ends} {o : Option Sto} {env : Env} (p : PostS R m st H (stO o env) D W) : ∃ st', o = some st' ∧ PostS R m st H (.nx env st') D W := by
  cases o with
  | none => exact p.elim
  | some st' => exact ⟨st', rfl, p⟩
/-- o.f = e -/
theorem ps_setFM {c j : Nat} {o e : Expr} {f : Str} {pos pos' : Pos} {fo fe : Env → Sto → Res Mini.D} (hx : R.K = X.K) (ko : KOk X R c) (hf : ∀ C names, R.ka c = some (C, names) → names[j]? = some f) (ho : PE X o (tE R W fo)) (he : PE X e (tE R W fe))
    (hs : swapsWith e (some (.Attribute o f pos')) pos.line X.env = pure false) : PS X (.Assign [.Attribute o f pos'] e pos) (tS R W fun env st => (fe env st).out env fun d st => (fo env st).out env fun x st => stO (setFld c j x d st) env) := by
  refine PS.imp (ps_fld ho he hs) fun D σ H ⟨hd, m, env, st, s, er, p⟩ => ?_
  refine outE s er p fun d st1 m1 H1 v x1 s1 er1 r1 p1 => ?_
  refine outE s1 er1 p1 fun od st2 m2 H2 ov x2 s2 er2 r2 p2 => ?_
  obtain ⟨st3, e3, p3⟩ := stO_some p2
  have ko' : KOk X (R.w hd) c := ⟨ko.nd⟩
  exact setFld_ok ko' hf s2 r2 (Rep.mono x2 _ _ r1) e3 fun H3 x3 s3 => p3 m2 H3 σ x3 s3 (er2.mono x3)
/-- o.f op= e -/
theorem ps_augFM {c j : Nat} {p : Pr} {op : Operator} {r : R2} {o e : Expr} {f : Str} {pos pos' : Pos} {fo fe : Env → Sto → Res Mini.D} (hx : R.K = X.K) (ko : KOk X R c) (hf : ∀ C names, R.ka c = some (C, names) → names[j]? = some f) (sm : ∀ hd, Sim (R.w hd) p (l2 r)) (hop : OpR X (inplaceOp op) r)
    (ho : PE X o (tE R W fo)) (he : PE X e (tE R W fe)) : PS X (.AugAssign (.Attribute o f pos') op e pos) (tS R W fun env st => (fo env st).out env fun x st => (fldR c j x st).out env fun y st => (fe env st).out env fun z st => (liftP (prim p [y, z] st)).out env fun d st => stO (setFld c j x d st) env) := by
  refine PS.imp (ps_fldaug ho he (fun pins s σ H x y u v Q I rx ry h => hop pins s σ H x y u v Q I rx ry h)) fun D σ H ⟨hd, m, env, st, s, er, q⟩ => ?_
  have ko' : KOk X (R.w hd) c := ⟨ko.nd⟩
  refine outE s er q fun od st1 m1 H1 ov x1 s1 er1 r1 p1 => ?_
  rcases fldR_cases c j od st1 with e | ⟨fd, h⟩
  · rw [e] at p1
    exact p1.elim
  rw [h, out_ok] at p1
  obtain ⟨_, a, C, dx, names, vs, gs, rfl, k1, k2, k3, k4, k5, k6, n, rfl, hn, hs⟩ := fldR_at s1 r1 h
  obtain ⟨n1, n2, n3, n4⟩ := ko.nd C names k1
  obtain ⟨w, h1, h2⟩ := fld_at n1 k3 k5 (hf C names k1) k6
  refine ⟨a, C, dx, gs, w, rfl, k2, n3, n4 f (List.mem_of_getElem? (hf C names k1)), h1, ?_⟩
  refine outE s1 er1 p1 fun d st2 m2 H2 v x2 s2 er2 r2 p2 => ?_
  obtain ⟨a', b', e3, z⟩ := sm hd m2 st2 H2 [fd, d] [w, v] (fun z H3 => ∃ dx' fs', H3 a = some (.ins C dx' fs') ∧ fs'.length < 1000 ∧ D.nx σ (upd H3 a (.ins C dx' (putF f z fs')))) s2 (.cons (Rep.mono x2 _ _ h2) (.cons r2 .nil)) (by
    cases e4 : prim p [fd, d] st2 with
    | none =>
      rw [e4] at p2
      exact p2.elim
    | some y =>
      obtain ⟨g, st3⟩ := y
      rw [e4] at p2
      intro m3 H3 u x3 s3 r3
      have p3 : PostS (R.w hd) m2 st2 H2 (stO (setFld c j (.ref n) g st3) env) D W := p2
      obtain ⟨st4, e5, p4⟩ := stO_some p3
      have ro : Rep (R.w hd) m3 st3 H3 (.ref n) (.ref a) := Rep.mono x3 _ _ (Rep.mono x2 _ _ (.ref hn))
      obtain ⟨a2, C2, dx2, fs2, e6, g1, _, _, g2, g3⟩ := setFld_ok (Q := fun H' => D.nx σ H') ko' hf s3 ro r3 e5 fun H4 x4 s4 => p4 m3 H4 σ (x3.trans x4) s4 (er2.mono (x3.trans x4))
      cases e6
      have hC : C2 = C := by
        have hst : ∃ vs', st3[n]? = some (.ins c vs') := by
          unfold setFld at e5
          dsimp only at e5
          split at e5
          · rename_i c' vs' e7
            split at e5
            · rename_i hc
              subst hc
              exact ⟨vs', e7⟩
            · cases e5
          · cases e5
        obtain ⟨vs', e8⟩ := hst
        cases ro with
        | ref hm3 =>
        obtain ⟨C3, dx3, names3, gs3, q1, q2, _⟩ := s3.ins n a c vs' hm3 e8
        have q1' : (R.w hd).ka c = some (C3, names3) := q1
        rw [k1] at q1'
        cases q1'
        rw [g1] at q2
        cases q2
        rfl
      subst hC
      exact ⟨dx2, fs2, g1, g2, g3⟩)
  cases e3
  exact z
end
end Mini
end
section
set_option linter.all false
set_option autoImplicit false
set_option maxRecDepth 100000
set_option maxHeartbeats 1000000
/-! The checker: an expression of the program is the small language's. -/
namespace Mini
open PySem PySem.Spec PyProof.Rows L2
/-- a method of a class is that def -/
def MOk (X : Cx) (R : RC) (c : Nat) (m : Str) (i : Nat) : Prop := ∀ C names, R.ka c = some (C, names) → L2.Cls X.K C ∧ m ∉ names ∧ ∃ f, R.fa i = some f ∧ Meth X.K C m f
/-- what is known of the module -/
structure GI where
  fns : List (Str × Nat)
  cns : List (Str × Mini.D)
  bts : List Str
  pls : List (Str × Nat)
  ins : List (Str × Nat)
  ecs : List (Str × Nat)
  xfs : List (Nat × Str)
  kls : List (Str × Nat) := []
  kfs : List (Nat × List Str) := []
  kms : List ((Nat × Str) × Nat) := []
/-- the names of a def, the scope of the block -/
structure Ck where
  N : List Str
  sc : Scope
  fn : Bool
structure CkOk (X : Cx) (R : RC) (W : WX) (k : Nat) (cl : Call) (G : GI) (c : Ck) : Prop where
  K : R.K = X.K
  N : X.N = c.N
  nd : c.N.Nodup
  sc : X.env.scope = c.sc
  fn : c.fn = true → ∀ x, X.fn x = true
  calm : X.calm = true
  room : Room (k + 1) X.A
  gd : X.A.guards = some []
  tk : Takes X W
  fns : ∀ x i, G.fns.lookup x = some i → ∃ f, X.mg x = some (.ref f) ∧ R.fa i = some f
  fna : ∀ i a, R.fa i = some a → FnAt X R k cl i
  cns : ∀ x d, G.cns.lookup x = some d → ∃ u v, X.mg x = some u ∧ RelV v u ∧ ∀ hd m st H, Rep (R.w hd) m st H d v
  bts : ∀ x, x ∈ G.bts → X.mg x = none
  dig : X.base.NoDigits
  kok : ∀ c, KOk X R c
  kfs : ∀ c fs C names, G.kfs.lookup c = some fs → R.ka c = some (C, names) → names = fs
  kms : ∀ c m i, G.kms.lookup (c, m) = some i → MOk X R c m i
  kls : ∀ x c, G.kls.lookup x = some c → ∃ C names i f, R.ka c = some (C, names) ∧ X.mg x = some (.ref C) ∧ G.kms.lookup (c, ("__init__" : Str)) = some i ∧ R.fa i = some f ∧ Mk X.K C f
theorem CkOk.rm {X : Cx} {R : RC} {W : WX} {k : Nat} {cl : Call} {G : GI} {c : Ck} (o : CkOk X R W k cl G c) : Room k X.A := o.room.mono (Nat.le_succ k)
mutual
def beqD : D → D → Bool
  | .non, .non => true
  | .bl a, .bl b => a == b
  | .int a, .int b => a == b
  | .str a, .str b => a == b
  | .tup a, .tup b => beqDs a b
  | .lst a, .lst b => beqDs a b
  | .ro a, .ro b => beqDs a b
  | .ref a, .ref b => a == b
  | .fn a, .fn b => a == b
  | .ct a, .ct b => beqDs a b
  | .dic t k a, .dic t' k' b => t == t' && k == k' && beqDs a b
  | _, _ => false
def beqDs : List D → List D → Bool
  | [], [] => true
  | a :: as, b :: bs => beqD a b && beqDs as bs
  | _, _ => false
end
mutual
theorem beqD_eq : ∀ (a b : D), beqD a b = true → a = b
  | .non, b, h => by cases b <;> first | (simp [beqD] at h; done) | rfl
  | .bl a, b, h => by cases b <;> first | (simp [beqD] at h; done) | (simp [beqD] at h; rw [h])
  | .int a, b, h => by cases b <;> first | (simp [beqD] at h; done) | (simp [beqD] at h; rw [h])
  | .str a, b, h => by cases b <;> first | (simp [beqD] at h; done) | (simp [beqD] at h; rw [h])
  | .tup a, b, h => by cases b <;> first | (simp [beqD] at h; done) | (simp only [beqD] at h; rw [beqDs_eq a _ h])
  | .lst a, b, h => by cases b <;> first | (simp [beqD] at h; done) | (simp only [beqD] at h; rw [beqDs_eq a _ h])
  | .ro a, b, h => by cases b <;> first | (simp [beqD] at h; done) | (simp only [beqD] at h; rw [beqDs_eq a _ h])
  | .ct a, b, h => by cases b <;> first | (simp [beqD] at h; done) | (simp only [beqD] at h; rw [beqDs_eq a _ h])
  | .ref a, b, h => by cases b <;> first | (simp [beqD] at h; done) | (simp [beqD] at h; rw [h])
  | .fn a, b, h => by cases b <;> first | (simp [beqD] at h; done) | (simp [beqD] at h; rw [h])
  | .dic t k a, b, h => by
    cases b <;> first | (simp [beqD] at h; done) | skip
    simp only [beqD, Bool.and_eq_true, beq_iff_eq] at h
    rw [h.1.1, h.1.2, beqDs_eq a _ h.2]
theorem beqDs_eq : ∀ (a b : List D), beqDs a b = true → a = b
  | [], [], _ => rfl
  | a :: as, b :: bs, h => by
    simp only [beqDs, Bool.and_eq_true] at h
    rw [beqD_eq a b h.1, beqDs_eq as bs h.2]
  | [], _ :: _, h => by simp [beqDs] at h
  | _ :: _, [], h => by simp [beqDs] at h
end
/-! ### names -/
def Ck.gl (c : Ck) (x : Str) : Bool := decide (c.sc.names.lookup x = some .globalImplicit)
def Ck.vis (c : Ck) (x : Str) : Bool := decide (c.sc.names.lookup x = some .local) || decide (c.sc.names.lookup x = some .cell) || decide (c.sc.names.lookup x = some .free)
def Ck.loc (c : Ck) (x : Str) : Bool := decide (c.sc.names.lookup x = some .local) || (c.fn && decide (c.sc.names.lookup x = some .cell))
def okN (x : Str) : Bool := !(x == ("__debug__" : Str)) && !(x == ("__classdict__" : Str)) && !(x == ("__name__" : Str))
theorem okN_d {x : Str} (h : okN x = true) : (x == ("__debug__" : Str)) = false := by
  unfold okN at h
  simp only [Bool.and_eq_true, Bool.not_eq_true'] at h
  exact h.1.1
theorem okN_c {x : Str} (h : okN x = true) : (x == ("__classdict__" : Str)) = false := by
  unfold okN at h
  simp only [Bool.and_eq_true, Bool.not_eq_true'] at h
  exact h.1.2
theorem okN_n {x : Str} (h : okN x = true) : x ≠ "__name__" := fun z => by
  unfold okN at h
  simp only [Bool.and_eq_true, Bool.not_eq_true'] at h
  rw [z] at h
  simp at h
section
variable {X : Cx} {R : RC} {W : WX} {k : Nat} {cl : Call} {G : GI} {c : Ck}
theorem CkOk.gl (o : CkOk X R W k cl G c) {x : Str} (h : c.gl x = true) : Gl X x := by
  unfold Ck.gl at h
  show X.env.scope.names.lookup x = _
  rw [o.sc]
  exact of_decide_eq_true h
theorem CkOk.vis (o : CkOk X R W k cl G c) {x : Str} (h : c.vis x = true) : Vis X.env.scope x := by
  unfold Ck.vis at h
  simp only [Bool.or_eq_true, decide_eq_true_eq] at h
  unfold Vis
  rw [o.sc]
  rcases h with (h | h) | h
  · exact .inl h
  · exact .inr (.inl h)
  · exact .inr (.inr h)
theorem CkOk.loc (o : CkOk X R W k cl G c) {x : Str} (h : c.loc x = true) : L2.Loc X.env.scope x ∧ (X.fn x = true ∨ X.env.scope.names.lookup x = some .local) := by
  unfold Ck.loc at h
  simp only [Bool.or_eq_true, Bool.and_eq_true, decide_eq_true_eq] at h
  unfold L2.Loc
  rw [o.sc]
  rcases h with h | ⟨h1, h2⟩
  · exact ⟨.inl h, .inr h⟩
  · exact ⟨.inr h2, .inl (o.fn h1 x)⟩
/-! ### argument lists -/
def noStar : Expr → Bool
  | .Starred _ _ => false
  | _ => true
def noStars (es : List Expr) : Bool := es.all noStar
theorem star1 {e : Expr} {es : List Expr} {env : PySem.Env} (h : noStar e = true) : starEach (e :: es) env = (false, eval e env) :: starEach es env := by
  cases e <;> first | (cases h; done) | simp [starEach]
theorem stars_plain : ∀ {es : List Expr} {env : PySem.Env} {pos : Pos}, noStars es = true → (backTo pos (starEach es env)).any (·.1) = false
  | [], _, _, _ => by simp [starEach, backTo]
  | e :: es, env, pos, h => by
    unfold noStars at h
    simp only [List.all_cons, Bool.and_eq_true] at h
    rw [star1 h.1]
    have ih := stars_plain (es := es) (env := env) (pos := pos) h.2
    unfold backTo at ih ⊢
    rw [List.map_cons, List.any_cons, ih]
    rfl
theorem stars_all {es : List Expr} {env : PySem.Env} {pos : Pos} (h : noStars es = true) : (backTo pos (starEach es env)).all (fun x => !x.1) = true := by
  have z := stars_plain (env := env) (pos := pos) h
  rw [List.any_eq_false] at z
  rw [List.all_eq_true]
  intro x hx
  have := z x hx
  simpa using this
def PEL (X : Cx) (R : RC) (W : WX) (cl : Call) : List Expr → Exs → Prop
  | [], .nil => True
  | e :: es, .cons x xs => PE X e (tE R W (evE cl x)) ∧ PEL X R W cl es xs
  | _, _ => False
theorem pel_pa : ∀ {es : List Expr} {xs : Exs}, noStars es = true → PEL X R W cl es xs → PA X es (tA R W (evEs cl xs))
  | [], .nil, _, _ => by
    have e : evEs cl .nil = fun _ st => .ok [] st := by funext env st; simp [evEs]
    rw [e]
    exact pa_n
  | e :: es, .cons x xs, h, q => by
    have e1 : evEs cl (.cons x xs) = fun env st => (evE cl x env st).bnd fun d st => (evEs cl xs env st).bnd fun ds st => .ok (d :: ds) st := by funext env st; simp [evEs]
    rw [e1]
    unfold noStars at h
    simp only [List.all_cons, Bool.and_eq_true] at h
    exact pa_c (star1 h.1) q.1 (pel_pa h.2 q.2)
  | [], .cons _ _, _, q => by cases q
  | _ :: _, .nil, _, q => by cases q
theorem pel1 {a : Expr} {es : Exs} (q : PEL X R W cl [a] es) : ∃ x, es = .cons x .nil ∧ PE X a (tE R W (evE cl x)) := by
  cases es with
  | nil => cases q
  | cons x xs =>
    cases xs with
    | nil => exact ⟨x, rfl, q.1⟩
    | cons => cases q.2
theorem pel2 {a b : Expr} {es : Exs} (q : PEL X R W cl [a, b] es) : ∃ x y, es = .cons x (.cons y .nil) ∧ PE X a (tE R W (evE cl x)) ∧ PE X b (tE R W (evE cl y)) := by
  cases es with
  | nil => cases q
  | cons x xs =>
    obtain ⟨y, rfl, h⟩ := pel1 q.2
    exact ⟨x, y, rfl, q.1, h⟩
theorem pel3 {a b d : Expr} {es : Exs} (q : PEL X R W cl [a, b, d] es) : ∃ x y z, es = .cons x (.cons y (.cons z .nil)) ∧ PE X a (tE R W (evE cl x)) ∧ PE X b (tE R W (evE cl y)) ∧ PE X d (tE R W (evE cl z)) := by
  cases es with
  | nil => cases q
  | cons x xs =>
    obtain ⟨y, z, rfl, h, h2⟩ := pel2 q.2
    exact ⟨x, y, z, rfl, q.1, h, h2⟩
theorem ev1 {p : Pr} {x : Ex} : evE cl (.pr p (.cons x .nil)) = f1 p (evE cl x) := by
  funext env st
  simp [evE, evEs, f1, bnd_assoc]
theorem ev2 {p : Pr} {x y : Ex} : evE cl (.pr p (.cons x (.cons y .nil))) = f2 p (evE cl x) (evE cl y) := by
  funext env st
  simp [evE, evEs, f2, bnd_assoc]
theorem ev3 {p : Pr} {x y z : Ex} : evE cl (.pr p (.cons x (.cons y (.cons z .nil)))) = f3 p (evE cl x) (evE cl y) (evE cl z) := by
  funext env st
  simp [evE, evEs, f3, bnd_assoc]
theorem evA {p : Pr} {es : Exs} : evE cl (.pr p es) = fA p (evEs cl es) := by
  funext env st
  simp [evE, fA]
end
/-! ### primitives by their syntax -/
def binP : Operator → Option Pr
  | .Add => some .add
  | .Sub => some .sub
  | .Mult => some .mul
  | .FloorDiv => some .fdiv
  | .Mod => some .mod
  | .Pow => some .pow
  | _ => none
def cmpP : CmpOp → Option Pr
  | .Eq => some .eq
  | .NotEq => some .ne
  | .Lt => some .lt
  | .LtE => some .le
  | .Gt => some .gt
  | .GtE => some .ge
  | .In => some .isin
  | .NotIn => some .notin
  | _ => none
def fnP : Pr → Option Str
  | .len => some "len"
  | .abs => some "abs"
  | .all => some "all"
  | .any => some "any"
  | .repr => some "repr"
  | .int => some "int"
  | .str => some "str"
  | .tuple => some "tuple"
  | .list => some "list"
  | _ => none
def tyNm : Ty → Option Str
  | .int => some "int"
  | .bool => some "bool"
  | .str => some "str"
  | .tuple => some "tuple"
  | .list => some "list"
  | _ => none
def isNoneE : Expr → Bool
  | .Constant .none _ _ => true
  | _ => false
def plainIx : Expr → Bool
  | .Slice _ _ _ _ => false
  | _ => true
def callParts (G : GI) (c : Ck) (p : Pr) (x : Str) (args : List Expr) : Option (List Expr) :=
  match p, args with
  | .isi [t], [a, .Name T _] => if x == ("isinstance" : Str) && decide (tyNm t = some T) && c.gl x && c.gl T && okN x && okN T && decide (x ∈ G.bts) && decide (T ∈ G.bts) && noStar a then some [a] else none
  | p, args => if decide (fnP p = some x) && c.gl x && okN x && decide (x ∈ G.bts) && noStars args && !args.isEmpty then some args else none
def prParts (G : GI) (c : Ck) (p : Pr) (e : Expr) : Option (List Expr) := match e with
  | .BinOp a op b _ => if decide (binP op = some p) then some [a, b] else none
  | .UnaryOp .USub a _ => if decide (p = .neg) then some [a] else none
  | .Compare a [op] [b] _ => if decide (op = .Is) && isNoneE b then (if decide (p = .isN) then some [a] else none)
      else if decide (op = .IsNot) && isNoneE b then (if decide (p = .notN) then some [a] else none)
      else if decide (cmpP op = some p) && !behindInMarks op b then some [a, b] else none
  | .Subscript a (.Slice lo hi none _) _ => match lo, hi with
    | none, none => if decide (p = .sl false false) then some [a] else none
    | some b, none => if decide (p = .sl true false) then some [a, b] else none
    | none, some b => if decide (p = .sl false true) then some [a, b] else none
    | some b, some d => if decide (p = .sl true true) then some [a, b, d] else none
  | .Subscript a b _ => if decide (p = .ix) && plainIx b then some [a, b] else none
  | .Call (.Name x _) args [] _ => callParts G c p x args
  | _ => none
mutual
def calmE : Ex → Bool
  | .lit _ => true
  | .var _ => true
  | .pr _ es => calmEs es
  | _ => false
def calmEs : Exs → Bool
  | .nil => true
  | .cons e es => calmE e && calmEs es
end
theorem bnd_exc_of {α β : Type} {r : Res α} {f : α → Sto → Res β} {x : Exc} {st : Sto} (h : r.bnd f = .exc x st) : r = .exc x st ∨ ∃ a s, r = .ok a s ∧ f a s = .exc x st := by
  cases r with
  | ok a s => exact .inr ⟨a, s, rfl, h⟩
  | exc y s =>
    cases h
    exact .inl rfl
  | bad => cases h
theorem liftP_no {r : Pm} {x : Exc} {st : Sto} : liftP r ≠ .exc x st := fun h => by
  cases r with
  | none => cases h
  | some y => cases h
mutual
theorem calmE_no (cl : Call) : ∀ (e : Ex), calmE e = true → ∀ env st x s, evE cl e env st ≠ .exc x s
  | .lit d, _, env, st, x, s, h => by simp [evE] at h
  | .var i, _, env, st, x, s, h => by
    simp only [evE] at h
    split at h <;> cases h
  | .pr p es, hc, env, st, x, s, h => by
    simp only [evE] at h
    simp only [calmE] at hc
    rcases bnd_exc_of h with h | ⟨a, s', h, h2⟩
    · exact calmEs_no cl es hc env st x s h
    · exact liftP_no h2
  | .tup _, hc, _, _, _, _, _ => by simp [calmE] at hc
  | .lst _, hc, _, _, _, _, _ => by simp [calmE] at hc
  | .vlst _, hc, _, _, _, _, _ => by simp [calmE] at hc
  | .mth _ _ _, hc, _, _, _, _, _ => by simp [calmE] at hc
  | .call _ _, hc, _, _, _, _, _ => by simp [calmE] at hc
  | .callv _ _, hc, _, _, _, _, _ => by simp [calmE] at hc
  | .andE _ _, hc, _, _, _, _, _ => by simp [calmE] at hc
  | .orE _ _, hc, _, _, _, _, _ => by simp [calmE] at hc
  | .notE _, hc, _, _, _, _, _ => by simp [calmE] at hc
  | .ife _ _ _, hc, _, _, _, _, _ => by simp [calmE] at hc
  | .chain _ _ _ _ _, hc, _, _, _, _, _ => by simp [calmE] at hc
  | .comp _ _ _ _ _ _, hc, _, _, _, _, _ => by simp [calmE] at hc
  | .comp2 _ _ _ _ _ _ _ _ _ _, hc, _, _, _, _, _ => by simp [calmE] at hc
  | .dcomp _ _ _ _ _ _ _ _, hc, _, _, _, _, _ => by simp [calmE] at hc
  | .dlit _ _ _, hc, _, _, _, _, _ => by simp [calmE] at hc
  | .frz _, hc, _, _, _, _, _ => by simp [calmE] at hc
  | .new _ _ _, hc, _, _, _, _, _ => by simp [calmE] at hc
  | .mcall _ _ _ _, hc, _, _, _, _, _ => by simp [calmE] at hc
  | .fld _ _ _, hc, _, _, _, _, _ => by simp [calmE] at hc
theorem calmEs_no (cl : Call) : ∀ (es : Exs), calmEs es = true → ∀ env st x s, evEs cl es env st ≠ .exc x s
  | .nil, _, env, st, x, s, h => by simp [evEs] at h
  | .cons e es, hc, env, st, x, s, h => by
    simp only [evEs] at h
    simp only [calmEs, Bool.and_eq_true] at hc
    rcases bnd_exc_of h with h | ⟨a, s', h, h2⟩
    · exact calmE_no cl e hc.1 env st x s h
    · rcases bnd_exc_of h2 with h2 | ⟨a2, s2, h2, h3⟩
      · exact calmEs_no cl es hc.2 env s' x s h2
      · cases h3
end
end Mini
end
section
set_option linter.all false
set_option autoImplicit false
set_option maxRecDepth 100000
set_option maxHeartbeats 1000000
/-! Own classes: methods, new instances. -/
namespace Mini
open PySem PySem.Spec PyProof.Rows L2
/-- where a method is looked up -/
def importOf (o : Expr) (env : PySem.Env) : Sem Bool := do return (← importBound o env).getD true
theorem mcall_tree {o : Expr} {m : Str} {apos pos : Pos} {args : List Expr} {env : PySem.Env} (hb : attributeBase o m env (eval o env) = eval o env) (hs : (backTo pos (starEach args env)).all (fun x => !x.1) = true) (hn : args.length < 30) (hl : (apos.endLine == pos.line) = true) :
    eval (.Call (.Attribute o m apos) args [] pos) env = (do
      let ov ← eval o env
      standAt apos.atName
      let (f, first) ← holding [ov] (getMethod ov m (importOf o env))
      callWith pos f first (backTo pos (starEach args env)) (backToKw pos (keywordEach [] env))) := by
  have form : methodCallForm (args.length + ([] : List Keyword).length) (backTo pos (starEach args env)) (backToKw pos (keywordEach [] env)) = true := by
    unfold methodCallForm
    rw [hs]
    have : (backToKw pos (keywordEach [] env)) = [] := by simp [keywordEach, backToKw]
    rw [this]
    simp only [List.all_nil, Bool.true_and, List.isEmpty_nil, if_true, List.length_nil]
    exact decide_eq_true (by omega)
  rw [show eval (.Call (.Attribute o m apos) args [] pos) env = (do
    let ov ← attributeBase o m env (eval o env)
    standAt apos.atName
    methodCall o m apos pos env ov (args.length + ([] : List Keyword).length) (backTo pos (starEach args env)) (backToKw pos (keywordEach [] env))) from by simp only [eval], hb]
  unfold methodCall
  rw [form]
  have hp : methodCallPos true o env apos pos = pure pos := by
    unfold methodCallPos
    simp only [Bool.not_true, Bool.false_or, hl, if_true]
  rw [hp]
  rfl
section
variable {X : Cx} {R : RC} {W : WX}
theorem insB_at {c : Nat} {d : Mini.D} {v : V} {st : Sto} {m : List Addr} {H : Hp} (s : SR R m st H) (rd : Rep R m st H d v) (h : insB c d st = true) :
    ∃ (a C dx : Addr) (names : List Str) (gs : List (Str × V)) (n : Nat), v = .ref a ∧ R.ka c = some (C, names) ∧ H a = some (.ins C dx gs) ∧ d = .ref n ∧ m[n]? = some a ∧ ∀ f, f ∉ names → gs.lookup f = none := by
  unfold insB at h
  split at h
  · rename_i n
    obtain ⟨a, rfl, ha⟩ := rep_ref rd
    split at h
    · rename_i c' vs e1
      have hc := of_decide_eq_true h
      subst hc
      obtain ⟨C, dx, names, gs, k1, k2, k3, k4, k5⟩ := s.ins n a _ vs ha e1
      refine ⟨a, C, dx, names, gs, n, rfl, k1, k2, rfl, ha, fun f hf => lookup_not fun z => hf ?_⟩
      rw [k3] at z
      exact List.mem_of_mem_take z
    · cases h
  · cases h
def Cm (X : Cx) (R : RC) (W : WX) (i : Nat) (mn : Str) (cl : Call) (g : Env → Sto → Res (List Mini.D)) (σ : L2.St) (env : Env) (hd : List Addr) (Q : VK) : VK := fun v H1 => ∃ (a C dx : Addr) (gs : List (Str × V)) (f : Addr) (d : Mini.D) (m1 : List Addr) (st1 : Sto), v = .ref a ∧ H1 a = some (.ins C dx gs) ∧ L2.Cls X.K C ∧ Meth X.K C mn f ∧ gs.lookup mn = none ∧
    R.fa i = some f ∧ SR (R.w hd) m1 st1 H1 ∧ ER (R.w hd) m1 st1 H1 σ env ∧ Rep (R.w hd) m1 st1 H1 d v ∧ Post (R.w hd) m1 st1 H1 ((g env st1).bnd fun ds st => cl i (d :: ds) st) Q (fun c dd H' => W c dd σ H')
theorem mcall_rcv {c i : Nat} {mn : Str} {cl : Call} {fo : Env → Sto → Res Mini.D} {g : Env → Sto → Res (List Mini.D)} {hd : List Addr} {m0 : List Addr} {env : Env} {st : Sto} {σ : L2.St} {H : Hp} {Q : VK} (hM : MOk X R c mn i) (sr : SR (R.w hd) m0 st H) (er : ER (R.w hd) m0 st H σ env)
    (q : Post (R.w hd) m0 st H ((fo env st).bnd fun d st => if insB c d st = true then (g env st).bnd fun ds st => cl i (d :: ds) st else .bad) Q (fun c dd H' => W c dd σ H')) : tE R W fo σ H (Cm X R W i mn cl g σ env hd Q) := seqE sr er q fun d st1 m1 H1 v x1 s1 er1 r1 p1 => by
    split at p1
    · rename_i hi
      obtain ⟨a, C, dx, names, gs, n, rfl, k1, k2, rfl, k4, k5⟩ := insB_at s1 r1 hi
      obtain ⟨g1, g2, f, g3, g4⟩ := hM C names k1
      exact ⟨a, C, dx, gs, f, _, m1, st1, rfl, k2, g1, g4, k5 mn g2, g3, s1, er1, r1, p1⟩
    · exact p1.elim
/-- o.m(e, ..) -/
theorem pe_mcallM {c i : Nat} {mn : Str} {o e : Expr} {rest : List Expr} {apos pos : Pos} {k : Nat} {cl : Call} {fo : Env → Sto → Res Mini.D} {g : Env → Sto → Res (List Mini.D)} (hM : MOk X R c mn i) (hr : Room k X.A) (hgd : X.A.guards = some []) (tk : Takes X W)
    (hfn : ∀ i a, R.fa i = some a → FnAt X R k cl i) (ho : PE X o (tE R W fo)) (ha : PA X (e :: rest) (tA R W g)) (hb : attributeBase o mn X.env (eval o X.env) = eval o X.env) (hs : noStars (e :: rest) = true) (hn : (e :: rest).length < 30) (hl : (apos.endLine == pos.line) = true) :
    PE X (.Call (.Attribute o mn apos) (e :: rest) [] pos) (tE R W fun env st => (fo env st).bnd fun d st => if insB c d st = true then (g env st).bnd fun ds st => cl i (d :: ds) st else .bad) := by
  refine ⟨fun pins s σ H Q I ⟨hd, m0, env, st, sr, er, q⟩ => ?_⟩
  refine PySem.W.methodCall_KW (pl := importOf o X.env) (thn (ho.run pins s σ H _ I (mcall_rcv hM sr er q)) fun u s1 ⟨v, H1, I1, rv, a, C, dx, gs, f, d, m1, st1, ev, k2, g1, g4, k5, g3, sr1, er1, r1, p1⟩ => ?_) (mcall_tree hb (stars_all hs) hn hl)
  subst ev
  obtain rfl : u = Value.ref a := rv
  refine getmeth_ok I1 k2 g1 g4 k5 ?_
  obtain ⟨f', fd, ps, sp, e1, e2, e3, e4, e5⟩ := hfn i f g3
  rw [g3] at e1
  cases e1
  have n1 : noStar e = true := by
    unfold noStars at hs
    simp only [List.all_cons, Bool.and_eq_true] at hs
    exact hs.1
  have n2 : noStars rest = true := by
    unfold noStars at hs ⊢
    simp only [List.all_cons, Bool.and_eq_true] at hs
    exact hs.2
  refine PySem.W.callWith_K (first := [.ref a]) (h₀ := X.base) I.ok.mod.kin e2 (thn (ha.run pos pins s1 σ H1 (fun vs H2 => sp (.ref a :: vs) H2 Q (fun c dd H' => W c dd σ H')) I1 ?_) fun us s2 ⟨vs, H2, I2, r, q2⟩ => ⟨I2.kIn, ?_⟩) (star1 n1) (stars_plain n2)
  · exact aseqE sr1 er1 p1 fun ds st2 m2 H2 vs x2 s2 er2 r2 p2 => e5 hd m2 st2 H2 (d :: ds) (.ref a :: vs) Q _ s2 (.cons (Rep.mono x2 _ _ r1) r2) p2
  · exact run_G (us := .ref a :: us) (vs := .ref a :: vs) e4 hr hgd e3 tk I2 (.cons rfl r) q2
/-- o.m() -/
theorem pe_mcallM0 {c i : Nat} {mn : Str} {o : Expr} {apos pos : Pos} {k : Nat} {cl : Call} {fo : Env → Sto → Res Mini.D} (hM : MOk X R c mn i) (hr : Room k X.A) (hgd : X.A.guards = some []) (tk : Takes X W)
    (hfn : ∀ i a, R.fa i = some a → FnAt X R k cl i) (ho : PE X o (tE R W fo)) (hb : attributeBase o mn X.env (eval o X.env) = eval o X.env) (hl : (apos.endLine == pos.line) = true) :
    PE X (.Call (.Attribute o mn apos) [] [] pos) (tE R W fun env st => (fo env st).bnd fun d st => if insB c d st = true then (Res.ok [] st).bnd fun ds st => cl i (d :: ds) st else .bad) := by
  refine ⟨fun pins s σ H Q I ⟨hd, m0, env, st, sr, er, q⟩ => ?_⟩
  refine PySem.W.methodCall_KW (pl := importOf o X.env) (thn (ho.run pins s σ H _ I (mcall_rcv (g := fun _ st => .ok [] st) hM sr er q)) fun u s1 ⟨v, H1, I1, rv, a, C, dx, gs, f, d, m1, st1, ev, k2, g1, g4, k5, g3, sr1, er1, r1, p1⟩ => ?_) (mcall_tree hb (stars_all (es := []) rfl) (by simp) hl)
  subst ev
  obtain rfl : u = Value.ref a := rv
  refine getmeth_ok I1 k2 g1 g4 k5 ?_
  obtain ⟨f', fd, ps, sp, e1, e2, e3, e4, e5⟩ := hfn i f g3
  rw [g3] at e1
  cases e1
  exact PySem.W.callWith_K0 (first := [.ref a]) I1.kIn e2 (run_G (us := [.ref a]) (vs := [.ref a]) e4 hr hgd e3 tk I1 (.cons rfl .nil) (e5 hd m1 st1 H1 [d] [.ref a] Q _ sr1 (.cons r1 .nil) p1))
/-! new instances -/
theorem sr_made {hd : List Addr} {m1 : List Addr} {st1 : Sto} {H1 : Hp} {x dx C : Addr} {c : Nat} {names : List Str} (s : SR (R.w hd) m1 st1 H1) (k : R.ka c = some (C, names)) (nx : H1 x = none) (ndx : H1 dx = none) (ne : dx ≠ x) :
    Ext m1 st1 H1 (m1 ++ [x]) (st1 ++ [.ins c []]) (upd (upd H1 dx (.own x)) x (.ins C dx [])) ∧ SR (R.w hd) (m1 ++ [x]) (st1 ++ [.ins c []]) (upd (upd H1 dx (.own x)) x (.ins C dx [])) := by
  have s2 : SR (R.w hd) m1 st1 (upd H1 dx (.own x)) := s.new ndx
  have hx : (upd H1 dx (.own x)) x = none := by rw [upd_ne (Ne.symm ne)]; exact nx
  exact ⟨(Ext.new ndx).trans (Ext.push s2 hx), s2.pushG hx fun _ _ => .ins (gs := []) (by exact k) upd_same (by simp) (by simp) .nil⟩
theorem run_new {c i k : Nat} {cl : Call} {C : Addr} {names : List Str} {f : Addr} {fd : FuncData} {ps : List Str} {sp : Sp} {pins : List (Addr × Obj)} {σ : L2.St} {H : Hp} {s : Shared} {Q : VK} {us : List Value} {vs : List V} {hd : List Addr} {m1 : List Addr} {st1 : Sto} {ds : List Mini.D} (hk : R.ka c = some (C, names)) (M : Mk X.K C f) (F : FnG X.prog X.w X.K X.mg X.base k f fd ps sp)
    (hr : Room (k + 1) X.A) (hg : X.A.guards = some []) (hb : Binds X.K fd ps []) (tk : Takes X W) (I : Inv X pins σ H s) (r : Vals vs us) (sr : SR (R.w hd) m1 st1 H) (rs : Reps (R.w hd) m1 st1 H ds vs)
    (hsp : ∀ hd m st H ds vs Q E, SR (R.w hd) m st H → Reps (R.w hd) m st H ds vs → Post (R.w hd) m st H (cl i ds st) Q E → sp vs H Q E)
    (p : Post (R.w hd) m1 st1 H ((cl i (.ref st1.length :: ds) (st1 ++ [.ins c []])).bnd fun d st' => match d with
      | .non => .ok (.ref st1.length) st'
      | _ => .bad) Q (fun c dd H' => W c dd σ H')) : wpAny (model X.prog X.w) X.A (PySem.call (.ref C) us) (EP X pins σ Q) X.xe s := by
  have hnx := I.hok.fresh (Nat.le_succ s.heap.objs.size)
  have hndx := I.hok.fresh (Nat.le_refl s.heap.objs.size)
  have hne : s.heap.objs.size ≠ s.heap.objs.size + 1 := Nat.ne_of_lt (Nat.lt_succ_self _)
  obtain ⟨x1, s1⟩ := sr_made sr hk hnx hndx hne
  have rx : Rep (R.w hd) (m1 ++ [s.heap.objs.size + 1]) (st1 ++ [.ins c []]) (upd (upd H s.heap.objs.size (.own (s.heap.objs.size + 1))) (s.heap.objs.size + 1) (.ins C s.heap.objs.size [])) (.ref st1.length) (.ref (s.heap.objs.size + 1)) := rep_last sr _ _ _
  have hq : sp (.ref (s.heap.objs.size + 1) :: vs) (upd (upd H s.heap.objs.size (.own (s.heap.objs.size + 1))) (s.heap.objs.size + 1) (.ins C s.heap.objs.size [])) (fun v H2 => v = .non ∧ Q (.ref (s.heap.objs.size + 1)) H2) (fun c dd H' => W c dd σ H') := by
    refine hsp hd _ _ _ (.ref st1.length :: ds) _ _ _ s1 (.cons rx (Reps.mono x1 _ _ rs)) ?_
    cases e : cl i (.ref st1.length :: ds) (st1 ++ [.ins c []]) with
    | ok d st' =>
      rw [e, bnd_ok] at p
      cases d <;> first | exact p.elim | skip
      intro m2 H2 v x2 s2 r2
      cases r2
      exact ⟨rfl, p m2 H2 _ (x1.trans x2) s2 (Rep.mono x2 _ _ rx)⟩
    | exc x st' =>
      rw [e] at p
      exact fun m2 H2 cc dd x2 s2 r2 => p m2 H2 cc dd (x1.trans x2) s2 r2
    | bad =>
      rw [e] at p
      exact p.elim
  have I2 := Inv.made (C := C) I
  have r2 : Vals (V.ref (s.heap.objs.size + 1) :: vs) (Value.ref (s.heap.objs.size + 1) :: us) := .cons rfl r
  have b := hb _ (Value.ref (s.heap.objs.size + 1) :: us) I2.kIn (by
    rw [List.append_nil, ← r2.length]
    exact F.len _ _ _ _ hq)
  rw [List.append_nil] at b
  have gd : (X.A.under (.builtin "type.__call__" ⟨.ref C :: us, []⟩)).guards = some [] := by
    first | exact hg | (simpa [Around.under, Code.isGuard, guardIds] using hg)
  refine wpAny_call (make_map (f := f) I.kIn M.makes M.init (beq_iff_eq.mp M.fn) (codeAny_mono (F.run _ X.stack _ _ ⟨Value.ref (s.heap.objs.size + 1) :: us, []⟩ _ _ _ _ (hr.make C us []) gd (I2.env0.make C us []) b r2 hq) fun res s' hz => ?_))
  cases res with
  | error e => exact tk _ _ (XE.of_call I2 (fun _ _ _ z => z) hz)
  | ok fl =>
    cases fl with
    | ret u =>
      obtain ⟨v, H', I3, rv, ev, q3⟩ := I2.after hz
      subst ev
      exact ⟨rv, ⟨V.ref (s.heap.objs.size + 1), H', I3, rfl, q3⟩⟩
    | next => exact hz.elim
    | brk => exact hz.elim
    | cont => exact hz.elim
end
end Mini
end
section
set_option linter.all false
set_option autoImplicit false
set_option maxRecDepth 100000
set_option maxHeartbeats 1000000
/-! Dicts. -/
namespace Mini
open PySem PySem.Spec PyProof.Rows L2
section
variable {R : RC} {m : List Addr} {st : Sto} {H : Hp} {t : Bool}
theorem kGet_val {κ : Type} [DecidableEq κ] {π : Ky → κ} (inj : ∀ x y : Ky, x.fits t = true → y.fits t = true → π x = π y → x = y) {k : Ky} (hk : k.fits t = true) : ∀ {ks : List Ky} {vs : List Mini.D} {ws : List V}, ks.length = vs.length → ks.all (Ky.fits t) = true → Reps R m st H vs ws →
    match kGet ks vs k with
    | some d => ∃ v, valV ((ks.map π).zip ws) (π k) = some v ∧ Rep R m st H d v
    | none => valV ((ks.map π).zip ws) (π k) = none
  | [], _, _, _, _, _ => by
    simp [kGet, valV]
  | x :: ks, [], _, h, _, _ => by simp at h
  | x :: ks, v :: vs, _, hl, hf, .cons r rs => by
    simp only [List.all_cons, Bool.and_eq_true] at hf
    simp only [List.length_cons, Nat.add_right_cancel_iff] at hl
    have ih := kGet_val inj hk hl hf.2 rs
    simp only [kGet, List.map_cons, List.zip_cons_cons]
    by_cases e : x = k
    · subst e
      rw [if_pos rfl]
      exact ⟨_, valV_pos rfl, r⟩
    · rw [if_neg e]
      have ne : ¬ π x = π k := fun z => e (inj x k hf.1 hk z)
      rw [valV_neg (p := (π x, _)) ne]
      exact ih
theorem mem_any {κ : Type} [DecidableEq κ] {π : Ky → κ} (inj : ∀ x y : Ky, x.fits t = true → y.fits t = true → π x = π y → x = y) {k : Ky} (hk : k.fits t = true) : ∀ {ks : List Ky} {vs : List Mini.D} {ws : List V}, ks.length = vs.length → ks.all (Ky.fits t) = true → Reps R m st H vs ws →
    (((ks.map π).zip ws).any fun kv => decide (kv.1 = π k)) = decide (k ∈ ks)
  | [], _, _, _, _, _ => by simp
  | x :: ks, [], _, h, _, _ => by simp at h
  | x :: ks, v :: vs, _, hl, hf, .cons r rs => by
    simp only [List.all_cons, Bool.and_eq_true] at hf
    simp only [List.length_cons, Nat.add_right_cancel_iff] at hl
    have ih := mem_any inj hk hl hf.2 rs
    simp only [List.map_cons, List.zip_cons_cons, List.any_cons, ih]
    by_cases e : x = k
    · subst e
      simp
    · have ne : ¬ π x = π k := fun z => e (inj x k hf.1 hk z)
      simp [ne, Ne.symm e]
theorem put_map {κ : Type} [DecidableEq κ] {π : Ky → κ} (inj : ∀ x y : Ky, x.fits t = true → y.fits t = true → π x = π y → x = y) {k : Ky} (hk : k.fits t = true) {d : Mini.D} {w : V} (rd : Rep R m st H d w) : ∀ {ks : List Ky} {vs : List Mini.D} {ws : List V}, ks.length = vs.length → ks.all (Ky.fits t) = true → Reps R m st H vs ws →
    ∃ ws', ((ks.map π).zip ws).map (fun kv => if kv.1 = π k then (kv.1, w) else kv) = (ks.map π).zip ws' ∧ Reps R m st H ((ks.zip vs).map fun p => if p.1 = k then d else p.2) ws'
  | [], _, _, _, _, .nil => ⟨[], by simp, .nil⟩
  | [], _ :: _, _, h, _, _ => by simp at h
  | x :: ks, [], _, h, _, _ => by simp at h
  | x :: ks, v :: vs, _, hl, hf, .cons (v := u) (vs := us) r rs => by
    simp only [List.all_cons, Bool.and_eq_true] at hf
    simp only [List.length_cons, Nat.add_right_cancel_iff] at hl
    obtain ⟨ws', e1, e2⟩ := put_map inj hk rd hl hf.2 rs
    by_cases e : x = k
    · subst e
      refine ⟨w :: ws', ?_, ?_⟩
      · simp only [List.map_cons, List.zip_cons_cons, if_true, e1]
      · simp only [List.zip_cons_cons, List.map_cons, if_true]
        exact .cons rd e2
    · have ne : ¬ π x = π k := fun z => e (inj x k hf.1 hk z)
      refine ⟨u :: ws', ?_, ?_⟩
      · simp only [List.map_cons, List.zip_cons_cons, if_neg ne, e1]
      · simp only [List.zip_cons_cons, List.map_cons, if_neg e]
        exact .cons r e2
theorem zip_push {α β : Type} : ∀ {xs : List α} {ys : List β} {x : α} {y : β}, xs.length = ys.length → (xs ++ [x]).zip (ys ++ [y]) = xs.zip ys ++ [(x, y)]
  | [], [], _, _, _ => rfl
  | a :: xs, b :: ys, x, y, h => by
    simp only [List.length_cons, Nat.add_right_cancel_iff] at h
    simp [zip_push h]
  | [], _ :: _, _, _, h => by simp at h
  | _ :: _, [], _, _, h => by simp at h
theorem kPut_val {κ : Type} [DecidableEq κ] {π : Ky → κ} (inj : ∀ x y : Ky, x.fits t = true → y.fits t = true → π x = π y → x = y) {k : Ky} (hk : k.fits t = true) {d : Mini.D} {w : V} (rd : Rep R m st H d w) {ks : List Ky} {vs : List Mini.D} {ws : List V} (hl : ks.length = vs.length) (hf : ks.all (Ky.fits t) = true) (r : Reps R m st H vs ws) :
    ∃ ws', putK ((ks.map π).zip ws) (π k) w = ((kPut ks vs k d).1.map π).zip ws' ∧ (kPut ks vs k d).1.length = (kPut ks vs k d).2.length ∧ (kPut ks vs k d).1.all (Ky.fits t) = true ∧ Reps R m st H (kPut ks vs k d).2 ws' := by
  unfold putK kPut
  rw [mem_any inj hk hl hf r]
  by_cases e : k ∈ ks
  · rw [if_pos (decide_eq_true e), if_pos e]
    obtain ⟨ws', e1, e2⟩ := put_map inj hk rd hl hf r
    exact ⟨ws', e1, by simp [hl], hf, e2⟩
  · rw [if_neg (by simp [e]), if_neg e]
    refine ⟨ws ++ [w], ?_, by simp [hl], by simp [hf, hk], r.append (.cons rd .nil)⟩
    rw [List.map_append]
    exact (zip_push (by rw [List.length_map, hl, r.length])).symm
theorem keyIn_some {d : Mini.D} {k : Ky} (h : keyIn t d = some k) : kyOf d = some k ∧ k.fits t = true := by
  unfold keyIn at h
  split at h
  · split at h
    · cases h
      exact ⟨by assumption, by assumption⟩
    · cases h
  · cases h
theorem at_rep {d : Mini.D} {v : V} {x : At} (r : Rep R m st H d v) (h : atOf d = some x) : v = kV x.key := by
  cases r <;> first | (simp [atOf] at h; done) | skip
  · simp [atOf] at h
    subst h
    rfl
  · simp [atOf] at h
    subst h
    rfl
theorem ats_rep : ∀ {xs : List Mini.D} {vs : List V} {as : List At}, Reps R m st H xs vs → xs.mapM atOf = some as → vs = (as.map At.key).map kV
  | [], _, as, .nil, h => by
    simp at h
    subst h
    rfl
  | x :: xs, _, as, .cons r t, h => by
    obtain ⟨p, qs, h1, h2, rfl⟩ := mapM_cons_some h
    rw [ats_rep t h2, at_rep r h1]
    rfl
theorem key_rep0 {d : Mini.D} {v : V} {k : Ky} (r : Rep R m st H d v) (h : keyIn false d = some k) : v = kV k.k0 := by
  obtain ⟨h1, h2⟩ := keyIn_some h
  cases k with
  | t xs => simp [Ky.fits] at h2
  | a x =>
    have : atOf d = some x := by
      cases d <;> first | (simp [kyOf] at h1; done) | skip
      all_goals
        simp only [kyOf] at h1
        obtain ⟨y, e, e2⟩ := map_some h1
        cases e2
        exact e
    exact at_rep r this
theorem key_rep1 {d : Mini.D} {v : V} {k : Ky} (r : Rep R m st H d v) (h : keyIn true d = some k) : ∃ b, v = .ref b ∧ H b = some (.tup (k.kt.map kV)) := by
  obtain ⟨h1, h2⟩ := keyIn_some h
  cases k with
  | a x => simp [Ky.fits] at h2
  | t as =>
    cases d with
    | tup xs =>
      simp only [kyOf] at h1
      obtain ⟨y, e, e2⟩ := map_some h1
      cases e2
      obtain ⟨b, vs, rfl, hb, rb⟩ := r.inj_tup
      refine ⟨b, rfl, ?_⟩
      rw [hb.1, ats_rep rb e]
      rfl
    | _ =>
      simp only [kyOf] at h1
      first
        | (cases h1; done)
        | (obtain ⟨y, e, e2⟩ := map_some h1; cases e2)
theorem inj0 : ∀ x y : Ky, x.fits false = true → y.fits false = true → x.k0 = y.k0 → x = y := fun _ _ => Ky.k0_inj
theorem inj1 : ∀ x y : Ky, x.fits true = true → y.fits true = true → x.kt = y.kt → x = y := fun _ _ => Ky.kt_inj
/-- what is looked up -/
theorem dget_at {x y : Mini.D} {xv yv : V} {ks : List Ky} {vs : List Mini.D} {k : Ky} (s : SR R m st H) (rx : Rep R m st H x xv) (ry : Rep R m st H y yv) (h : dicOf st x = some (t, ks, vs)) (hk : keyIn t y = some k) :
    ∃ a o, xv = .ref a ∧ DGet H a yv o ∧ match kGet ks vs k with
      | some d => ∃ v, o = some v ∧ Rep R m st H d v
      | none => o = none := by
  obtain ⟨a, ws, rfl, ha, k1, k2, ra⟩ := dicOf_at s rx h
  have fk := (keyIn_some hk).2
  cases t with
  | false =>
    refine ⟨a, valV ((ks.map Ky.k0).zip ws) k.k0, rfl, ?_, ?_⟩
    · rw [key_rep0 ry hk]
      exact DGet.k ha
    · have z := kGet_val inj0 fk k1 k2 ra
      cases e : kGet ks vs k with
      | none =>
        rw [e] at z
        exact z
      | some d =>
        rw [e] at z
        exact z
  | true =>
    obtain ⟨b, rfl, hb⟩ := key_rep1 ry hk
    refine ⟨a, valV ((ks.map Ky.kt).zip ws) k.kt, rfl, DGet.t ha hb, ?_⟩
    have z := kGet_val inj1 fk k1 k2 ra
    cases e : kGet ks vs k with
    | none =>
      rw [e] at z
      exact z
    | some d =>
      rw [e] at z
      exact z
/-- a pair is put -/
theorem setKey_ok {m : List Addr} {st st' : Sto} {H : Hp} {o i d : Mini.D} {ov iv v : V} {Q : Hp → Prop} (s : SR R m st H) (ro : Rep R m st H o ov) (ri : Rep R m st H i iv) (rd : Rep R m st H d v) (h : setKey o i d st = some st')
    (k : ∀ H', Ext m st H m st' H' → SR R m st' H' → Q H') : ∃ a H4, ov = .ref a ∧ DPut H a iv v H4 ∧ Q H4 := by
  unfold setKey at h
  split at h
  · rename_i n
    obtain ⟨a, rfl, ha⟩ := rep_ref ro
    split at h
    · rename_i t ks vs e1
      obtain ⟨ws, h1, k1, k2, r⟩ := s.dic n a t ks vs ha e1
      split at h
      · rename_i ky hk
        have fk := (keyIn_some hk).2
        split at h
        · rename_i hl
          cases h
          have hz : ∀ {κ : Type} (π : Ky → κ), ((ks.map π).zip ws).length < sizeLine := fun π => by
            rw [List.length_zip, List.length_map]
            omega
          cases t with
          | false =>
            obtain ⟨ws', e2, g1, g2, g3⟩ := kPut_val inj0 fk rd k1 k2 r
            refine ⟨a, _, rfl, ?_, k (upd H a (kHO false (kPut ks vs ky d).1 ws')) (Ext.set ha e1 (by simp)) (s.setG ha e1 (by simp) fun x _ => .dic upd_same g1 g2 (Reps.mono x _ _ g3))⟩
            rw [key_rep0 ri hk]
            unfold kHO
            rw [if_neg (by simp), ← e2]
            exact DPut.k h1 (hz _)
          | true =>
            obtain ⟨b, rfl, hb⟩ := key_rep1 ri hk
            obtain ⟨ws', e2, g1, g2, g3⟩ := kPut_val inj1 fk rd k1 k2 r
            refine ⟨a, _, rfl, ?_, k (upd H a (kHO true (kPut ks vs ky d).1 ws')) (Ext.set ha e1 (by simp)) (s.setG ha e1 (by simp) fun x _ => .dic upd_same g1 g2 (Reps.mono x _ _ g3))⟩
            unfold kHO
            rw [if_pos rfl, ← e2]
            exact DPut.t h1 hb (hz _)
        · cases h
      · cases h
    · cases h
  · cases h
end
section
variable {X : Cx} {R : RC} {W : WX}
theorem CkOk.u1 {k : Nat} {cl : Call} {G : GI} {c : Ck} (o : CkOk X R W k cl G c) : X.A.units + 1 < cLine := by
  have := o.room.un
  omega
/-- {} -/
theorem pe_dnewM {pos : Pos} {t : Bool} : PE X (.Dict [] [] pos) (tE R W fun _ st => .ok (.ref st.length) (st ++ [.dic t [] []])) := by
  cases t with
  | false => exact PE.imp pe_dnewK fun σ H Q ⟨hd, m, env, st, s, er, p⟩ q hq => p _ _ _ (Ext.push s hq) (s.pushG hq fun x _ => .dic (ws := []) upd_same rfl rfl .nil) (rep_last s q _ _)
  | true => exact PE.imp pe_dnewT fun σ H Q ⟨hd, m, env, st, s, er, p⟩ q hq => p _ _ _ (Ext.push s hq) (s.pushG hq fun x _ => .dic (ws := []) upd_same rfl rfl .nil) (rep_last s q _ _)
/-- d[k] -/
theorem pe_dgetM {o i : Expr} {pos : Pos} {fo fi : Env → Sto → Res Mini.D} (hu : X.A.units + 1 < cLine) (ho : PE X o (tE R W fo)) (hi : PE X i (tE R W fi)) (hs : NoSl i) : PE X (.Subscript o i pos) (tE R W (f2 .dget fo fi)) := by
  refine PE.imp (pe_dget hu ho hi hs) fun σ H Q ⟨hd, m, env, st, s, er, q⟩ => ?_
  refine seqE s er q fun d st1 m1 H1 v x1 s1 er1 r1 p1 => ?_
  refine seqE s1 er1 p1 fun e st2 m2 H2 w x2 s2 er2 r2 p2 => ?_
  obtain ⟨b, e1, p3⟩ := oneR_some (show PostP (R.w hd) m2 st2 H2 (oneR st2 (dgetD st2 d e)) Q from p2.liftP)
  unfold dgetD at e1
  split at e1
  · rename_i t ks vs e2
    obtain ⟨k, e3, e4⟩ := bind_some e1
    obtain ⟨a, o', rfl, g, z⟩ := dget_at s2 (Rep.mono x2 _ _ r1) r2 e2 e3
    rw [e4] at z
    obtain ⟨u, rfl, ru⟩ := z
    exact ⟨a, u, rfl, g, p3.here s2 ru⟩
  · cases e1
theorem din_imp {neg : Bool} {fo fi : Env → Sto → Res Mini.D} {σ : L2.St} {H : Hp} {Q : VK} (q : tE R W (f2 (if neg then .dnin else .din) fi fo) σ H Q) : tE R W fi σ H fun y H1 => tE R W fo σ H1 fun x H2 => ∃ a o, x = .ref a ∧ DGet H2 a y o ∧ Q (.bl (if neg then !o.isSome else o.isSome)) H2 := by
  obtain ⟨hd, m, env, st, s, er, q⟩ := q
  refine seqE s er q fun d st1 m1 H1 v x1 s1 er1 r1 p1 => ?_
  refine seqE s1 er1 p1 fun e st2 m2 H2 w x2 s2 er2 r2 p2 => ?_
  have p4 : PostP (R.w hd) m2 st2 H2 (boolR st2 ((dinD st2 d e).map fun b => if neg then !b else b)) Q := by
    cases neg with
    | true => exact p2.liftP
    | false =>
      have := p2.liftP
      have z : (dinD st2 d e).map (fun b => if false = true then !b else b) = dinD st2 d e := by cases dinD st2 d e <;> rfl
      rw [z]
      exact this
  obtain ⟨b, e1, p3⟩ := boolR_some p4
  obtain ⟨b', e5, rfl⟩ := map_some e1
  clear e1
  unfold dinD at e5
  split at e5
  · rename_i t ks vs e2
    obtain ⟨k, e3, rfl⟩ := map_some e5
    obtain ⟨a, o', rfl, g, z⟩ := dget_at s2 r2 (Rep.mono x2 _ _ r1) e2 e3
    refine ⟨a, o', rfl, g, ?_⟩
    have eo : o'.isSome = (kGet ks vs k).isSome := by
      cases e : kGet ks vs k with
      | none =>
        rw [e] at z
        rw [z]
        rfl
      | some d =>
        rw [e] at z
        obtain ⟨u, rfl, _⟩ := z
        rfl
    rw [eo]
    exact p3.here s2 (.bl _)
  · cases e5
theorem pc_dinM {o i : Expr} {fo fi : Env → Sto → Res Mini.D} (hu : X.A.units + 1 < cLine) (ho : PE X o (tE R W fo)) (hi : PE X i (tE R W fi)) : PC X .In i o (tE R W (f2 .din fi fo)) :=
  ⟨fun pins s σ H Q I q => (pc_din hu hi ho).run pins s σ H Q I (din_imp (neg := false) q)⟩
theorem pc_dninM {o i : Expr} {fo fi : Env → Sto → Res Mini.D} (hu : X.A.units + 1 < cLine) (ho : PE X o (tE R W fo)) (hi : PE X i (tE R W fi)) : PC X .NotIn i o (tE R W (f2 .dnin fi fo)) :=
  ⟨fun pins s σ H Q I q => (pc_dnotin hu hi ho).run pins s σ H Q I (din_imp (neg := true) q)⟩
/-- d[k] = e -/
theorem ps_asgKeyM {o i e : Expr} {pos pos' : Pos} {fo fi fe : Env → Sto → Res Mini.D} (hu : X.A.units + 1 < cLine) (ho : PE X o (tE R W fo)) (hi : PE X i (tE R W fi)) (he : PE X e (tE R W fe)) (hs : swapsWith e (some (.Subscript o i pos')) pos.line X.env = pure false) :
    PS X (.Assign [.Subscript o i pos'] e pos) (tS R W fun env st => (fe env st).out env fun d st => (fo env st).out env fun x st => (fi env st).out env fun y st => stO (setKey x y d st) env) := by
  refine PS.imp (ps_dput hu ho hi he hs) fun D σ H ⟨hd, m, env, st, s, er, p⟩ => ?_
  refine outE s er p fun d st1 m1 H1 v x1 s1 er1 r1 p1 => ?_
  refine outE s1 er1 p1 fun od st2 m2 H2 ov x2 s2 er2 r2 p2 => ?_
  refine outE s2 er2 p2 fun id st3 m3 H3 iv x3 s3 er3 r3 p3 => ?_
  obtain ⟨st4, e4, p4⟩ := stO_some p3
  exact setKey_ok s3 (Rep.mono x3 _ _ r2) r3 (Rep.mono x3 _ _ (Rep.mono x2 _ _ r1)) e4 fun H4 x4 s4 => p4 m3 H4 σ x4 s4 (er3.mono x4)
end
end Mini
end
section
set_option linter.all false
set_option autoImplicit false
set_option maxRecDepth 100000
set_option maxHeartbeats 1000000
/-! Dict comprehensions, comprehensions over two. -/
namespace Mini
open PySem PySem.Spec PyProof.Rows L2
section
variable {X : Cx} {R : RC} {W : WX}
theorem dcL_cases (g : List (Nat × List Mini.D)) (f : Mini.D → Sto → Res (Option (Mini.D × Mini.D))) : ∀ (ds : List Mini.D) (ks : List Ky) (vs : List Mini.D) (st : Sto), dcL g f ds ks vs st = .bad ∨ ∃ r st', dcL g f ds ks vs st = .ok r st'
  | [], ks, vs, st => by
    unfold dcL
    split
    · exact .inr ⟨_, _, rfl⟩
    · exact .inl rfl
  | d :: ds, ks, vs, st => by
    unfold dcL
    split
    · split
      · split
        · split
          · exact dcL_cases g f ds _ _ _
          · exact .inl rfl
        · exact .inl rfl
      · exact dcL_cases g f ds _ _ _
      · exact .inl rfl
    · exact .inl rfl
theorem dcL_nil {g : List (Nat × List Mini.D)} {f : Mini.D → Sto → Res (Option (Mini.D × Mini.D))} {ks : List Ky} {vs : List Mini.D} {r : List Ky × List Mini.D} {st st' : Sto} (h : dcL g f [] ks vs st = .ok r st') : srcOK g st ∧ r = (ks, vs) ∧ st' = st := by
  unfold dcL at h
  split at h
  · rename_i c
    cases h
    exact ⟨c, rfl, rfl⟩
  · cases h
theorem dcL_cons {g : List (Nat × List Mini.D)} {f : Mini.D → Sto → Res (Option (Mini.D × Mini.D))} {d : Mini.D} {ds : List Mini.D} {ks : List Ky} {vs : List Mini.D} {r : List Ky × List Mini.D} {st st' : Sto} (h : dcL g f (d :: ds) ks vs st = .ok r st') :
    srcOK g st ∧ ((∃ x y st1 k, f d st = .ok (some (x, y)) st1 ∧ keyIn false x = some k ∧ ks.length < sizeLine ∧ dcL g f ds (kPut ks vs k y).1 (kPut ks vs k y).2 st1 = .ok r st') ∨ ∃ st1, f d st = .ok none st1 ∧ dcL g f ds ks vs st1 = .ok r st') := by
  unfold dcL at h
  split at h
  · rename_i c
    refine ⟨c, ?_⟩
    split at h
    · rename_i x y st1 e
      split at h
      · rename_i k ek
        split at h
        · rename_i l
          exact .inl ⟨x, y, st1, k, e, ek, l, h⟩
        · cases h
      · cases h
    · rename_i st1 e
      exact .inr ⟨st1, e, h⟩
    · cases h
  · cases h
noncomputable def fDc (v t : Bool) (wp : List Nat) (tg : Tg) (fi : Env → Sto → Res (List Mini.D × List (Nat × List Mini.D))) (fc : Env → Sto → Res Bool) (fk fe : Env → Sto → Res Mini.D) : Env → Sto → Res Mini.D := fun env st => (fi env st).bnd fun ig st =>
      (dcL ig.2 (fun d st => match setT tg d (wipeE wp env) with
        | some env' => noExc ((fc env' st).bnd fun b st => if b = true then (fk env' st).bnd fun x st => (fe env' st).bnd fun y st => .ok (some (x, y)) st else .ok none st)
        | none => .bad) ig.1 [] [] st).bnd fun d st => if t then .bad else mkDic v t d st
theorem dc_imp {own : List (Str × Nat)} {tg : Tg} {fi : Env → Sto → Res (List Mini.D × List (Nat × List Mini.D))} {fc : Env → Sto → Res Bool} {fk fe : Env → Sto → Res Mini.D} {v t : Bool} (hsub : ∀ i ∈ slotsT tg, i ∈ own.map (·.2)) {σ : L2.St} {H : Hp} {Q : VK}
    (h : tE R W (fDc v t (own.map (·.2)) tg fi fc fk fe) σ H Q) : tDc (tI R W fi) (gM R.K tg) (tT R W0 fc) (tE R W0 fk) (tE R W0 fe) (own.map (·.2)) σ H Q := by
  obtain ⟨hd, m, env, st, s, er, q⟩ := h
  refine ⟨hd, m, env, st, s, er, ?_⟩
  unfold fDc at q
  cases e1 : fi env st with
  | bad =>
    rw [e1] at q
    exact q.elim
  | exc x st1 =>
    rw [e1] at q
    exact q
  | ok ig st1 =>
    rw [e1, bnd_ok] at q
    obtain ⟨ds, g⟩ := ig
    dsimp only at q ⊢
    intro m1 H1 J x1 s1 wk A hA
    have er1 := er.mono x1
    have nh : A ∉ hd := fun z => s1.hd A z hA
    obtain ⟨body, hbody⟩ : ∃ body : Mini.D → Sto → Res (Option (Mini.D × Mini.D)), body = fun d st => match setT tg d (wipeE (own.map (·.2)) env) with
        | some env' => noExc ((fc env' st).bnd fun b st => if b = true then (fk env' st).bnd fun x st => (fe env' st).bnd fun y st => .ok (some (x, y)) st else .ok none st)
        | none => .bad := ⟨_, rfl⟩
    rw [← hbody] at q
    rcases dcL_cases g body ds [] [] st1 with z | ⟨rf, stf, z⟩
    · rw [z] at q
      exact q.elim
    rw [z, bnd_ok] at q
    cases t with
    | true => exact q.elim
    | false =>
    rw [if_neg (by simp)] at q
    have hok : HidOk (R.w hd).hid (A :: hd) H1 := fun a ha => (List.mem_cons.mp ha).elim (fun z => .inr (by rw [z]; exact hA)) .inl
    refine ⟨fun i μ H' => i ≤ ds.length ∧ μ = ds.length - i ∧ ∃ m2 st2 ks vs ws, Ext m1 st1 H1 m2 st2 H' ∧ SR (R.w (A :: hd)) m2 st2 H' ∧ H' A = some (kHO false ks ws) ∧ ks.length = vs.length ∧ ks.all (Ky.fits false) = true ∧ Reps (R.w (A :: hd)) m2 st2 H' vs ws ∧ ER (R.w (A :: hd)) m2 st2 H' σ env ∧
      dcL g body (ds.drop i) ks vs st2 = .ok rf stf, ⟨_, Nat.zero_le _, rfl, m1, st1, [], [], [], Ext.new hA, s1.hide hA, upd_same, rfl, rfl, .nil, er1.hide hA, z⟩, ?_⟩
    rintro i μ H' ⟨hi, rfl, m2, st2, ks, vs, ws, x2, s2, hA2, k1, k2, racc, er2, hr⟩
    have nm : NotLive m2 st2 A := fun n e => absurd List.mem_cons_self (s2.dj n A e)
    cases hd0 : ds.drop i with
    | nil =>
      rw [hd0] at hr
      obtain ⟨hsrc, rfl, rfl⟩ := dcL_nil hr
      have hlen : i = ds.length := by
        have := List.drop_eq_nil_iff.mp hd0
        omega
      subst hlen
      have w2 := wk (A :: hd) m2 stf H' hok x2.toH s2 hsrc
      refine .inl ⟨w2.2.1, ?_⟩
      have s3 : SR (R.w hd) m2 stf H' := SR.reveal (R := R.w hd) s2
      unfold mkDic at q
      cases v with
      | true => exact q m2 H' _ (x1.trans x2) s3 (.dic hA2 ⟨nm, nh⟩ k1 k2 (Reps.reveal (R := R.w hd) _ _ racc))
      | false =>
        refine q (m2 ++ [A]) H' _ (x1.trans (Ext.adopt x2 hA s3)) (SR.adoptG (R := R.w hd) s2 nh (.dic hA2 k1 k2 racc)) (.ref ?_)
        rw [← s2.len, List.getElem?_append_right (Nat.le_refl _), Nat.sub_self]
        rfl
    | cons d rest =>
      rw [hd0] at hr
      obtain ⟨hsrc, hr⟩ := dcL_cons hr
      have hlt : i < ds.length := by
        have : (ds.drop i).length = (d :: rest).length := by rw [hd0]
        rw [List.length_drop, List.length_cons] at this
        omega
      have hget : ds[i]? = some d := by
        have : (ds.drop i)[0]? = some d := by rw [hd0]; rfl
        rw [List.getElem?_drop] at this
        simpa using this
      have hrest : ds.drop (i + 1) = rest := by
        have : (ds.drop i).drop 1 = rest := by rw [hd0]; rfl
        rw [List.drop_drop] at this
        exact this
      have w2 := wk (A :: hd) m2 st2 H' hok x2.toH s2 hsrc
      refine .inr ⟨w2.1 i hlt, fun H'' => (i + 1) ≤ ds.length ∧ ∃ m2 st2 ks vs ws, Ext m1 st1 H1 m2 st2 H'' ∧ SR (R.w (A :: hd)) m2 st2 H'' ∧ H'' A = some (kHO false ks ws) ∧ ks.length = vs.length ∧ ks.all (Ky.fits false) = true ∧ Reps (R.w (A :: hd)) m2 st2 H'' vs ws ∧ ER (R.w (A :: hd)) m2 st2 H'' σ env ∧
        dcL g body (ds.drop (i + 1)) ks vs st2 = .ok rf stf, fun H'' ⟨h1, h2⟩ => ⟨ds.length - (i + 1), by omega, h1, rfl, h2⟩, fun y H3 hy => ?_⟩
      obtain ⟨d', e2, x3, s3, r3⟩ := w2.2.2 i y H3 hlt hy
      rw [hget] at e2
      cases e2
      have hA3 : H3 A = some (kHO false ks ws) := x3.keep _ _ hA2 nm
      cases et : setT tg d (wipeE (own.map (·.2)) env) with
      | none =>
        have : body d st2 = .bad := by rw [hbody]; dsimp only; rw [et]
        rcases hr with ⟨_, _, _, _, e, _⟩ | ⟨_, e, _⟩
        · rw [this] at e
          cases e
        · rw [this] at e
          cases e
      | some env' =>
        have eb : body d st2 = noExc ((fc env' st2).bnd fun b st => if b = true then (fk env' st).bnd fun x st => (fe env' st).bnd fun y st => .ok (some (x, y)) st else .ok none st) := by rw [hbody]; dsimp only; rw [et]
        rw [eb] at hr
        have er3 := er2.mono x3
        refine setT_ok (R := R.w (A :: hd)) er3.wipe r3 et fun σ2 hch er4 => ⟨wipe_eq ((wipe_chg _ σ).trans (hch.sub hsub)), ?_⟩
        have hb : ∃ b st4, fc env' st2 = .ok b st4 ∧ ((b = true ∧ ∃ x st5 y st6 k, fk env' st4 = .ok x st5 ∧ fe env' st5 = .ok y st6 ∧ keyIn false x = some k ∧ ks.length < sizeLine ∧ dcL g body rest (kPut ks vs k y).1 (kPut ks vs k y).2 st6 = .ok rf stf) ∨ (b = false ∧ dcL g body rest ks vs st4 = .ok rf stf)) := by
          rcases hr with ⟨x', y', st5, k, e, ek, l, c⟩ | ⟨st5, e, c⟩
          · obtain ⟨b, st4, e4, e5⟩ := bnd_is (noExc_ok e)
            cases b with
            | true =>
              obtain ⟨x2, st6, e6, e7⟩ := bnd_is e5
              obtain ⟨y2, st7, e8, e9⟩ := bnd_is e7
              cases e9
              exact ⟨true, st4, e4, .inl ⟨rfl, _, _, _, _, k, e6, e8, ek, l, c⟩⟩
            | false => cases e5
          · obtain ⟨b, st4, e4, e5⟩ := bnd_is (noExc_ok e)
            cases b with
            | true =>
              obtain ⟨x2, st6, e6, e7⟩ := bnd_is e5
              obtain ⟨y2, st7, e8, e9⟩ := bnd_is e7
              cases e9
            | false =>
              cases e5
              exact ⟨false, _, e4, .inr ⟨rfl, c⟩⟩
        obtain ⟨b, st4, e4, hb⟩ := hb
        refine ⟨A :: hd, m2, env', st2, s3, er4, ?_⟩
        rw [e4]
        intro m4 H4 x4 s4
        have hA4 : H4 A = some (kHO false ks ws) := x4.keep _ _ hA3 nm
        have nm4 : NotLive m4 st4 A := fun n e => absurd List.mem_cons_self (s4.dj n A e)
        rcases hb with ⟨rfl, x', st5, y', st6, k, e5, e6, ek, l, c⟩ | ⟨rfl, c⟩
        · rw [if_pos rfl]
          refine ⟨A :: hd, m4, env', st4, s4, er4.mono x4, ?_⟩
          rw [e5]
          intro m5 H5 xv x5 s5 r5
          have hA5 : H5 A = some (kHO false ks ws) := x5.keep _ _ hA4 nm4
          have nm5 : NotLive m5 st5 A := fun n e => absurd List.mem_cons_self (s5.dj n A e)
          refine ⟨A :: hd, m5, env', st5, s5, er4.mono (x4.trans x5), ?_⟩
          rw [e6]
          intro m6 H6 u x6 s6 r6
          have hA6 : H6 A = some (kHO false ks ws) := x6.keep _ _ hA5 nm5
          have fk := (keyIn_some ek).2
          have racc6 := Reps.mono (((x3.trans x4).trans x5).trans x6) _ _ racc
          obtain ⟨ws', g1, g2, g3, g4⟩ := kPut_val inj0 fk r6 k1 k2 racc6
          refine ⟨(ks.map Ky.k0).zip ws, k.k0, key_rep0 r5 ek, hA6, by rw [List.length_zip, List.length_map]; omega, hlt, m6, st6, _, _, ws', Ext.poke ((((x2.trans x3).trans x4).trans x5).trans x6) hA, s6.poke List.mem_cons_self, ?_, g2, g3, ?_, ?_, ?_⟩
          · rw [upd_same, g1]
            rfl
          · exact Reps.poke (hd := []) List.mem_cons_self _ _ g4
          · exact (er2.mono (((x3.trans x4).trans x5).trans x6)).poke List.mem_cons_self
          · rw [hrest]
            exact c
        · rw [if_neg Bool.false_ne_true]
          refine ⟨hlt, m4, st4, ks, vs, ws, (x2.trans x3).trans x4, s4, hA4, k1, k2, Reps.mono (x3.trans x4) _ _ racc, er2.mono (x3.trans x4), ?_⟩
          rw [hrest]
          exact c
theorem pe_dcM {kx vx it : Expr} {tg : Expr} {ifs : List Expr} {scope : Scope} {own : List (Str × Nat)} {pos : Pos} {t : Tg} {fi : Env → Sto → Res (List Mini.D × List (Nat × List Mini.D))} {fc : Env → Sto → Res Bool} {fk fe : Env → Sto → Res Mini.D} {v tt : Bool}
    (hc : X.calm = true) (hN : X.N.Nodup) (hi : PI X tg it (tI R W fi)) (ok : BlkOk X.N X.env.scope scope own)
    (hg : ∀ (s : Shared) (H : Hp) (C : Addr) (cl : List (Str × Addr)) (fp : List Addr), PG (X.blk s H scope (compEnvC scope cl C X.env) fp) tg (gM R.K t)) (ht : ∀ (s : Shared) (H : Hp) (C : Addr) (cl : List (Str × Addr)) (fp : List Addr), PTs (X.blk s H scope (compEnvC scope cl C X.env) fp) ifs (tT R W0 fc))
    (hk : ∀ (s : Shared) (H : Hp) (C : Addr) (cl : List (Str × Addr)) (fp : List Addr), PE (X.blk s H scope (compEnvC scope cl C X.env) fp) kx (tE R W0 fk))
    (he : ∀ (s : Shared) (H : Hp) (C : Addr) (cl : List (Str × Addr)) (fp : List Addr), PE (X.blk s H scope (compEnvC scope cl C X.env) fp) vx (tE R W0 fe)) (hs : ∀ x, foldedSetIterable it X.env x = pure x) (hsub : ∀ i ∈ slotsT t, i ∈ own.map (·.2)) :
    PE X (.DictComp kx vx [⟨tg, it, ifs, 0⟩] scope pos) (tE R W (fDc v tt (own.map (·.2)) t fi fc fk fe)) := PE.imp (pe_dc hc hN hi ok hg ht hk he hs) fun _ _ _ h => dc_imp hsub h
end
end Mini
end
section
set_option linter.all false
set_option autoImplicit false
set_option maxRecDepth 100000
set_option maxHeartbeats 1000000
/-! Comprehensions over two. -/
namespace Mini
open PySem PySem.Spec PyProof.Rows L2
section
variable {X : Cx} {R : RC} {W : WX}
theorem compX_cases (g : List (Nat × List Mini.D)) (f : Mini.D → List Mini.D → Sto → Res (List Mini.D)) : ∀ (ds acc : List Mini.D) (st : Sto), compX g f ds acc st = .bad ∨ ∃ ys st', compX g f ds acc st = .ok ys st'
  | [], acc, st => by
    unfold compX
    split
    · exact .inr ⟨_, _, rfl⟩
    · exact .inl rfl
  | d :: ds, acc, st => by
    unfold compX
    split
    · split
      · exact compX_cases g f ds _ _
      · exact .inl rfl
    · exact .inl rfl
theorem compX_nil {g : List (Nat × List Mini.D)} {f : Mini.D → List Mini.D → Sto → Res (List Mini.D)} {acc ys : List Mini.D} {st st' : Sto} (h : compX g f [] acc st = .ok ys st') : srcOK g st ∧ ys = acc ∧ st' = st := by
  unfold compX at h
  split at h
  · rename_i c
    cases h
    exact ⟨c, rfl, rfl⟩
  · cases h
theorem compX_cons {g : List (Nat × List Mini.D)} {f : Mini.D → List Mini.D → Sto → Res (List Mini.D)} {d : Mini.D} {ds acc ys : List Mini.D} {st st' : Sto} (h : compX g f (d :: ds) acc st = .ok ys st') :
    srcOK g st ∧ ∃ acc' st1, f d acc st = .ok acc' st1 ∧ compX g f ds acc' st1 = .ok ys st' := by
  unfold compX at h
  split at h
  · rename_i c
    refine ⟨c, ?_⟩
    split at h
    · rename_i acc' st1 e
      exact ⟨acc', st1, e, h⟩
    · cases h
  · cases h
noncomputable def turn2 (wp2 : List Nat) (t2 : Tg) (fc2 : Env → Sto → Res Bool) (fe : Env → Sto → Res Mini.D) (env' : Env) : Mini.D → Sto → Res (Option Mini.D) := fun d2 st => match setT t2 d2 (wipeE wp2 env') with
  | some env2 => noExc ((fc2 env2 st).bnd fun b st => if b = true then (fe env2 st).bnd fun y st => .ok (some y) st else .ok none st)
  | none => .bad
noncomputable def fComp2 (v : Bool) (wp : List Nat) (t : Tg) (fi : Env → Sto → Res (List Mini.D × List (Nat × List Mini.D))) (fc : Env → Sto → Res Bool) (wp2 : List Nat) (t2 : Tg) (fi2 : Env → Sto → Res (List Mini.D × List (Nat × List Mini.D))) (fc2 : Env → Sto → Res Bool) (fe : Env → Sto → Res Mini.D) : Env → Sto → Res Mini.D := fun env st => (fi env st).bnd fun ig st =>
      (compX ig.2 (fun d acc st => match setT t d (wipeE wp env) with
        | some env' => noExc ((fc env' st).bnd fun b st => if b = true then (fi2 env' st).bnd fun ig2 st =>
            compL ig2.2 (turn2 wp2 t2 fc2 fe env') ig2.1 acc st
          else .ok acc st)
        | none => .bad) ig.1 [] st).bnd fun ys st => if v then .ok (.lst ys) st else .ok (.ref st.length) (st ++ [.lst ys])
/-- a turn's place -/
theorem drop_at {ds rest : List Mini.D} {d : Mini.D} {i : Nat} (h : ds.drop i = d :: rest) : i < ds.length ∧ ds[i]? = some d ∧ ds.drop (i + 1) = rest := by
  refine ⟨?_, ?_, ?_⟩
  · have : (ds.drop i).length = (d :: rest).length := by rw [h]
    rw [List.length_drop, List.length_cons] at this
    omega
  · have : (ds.drop i)[0]? = some d := by rw [h]; rfl
    rw [List.getElem?_drop] at this
    simpa using this
  · have : (ds.drop i).drop 1 = rest := by rw [h]; rfl
    rw [List.drop_drop] at this
    exact this
theorem comp2_imp {own : List (Str × Nat)} {vs1 : List Nat} {t t2 : Tg} {fi fi2 : Env → Sto → Res (List Mini.D × List (Nat × List Mini.D))} {fc fc2 : Env → Sto → Res Bool} {fe : Env → Sto → Res Mini.D} {v : Bool} (hsub : ∀ i ∈ slotsT t, i ∈ own.map (·.2)) (hsub2 : ∀ i ∈ slotsT t2, i ∈ vs1) {σ : L2.St} {H : Hp} {Q : VK}
    (h : tE R W (fComp2 v (own.map (·.2)) t fi fc vs1 t2 fi2 fc2 fe) σ H Q) : tLc2 (tI R W fi) (gM R.K t) (tT R W0 fc) (tI R W0 fi2) (gM R.K t2) (tT R W0 fc2) (tE R W0 fe) (own.map (·.2)) vs1 σ H Q := by
  obtain ⟨hd, m, env, st, s, er, q⟩ := h
  refine ⟨hd, m, env, st, s, er, ?_⟩
  unfold fComp2 at q
  cases e1 : fi env st with
  | bad =>
    rw [e1] at q
    exact q.elim
  | exc x st1 =>
    rw [e1] at q
    exact q
  | ok ig st1 =>
    rw [e1, bnd_ok] at q
    obtain ⟨ds, g⟩ := ig
    dsimp only at q ⊢
    intro m1 H1 J x1 s1 wk A hA
    have er1 := er.mono x1
    have nh : A ∉ hd := fun z => s1.hd A z hA
    obtain ⟨body, hbody⟩ : ∃ body : Mini.D → List Mini.D → Sto → Res (List Mini.D), body = fun d acc st => match setT t d (wipeE (own.map (·.2)) env) with
        | some env' => noExc ((fc env' st).bnd fun b st => if b = true then (fi2 env' st).bnd fun ig2 st =>
            compL ig2.2 (turn2 vs1 t2 fc2 fe env') ig2.1 acc st
          else .ok acc st)
        | none => .bad := ⟨_, rfl⟩
    rw [← hbody] at q
    rcases compX_cases g body ds [] st1 with z | ⟨ys, stf, z⟩
    · rw [z] at q
      exact q.elim
    rw [z, bnd_ok] at q
    have hok : HidOk (R.w hd).hid (A :: hd) H1 := fun a ha => (List.mem_cons.mp ha).elim (fun z => .inr (by rw [z]; exact hA)) .inl
    refine ⟨fun i μ H' => i ≤ ds.length ∧ μ = ds.length - i ∧ ∃ m2 st2 acc vs, Ext m1 st1 H1 m2 st2 H' ∧ SR (R.w (A :: hd)) m2 st2 H' ∧ H' A = some (.lst vs) ∧ Reps (R.w (A :: hd)) m2 st2 H' acc vs ∧ ER (R.w (A :: hd)) m2 st2 H' σ env ∧
      compX g body (ds.drop i) acc st2 = .ok ys stf, ⟨_, Nat.zero_le _, rfl, m1, st1, [], [], Ext.new hA, s1.hide hA, upd_same, .nil, er1.hide hA, z⟩, ?_⟩
    rintro i μ H' ⟨hi, rfl, m2, st2, acc, vs, x2, s2, hA2, racc, er2, hr⟩
    have nm : NotLive m2 st2 A := fun n e => absurd List.mem_cons_self (s2.dj n A e)
    cases hd0 : ds.drop i with
    | nil =>
      rw [hd0] at hr
      obtain ⟨hsrc, rfl, rfl⟩ := compX_nil hr
      have hlen : i = ds.length := by
        have := List.drop_eq_nil_iff.mp hd0
        omega
      subst hlen
      have w2 := wk (A :: hd) m2 stf H' hok x2.toH s2 hsrc
      refine .inl ⟨w2.2.1, ?_⟩
      have s3 : SR (R.w hd) m2 stf H' := SR.reveal (R := R.w hd) s2
      cases v with
      | true => exact q m2 H' _ (x1.trans x2) s3 (.lst hA2 ⟨nm, nh⟩ (Reps.reveal (R := R.w hd) _ _ racc))
      | false =>
        refine q (m2 ++ [A]) H' _ (x1.trans (Ext.adopt x2 hA s3)) (SR.adopt (R := R.w hd) s2 nh hA2 racc) (.ref ?_)
        rw [← s2.len, List.getElem?_append_right (Nat.le_refl _), Nat.sub_self]
        rfl
    | cons d rest =>
      rw [hd0] at hr
      obtain ⟨hsrc, acc', stn, eb, hr2⟩ := compX_cons hr
      obtain ⟨hlt, hget, hrest⟩ := drop_at hd0
      have w2 := wk (A :: hd) m2 st2 H' hok x2.toH s2 hsrc
      refine .inr ⟨w2.1 i hlt, fun H'' => (i + 1) ≤ ds.length ∧ ∃ m2 st2 acc vs, Ext m1 st1 H1 m2 st2 H'' ∧ SR (R.w (A :: hd)) m2 st2 H'' ∧ H'' A = some (.lst vs) ∧ Reps (R.w (A :: hd)) m2 st2 H'' acc vs ∧ ER (R.w (A :: hd)) m2 st2 H'' σ env ∧
        compX g body (ds.drop (i + 1)) acc st2 = .ok ys stf, fun H'' ⟨h1, h2⟩ => ⟨ds.length - (i + 1), by omega, h1, rfl, h2⟩, fun y H3 hy => ?_⟩
      obtain ⟨d', e2, x3, s3, r3⟩ := w2.2.2 i y H3 hlt hy
      rw [hget] at e2
      cases e2
      have hA3 : H3 A = some (.lst vs) := x3.keep _ _ hA2 nm
      rw [hbody] at eb
      dsimp only at eb
      cases et : setT t d (wipeE (own.map (·.2)) env) with
      | none =>
        rw [et] at eb
        cases eb
      | some env' =>
        rw [et] at eb
        have er3 := er2.mono x3
        refine setT_ok (R := R.w (A :: hd)) er3.wipe r3 et fun σ2 hch er4 => ⟨wipe_eq ((wipe_chg _ σ).trans (hch.sub hsub)), ?_⟩
        obtain ⟨b, st4, e4, e5⟩ := bnd_is (noExc_ok eb)
        refine ⟨A :: hd, m2, env', st2, s3, er4, ?_⟩
        rw [e4]
        intro m4 H4 x4 s4
        have hA4 : H4 A = some (.lst vs) := x4.keep _ _ hA3 nm
        cases b with
        | false =>
          cases e5
          rw [if_neg Bool.false_ne_true]
          refine ⟨hlt, m4, _, acc, vs, (x2.trans x3).trans x4, s4, hA4, Reps.mono (x3.trans x4) _ _ racc, er2.mono (x3.trans x4), ?_⟩
          rw [hrest]
          exact hr2
        | true =>
          rw [if_pos rfl] at e5
          obtain ⟨ig2, st5, e6, e7⟩ := bnd_is e5
          obtain ⟨ds2, g2⟩ := ig2
          dsimp only at e7
          rw [if_pos rfl]
          refine ⟨A :: hd, m4, env', st4, s4, er4.mono x4, ?_⟩
          rw [e6]
          intro m5 H5 J1 x5 s5 wk1
          have nm4 : NotLive m4 st4 A := fun n e => absurd List.mem_cons_self (s4.dj n A e)
          have hA5 : H5 A = some (.lst vs) := x5.keep _ _ hA4 nm4
          have x25 := ((x2.trans x3).trans x4).trans x5
          have hok1 : HidOk (R.w (A :: hd)).hid (A :: hd) H5 := fun a ha => .inl ha
          refine ⟨fun j κ H' => j ≤ ds2.length ∧ κ = ds2.length - j ∧ ∃ m6 st6 acc vs, Ext m1 st1 H1 m6 st6 H' ∧ ExtH (A :: hd) m5 st5 H5 m6 st6 H' ∧ SR (R.w (A :: hd)) m6 st6 H' ∧ H' A = some (.lst vs) ∧ Reps (R.w (A :: hd)) m6 st6 H' acc vs ∧ ER (R.w (A :: hd)) m6 st6 H' σ env ∧ ER (R.w (A :: hd)) m6 st6 H' σ2 env' ∧
            compL g2 (turn2 vs1 t2 fc2 fe env') (ds2.drop j) acc st6 = .ok acc' stn,
            ⟨_, Nat.zero_le _, rfl, m5, st5, acc, vs, x25, Ext.refl.toH, s5, hA5, Reps.mono ((x3.trans x4).trans x5) _ _ racc, er2.mono ((x3.trans x4).trans x5), (er4.mono x4).mono x5, e7⟩, ?_⟩
          rintro j κ H'6 ⟨hj, rfl, m6, st6, acc6, vs6, x6, y6, s6, hA6, racc6, er6, er6', hr6⟩
          have nm6 : NotLive m6 st6 A := fun n e => absurd List.mem_cons_self (s6.dj n A e)
          cases hd1 : ds2.drop j with
          | nil =>
            rw [hd1] at hr6
            obtain ⟨hsrc1, rfl, rfl⟩ := compL_nil hr6
            have hlen : j = ds2.length := by
              have := List.drop_eq_nil_iff.mp hd1
              omega
            subst hlen
            have w3 := wk1 (A :: hd) m6 stn H'6 hok1 y6 s6 hsrc1
            refine .inl ⟨w3.2.1, hlt, m6, stn, acc', vs6, x6, s6, hA6, racc6, er6, ?_⟩
            rw [hrest]
            exact hr2
          | cons d2 rest2 =>
            rw [hd1] at hr6
            obtain ⟨hsrc1, hr7⟩ := compL_cons hr6
            obtain ⟨hlt2, hget2, hrest2⟩ := drop_at hd1
            have w3 := wk1 (A :: hd) m6 st6 H'6 hok1 y6 s6 hsrc1
            refine .inr ⟨w3.1 j hlt2, fun H'' => (j + 1) ≤ ds2.length ∧ ∃ m6 st6 acc vs, Ext m1 st1 H1 m6 st6 H'' ∧ ExtH (A :: hd) m5 st5 H5 m6 st6 H'' ∧ SR (R.w (A :: hd)) m6 st6 H'' ∧ H'' A = some (.lst vs) ∧ Reps (R.w (A :: hd)) m6 st6 H'' acc vs ∧ ER (R.w (A :: hd)) m6 st6 H'' σ env ∧ ER (R.w (A :: hd)) m6 st6 H'' σ2 env' ∧
              compL g2 (turn2 vs1 t2 fc2 fe env') (ds2.drop (j + 1)) acc st6 = .ok acc' stn, fun H'' ⟨h1, h2⟩ => ⟨ds2.length - (j + 1), by omega, h1, rfl, h2⟩, fun y2 H7 hy2 => ?_⟩
            obtain ⟨d2', e8, x7, s7, r7⟩ := w3.2.2 j y2 H7 hlt2 hy2
            rw [hget2] at e8
            cases e8
            have hA7 : H7 A = some (.lst vs6) := x7.keep _ _ hA6 nm6
            cases et2 : setT t2 d2 (wipeE vs1 env') with
            | none =>
              have : turn2 vs1 t2 fc2 fe env' d2 st6 = .bad := by unfold turn2; rw [et2]
              rcases hr7 with ⟨_, _, e, _⟩ | ⟨_, e, _⟩
              · rw [this] at e
                cases e
              · rw [this] at e
                cases e
            | some env2 =>
              have eb2 : turn2 vs1 t2 fc2 fe env' d2 st6 = noExc ((fc2 env2 st6).bnd fun b st => if b = true then (fe env2 st).bnd fun y st => .ok (some y) st else .ok none st) := by unfold turn2; rw [et2]
              rw [eb2] at hr7
              have er7 := er6'.mono x7
              refine setT_ok (R := R.w (A :: hd)) er7.wipe r7 et2 fun σ3 hch3 er8 => ⟨wipe_eq ((wipe_chg _ σ2).trans (hch3.sub hsub2)), ?_⟩
              have hb : ∃ b st8, fc2 env2 st6 = .ok b st8 ∧ ((b = true ∧ ∃ y st9, fe env2 st8 = .ok y st9 ∧ acc6.length < sizeLine ∧ compL g2 (turn2 vs1 t2 fc2 fe env') rest2 (acc6 ++ [y]) st9 = .ok acc' stn) ∨ (b = false ∧ compL g2 (turn2 vs1 t2 fc2 fe env') rest2 acc6 st8 = .ok acc' stn)) := by
                rcases hr7 with ⟨y', st9, e, l, c⟩ | ⟨st9, e, c⟩
                · obtain ⟨b, st8, e4, e5⟩ := bnd_is (noExc_ok e)
                  cases b with
                  | true =>
                    obtain ⟨y2, st6, e6, e7⟩ := bnd_is e5
                    cases e7
                    exact ⟨true, st8, e4, .inl ⟨rfl, _, _, e6, l, c⟩⟩
                  | false => cases e5
                · obtain ⟨b, st8, e4, e5⟩ := bnd_is (noExc_ok e)
                  cases b with
                  | true =>
                    obtain ⟨y2, st6, e6, e7⟩ := bnd_is e5
                    cases e7
                  | false =>
                    cases e5
                    exact ⟨false, _, e4, .inr ⟨rfl, c⟩⟩
              obtain ⟨b, st8, e9, hb⟩ := hb
              refine ⟨A :: hd, m6, env2, st6, s7, er8, ?_⟩
              rw [e9]
              intro m8 H8 x8 s8
              have hA8 : H8 A = some (.lst vs6) := x8.keep _ _ hA7 nm6
              have nm8 : NotLive m8 st8 A := fun n e => absurd List.mem_cons_self (s8.dj n A e)
              rcases hb with ⟨rfl, y', st9, e10, l, c⟩ | ⟨rfl, c⟩
              · rw [if_pos rfl]
                refine ⟨A :: hd, m8, env2, st8, s8, er8.mono x8, ?_⟩
                rw [e10]
                intro m9 H9 u x9 s9 r9
                have hA9 : H9 A = some (.lst vs6) := x9.keep _ _ hA8 nm8
                have x79 := (x7.trans x8).trans x9
                refine ⟨vs6, hA9, by rw [← racc6.length]; exact l, hlt2, m9, st9, acc6 ++ [y'], vs6 ++ [u], Ext.poke (x6.trans x79) hA, (y6.trans x79.toH).poke List.mem_cons_self, s9.poke List.mem_cons_self, upd_same, ?_, ?_, ?_, ?_⟩
                · exact (Reps.poke (hd := []) List.mem_cons_self _ _ (Reps.mono x79 _ _ racc6)).append (.cons (Rep.poke (hd := []) List.mem_cons_self _ _ r9) .nil)
                · exact (er6.mono x79).poke List.mem_cons_self
                · exact (er6'.mono x79).poke List.mem_cons_self
                · rw [hrest2]
                  exact c
              · rw [if_neg Bool.false_ne_true]
                have x78 := x7.trans x8
                refine ⟨hlt2, m8, st8, acc6, vs6, x6.trans x78, y6.trans x78.toH, s8, hA8, Reps.mono x78 _ _ racc6, er6.mono x78, er6'.mono x78, ?_⟩
                rw [hrest2]
                exact c
theorem pe_comp2 {elt it tg it1 tg1 : Expr} {ifs ifs1 : List Expr} {scope : Scope} {own : List (Str × Nat)} {vs1 : List Nat} {pos : Pos} {t t2 : Tg} {fi fi2 : Env → Sto → Res (List Mini.D × List (Nat × List Mini.D))} {fc fc2 : Env → Sto → Res Bool} {fe : Env → Sto → Res Mini.D} {v : Bool}
    (hc : X.calm = true) (hN : X.N.Nodup) (hi : PI X tg it (tI R W fi)) (ok : BlkOk X.N X.env.scope scope own) (hv : ∀ i ∈ vs1, i ∈ own.map (·.2))
    (hg : ∀ (s : Shared) (H : Hp) (C : Addr) (cl : List (Str × Addr)) (fp : List Addr), PG (X.blk s H scope (compEnvC scope cl C X.env) fp) tg (gM R.K t)) (ht : ∀ (s : Shared) (H : Hp) (C : Addr) (cl : List (Str × Addr)) (fp : List Addr), PTs (X.blk s H scope (compEnvC scope cl C X.env) fp) ifs (tT R W0 fc))
    (hi1 : ∀ (s : Shared) (H : Hp) (C : Addr) (cl : List (Str × Addr)) (fp : List Addr), PI (X.blk s H scope (compEnvC scope cl C X.env) fp) tg1 it1 (tI R W0 fi2))
    (hg1 : ∀ (s : Shared) (H : Hp) (C : Addr) (cl : List (Str × Addr)) (fp : List Addr), PG (X.blk s H scope (compEnvC scope cl C X.env) fp) tg1 (gM R.K t2)) (ht1 : ∀ (s : Shared) (H : Hp) (C : Addr) (cl : List (Str × Addr)) (fp : List Addr), PTs (X.blk s H scope (compEnvC scope cl C X.env) fp) ifs1 (tT R W0 fc2))
    (he : ∀ (s : Shared) (H : Hp) (C : Addr) (cl : List (Str × Addr)) (fp : List Addr), PE (X.blk s H scope (compEnvC scope cl C X.env) fp) elt (tE R W0 fe)) (hs : ∀ x, foldedSetIterable it X.env x = pure x) (hs1 : ∀ env x, foldedSetIterable it1 env x = pure x) (hsub : ∀ i ∈ slotsT t, i ∈ own.map (·.2)) (hsub2 : ∀ i ∈ slotsT t2, i ∈ vs1) :
    PE X (.ListComp elt [⟨tg, it, ifs, 0⟩, ⟨tg1, it1, ifs1, 0⟩] scope pos) (tE R W (fComp2 v (own.map (·.2)) t fi fc vs1 t2 fi2 fc2 fe)) := PE.imp (pe_lc2 hc hN hi ok hv hg ht hi1 hg1 ht1 he hs hs1) fun _ _ _ h => comp2_imp hsub hsub2 h
end
end Mini
end
section
set_option linter.all false
set_option autoImplicit false
set_option maxRecDepth 100000
set_option maxHeartbeats 1000000
/-! Primitives, methods by their syntax. -/
namespace Mini
open PySem PySem.Spec PyProof.Rows L2
/-! bools -/
theorem isBl_boolR {p : Pr} (h : ∀ ds st, (∃ o, prim p ds st = boolR st o) ∨ prim p ds st = none) : IsBl p := fun ds st d st' e => by
  rcases h ds st with ⟨o, h⟩ | h
  · rw [h] at e
    cases o with
    | none => cases e
    | some b =>
      cases e
      exact ⟨b, rfl⟩
  · rw [h] at e
    cases e
theorem two_of {p : Pr} {F : Sto → D → D → Pm} (h0 : ∀ x y st, prim p [x, y] st = F st x y) (hn : ∀ ds st, ds.length ≠ 2 → prim p ds st = none) (ds : List D) (st : Sto) : (∃ x y, ds = [x, y] ∧ prim p ds st = F st x y) ∨ prim p ds st = none := by
  rcases ds with _ | ⟨x, _ | ⟨y, _ | ⟨z, l⟩⟩⟩
  · exact .inr (hn _ _ (by simp))
  · exact .inr (hn _ _ (by simp))
  · exact .inl ⟨x, y, rfl, h0 x y st⟩
  · exact .inr (hn _ _ (by simp))
theorem isBl2 {p : Pr} {F : Sto → D → D → Option Bool} (h0 : ∀ x y st, prim p [x, y] st = boolR st (F st x y)) (hn : ∀ ds st, ds.length ≠ 2 → prim p ds st = none) : IsBl p := isBl_boolR fun ds st => by
  rcases two_of (F := fun st x y => boolR st (F st x y)) h0 hn ds st with ⟨x, y, rfl, h⟩ | h
  · exact .inl ⟨_, h⟩
  · exact .inr h
theorem isBl_eq : IsBl .eq := isBl2 (fun _ _ _ => rfl) (fun _ _ h => a2_none h)
theorem isBl_ne : IsBl .ne := isBl2 (F := fun st x y => (eqvD st x y).map not) (fun _ _ _ => rfl) (fun _ _ h => a2_none h)
theorem isBl_lt : IsBl .lt := isBl2 (F := fun _ x y => cmpD .lt x y) (fun _ _ _ => rfl) (fun _ _ h => a2_none h)
theorem isBl_le : IsBl .le := isBl2 (F := fun _ x y => cmpD .le x y) (fun _ _ _ => rfl) (fun _ _ h => a2_none h)
theorem isBl_gt : IsBl .gt := isBl2 (F := fun _ x y => cmpD .gt x y) (fun _ _ _ => rfl) (fun _ _ h => a2_none h)
theorem isBl_ge : IsBl .ge := isBl2 (F := fun _ x y => cmpD .ge x y) (fun _ _ _ => rfl) (fun _ _ h => a2_none h)
theorem isBl_in : IsBl .isin := isBl2 (F := fun st x y => inD st x y) (fun _ _ _ => rfl) (fun _ _ h => a2_none h)
theorem isBl_nin : IsBl .notin := isBl2 (F := fun st x y => (inD st x y).map not) (fun _ _ _ => rfl) (fun _ _ h => a2_none h)
section
variable {X : Cx} {R : RC} {W : WX} {k : Nat} {cl : Call} {G : GI} {c : Ck}
theorem CkOk.u64 (o : CkOk X R W k cl G c) : X.A.units + 64 < cLine := by
  have := o.room.un
  omega
theorem CkOk.u100 (o : CkOk X R W k cl G c) : X.A.units + 100 < cLine := by
  have := o.room.un
  omega
/-- a two-place comparison -/
structure CmpOK (X : Cx) (R : RC) (op : CmpOp) (p : Pr) : Prop where
  ex : ∃ r : R2, (∀ hd, Sim (R.w hd) p (l2 r)) ∧ OpR X (compareOp op) r
  bl : IsBl p
theorem cmp_ok (o : CkOk X R W k cl G c) : ∀ (op : CmpOp) (p : Pr), cmpP op = some p → CmpOK X R op p := by
  intro op p h
  cases op <;> first | (cases h; done) | (cases h)
  · exact ⟨⟨rEqM R.K, fun hd => sim_eq (R := R.w hd), by rw [o.K]; exact op_eqM o.u64⟩, isBl_eq⟩
  · exact ⟨⟨rNeM R.K, fun hd => sim_ne (R := R.w hd), by rw [o.K]; exact op_neM o.u64⟩, isBl_ne⟩
  · exact ⟨⟨rLtM, fun hd => sim_lt, op_ltM⟩, isBl_lt⟩
  · exact ⟨⟨rLeM, fun hd => sim_le, op_leM⟩, isBl_le⟩
  · exact ⟨⟨rGtM, fun hd => sim_gt, op_gtM⟩, isBl_gt⟩
  · exact ⟨⟨rGeM, fun hd => sim_ge, op_geM⟩, isBl_ge⟩
  · exact ⟨⟨rInM R.K false, fun hd => sim_in (R := R.w hd), by rw [o.K]; exact op_inM⟩, isBl_in⟩
  · exact ⟨⟨rInM R.K true, fun hd => sim_nin (R := R.w hd), by rw [o.K]; exact op_ninM⟩, isBl_nin⟩
theorem bin_ok (o : CkOk X R W k cl G c) {op : Operator} {p : Pr} (h : binP op = some p) : ∃ r : R2, (∀ hd, Sim (R.w hd) p (l2 r)) ∧ OpR X (binaryOp op) r := by
  cases op <;> first | (cases h; done) | (cases h)
  · exact ⟨rAddM R.K, fun hd => sim_add (R := R.w hd), by rw [o.K]; exact op_addM⟩
  · exact ⟨_, fun hd => sim_sub, op_sub⟩
  · exact ⟨rMulM R.K, fun hd => sim_mul (R := R.w hd), by rw [o.K]; exact op_mulM⟩
  · exact ⟨_, fun hd => sim_mod, op_modN⟩
  · exact ⟨_, fun hd => sim_pow, op_pow⟩
  · exact ⟨_, fun hd => sim_fdiv, op_fdivZ⟩
def rTupM (K : PySem.W.Frag) : List V → Hp → VK → Prop := fun xs H Q => ∃ p ys, xs = [.ref p] ∧ ((SqL K H p ys ∧ ∀ l, H l = none → Q (.ref l) (upd H l (.tup ys))) ∨ (SqT K H p ys ∧ Q (.ref p) H))
theorem fn_ok (o : CkOk X R W k cl G c) {p : Pr} {x : Str} {q pos : Pos} {e : Expr} {es : List Expr} {g : Env → Sto → Res (List Mini.D)} (h : fnP p = some x) (hg : Gl X x) (hm : X.mg x = none) (hx : okN x = true) (hs : noStars (e :: es) = true) (ha : PA X (e :: es) (tA R W g)) :
    PE X (.Call (.Name x q) (e :: es) [] pos) (tE R W (fA p g)) := by
  have h1 : noStar e = true := by
    unfold noStars at hs
    simp only [List.all_cons, Bool.and_eq_true] at hs
    exact hs.1
  have h2 : noStars es = true := by
    unfold noStars at hs ⊢
    simp only [List.all_cons, Bool.and_eq_true] at hs
    exact hs.2
  have he := star1 (es := es) (env := X.env) h1
  have hpl := stars_plain (env := X.env) (pos := pos) h2
  cases p <;> first | (cases h; done) | (cases h)
  · exact pe_bfn (r := rLenM R.K) (fun hd => sim_len (R := R.w hd)) (by rw [o.K]; exact call_lenM) hg hm (by decide +kernel) ha (okN_n hx) (okN_d hx) he hpl
  · exact pe_bfn (fun hd => sim_abs) call_abs hg hm (by decide +kernel) ha (okN_n hx) (okN_d hx) he hpl
  · exact pe_bty (fun hd => sim_int) (call_intM o.dig) hg hm (by decide +kernel) ha (okN_n hx) (okN_d hx) he hpl
  · exact pe_bty (fun hd => sim_str) (call_strM o.dig) hg hm (by decide +kernel) ha (okN_n hx) (okN_d hx) he hpl
  · refine pe_bty (T := "tuple") (r := rTupM R.K) (fun hd => sim_tuple (R := R.w hd)) ?_ hg hm (by decide +kernel) ha (okN_n hx) (okN_d hx) he hpl
    rw [o.K]
    exact call_tuple_of
  · refine pe_bty (T := "list") (r := rLisM R.K) (fun hd => sim_list (R := R.w hd)) ?_ hg hm (by decide +kernel) ha (okN_n hx) (okN_d hx) he hpl
    rw [o.K]
    exact call_list_of
  · exact pe_bfn (r := rAll R.K) (fun hd => sim_all (R := R.w hd)) (by rw [o.K]; exact cr_all o.calm) hg hm (by decide +kernel) ha (okN_n hx) (okN_d hx) he hpl
  · exact pe_bfn (r := rAny R.K) (fun hd => sim_any (R := R.w hd)) (by rw [o.K]; exact cr_any o.calm) hg hm (by decide +kernel) ha (okN_n hx) (okN_d hx) he hpl
  · exact pe_bfn (r := l1 (rReprM R.K)) (fun hd => sim_repr (R := R.w hd)) (by rw [o.K]; exact call_reprM o.gd o.u100) hg hm (by decide +kernel) ha (okN_n hx) (okN_d hx) he hpl
theorem tyNm_ok {t : Ty} {T : Str} (h : tyNm t = some T) : ∃ n, tyN t = some n ∧ bootBuiltins T = some (.type n) := by
  cases t <;> first | (cases h; done) | (cases h)
  · exact ⟨"int", rfl, by decide +kernel⟩
  · exact ⟨"bool", rfl, by decide +kernel⟩
  · exact ⟨"str", rfl, by decide +kernel⟩
  · exact ⟨"tuple", rfl, by decide +kernel⟩
  · exact ⟨"list", rfl, by decide +kernel⟩
theorem plainIx_ok {b : Expr} (h : plainIx b = true) : PlainIx b := by
  cases b <;> first | (cases h; done) | exact fun _ _ => rfl
theorem isNone_ok {b : Expr} (h : isNoneE b = true) : ∃ j pos, b = .Constant .none j pos := by
  unfold isNoneE at h
  split at h
  · exact ⟨_, _, rfl⟩
  · cases h
theorem callParts_ok (o : CkOk X R W k cl G c) {p : Pr} {x : Str} {q pos : Pos} {args as : List Expr} {es : Exs} (h : callParts G c p x args = some as) (hq : PEL X R W cl as es) : PE X (.Call (.Name x q) args [] pos) (tE R W (evE cl (.pr p es))) := by
  unfold callParts at h
  split at h
  · rename_i t a T q2
    split at h
    · rename_i hc
      cases h
      simp only [Bool.and_eq_true, beq_iff_eq, decide_eq_true_eq] at hc
      obtain ⟨⟨⟨⟨⟨⟨⟨⟨h1, h2⟩, h3⟩, h4⟩, h5⟩, h6⟩, h7⟩, h8⟩, h9⟩ := hc
      subst h1
      obtain ⟨y, rfl, hy⟩ := pel1 hq
      obtain ⟨n, hn, hb⟩ := tyNm_ok h2
      rw [ev1]
      exact pe_isiM o.K hn (o.gl h3) (o.bts _ h7) (o.gl h4) (o.bts _ h8) hb (okN_n h6) (okN_d h6) hy (star1 h9)
    · cases h
  · split at h
    · rename_i hc
      cases h
      simp only [Bool.and_eq_true, Bool.not_eq_true', decide_eq_true_eq] at hc
      obtain ⟨⟨⟨⟨⟨h1, h2⟩, h3⟩, h4⟩, h5⟩, h6⟩ := hc
      cases args with
      | nil => cases h6
      | cons e rest =>
        rw [evA]
        exact fn_ok o h1 (o.gl h2) (o.bts _ h4) h3 h5 (pel_pa h5 hq)
    · cases h
theorem pr_ok (o : CkOk X R W k cl G c) {p : Pr} {e : Expr} {as : List Expr} {es : Exs} (h : prParts G c p e = some as) (hcm : p = .sl true true → calmEs es = true) (hq : PEL X R W cl as es) : PE X e (tE R W (evE cl (.pr p es))) := by
  unfold prParts at h
  split at h
  · split at h
    · rename_i hc
      cases h
      obtain ⟨x, y, rfl, hx, hy⟩ := pel2 hq
      obtain ⟨r, h1, h2⟩ := bin_ok o (of_decide_eq_true hc)
      rw [ev2]
      exact pe_bin h1 h2 hx hy
    · cases h
  · split at h
    · rename_i hc
      cases h
      obtain ⟨x, rfl, hx⟩ := pel1 hq
      obtain rfl := of_decide_eq_true hc
      rw [ev1]
      exact pe_unM (fun hd => sim_neg) un_neg hx
    · cases h
  · split at h
    · rename_i hc
      simp only [Bool.and_eq_true, decide_eq_true_eq] at hc
      obtain ⟨rfl, hb⟩ := hc
      obtain ⟨j, ps, rfl⟩ := isNone_ok hb
      split at h
      · rename_i hp
        cases h
        obtain rfl := of_decide_eq_true hp
        obtain ⟨x, rfl, hx⟩ := pel1 hq
        rw [ev1]
        exact pe_isNM hx
      · cases h
    · split at h
      · rename_i hc
        simp only [Bool.and_eq_true, decide_eq_true_eq] at hc
        obtain ⟨rfl, hb⟩ := hc
        obtain ⟨j, ps, rfl⟩ := isNone_ok hb
        split at h
        · rename_i hp
          cases h
          obtain rfl := of_decide_eq_true hp
          obtain ⟨x, rfl, hx⟩ := pel1 hq
          rw [ev1]
          exact pe_notNM hx
        · cases h
      · split at h
        · rename_i hc
          cases h
          simp only [Bool.and_eq_true, decide_eq_true_eq, Bool.not_eq_true'] at hc
          obtain ⟨x, y, rfl, hx, hy⟩ := pel2 hq
          obtain ⟨⟨r, h1, h2⟩, _⟩ := cmp_ok o _ _ hc.1
          rw [ev2]
          exact pe_cmpM h1 h2 hx hy hc.2
        · cases h
  · split at h
    · split at h
      · rename_i hc
        cases h
        obtain rfl := of_decide_eq_true hc
        obtain ⟨x, rfl, hx⟩ := pel1 hq
        rw [ev1]
        exact sl00 o.K hx
      · cases h
    · split at h
      · rename_i hc
        cases h
        obtain rfl := of_decide_eq_true hc
        obtain ⟨x, y, rfl, hx, hy⟩ := pel2 hq
        rw [ev2]
        exact sl10 o.K hx hy
      · cases h
    · split at h
      · rename_i hc
        cases h
        obtain rfl := of_decide_eq_true hc
        obtain ⟨x, y, rfl, hx, hy⟩ := pel2 hq
        rw [ev2]
        exact sl01 o.K hx hy
      · cases h
    · split at h
      · rename_i hc
        cases h
        obtain rfl := of_decide_eq_true hc
        obtain ⟨x, y, z, rfl, hx, hy, hz⟩ := pel3 hq
        have hcm := hcm rfl
        simp only [calmEs, Bool.and_eq_true] at hcm
        rw [ev3]
        exact sl11 o.K hx hy hz (calmE_no cl z hcm.2.2.1)
      · cases h
  · split at h
    · rename_i hc
      cases h
      simp only [Bool.and_eq_true, decide_eq_true_eq] at hc
      obtain ⟨rfl, hb⟩ := hc
      obtain ⟨x, y, rfl, hx, hy⟩ := pel2 hq
      rw [ev2]
      exact pe_ixM o.K (plainIx_ok hb) hx hy
    · cases h
  · exact callParts_ok o h hq
  · cases h
/-! as a test -/
def tPlain : Expr → Bool
  | .UnaryOp .Not _ _ => false
  | .BoolOp _ _ _ => false
  | .IfExp _ _ _ _ => false
  | .Compare _ _ _ _ => false
  | _ => true
theorem tPlain_ok {e : Expr} {env : PySem.Env} (h : tPlain e = true) : ∀ whole, isTrue e env whole = (do let v ← whole; standAt e.pos; holding [v] (truthy v)) := by
  intro whole
  cases e <;> first | (cases h; done) | (simp only [PySem.isTrue]; done) | skip
  rename_i op a pos
  cases op <;> first | (cases h; done) | simp only [PySem.isTrue]
theorem evT_pr {p : Pr} {es : Exs} : evT cl (.pr p es) = fun env st => (evE cl (.pr p es) env st).bnd truR := by
  funext env st
  simp [evT, evE, bnd_assoc]
theorem pr_test (o : CkOk X R W k cl G c) {p : Pr} {e : Expr} {as : List Expr} {es : Exs} (h : prParts G c p e = some as) (hcm : p = .sl true true → calmEs es = true) (hq : PEL X R W cl as es) : PT X e (tT R W (evT cl (.pr p es))) := by
  rw [evT_pr]
  by_cases ht : tPlain e = true
  · exact pt_tru o.K (pr_ok o h hcm hq) (tPlain_ok ht)
  · unfold prParts at h
    split at h
    · exact absurd rfl ht
    · exact absurd rfl ht
    · split at h
      · rename_i hc
        simp only [Bool.and_eq_true, decide_eq_true_eq] at hc
        obtain ⟨rfl, hb⟩ := hc
        obtain ⟨j, ps, rfl⟩ := isNone_ok hb
        split at h
        · rename_i hp
          cases h
          obtain rfl := of_decide_eq_true hp
          obtain ⟨x, rfl, hx⟩ := pel1 hq
          rw [ev1]
          exact pt_isNM hx
        · cases h
      · split at h
        · rename_i hc
          simp only [Bool.and_eq_true, decide_eq_true_eq] at hc
          obtain ⟨rfl, hb⟩ := hc
          obtain ⟨j, ps, rfl⟩ := isNone_ok hb
          split at h
          · rename_i hp
            cases h
            obtain rfl := of_decide_eq_true hp
            obtain ⟨x, rfl, hx⟩ := pel1 hq
            rw [ev1]
            exact pt_notNM hx
          · cases h
        · split at h
          · rename_i hc
            cases h
            simp only [Bool.and_eq_true, decide_eq_true_eq, Bool.not_eq_true'] at hc
            obtain ⟨x, y, rfl, hx, hy⟩ := pel2 hq
            obtain ⟨⟨r, h1, h2⟩, h3⟩ := cmp_ok o _ _ hc.1
            rw [ev2]
            exact pt_cmpM h3 h1 h2 hx hy hc.2
          · cases h
    · exact absurd rfl ht
    · exact absurd rfl ht
    · exact absurd rfl ht
    · cases h
end
end Mini
end
section
set_option linter.all false
set_option autoImplicit false
set_option maxRecDepth 100000
set_option maxHeartbeats 1000000
/-! The checker of expressions, and that it is right. -/
namespace Mini
open PySem PySem.Spec PyProof.Rows L2
def mtP : Pr → Option Str
  | .append => some "append"
  | .pop => some "pop"
  | .extend => some "extend"
  | .split => some "split"
  | .partition => some "partition"
  | .join => some "join"
  | _ => none
def plainBase : Expr → Bool
  | .Call (.Name _ _) [] [] _ => false
  | _ => true
theorem plainBase_ok {o : Expr} {m : Str} {env : PySem.Env} {w : Sem Value} (h : plainBase o = true) : attributeBase o m env w = w := by
  unfold attributeBase
  split
  · cases h
  · rfl
section
variable {X : Cx} {R : RC} {W : WX} {k : Nat} {cl : Call} {G : GI} {c : Ck}
theorem ev_mth {p : Pr} {o : Ex} {es : Exs} : evE cl (.mth p o es) = fM p (evE cl o) (evEs cl es) := by
  funext env st
  simp [evE, fM]
theorem rcv_str {p : Pr} (h : p = .split ∨ p = .partition ∨ p = .join) (d : Mini.D) (st : Sto) (q : rcv p d st = true) : ∃ a, d = .str a := by
  rcases h with rfl | rfl | rfl <;> (cases d <;> first | exact ⟨_, rfl⟩ | (simp [rcv] at q))
theorem rcv_lst {p : Pr} (h : p = .append ∨ p = .pop ∨ p = .extend) (d : Mini.D) (st : Sto) (q : rcv p d st = true) : ∃ (n : Nat) (xs : List Mini.D), d = .ref n ∧ st[n]? = some (.lst xs) := by
  rcases h with rfl | rfl | rfl <;> (cases d <;> first | (simp [rcv] at q; done) | skip)
  all_goals
    rename_i n
    simp only [rcv] at q
    split at q
    · rename_i xs e
      exact ⟨n, xs, rfl, e⟩
    · cases q
theorem mth_any (o : CkOk X R W k cl G c) {p : Pr} {T id : String} {name : Str} {a : Expr} {args : List Expr} {apos cpos : Pos} {r : V → List V → Hp → VK → Prop} {f : Env → Sto → Res Mini.D} {es : Exs}
    (ty : ∀ hd, TyOK (R.w hd) T p) (sm : ∀ hd, Sim (R.w hd) p (lm r)) (pa : PlainAttrs T) (slot : Slot T name id) (hty : typeOf (.builtin id) = pure (.type "method_descriptor")) (hm : MtR X id r)
    (ho : PE X a (tE R W f)) (hb : plainBase a = true) (hl : (apos.endLine == cpos.line) = true) (hs : noStars args = true) (hn : args.length < 30) (hq : PEL X R W cl args es) : PE X (.Call (.Attribute a name apos) args [] cpos) (tE R W (fM p f (evEs cl es))) := by
  cases args with
  | nil =>
    cases es with
    | cons => cases hq
    | nil =>
      have e : evEs cl .nil = fun _ st => .ok [] st := by funext env st; simp [evEs]
      rw [e]
      exact pe_mt0 o.K ty sm pa slot hty hm ho (plainBase_ok hb) hl
  | cons e rest =>
    have h1 : noStar e = true := by
      unfold noStars at hs
      simp only [List.all_cons, Bool.and_eq_true] at hs
      exact hs.1
    have h2 : noStars rest = true := by
      unfold noStars at hs ⊢
      simp only [List.all_cons, Bool.and_eq_true] at hs
      exact hs.2
    refine pe_mtA o.K ty sm pa slot hty hm ho (pel_pa hs hq) (plainBase_ok hb) ?_ hl (star1 h1) (stars_plain h2)
    rw [stars_all hs]
    simp only [Bool.and_eq_true, decide_eq_true_eq]
    exact ⟨⟨trivial, by simp [keywordEach, backToKw]⟩, by simp only [List.length_nil, List.isEmpty_nil, if_true]; exact hn⟩
theorem mth_ok (o : CkOk X R W k cl G c) {p : Pr} {name : Str} {a : Expr} {args : List Expr} {apos cpos : Pos} {f : Env → Sto → Res Mini.D} {es : Exs} (h : mtP p = some name)
    (ho : PE X a (tE R W f)) (hb : plainBase a = true) (hl : (apos.endLine == cpos.line) = true) (hs : noStars args = true) (hn : args.length < 30) (hq : PEL X R W cl args es) : PE X (.Call (.Attribute a name apos) args [] cpos) (tE R W (fM p f (evEs cl es))) := by
  cases p <;> first | (cases h; done) | (cases h)
  · exact mth_any o (fun hd => tyOK_list (rcv_lst (.inl rfl))) (fun hd => sim_append) F.plainAttrs_list F.slot_list_append F.type_list_append mt_append ho hb hl hs hn hq
  · exact mth_any o (fun hd => tyOK_list (rcv_lst (.inr (.inl rfl)))) (fun hd => sim_pop) F.plainAttrs_list F.slot_list_pop F.type_list_pop mt_pop ho hb hl hs hn hq
  · exact mth_any o (fun hd => tyOK_list (rcv_lst (.inr (.inr rfl)))) (fun hd => sim_extend) F.plainAttrs_list F.slot_list_extend F.type_list_extend mt_extend ho hb hl hs hn hq
  · exact mth_any o (fun hd => tyOK_str (rcv_str (.inl rfl))) (fun hd => sim_split) F.plainAttrs_str F.slot_str_split F.type_str_split mt_split ho hb hl hs hn hq
  · exact mth_any o (fun hd => tyOK_str (rcv_str (.inr (.inl rfl)))) (fun hd => sim_partition) F.plainAttrs_str F.slot_str_partition F.type_str_partition mt_partition ho hb hl hs hn hq
  · refine mth_any (r := rJoinM R.K) o (fun hd => tyOK_str (rcv_str (.inr (.inr rfl)))) (fun hd => sim_join (R := R.w hd)) F.plainAttrs_str F.slot_str_join F.type_str_join ?_ ho hb hl hs hn hq
    rw [o.K]
    exact mt_join
/-! constants, names -/
def litOk (G : GI) (c : Ck) (d : Mini.D) (e : Expr) : Bool := match e, d with
  | .Constant .none _ _, .non => true
  | .Constant (.bool b) _ _, .bl b' => b == b'
  | .Constant (.int i) _ _, .int j => i == j
  | .Constant (.str s) _ _, .str a => s.cps.toList == a
  | .Name x _, .fn i => decide (G.fns.lookup x = some i) && c.gl x && okN x
  | .Name x _, d => (match G.cns.lookup x with
      | some d' => beqD d d'
      | none => false) && c.gl x && okN x
  | _, _ => false
theorem litOk_ok (o : CkOk X R W k cl G c) {d : Mini.D} {e : Expr} (h : litOk G c d e = true) : PE X e (tE R W (evE cl (.lit d))) := by
  have ev : evE cl (.lit d) = fun _ st => .ok d st := by funext env st; simp [evE]
  rw [ev]
  unfold litOk at h
  split at h
  · exact pe_lit pe_non fun hd m st H => .non
  · obtain rfl := eq_of_beq h
    exact pe_lit pe_bl fun hd m st H => .bl _
  · obtain rfl := eq_of_beq h
    exact pe_lit pe_int fun hd m st H => .int _
  · obtain rfl := eq_of_beq h
    exact pe_lit pe_str fun hd m st H => .of_str _
  · rename_i x q i
    simp only [Bool.and_eq_true, decide_eq_true_eq] at h
    obtain ⟨f, h1, h2⟩ := o.fns _ _ h.1.1
    exact pe_lit (pe_glob (v := .ref f) (o.gl h.1.2) h1 rfl (okN_d h.2)) fun hd m st H => .fn h2
  · rename_i x q d' _
    simp only [Bool.and_eq_true] at h
    obtain ⟨⟨h1, h2⟩, h3⟩ := h
    split at h1
    · rename_i d2 e2
      obtain rfl := beqD_eq _ _ h1
      obtain ⟨u, v, g1, g2, g3⟩ := o.cns _ _ e2
      exact pe_lit (pe_glob (o.gl h2) g1 g2 (okN_d h3)) g3
    · cases h1
  · cases h
/-! and, or -/
def restB (op : BoolOp) (r : List Expr) (pos : Pos) : Expr := match r with
  | [b] => b
  | r => .BoolOp op r pos
theorem restB_pe {op : BoolOp} {r : List Expr} {pos : Pos} {t : TE} (hr : r ≠ []) (h : PE X (restB op r pos) t) : PE X (.BoolOp op r pos) t := by
  unfold restB at h
  split at h
  · exact pe_one h
  · exact h
theorem restB_and {r : List Expr} {pos : Pos} {t : TT} (h : PT X (restB .And r pos) t) : PW X (.BoolOp .And r pos) t := by
  unfold restB at h
  split at h
  · exact pw_and1 h
  · exact PT.pw h
theorem restB_or {r : List Expr} {pos : Pos} {t : TT} (h : PT X (restB .Or r pos) t) : PW X (.BoolOp .Or r pos) t := by
  unfold restB at h
  split at h
  · exact pw_or1 h
  · exact PT.pw h
/-! calls -/
theorem call_ok (o : CkOk X R W k cl G c) {x : Str} {i : Nat} {p pos : Pos} {args : List Expr} {es : Exs} (h1 : G.fns.lookup x = some i) (h2 : c.gl x = true) (h3 : okN x = true) (hs : noStars args = true) (hq : PEL X R W cl args es) :
    PE X (.Call (.Name x p) args [] pos) (tE R W (evE cl (.call i es))) := by
  have ev : evE cl (.call i es) = fun env st => (evEs cl es env st).bnd fun ds st => cl i ds st := by funext env st; simp [evE]
  rw [ev]
  obtain ⟨f, hm, ha⟩ := o.fns _ _ h1
  obtain ⟨f', fd, ps, sp, g1, g2, g3, g4, g5⟩ := o.fna i f ha
  rw [ha] at g1
  cases g1
  cases args with
  | nil =>
    cases es with
    | cons => cases hq
    | nil =>
      have e : evEs cl .nil = fun _ st => .ok [] st := by funext env st; simp [evEs]
      rw [e]
      exact pe_callM0 (cl := cl i) g4 o.rm o.gd g3 o.tk g5 (o.gl h2) hm g2 (okN_d h3)
  | cons e rest =>
    have n1 : noStar e = true := by
      unfold noStars at hs
      simp only [List.all_cons, Bool.and_eq_true] at hs
      exact hs.1
    have n2 : noStars rest = true := by
      unfold noStars at hs ⊢
      simp only [List.all_cons, Bool.and_eq_true] at hs
      exact hs.2
    exact pe_callM (cl := cl i) g4 o.rm o.gd g3 o.tk g5 (o.gl h2) hm g2 (pel_pa hs hq) (okN_d h3) (star1 n1) (stars_plain n2)
theorem callv_ok (o : CkOk X R W k cl G c) {a b : Expr} {ps pos : Pos} {args : List Expr} {f : Ex} {es : Exs} (h0 : args.isEmpty = false) (hf : PE X (.Subscript a b ps) (tE R W (evE cl f))) (hs : noStars args = true) (hq : PEL X R W cl args es) :
    PE X (.Call (.Subscript a b ps) args [] pos) (tE R W (evE cl (.callv f es))) := by
  have ev : evE cl (.callv f es) = fun env st => (evE cl f env st).bnd fun d st => match d with
    | .fn i => (evEs cl es env st).bnd fun ds st => cl i ds st
    | _ => .bad := by
      funext env st
      simp only [evE]
      all_goals congr 1
  rw [ev]
  cases args with
  | nil => cases h0
  | cons e rest =>
    have n1 : noStar e = true := by
      unfold noStars at hs
      simp only [List.all_cons, Bool.and_eq_true] at hs
      exact hs.1
    have n2 : noStars rest = true := by
      unfold noStars at hs ⊢
      simp only [List.all_cons, Bool.and_eq_true] at hs
      exact hs.2
    exact pe_callvM hf o.rm o.gd o.tk o.fna (pel_pa hs hq) (star1 n1) (stars_plain n2) (by rfl)
end
/-! own classes -/
section
variable {X : Cx} {R : RC} {W : WX} {k : Nat} {cl : Call} {G : GI} {c : Ck}
theorem noStars_cons {e : Expr} {es : List Expr} (h : noStars (e :: es) = true) : noStar e = true ∧ noStars es = true := by
  unfold noStars at h ⊢
  simp only [List.all_cons, Bool.and_eq_true] at h
  exact h
theorem mcall_ok (o : CkOk X R W k cl G c) {cc i : Nat} {mn : Str} {a : Expr} {args : List Expr} {apos cpos : Pos} {f : Ex} {es : Exs} (h : G.kms.lookup (cc, mn) = some i)
    (ho : PE X a (tE R W (evE cl f))) (hb : plainBase a = true) (hl : (apos.endLine == cpos.line) = true) (hs : noStars args = true) (hn : args.length < 30) (hq : PEL X R W cl args es) : PE X (.Call (.Attribute a mn apos) args [] cpos) (tE R W (evE cl (.mcall cc i f es))) := by
  have ev : evE cl (.mcall cc i f es) = fun env st => (evE cl f env st).bnd fun d st => if insB cc d st = true then (evEs cl es env st).bnd fun ds st => cl i (d :: ds) st else .bad := by
    funext env st
    simp only [evE]
  rw [ev]
  cases args with
  | nil =>
    cases es with
    | cons => cases hq
    | nil =>
      have e : evEs cl .nil = fun _ st => .ok [] st := by funext env st; simp [evEs]
      rw [e]
      exact pe_mcallM0 (o.kms _ _ _ h) o.rm o.gd o.tk o.fna ho (plainBase_ok hb) hl
  | cons e rest => exact pe_mcallM (o.kms _ _ _ h) o.rm o.gd o.tk o.fna ho (pel_pa hs hq) (plainBase_ok hb) hs hn hl
theorem fld_ok (o : CkOk X R W k cl G c) {cc j : Nat} {fn : Str} {fs : List Str} {a : Expr} {pos : Pos} {f : Ex} (h : G.kfs.lookup cc = some fs) (hj : fs[j]? = some fn) (ho : PE X a (tE R W (evE cl f))) (hb : plainBase a = true) : PE X (.Attribute a fn pos) (tE R W (evE cl (.fld cc j f))) := by
  have ev : evE cl (.fld cc j f) = fun env st => (evE cl f env st).bnd fun d st => fldR cc j d st := by
    funext env st
    simp only [evE]
  rw [ev]
  exact pe_fldM o.K (o.kok cc) (fun C names hk => by rw [o.kfs cc fs C names h hk]; exact hj) ho (plainBase_ok hb)
theorem new_ok (o : CkOk X R W k cl G c) {cc i : Nat} {x : Str} {args : List Expr} {p pos : Pos} {es : Exs} (h : G.kls.lookup x = some cc) (hi : G.kms.lookup (cc, ("__init__" : Str)) = some i) (h2 : c.gl x = true) (h3 : okN x = true) (hs : noStars args = true) (hq : PEL X R W cl args es) :
    PE X (.Call (.Name x p) args [] pos) (tE R W (evE cl (.new cc i es))) := by
  have ev : evE cl (.new cc i es) = fun env st => (evEs cl es env st).bnd fun ds st => (cl i (.ref st.length :: ds) (st ++ [.ins cc []])).bnd fun d st' => match d with
      | .non => .ok (.ref st.length) st'
      | _ => .bad := by
    funext env st
    simp only [evE]
    all_goals congr 1
  rw [ev]
  obtain ⟨C, names, i', f, k1, k2, k3, k4, M⟩ := o.kls x cc h
  rw [hi] at k3
  cases k3
  obtain ⟨f', fd, ps, sp, g1, g2, g3, g4, g5⟩ := o.fna i f k4
  rw [k4] at g1
  cases g1
  refine ⟨fun pins s σ H Q I ⟨hd, m, env, st, sr, er, q⟩ => ?_⟩
  cases args with
  | nil =>
    cases es with
    | cons => cases hq
    | nil =>
      have e : evEs cl .nil = fun _ st => .ok [] st := by funext env st; simp [evEs]
      rw [e] at q
      refine wpAny_Call_Name_kw (ld_glob I (o.gl h2) k2 ?_ (okN_d h3))
      exact PySem.W.callWith_K0 I.kIn M.kp (run_new (us := []) (vs := []) k1 M g4 o.room o.gd g3 o.tk I .nil sr .nil g5 q)
  | cons e rest =>
    obtain ⟨n1, n2⟩ := noStars_cons hs
    refine wpAny_Call_Name_kw (ld_glob I (o.gl h2) k2 ?_ (okN_d h3))
    refine PySem.W.callWith_K (h₀ := X.base) I.ok.mod.kin M.kp (thn ((pel_pa hs hq).run pos pins s σ H (fun vs H1 => ∃ m1 st1 ds, SR (R.w hd) m1 st1 H1 ∧ Reps (R.w hd) m1 st1 H1 ds vs ∧ Post (R.w hd) m1 st1 H1 ((cl i (.ref st1.length :: ds) (st1 ++ [.ins cc []])).bnd fun d st' => match d with
      | .non => .ok (.ref st1.length) st'
      | _ => .bad) Q (fun c dd H' => W c dd σ H')) I ?_) fun us s1 ⟨vs, H1, I1, r, m1, st1, ds, s1', rs, p1⟩ => ⟨I1.kIn, ?_⟩) (star1 n1) (stars_plain n2)
    · exact aseqE sr er q fun ds st1 m1 H1 vs x1 s1 er1 r1 p1 => ⟨m1, st1, ds, s1, r1, p1⟩
    · exact run_new k1 M g4 o.room o.gd g3 o.tk I1 r s1' rs g5 p1
end
/-! ### targets -/
mutual
def tgB (c : Ck) : Tg → Expr → Bool
  | .nm i, e => match e with
    | .Name x _ => decide (c.N[i]? = some x) && c.loc x
    | _ => false
  | .tp ts, e => match e with
    | .Tuple es _ _ => tgBs c ts es
    | _ => false
def tgBs (c : Ck) : Tgs → List Expr → Bool
  | .nil, es => es.isEmpty
  | .cons t ts, es => match es with
    | e :: es => tgB c t e && tgBs c ts es
    | [] => false
end
section
variable {X : Cx} {R : RC} {W : WX} {k : Nat} {cl : Call} {G : GI} {c : Ck}
theorem tg_name (o : CkOk X R W k cl G c) {x : Str} {i : Nat} {p : Pos} (h1 : c.N[i]? = some x) (h2 : c.loc x = true) : PG X (.Name x p) (gName i) := by
  obtain ⟨h3, h4⟩ := o.loc h2
  exact pg_name (by rw [o.N]; exact o.nd) (by rw [o.N]; exact h1) h3 h4
theorem assign1 {t : Tg} {e : Expr} {es : List Expr} {env : PySem.Env} (h : tgB c t e = true) : assignEach (e :: es) env = (false, assign e env) :: assignEach es env := by
  cases t with
  | nm i =>
    simp only [tgB] at h
    split at h
    · simp [assignEach]
    · cases h
  | tp ts =>
    simp only [tgB] at h
    split at h
    · simp [assignEach]
    · cases h
mutual
theorem tg_ok (o : CkOk X R W k cl G c) : ∀ (t : Tg) (e : Expr), tgB c t e = true → PG X e (gM R.K t)
  | .nm i, e, h => by
    simp only [tgB] at h
    split at h
    · simp only [Bool.and_eq_true, decide_eq_true_eq] at h
      simp only [gM]
      exact tg_name o h.1 h.2
    · cases h
  | .tp ts, e, h => by
    simp only [tgB] at h
    split at h
    · obtain ⟨h1, h2, h3⟩ := tgs_ok o ts _ h
      simp only [gM]
      rw [o.K] at h1 ⊢
      exact pg_tup o.calm h1 h2 h3
    · cases h
theorem tgs_ok (o : CkOk X R W k cl G c) : ∀ (ts : Tgs) (es : List Expr), tgBs c ts es = true → PGs X es (gMs R.K ts) ∧ (assignEach es X.env).length = ts.len ∧ (assignEach es X.env).findIdx? (·.1) = none
  | .nil, es, h => by
    cases es with
    | nil =>
      simp only [gMs]
      exact ⟨pgs_nil, by simp [assignEach, Tgs.len], by simp [assignEach]⟩
    | cons => simp [tgBs] at h
  | .cons t ts, es, h => by
    cases es with
    | nil => simp [tgBs] at h
    | cons e es =>
      simp only [tgBs, Bool.and_eq_true] at h
      obtain ⟨h1, h2, h3⟩ := tgs_ok o ts es h.2
      have a1 := assign1 (es := es) (env := X.env) h.1
      simp only [gMs]
      refine ⟨pgs_cons (tg_ok o t e h.1) h1 (by rw [a1, List.map_cons]), ?_, ?_⟩
      · rw [a1, List.length_cons, h2]
        rfl
      · rw [a1]
        simp only [List.findIdx?_cons, h3]
        rfl
end
end
end Mini
end
section
set_option linter.all false
set_option autoImplicit false
set_option maxRecDepth 100000
set_option maxHeartbeats 1000000
/-! The checker of expressions as one, and that it is right. -/
namespace Mini
open PySem PySem.Spec PyProof.Rows L2
def notSetE : Expr → Bool
  | .Set _ _ _ => false
  | _ => true
theorem notSet_ok {e : Expr} {env : PySem.Env} (h : notSetE e = true) : ∀ x, foldedSetIterable e env x = pure x := by
  intro x
  cases e <;> first | (cases h; done) | rfl
def ownOf (c : Ck) (wp : List Nat) : List (Str × Nat) := wp.filterMap fun i => (c.N[i]?).map fun x => (x, i)
/-- the block of a comprehension -/
def Ck.blk (c : Ck) (scope : Scope) : Ck := ⟨c.N, relS scope c.sc, false⟩
def blkOkB (c : Ck) (scope : Scope) (wp : List Nat) (t : Tg) : Bool := decide ((ownOf c wp).map (·.2) = wp) && blkC c.N c.sc scope (ownOf c wp) && (slotsT t).all fun i => decide (i ∈ wp)
def Exs.isNil : Exs → Bool
  | .nil => true
  | .cons _ _ => false
def newB (G : GI) (c : Ck) (cc i : Nat) (x : Str) (args : List Expr) : Bool := decide (G.kls.lookup x = some cc) && decide (G.kms.lookup (cc, ("__init__" : Str)) = some i) && c.gl x && okN x && noStars args
def mcallB (G : GI) (cc i : Nat) (name : Str) (a : Expr) (args : List Expr) (apos cpos : Pos) : Bool := decide (G.kms.lookup (cc, name) = some i) && plainBase a && (apos.endLine == cpos.line) && noStars args && decide (args.length < 30)
def fldB (G : GI) (cc j : Nat) (name : Str) (a : Expr) : Bool := (match G.kfs.lookup cc with
  | some fs => decide (fs[j]? = some name)
  | none => false) && plainBase a
mutual
def chkE (G : GI) : Ex → Ck → Expr → Bool
  | .lit d, c, e => litOk G c d e
  | .var i, c, e => match e with
    | .Name x _ => decide (c.N[i]? = some x) && c.vis x && okN x
    | _ => false
  | .tup es, c, e => match e with
    | .Tuple as _ _ => noStars as && chkEs G es c as
    | _ => false
  | .lst es, c, e => match e with
    | .List as _ => noStars as && chkEs G es c as
    | _ => false
  | .vlst es, c, e => match e with
    | .List as _ => noStars as && chkEs G es c as
    | _ => false
  | .pr p es, c, e => match prParts G c p e with
    | some as => (decide (p ≠ .sl true true) || calmEs es) && chkEs G es c as
    | none => false
  | .mth p o es, c, e => match e with
    | .Call (.Attribute a name apos) args [] cpos => decide (mtP p = some name) && plainBase a && (apos.endLine == cpos.line) && noStars args && decide (args.length < 30) && chkE G o c a && chkEs G es c args
    | _ => false
  | .call f es, c, e => match e with
    | .Call (.Name x _) args [] _ => decide (G.fns.lookup x = some f) && c.gl x && okN x && noStars args && chkEs G es c args
    | _ => false
  | .callv f es, c, e => match e with
    | .Call (.Subscript a b ps) args [] _ => !args.isEmpty && noStars args && chkE G f c (.Subscript a b ps) && chkEs G es c args
    | _ => false
  | .andE x y, c, e => match e with
    | .BoolOp .And (a :: b :: r) pos => chkE G x c a && chkE G y c (restB .And (b :: r) pos)
    | _ => false
  | .orE x y, c, e => match e with
    | .BoolOp .Or (a :: b :: r) pos => chkE G x c a && chkE G y c (restB .Or (b :: r) pos)
    | _ => false
  | .notE x, c, e => match e with
    | .UnaryOp .Not a _ => chkE G x c a
    | _ => false
  | .ife t x y, c, e => match e with
    | .IfExp t' x' y' _ => chkT G t c t' && chkE G x c x' && chkE G y c y'
    | _ => false
  | .chain p q x y z, c, e => match e with
    | .Compare x' [op, op'] [y', z'] _ => decide (cmpP op = some p) && decide (cmpP op' = some q) && !lastMarks [op, op'] [y', z'] && chkE G x c x' && chkE G y c y' && chkE G z c z'
    | _ => false
  | .comp v wp t it cs y, c, e => match e with
    | .ListComp elt [⟨tg, iter, ifs, 0⟩] scope _ => blkOkB c scope wp t && notSetE iter && tgB (c.blk scope) t tg && chkI G it c tg iter && chkC G cs (c.blk scope) ifs && chkE G y (c.blk scope) elt
    | _ => false
  | .comp2 v wp t it cs wp2 t2 it2 cs2 y, c, e => match e with
    | .ListComp elt [⟨tg, iter, ifs, 0⟩, ⟨tg1, iter1, ifs1, 0⟩] scope _ => blkOkB c scope wp t && notSetE iter && notSetE iter1 && tgB (c.blk scope) t tg && tgB (c.blk scope) t2 tg1 && chkI G it c tg iter && chkC G cs (c.blk scope) ifs && chkI G it2 (c.blk scope) tg1 iter1 && chkC G cs2 (c.blk scope) ifs1 && chkE G y (c.blk scope) elt && (wp2.all fun i => decide (i ∈ wp)) && ((slotsT t2).all fun i => decide (i ∈ wp2))
    | _ => false
  | .dcomp v t wp tg it cs x y, c, e => match e with
    | .DictComp kx vx [⟨tg', iter, ifs, 0⟩] scope _ => blkOkB c scope wp tg && notSetE iter && tgB (c.blk scope) tg tg' && chkI G it c tg' iter && chkC G cs (c.blk scope) ifs && chkE G x (c.blk scope) kx && chkE G y (c.blk scope) vx
    | _ => false
  | .dlit v t es, c, e => match e with
    | .Dict [] [] _ => !v && es.isNil
    | _ => false
  | .frz x, c, e => chkE G x c e
  | .new cc i es, c, e => match e with
    | .Call (.Name x _) args [] _ => newB G c cc i x args && chkEs G es c args
    | _ => false
  | .mcall cc i o es, c, e => match e with
    | .Call (.Attribute a name apos) args [] cpos => mcallB G cc i name a args apos cpos && chkE G o c a && chkEs G es c args
    | _ => false
  | .fld cc j o, c, e => match e with
    | .Attribute a name _ => fldB G cc j name a && chkE G o c a
    | _ => false
def chkT (G : GI) : Ex → Ck → Expr → Bool
  | .andE x y, c, e => match e with
    | .BoolOp .And (a :: b :: r) pos => chkT G x c a && chkT G y c (restB .And (b :: r) pos)
    | _ => false
  | .orE x y, c, e => match e with
    | .BoolOp .Or (a :: b :: r) pos => chkT G x c a && chkT G y c (restB .Or (b :: r) pos)
    | _ => false
  | .notE x, c, e => match e with
    | .UnaryOp .Not a _ => chkT G x c a
    | _ => false
  | .ife t x y, c, e => match e with
    | .IfExp t' x' y' _ => chkT G t c t' && chkT G x c x' && chkT G y c y'
    | _ => false
  | .pr p es, c, e => match prParts G c p e with
    | some as => (decide (p ≠ .sl true true) || calmEs es) && chkEs G es c as
    | none => false
  | .var i, c, e => match e with
    | .Name x _ => decide (c.N[i]? = some x) && c.vis x && okN x
    | _ => false
  | .call f es, c, e => match e with
    | .Call (.Name x _) args [] _ => decide (G.fns.lookup x = some f) && c.gl x && okN x && noStars args && chkEs G es c args
    | _ => false
  | .chain p q x y z, c, e => match e with
    | .Compare x' [op, op'] [y', z'] _ => decide (cmpP op = some p) && decide (cmpP op' = some q) && !lastMarks [op, op'] [y', z'] && chkE G x c x' && chkE G y c y' && chkE G z c z'
    | _ => false
  | .mth p o es, c, e => match e with
    | .Call (.Attribute a name apos) args [] cpos => decide (mtP p = some name) && plainBase a && (apos.endLine == cpos.line) && noStars args && decide (args.length < 30) && chkE G o c a && chkEs G es c args
    | _ => false
  | .mcall cc i o es, c, e => match e with
    | .Call (.Attribute a name apos) args [] cpos => mcallB G cc i name a args apos cpos && chkE G o c a && chkEs G es c args
    | _ => false
  | .fld cc j o, c, e => match e with
    | .Attribute a name _ => fldB G cc j name a && chkE G o c a
    | _ => false
  | _, _, _ => false
def chkEs (G : GI) : Exs → Ck → List Expr → Bool
  | .nil, _, as => as.isEmpty
  | .cons x xs, c, as => match as with
    | a :: as => chkE G x c a && chkEs G xs c as
    | [] => false
def chkC (G : GI) : Exs → Ck → List Expr → Bool
  | .nil, _, as => as.isEmpty
  | .cons x xs, c, as => match as, xs with
    | [a], .nil => chkT G x c a
    | _, _ => false
def chkI (G : GI) : It → Ck → Expr → Expr → Bool
  | .seq x, c, _, e => chkE G x c e
  | .rng es, c, _, e => match e with
    | .Call (.Name r _) args [] _ => (r == ("range" : Str)) && c.gl r && decide (r ∈ G.bts) && noStars args && (match args with
        | [_] => true
        | [_, _] => true
        | [_, _, _] => true
        | _ => false) && chkEs G es c args
    | _ => false
  | .enum x, c, tg, e => match tg, e with
    | .Tuple _ _ _, .Call (.Name r _) [a] [] _ => (r == ("enumerate" : Str)) && c.gl r && decide (r ∈ G.bts) && noStar a && chkE G x c a
    | _, _ => false
  | .zip x y, c, tg, e => match tg, e with
    | .Tuple _ _ _, .Call (.Name r _) [a, b] [] _ => (r == ("zip" : Str)) && c.gl r && decide (r ∈ G.bts) && noStar a && noStar b && chkE G x c a && chkE G y c b
    | _, _ => false
end
theorem notSet_ok2 {e : Expr} (h : notSetE e = true) : ∀ env x, foldedSetIterable e env x = pure x := fun env => notSet_ok h
theorem newB_ok {X : Cx} {R : RC} {W : WX} {k : Nat} {cl : Call} {G : GI} {c : Ck} (o : CkOk X R W k cl G c) {cc i : Nat} {x : Str} {args : List Expr} {p pos : Pos} {es : Exs} (h : newB G c cc i x args = true) (hq : PEL X R W cl args es) :
    PE X (.Call (.Name x p) args [] pos) (tE R W (evE cl (.new cc i es))) := by
  unfold newB at h
  simp only [Bool.and_eq_true, decide_eq_true_eq] at h
  obtain ⟨⟨⟨⟨h1, h2⟩, h3⟩, h4⟩, h5⟩ := h
  exact new_ok o h1 h2 h3 h4 h5 hq
theorem mcallB_ok {X : Cx} {R : RC} {W : WX} {k : Nat} {cl : Call} {G : GI} {c : Ck} (o : CkOk X R W k cl G c) {cc i : Nat} {mn : Str} {a : Expr} {args : List Expr} {apos cpos : Pos} {f : Ex} {es : Exs} (h : mcallB G cc i mn a args apos cpos = true)
    (ho : PE X a (tE R W (evE cl f))) (hq : PEL X R W cl args es) : PE X (.Call (.Attribute a mn apos) args [] cpos) (tE R W (evE cl (.mcall cc i f es))) := by
  unfold mcallB at h
  simp only [Bool.and_eq_true, decide_eq_true_eq] at h
  obtain ⟨⟨⟨⟨h1, h2⟩, h3⟩, h4⟩, h5⟩ := h
  exact mcall_ok o h1 ho h2 h3 h4 h5 hq
theorem fldB_ok {X : Cx} {R : RC} {W : WX} {k : Nat} {cl : Call} {G : GI} {c : Ck} (o : CkOk X R W k cl G c) {cc j : Nat} {fn : Str} {a : Expr} {pos : Pos} {f : Ex} (h : fldB G cc j fn a = true) (ho : PE X a (tE R W (evE cl f))) : PE X (.Attribute a fn pos) (tE R W (evE cl (.fld cc j f))) := by
  unfold fldB at h
  simp only [Bool.and_eq_true] at h
  obtain ⟨h1, h2⟩ := h
  split at h1
  · rename_i fs e
    exact fld_ok o e (of_decide_eq_true h1) ho h2
  · cases h1
theorem ck_blk {X : Cx} {R : RC} {W : WX} {k : Nat} {cl : Call} {G : GI} {c : Ck} (o : CkOk X R W k cl G c) (scope : Scope) (s : Shared) (H : Hp) (C : Addr) (l : List (Str × Addr)) (fp : List Addr) :
    CkOk (X.blk s H scope (compEnvC scope l C X.env) fp) R W0 k cl G (c.blk scope) :=
  ⟨o.K, o.N, o.nd, by
    show relS scope X.env.scope = relS scope c.sc
    rw [o.sc], fun z => absurd z (by
    show ¬ (false = true)
    exact Bool.false_ne_true), o.calm, o.room, o.gd, takes_none5, o.fns, o.fna, o.cns, o.bts, o.dig, fun c => ⟨(o.kok c).nd⟩, o.kfs, o.kms, o.kls⟩
section
variable {R : RC} {k : Nat} {cl : Call} {G : GI}
theorem evT_of {e : Ex} (h : ∀ env st, evT cl e env st = (evE cl e env st).bnd truR) : evT cl e = fun env st => (evE cl e env st).bnd truR := by
  funext env st
  exact h env st
mutual
theorem chkE_ok : ∀ (e' : Ex) (c : Ck) (e : Expr) (X : Cx) (W : WX), CkOk X R W k cl G c → chkE G e' c e = true → PE X e (tE R W (evE cl e'))
  | .lit d, c, e, X, W, o, h => by
    simp only [chkE] at h
    exact litOk_ok o h
  | .var i, c, e, X, W, o, h => by
    simp only [chkE] at h
    split at h
    · simp only [Bool.and_eq_true, decide_eq_true_eq] at h
      have ev : evE cl (.var i) = fun env st => match getV env i with | some d => .ok d st | none => .bad := by
        funext env st
        simp only [evE]
        try first | rfl | (congr 1; done) | (congr 1; funext d st; cases d <;> rfl)
      rw [ev]
      exact pe_v (pe_var (by rw [o.N]; exact h.1.1) (o.vis h.1.2) (okN_d h.2) (okN_c h.2))
    · cases h
  | .tup es, c, e, X, W, o, h => by
    simp only [chkE] at h
    split at h
    · rw [Bool.and_eq_true] at h
      have ev : evE cl (.tup es) = fun env st => (evEs cl es env st).bnd fun ds st => if ds.length ≤ sizeLine then .ok (.tup ds) st else .bad := by
        funext env st
        simp only [evE]
        try first | rfl | (congr 1; done) | (congr 1; funext d st; cases d <;> rfl)
      rw [ev]
      exact pe_t (pel_pa h.1 (chkEs_ok es c _ X W o h.2))
    · cases h
  | .lst es, c, e, X, W, o, h => by
    simp only [chkE] at h
    split at h
    · rw [Bool.and_eq_true] at h
      have ev : evE cl (.lst es) = fun env st => (evEs cl es env st).bnd fun ds st => if ds.length ≤ sizeLine then .ok (.ref st.length) (st ++ [.lst ds]) else .bad := by
        funext env st
        simp only [evE]
        try first | rfl | (congr 1; done) | (congr 1; funext d st; cases d <;> rfl)
      rw [ev]
      exact pe_l (pel_pa h.1 (chkEs_ok es c _ X W o h.2))
    · cases h
  | .vlst es, c, e, X, W, o, h => by
    simp only [chkE] at h
    split at h
    · rw [Bool.and_eq_true] at h
      have ev : evE cl (.vlst es) = fun env st => (evEs cl es env st).bnd fun ds st => if ds.length ≤ sizeLine then .ok (.lst ds) st else .bad := by
        funext env st
        simp only [evE]
        try first | rfl | (congr 1; done) | (congr 1; funext d st; cases d <;> rfl)
      rw [ev]
      exact pe_vl (pel_pa h.1 (chkEs_ok es c _ X W o h.2))
    · cases h
  | .pr p es, c, e, X, W, o, h => by
    simp only [chkE] at h
    split at h
    · rename_i as ea
      simp only [Bool.and_eq_true, Bool.or_eq_true, decide_eq_true_eq] at h
      exact pr_ok o ea (fun z => h.1.elim (fun w => absurd z w) id) (chkEs_ok es c as X W o h.2)
    · cases h
  | .mth p ob es, c, e, X, W, o, h => by
    simp only [chkE] at h
    split at h
    · simp only [Bool.and_eq_true, decide_eq_true_eq] at h
      obtain ⟨⟨⟨⟨⟨⟨h1, h2⟩, h3⟩, h4⟩, h5⟩, h6⟩, h7⟩ := h
      rw [ev_mth]
      exact mth_ok o h1 (chkE_ok ob c _ X W o h6) h2 h3 h4 h5 (chkEs_ok es c _ X W o h7)
    · cases h
  | .call f es, c, e, X, W, o, h => by
    simp only [chkE] at h
    split at h
    · simp only [Bool.and_eq_true, decide_eq_true_eq] at h
      obtain ⟨⟨⟨⟨h1, h2⟩, h3⟩, h4⟩, h5⟩ := h
      exact call_ok o h1 h2 h3 h4 (chkEs_ok es c _ X W o h5)
    · cases h
  | .callv f es, c, e, X, W, o, h => by
    simp only [chkE] at h
    split at h
    · simp only [Bool.and_eq_true, Bool.not_eq_true'] at h
      obtain ⟨⟨⟨h1, h2⟩, h3⟩, h4⟩ := h
      exact callv_ok o h1 (chkE_ok f c _ X W o h3) h2 (chkEs_ok es c _ X W o h4)
    · cases h
  | .andE x y, c, e, X, W, o, h => by
    simp only [chkE] at h
    split at h
    · rw [Bool.and_eq_true] at h
      have ev : evE cl (.andE x y) = fun env st => (evE cl x env st).bnd fun d st => match d with
          | .bl true => evE cl y env st
          | .bl false => .ok (.bl false) st
          | _ => .bad := by
        funext env st
        simp only [evE]
        try first | rfl | (congr 1; done) | (congr 1; funext d st; cases d <;> rfl)
      rw [ev]
      exact pe_andM (chkE_ok x c _ X W o h.1) (restB_pe (by simp) (chkE_ok y c _ X W o h.2))
    · cases h
  | .orE x y, c, e, X, W, o, h => by
    simp only [chkE] at h
    split at h
    · rw [Bool.and_eq_true] at h
      have ev : evE cl (.orE x y) = fun env st => (evE cl x env st).bnd fun d st => match d with
          | .bl true => .ok (.bl true) st
          | .bl false => evE cl y env st
          | _ => .bad := by
        funext env st
        simp only [evE]
        try first | rfl | (congr 1; done) | (congr 1; funext d st; cases d <;> rfl)
      rw [ev]
      exact pe_orM (chkE_ok x c _ X W o h.1) (restB_pe (by simp) (chkE_ok y c _ X W o h.2))
    · cases h
  | .notE x, c, e, X, W, o, h => by
    simp only [chkE] at h
    split at h
    · have ev : evE cl (.notE x) = fun env st => (evE cl x env st).bnd fun d st => match d with
          | .bl b => .ok (.bl (!b)) st
          | _ => .bad := by
        funext env st
        simp only [evE]
        try first | rfl | (congr 1; done) | (congr 1; funext d st; cases d <;> rfl)
      rw [ev]
      exact pe_notM (chkE_ok x c _ X W o h)
    · cases h
  | .ife t x y, c, e, X, W, o, h => by
    simp only [chkE] at h
    split at h
    · simp only [Bool.and_eq_true] at h
      have ev : evE cl (.ife t x y) = fun env st => (evT cl t env st).bnd fun b st => if b = true then evE cl x env st else evE cl y env st := by
        funext env st
        simp only [evE]
        try first | rfl | (congr 1; done) | (congr 1; funext d st; cases d <;> rfl)
      rw [ev]
      exact pe_ifM (chkT_ok t c _ X W o h.1.1) (chkE_ok x c _ X W o h.1.2) (chkE_ok y c _ X W o h.2)
    · cases h
  | .chain p q x y z, c, e, X, W, o, h => by
    simp only [chkE] at h
    split at h
    · simp only [Bool.and_eq_true, decide_eq_true_eq, Bool.not_eq_true'] at h
      obtain ⟨⟨⟨⟨⟨h1, h2⟩, h3⟩, h4⟩, h5⟩, h6⟩ := h
      obtain ⟨⟨r, g1, g2⟩, _⟩ := cmp_ok o _ _ h1
      obtain ⟨⟨r', g3, g4⟩, _⟩ := cmp_ok o _ _ h2
      have ev : evE cl (.chain p q x y z) = fC p q (evE cl x) (evE cl y) (evE cl z) := by
        funext env st
        simp only [evE, fC]
        try first | rfl | (congr 1; done) | (congr 1; funext d st; cases d <;> rfl)
      rw [ev]
      exact pe_chainM g1 g3 g2 g4 (chkE_ok x c _ X W o h4) (chkE_ok y c _ X W o h5) (chkE_ok z c _ X W o h6) h3
    · cases h
  | .comp v wp t it cs y, c, e, X, W, o, h => by
    simp only [chkE] at h
    split at h
    · rename_i elt tg iter ifs scope pos
      simp only [Bool.and_eq_true] at h
      obtain ⟨⟨⟨⟨⟨h1, h2⟩, h3⟩, h4⟩, h5⟩, h6⟩ := h
      unfold blkOkB at h1
      simp only [Bool.and_eq_true, decide_eq_true_eq, List.all_eq_true] at h1
      obtain ⟨⟨h7, h8⟩, h9⟩ := h1
      have ev : evE cl (.comp v wp t it cs y) = fComp v wp t (evI cl it) (evC cl cs) (evE cl y) := by
        funext env st
        simp only [evE, fComp]
        try first | rfl | (congr 1; done) | (congr 1; funext d st; cases d <;> rfl)
      rw [ev, ← h7]
      refine pe_comp o.calm (by rw [o.N]; exact o.nd) (chkI_ok it c tg iter X W o h4) (by rw [o.N, o.sc]; exact blkOk_by h8) (fun s H C l fp => ?_) (fun s H C l fp => ?_) (fun s H C l fp => ?_) (notSet_ok h2) (by rw [h7]; exact h9)
      · exact tg_ok (ck_blk o scope s H C l fp) _ _ h3
      · exact chkC_ok cs (c.blk scope) ifs _ W0 (ck_blk o scope s H C l fp) h5
      · exact chkE_ok y (c.blk scope) elt _ W0 (ck_blk o scope s H C l fp) h6
    · cases h
  | .comp2 v wp t it cs wp2 t2 it2 cs2 y, c, e, X, W, o, h => by
    simp only [chkE] at h
    split at h
    · rename_i elt tg iter ifs tg1 iter1 ifs1 scope pos
      simp only [Bool.and_eq_true, List.all_eq_true, decide_eq_true_eq] at h
      obtain ⟨⟨⟨⟨⟨⟨⟨⟨⟨⟨⟨h1, h2⟩, h3⟩, h4⟩, h5⟩, h6⟩, h7⟩, h8⟩, h9⟩, h10⟩, h11⟩, h12⟩ := h
      unfold blkOkB at h1
      simp only [Bool.and_eq_true, decide_eq_true_eq, List.all_eq_true] at h1
      obtain ⟨⟨g7, g8⟩, g9⟩ := h1
      have ev : evE cl (.comp2 v wp t it cs wp2 t2 it2 cs2 y) = fComp2 v wp t (evI cl it) (evC cl cs) wp2 t2 (evI cl it2) (evC cl cs2) (evE cl y) := by
        funext env st
        simp only [evE, fComp2, turn2]
        try rfl
      rw [ev, ← g7]
      refine pe_comp2 o.calm (by rw [o.N]; exact o.nd) (chkI_ok it c tg iter X W o h6) (by rw [o.N, o.sc]; exact blkOk_by g8) (by rw [g7]; exact h11) (fun s H C l fp => ?_) (fun s H C l fp => ?_) (fun s H C l fp => ?_) (fun s H C l fp => ?_) (fun s H C l fp => ?_) (fun s H C l fp => ?_) (notSet_ok h2) (notSet_ok2 h3) (by rw [g7]; exact g9) h12
      · exact tg_ok (ck_blk o scope s H C l fp) _ _ h4
      · exact chkC_ok cs (c.blk scope) ifs _ W0 (ck_blk o scope s H C l fp) h7
      · exact chkI_ok it2 (c.blk scope) tg1 iter1 _ W0 (ck_blk o scope s H C l fp) h8
      · exact tg_ok (ck_blk o scope s H C l fp) _ _ h5
      · exact chkC_ok cs2 (c.blk scope) ifs1 _ W0 (ck_blk o scope s H C l fp) h9
      · exact chkE_ok y (c.blk scope) elt _ W0 (ck_blk o scope s H C l fp) h10
    · cases h
  | .dcomp v t wp tg it cs x y, c, e, X, W, o, h => by
    simp only [chkE] at h
    split at h
    · rename_i kx vx tg' iter ifs scope pos
      simp only [Bool.and_eq_true] at h
      obtain ⟨⟨⟨⟨⟨⟨h1, h2⟩, h3⟩, h4⟩, h5⟩, h6⟩, h7⟩ := h
      unfold blkOkB at h1
      simp only [Bool.and_eq_true, decide_eq_true_eq, List.all_eq_true] at h1
      obtain ⟨⟨g7, g8⟩, g9⟩ := h1
      have ev : evE cl (.dcomp v t wp tg it cs x y) = fDc v t wp tg (evI cl it) (evC cl cs) (evE cl x) (evE cl y) := by
        funext env st
        simp only [evE, fDc]
        try rfl
      rw [ev, ← g7]
      refine pe_dcM o.calm (by rw [o.N]; exact o.nd) (chkI_ok it c tg' iter X W o h4) (by rw [o.N, o.sc]; exact blkOk_by g8) (fun s H C l fp => ?_) (fun s H C l fp => ?_) (fun s H C l fp => ?_) (fun s H C l fp => ?_) (notSet_ok h2) (by rw [g7]; exact g9)
      · exact tg_ok (ck_blk o scope s H C l fp) _ _ h3
      · exact chkC_ok cs (c.blk scope) ifs _ W0 (ck_blk o scope s H C l fp) h5
      · exact chkE_ok x (c.blk scope) kx _ W0 (ck_blk o scope s H C l fp) h6
      · exact chkE_ok y (c.blk scope) vx _ W0 (ck_blk o scope s H C l fp) h7
    · cases h
  | .dlit v t es, c, e, X, W, o, h => by
    simp only [chkE] at h
    split at h
    · simp only [Bool.and_eq_true, Bool.not_eq_true'] at h
      obtain ⟨rfl, h2⟩ := h
      cases es with
      | cons => cases h2
      | nil =>
        have ev : evE cl (.dlit false t .nil) = fun _ st => .ok (.ref st.length) (st ++ [.dic t [] []]) := by
          funext env st
          simp [evE, evEs, pairUp, dlitL, mkDic]
        rw [ev]
        exact pe_dnewM
    · cases h
  | .frz x, c, e, X, W, o, h => by
    simp only [chkE] at h
    have ev : evE cl (.frz x) = fun env st => (evE cl x env st).bnd frzR := by
      funext env st
      simp only [evE]
    rw [ev]
    exact pe_frz (chkE_ok x c e X W o h)
  | .new cc i es, c, e, X, W, o, h => by
    simp only [chkE] at h
    split at h
    · rw [Bool.and_eq_true] at h
      exact newB_ok o h.1 (chkEs_ok es c _ X W o h.2)
    · cases h
  | .mcall cc i f es, c, e, X, W, o, h => by
    simp only [chkE] at h
    split at h
    · simp only [Bool.and_eq_true] at h
      exact mcallB_ok o h.1.1 (chkE_ok f c _ X W o h.1.2) (chkEs_ok es c _ X W o h.2)
    · cases h
  | .fld cc j f, c, e, X, W, o, h => by
    simp only [chkE] at h
    split at h
    · simp only [Bool.and_eq_true] at h
      exact fldB_ok o h.1 (chkE_ok f c _ X W o h.2)
    · cases h
theorem chkT_ok : ∀ (e' : Ex) (c : Ck) (e : Expr) (X : Cx) (W : WX), CkOk X R W k cl G c → chkT G e' c e = true → PT X e (tT R W (evT cl e'))
  | .andE x y, c, e, X, W, o, h => by
    simp only [chkT] at h
    split at h
    · rw [Bool.and_eq_true] at h
      have ev : evT cl (.andE x y) = fun env st => (evT cl x env st).bnd fun b st => if b = true then evT cl y env st else .ok false st := by
        funext env st
        simp only [evT]
        try first | rfl | (congr 1; done) | (congr 1; funext d st; cases d <;> rfl)
      rw [ev]
      exact pt_and (chkT_ok x c _ X W o h.1) (restB_and (chkT_ok y c _ X W o h.2))
    · cases h
  | .orE x y, c, e, X, W, o, h => by
    simp only [chkT] at h
    split at h
    · rw [Bool.and_eq_true] at h
      have ev : evT cl (.orE x y) = fun env st => (evT cl x env st).bnd fun b st => if b = true then .ok true st else evT cl y env st := by
        funext env st
        simp only [evT]
        try first | rfl | (congr 1; done) | (congr 1; funext d st; cases d <;> rfl)
      rw [ev]
      exact pt_or (chkT_ok x c _ X W o h.1) (restB_or (chkT_ok y c _ X W o h.2))
    · cases h
  | .notE x, c, e, X, W, o, h => by
    simp only [chkT] at h
    split at h
    · have ev : evT cl (.notE x) = fun env st => (evT cl x env st).bnd fun b st => .ok (!b) st := by
        funext env st
        simp only [evT]
        try first | rfl | (congr 1; done) | (congr 1; funext d st; cases d <;> rfl)
      rw [ev]
      exact pt_n (chkT_ok x c _ X W o h)
    · cases h
  | .ife t x y, c, e, X, W, o, h => by
    simp only [chkT] at h
    split at h
    · simp only [Bool.and_eq_true] at h
      have ev : evT cl (.ife t x y) = fun env st => (evT cl t env st).bnd fun b st => if b = true then evT cl x env st else evT cl y env st := by
        funext env st
        simp only [evT]
        try first | rfl | (congr 1; done) | (congr 1; funext d st; cases d <;> rfl)
      rw [ev]
      exact pt_ifM (chkT_ok t c _ X W o h.1.1) (chkT_ok x c _ X W o h.1.2) (chkT_ok y c _ X W o h.2)
    · cases h
  | .pr p es, c, e, X, W, o, h => by
    simp only [chkT] at h
    split at h
    · rename_i as ea
      simp only [Bool.and_eq_true, Bool.or_eq_true, decide_eq_true_eq] at h
      exact pr_test o ea (fun z => h.1.elim (fun w => absurd z w) id) (chkEs_ok es c as X W o h.2)
    · cases h
  | .var i, c, e, X, W, o, h => by
    simp only [chkT] at h
    split at h
    · rename_i x p
      have ev : evT cl (.var i) = fun env st => (evE cl (.var i) env st).bnd truR := evT_of fun env st => by
        simp only [evT, evE]
        cases getV env i <;> rfl
      rw [ev]
      refine pt_tru o.K ?_ (tPlain_ok rfl)
      simp only [Bool.and_eq_true, decide_eq_true_eq] at h
      have ev : evE cl (.var i) = fun env st => match getV env i with | some d => .ok d st | none => .bad := by
        funext env st
        simp only [evE]
        try first | rfl | (congr 1; done) | (congr 1; funext d st; cases d <;> rfl)
      rw [ev]
      exact pe_v (pe_var (by rw [o.N]; exact h.1.1) (o.vis h.1.2) (okN_d h.2) (okN_c h.2))
    · cases h
  | .call f es, c, e, X, W, o, h => by
    simp only [chkT] at h
    split at h
    · simp only [Bool.and_eq_true, decide_eq_true_eq] at h
      obtain ⟨⟨⟨⟨h1, h2⟩, h3⟩, h4⟩, h5⟩ := h
      have ev : evT cl (.call f es) = fun env st => (evE cl (.call f es) env st).bnd truR := evT_of fun env st => by
        simp only [evT, evE, bnd_assoc]
      rw [ev]
      exact pt_tru o.K (call_ok o h1 h2 h3 h4 (chkEs_ok es c _ X W o h5)) (tPlain_ok rfl)
    · cases h
  | .chain p q x y z, c, e, X, W, o, h => by
    simp only [chkT] at h
    split at h
    · simp only [Bool.and_eq_true, decide_eq_true_eq, Bool.not_eq_true'] at h
      obtain ⟨⟨⟨⟨⟨h1, h2⟩, h3⟩, h4⟩, h5⟩, h6⟩ := h
      obtain ⟨⟨r, g1, g2⟩, _⟩ := cmp_ok o _ _ h1
      obtain ⟨⟨r', g3, g4⟩, _⟩ := cmp_ok o _ _ h2
      have ev : evT cl (.chain p q x y z) = fCT p q (evE cl x) (evE cl y) (evE cl z) := by
        funext env st
        simp only [evT, fCT]
        try first | rfl | (congr 1; done) | (congr 1; funext d st; cases d <;> rfl)
      rw [ev]
      exact pt_chainM g1 g3 g2 g4 (chkE_ok x c _ X W o h4) (chkE_ok y c _ X W o h5) (chkE_ok z c _ X W o h6) h3
    · cases h
  | .lit _, _, _, _, _, _, h => by simp [chkT] at h
  | .tup _, _, _, _, _, _, h => by simp [chkT] at h
  | .lst _, _, _, _, _, _, h => by simp [chkT] at h
  | .vlst _, _, _, _, _, _, h => by simp [chkT] at h
  | .mth p ob es, c, e, X, W, o, h => by
    simp only [chkT] at h
    split at h
    · simp only [Bool.and_eq_true, decide_eq_true_eq] at h
      obtain ⟨⟨⟨⟨⟨⟨h1, h2⟩, h3⟩, h4⟩, h5⟩, h6⟩, h7⟩ := h
      have ev : evT cl (.mth p ob es) = fun env st => (fM p (evE cl ob) (evEs cl es) env st).bnd truR := by
        funext env st
        simp only [evT, fM, bnd_assoc]
        congr 1
        funext d st
        split
        · rw [bnd_assoc]
        · rfl
      rw [ev]
      exact pt_tru o.K (mth_ok o h1 (chkE_ok ob c _ X W o h6) h2 h3 h4 h5 (chkEs_ok es c _ X W o h7)) (tPlain_ok rfl)
    · cases h
  | .mcall cc i f es, c, e, X, W, o, h => by
    simp only [chkT] at h
    split at h
    · simp only [Bool.and_eq_true] at h
      have ev : evT cl (.mcall cc i f es) = fun env st => (evE cl (.mcall cc i f es) env st).bnd truR := by
        funext env st
        simp only [evT, evE, bnd_assoc]
        congr 1
        funext d st
        split
        · rw [bnd_assoc]
        · rfl
      rw [ev]
      exact pt_tru o.K (mcallB_ok o h.1.1 (chkE_ok f c _ X W o h.1.2) (chkEs_ok es c _ X W o h.2)) (tPlain_ok rfl)
    · cases h
  | .fld cc j f, c, e, X, W, o, h => by
    simp only [chkT] at h
    split at h
    · simp only [Bool.and_eq_true] at h
      have ev : evT cl (.fld cc j f) = fun env st => (evE cl (.fld cc j f) env st).bnd truR := by
        funext env st
        simp only [evT, evE, bnd_assoc]
      rw [ev]
      exact pt_tru o.K (fldB_ok o h.1 (chkE_ok f c _ X W o h.2)) (tPlain_ok rfl)
    · cases h
  | .callv _ _, _, _, _, _, _, h => by simp [chkT] at h
  | .comp _ _ _ _ _ _, _, _, _, _, _, h => by simp [chkT] at h
  | .comp2 _ _ _ _ _ _ _ _ _ _, _, _, _, _, _, h => by simp [chkT] at h
  | .dcomp _ _ _ _ _ _ _ _, _, _, _, _, _, h => by simp [chkT] at h
  | .dlit _ _ _, _, _, _, _, _, h => by simp [chkT] at h
  | .frz _, _, _, _, _, _, h => by simp [chkT] at h
  | .new _ _ _, _, _, _, _, _, h => by simp [chkT] at h
theorem chkEs_ok : ∀ (es' : Exs) (c : Ck) (es : List Expr) (X : Cx) (W : WX), CkOk X R W k cl G c → chkEs G es' c es = true → PEL X R W cl es es'
  | .nil, c, es, X, W, o, h => by
    simp only [chkEs] at h
    cases es with
    | nil => exact trivial
    | cons => cases h
  | .cons x xs, c, es, X, W, o, h => by
    simp only [chkEs] at h
    cases es with
    | nil => cases h
    | cons a as =>
      dsimp only at h
      rw [Bool.and_eq_true] at h
      exact ⟨chkE_ok x c a X W o h.1, chkEs_ok xs c as X W o h.2⟩
theorem chkC_ok : ∀ (es' : Exs) (c : Ck) (es : List Expr) (X : Cx) (W : WX), CkOk X R W k cl G c → chkC G es' c es = true → PTs X es (tT R W (evC cl es'))
  | .nil, c, es, X, W, o, h => by
    simp only [chkC] at h
    cases es with
    | nil =>
      have ev : evC cl .nil = fun _ st => .ok true st := by
        funext env st
        simp only [evC]
        try first | rfl | (congr 1; done) | (congr 1; funext d st; cases d <;> rfl)
      rw [ev]
      exact ⟨fun pins s σ H Q I ⟨hd, m, env, st, sr, er, p⟩ => pts_nil.run pins s σ H Q I (p m H Ext.refl sr)⟩
    | cons => cases h
  | .cons x xs, c, es, X, W, o, h => by
    simp only [chkC] at h
    split at h
    · have ev : evC cl (.cons x .nil) = evT cl x := by
        funext env st
        simp only [evC]
        try first | rfl | (congr 1; done) | (congr 1; funext d st; cases d <;> rfl)
      rw [ev]
      exact pts_one (chkT_ok x c _ X W o h)
    · cases h
theorem chkI_ok : ∀ (it : It) (c : Ck) (tg e : Expr) (X : Cx) (W : WX), CkOk X R W k cl G c → chkI G it c tg e = true → PI X tg e (tI R W (evI cl it))
  | .seq x, c, tg, e, X, W, o, h => by
    simp only [chkI] at h
    have ev : evI cl (.seq x) = fun env st => (evE cl x env st).bnd fun d st => match itemsOf st d with
        | some ds => .ok (ds, srcOf st d) st
        | none => .bad := by
      funext env st
      simp only [evI]
      try first | rfl | (congr 1; done) | (congr 1; funext d st; cases d <;> rfl)
    rw [ev]
    exact pi_seqM o.K (chkE_ok x c e X W o h)
  | .rng es, c, tg, e, X, W, o, h => by
    simp only [chkI] at h
    split at h
    · rename_i r q args pos
      simp only [Bool.and_eq_true, decide_eq_true_eq, beq_iff_eq] at h
      obtain ⟨⟨⟨⟨⟨h1, h2⟩, h3⟩, h4⟩, h5⟩, h6⟩ := h
      subst h1
      have hq := chkEs_ok es c args X W o h6
      have ev : evI cl (.rng es) = fR es.len (evEs cl es) := by
        funext env st
        simp only [evI, fR]
        try first | rfl | (congr 1; done) | (congr 1; funext d st; cases d <;> rfl)
      rw [ev]
      have hpa := pel_pa h4 hq
      unfold noStars at h4
      split at h5
      · simp only [List.all_cons, Bool.and_eq_true] at h4
        obtain ⟨x, rfl, _⟩ := pel1 hq
        exact pi_r1 (o.gl h2) (o.bts _ h3) hpa (by rw [star1 h4.1]; simp [starEach])
      · simp only [List.all_cons, Bool.and_eq_true] at h4
        obtain ⟨x, y, rfl, _⟩ := pel2 hq
        exact pi_r2 (o.gl h2) (o.bts _ h3) hpa (by rw [star1 h4.1, star1 h4.2.1]; simp [starEach]) (by rw [star1 h4.2.1]; simp [starEach])
      · simp only [List.all_cons, Bool.and_eq_true] at h4
        obtain ⟨x, y, z, rfl, _⟩ := pel3 hq
        exact pi_r3 (o.gl h2) (o.bts _ h3) hpa (star1 h4.1) (stars_plain (by unfold noStars; simp [h4.2.1, h4.2.2.1]))
      · cases h5
    · cases h
  | .enum x, c, tg, e, X, W, o, h => by
    simp only [chkI] at h
    split at h
    · simp only [Bool.and_eq_true, decide_eq_true_eq, beq_iff_eq] at h
      obtain ⟨⟨⟨⟨h1, h2⟩, h3⟩, h4⟩, h5⟩ := h
      subst h1
      have ev : evI cl (.enum x) = fun env st => (evE cl x env st).bnd fun d st => match enumOf st d with
          | some ds => .ok (enumL ds, srcOf st d) st
          | none => .bad := by
        funext env st
        simp only [evI]
        try first | rfl | (congr 1; done) | (congr 1; funext d st; cases d <;> rfl)
      rw [ev]
      exact pi_enumM o.K (o.gl h2) (o.bts _ h3) (chkE_ok x c _ X W o h5) (by rw [star1 h4]; simp [starEach])
    · cases h
  | .zip x y, c, tg, e, X, W, o, h => by
    simp only [chkI] at h
    split at h
    · simp only [Bool.and_eq_true, decide_eq_true_eq, beq_iff_eq] at h
      obtain ⟨⟨⟨⟨⟨⟨h1, h2⟩, h3⟩, h4⟩, h5⟩, h6⟩, h7⟩ := h
      subst h1
      have ev : evI cl (.zip x y) = fun env st => (evE cl x env st).bnd fun a st => (evE cl y env st).bnd fun b st => match listOf st a, listOf st b with
          | some xs, some ys => .ok (zipL xs ys, srcOf st a ++ srcOf st b) st
          | _, _ => .bad := by
        funext env st
        simp only [evI]
        try first | rfl | (congr 1; done) | (congr 1; funext d st; cases d <;> rfl)
      rw [ev]
      exact pi_zipM o.K (o.gl h2) (o.bts _ h3) (chkE_ok x c _ X W o h6) (chkE_ok y c _ X W o h7) (star1 h4) (star1 h5) (stars_plain (by unfold noStars; simp [h5]))
    · cases h
end
end
end Mini
end
section
set_option linter.all false
set_option autoImplicit false
set_option maxRecDepth 100000
set_option maxHeartbeats 1000000
/-! The checker of statements, and that it is right. -/
namespace Mini
open PySem PySem.Spec PyProof.Rows L2
/-! ### op= -/
def rIaddM : R2 := fun x y H Q => rI0 (fun i j => .int (i + j)) x y H Q ∨ ∃ i j, x = .str i ∧ y = .str j ∧ i.length + j.length ≤ sizeLine ∧ Q (.str (i ++ j)) H
theorem iop_addM {X : Cx} : OpR X (inplaceOp .Add) rIaddM := iop_add.or iop_add_str
theorem iop_mulM {X : Cx} : OpR X (inplaceOp .Mult) (rI CMulW fun i j => .int (i * j)) := opI fun _ _ _ _ _ _ _ hc q => imul_int q (CMulW.ok hc)
theorem sim_iadd {R : RC} : Sim R .iadd (l2 rIaddM) := by
  refine sim2 (fun _ _ h => a2_none h) fun m st H d e v w Q s rd re p => ?_
  cases rd <;> first | exact p.elim | skip
  · cases re <;> first | exact p.elim | skip
    exact .inl ⟨_, _, rfl, rfl, p.here s (.int _)⟩
  · cases re <;> first | exact p.elim | skip
    obtain ⟨c, p⟩ := guardR_some p
    refine .inr ⟨_, _, rfl, rfl, by rw [len_str, len_str]; exact of_decide_eq_true c, ?_⟩
    rw [str_app]
    exact p.here s (.str _)
theorem sim_isub {R : RC} : Sim R .isub (l2 (rI0 fun i j => .int (i - j))) := by
  refine sim2 (fun _ _ h => a2_none h) fun m st H d e v w Q s rd re p => ?_
  cases rd <;> first | exact p.elim | skip
  cases re <;> first | exact p.elim | skip
  exact ⟨_, _, rfl, rfl, p.here s (.int _)⟩
theorem sim_imul {R : RC} : Sim R .imul (l2 (rI CMulW fun i j => .int (i * j))) := by
  refine sim2 (fun _ _ h => a2_none h) fun m st H d e v w Q s rd re p => ?_
  cases rd <;> first | exact p.elim | skip
  cases re <;> first | exact p.elim | skip
  obtain ⟨c, p⟩ := guardR_some p
  exact ⟨_, _, rfl, rfl, by
    unfold wide at c
    have z := of_decide_eq_true c
    exact z, p.here s (.int _)⟩
def augP : Operator → Option Pr
  | .Add => some .iadd
  | .Sub => some .isub
  | .Mult => some .imul
  | _ => none
theorem aug_ok {X : Cx} {R : RC} {op : Operator} {p : Pr} (h : augP op = some p) : ∃ r : R2, (∀ hd, Sim (R.w hd) p (l2 r)) ∧ OpR X (inplaceOp op) r := by
  cases op <;> first | (cases h; done) | (cases h)
  · exact ⟨_, fun hd => sim_iadd, iop_addM⟩
  · exact ⟨_, fun hd => sim_isub, iop_sub⟩
  · exact ⟨_, fun hd => sim_imul, iop_mulM⟩
/-! ### stores -/
def notComp : Expr → Bool
  | .ListComp _ _ _ _ => false
  | .SetComp _ _ _ _ => false
  | .DictComp _ _ _ _ _ => false
  | _ => true
theorem swaps_plain {e : Expr} {t : Option Expr} {l : Nat} {env : PySem.Env} (h : notComp e = true) : swapsWith e t l env = pure false := by
  cases e <;> first | (cases h; done) | rfl
def swC (c : Ck) (y : Str) (py : Pos) (scope : Scope) (vp : Pos) : Bool := decide (c.sc.kind = .function) && decide (c.sc.names.lookup y = some .local) && py.line == vp.line && !(scope.names.any fun (n, k) => n == y && (k == .local || k == .cell))
theorem swaps_comp {X : Cx} {c : Ck} (hs : X.env.scope = c.sc) {elt : Expr} {gens : List Comprehension} {scope : Scope} {vp py : Pos} {y : Str} {l : Nat} (h : swC c y py scope vp = true) : swapsWith (.ListComp elt gens scope vp) (some (.Name y py)) l X.env = pure true := by
  unfold swC at h
  simp only [Bool.and_eq_true, decide_eq_true_eq] at h
  obtain ⟨⟨⟨h1, h2⟩, h3⟩, h4⟩ := h
  have e : swapsWith (.ListComp elt gens scope vp) (some (.Name y py)) l X.env = pure (X.env.blockKind == .function && X.env.kindOf y == some .local && py.line == vp.line && !(scope.names.any fun (n, k) => n == y && (k == .local || k == .cell))) := rfl
  rw [e]
  have e1 : (X.env.blockKind == ScopeKind.function) = true := by
    unfold PySem.Env.blockKind
    rw [hs, h1]
    rfl
  have e2 : (X.env.kindOf y == some NameKind.local) = true := by
    show (X.env.scope.names.lookup y == _) = true
    rw [hs, h2]
    rfl
  rw [e1, e2, h3, h4]
  rfl
/-- a target and a value that are stored in the plain order -/
def swN (ts : List Expr) (e : Expr) : Bool := match e with
  | .Tuple vs _ _ => !(ts.length == 2 || ts.length == 3) || vs.all (foldedForSure 8)
  | _ => true
theorem swN_tup {ts : List Expr} {kt : Nat} {pt : Pos} {e : Expr} {env : PySem.Env} (h : swN ts e = true) : swappedStores [.Tuple ts kt pt] e env = pure none := by
  unfold swN at h
  split at h
  · rename_i vs k2 p2
    unfold swappedStores
    dsimp only
    rw [Bool.or_eq_true] at h
    rcases h with h | h
    · rw [if_pos (by simp only [h, Bool.true_or])]
    · split
      · rfl
      · split
        · rfl
        · split
          · rfl
          · first
              | rfl
              | (split
                 · rfl
                 · rename_i z
                   exact absurd h z)
  · rename_i hn
    cases e <;> first | rfl | exact absurd rfl (hn _ _ _)
def parLine (ps : List Pos) : Bool := match ps with
  | p :: ps => ps.all fun q => q.line == p.line
  | [] => true
theorem blockFn {X : Cx} {c : Ck} (hs : X.env.scope = c.sc) (h : c.sc.kind = .function) : X.env.blockKind = .function := by
  unfold PySem.Env.blockKind
  rw [hs, h]
  rfl
theorem kindLoc {X : Cx} {c : Ck} (hs : X.env.scope = c.sc) {x : Str} (h : c.sc.names.lookup x = some .local) : X.env.kindOf x = some .local := by
  show X.env.scope.names.lookup x = _
  rw [hs, h]
theorem nostar_any {vs : List Expr} (h : noStars vs = true) : (vs.any fun | .Starred .. => true | _ => false) = false := by
  unfold noStars at h
  rw [List.all_eq_true] at h
  rw [List.any_eq_false]
  intro e he z
  have := h e he
  cases e <;> first | (cases this; done) | cases z
def isFolded (vs : List Expr) : Bool := vs.all (foldedForSure 8)
def isConst (vs : List Expr) : Bool := vs.all (constantsAlone 8)
theorem par2 {x y : Str} {px py pt pt2 : Pos} {kt k2 : Nat} {a b : Expr} {env : PySem.Env} (h1 : env.blockKind = .function) (h2 : env.kindOf x = some .local) (h3 : env.kindOf y = some .local) (hl : (py.line == px.line) = true) (hne : x ≠ y)
    (hs : noStars [a, b] = true) (hf : isFolded [a, b] = false) (hc : isConst [a, b] = false) : swappedStores [.Tuple [.Name x px, .Name y py] kt pt] (.Tuple [a, b] k2 pt2) env = pure (some [x, y]) := by
  unfold swappedStores
  dsimp only
  have n2 : (List.eraseDups [x, y]).length = 2 := by
    have z : (x == y) = false := by simpa using hne
    have z2 : (y == x) = false := by simpa using Ne.symm hne
    simp [List.eraseDups, List.eraseDupsBy, List.eraseDupsBy.loop, z, z2, hne, Ne.symm hne]
  unfold isFolded at hf
  unfold isConst at hc
  have hl := eq_of_beq hl
  have ns := nostar_any hs
  simp only [List.filterMap_cons, List.filterMap_nil, h2, h3, h1, ns, hf, hc, Expr.pos, List.head?_cons, Option.map_some, Option.getD_some, hl, BEq.rfl, Bool.and_self, if_true, n2]
  exact (if_neg (fun z => Bool.false_ne_true z)).trans ((if_neg fun z => Bool.false_ne_true (ns.symm.trans z)).trans rfl)
theorem par3 {x y z : Str} {px py pz pt pt2 : Pos} {kt k2 : Nat} {a b d : Expr} {env : PySem.Env} (h1 : env.blockKind = .function) (h2 : env.kindOf x = some .local) (h3 : env.kindOf y = some .local) (h4 : env.kindOf z = some .local) (hl : (py.line == px.line) = true) (hl2 : (pz.line == px.line) = true) (hne : x ≠ y) (hne2 : x ≠ z) (hne3 : y ≠ z)
    (hs : noStars [a, b, d] = true) (hf : isFolded [a, b, d] = false) (hc : isConst [a, b, d] = false) : swappedStores [.Tuple [.Name x px, .Name y py, .Name z pz] kt pt] (.Tuple [a, b, d] k2 pt2) env = pure (some [x, y, z]) := by
  unfold swappedStores
  dsimp only
  have n2 : (List.eraseDups [x, y, z]).length = 3 := by
    have z1 : (y == x) = false := by simpa using Ne.symm hne
    have z2 : (z == x) = false := by simpa using Ne.symm hne2
    have z3 : (z == y) = false := by simpa using Ne.symm hne3
    simp [List.eraseDups, List.eraseDupsBy, List.eraseDupsBy.loop, z1, z2, z3]
  unfold isFolded at hf
  unfold isConst at hc
  have hl := eq_of_beq hl
  have hl2 := eq_of_beq hl2
  have ns := nostar_any hs
  simp only [List.filterMap_cons, List.filterMap_nil, h2, h3, h4, h1, ns, hf, hc, Expr.pos, List.head?_cons, Option.map_some, Option.getD_some, hl, hl2, BEq.rfl, Bool.and_self, if_true, n2]
  exact (if_neg (fun z => Bool.false_ne_true z)).trans ((if_neg fun z => Bool.false_ne_true (ns.symm.trans z)).trans rfl)
end Mini
end
section
set_option linter.all false
set_option autoImplicit false
set_option maxRecDepth 100000
set_option maxHeartbeats 1000000
/-! The checker of statements as one, and that it is right. -/
namespace Mini
open PySem PySem.Spec PyProof.Rows L2
/-- an own exception class without own __init__ -/
structure PlX (K : PySem.W.Frag) (mg : Str → Option Value) (x : Str) (C : Addr) : Prop where
  ex : ∃ (B newId initId : String) (bmB : List Value), Nonempty (ExcBaseFacts B newId initId bmB) ∧ PySem.W.excIn K C bmB newId = true
  mg : mg x = some (.ref C)
  kC : PySem.W.keepIn K (.ref C) = true
  e1 : PySem.W.subIn K (.ref C) (.type "BaseException") = some true
  e2 : PySem.W.typeIn K (.ref C) = some (.type "type")
/-- the same place, as far as calls look -/
structure Alike (X Y : Cx) : Prop where
  prog : Y.prog = X.prog
  w : Y.w = X.w
  K : Y.K = X.K
  mg : Y.mg = X.mg
  base : Y.base = X.base
  A : Y.A = X.A
/-- an own exception class whose __init__ takes one argument and keeps it -/
def InX (X : Cx) (R : RC) (cs : Clss) (ci : Nat) (x : Str) : Prop := ∀ (Y : Cx), Alike X Y → Y.calm = true → Gl Y x → ∀ (W : WX) (g : Env → Sto → Res (List Mini.D)) (a : Expr) (p pos : Pos), Takes Y W → PA Y [a] (tA R W g) → noStar a = true →
  ∃ t, PMk Y (.Call (.Name x p) [a] [] pos) t ∧ ∀ σ H Q, tM R cs ci g σ H Q → t σ H Q
structure StOk (X : Cx) (R : RC) (cs : Clss) (G : GI) : Prop where
  hst : X.stack = X.env :: X.outer
  hf : X.env.frame = some X.env.locals
  hp : PassesOwn (model X.prog X.w) X.A X.env X.xe
  pls : ∀ x ci, G.pls.lookup x = some ci → ∃ C, R.ca ci = some C ∧ (∃ kk, cs[ci]? = some kk ∧ kk.flds = []) ∧ PlX X.K X.mg x C
  ins : ∀ x ci, G.ins.lookup x = some ci → InX X R cs ci x
  ecs : ∀ x ci, G.ecs.lookup x = some ci → ∃ cv, X.mg x = some cv ∧ ClsOK R cs ci cv
  xfs : ∀ ci f, G.xfs.lookup ci = some f → ∃ C, R.ca ci = some C ∧ XfC X.K C ∧ PySem.W.findIn X.K (.ref C) f = some none
def lit0 (d : Mini.D) (e : Expr) : Bool := match e, d with
  | .Constant .none _ _, .non => true
  | .Constant (.bool b) _ _, .bl b' => b == b'
  | .Constant (.int i) _ _, .int j => i == j
  | .Constant (.str s) _ _, .str a => s.cps.toList == a
  | _, _ => false
/-- the suite of an except clause; n the name that it binds -/
def chkH (G : GI) (c : Ck) (n : Option Str) (io : Option Nat) (h : He) (suite : List Stmt) : Bool := match h, suite with
  | .lit d, [.Return (some e) _] => lit0 d e
  | .nilL, [.Return (some (.List [] _)) _] => true
  | .fld ci f false [] [], [.Return (some (.Attribute (.Name m _) f' _)) _] => decide (n = some m) && decide (f = f') && decide (G.xfs.lookup ci = some f) && c.vis m && okN m && (match io with
      | some i => decide (c.N[i]? = some m)
      | none => false)
  | .fld ci f true pre post, [.Return (some (.BinOp (.BinOp (.Constant (.str p1) _ _) .Add (.Call (.Name s _) [.Attribute (.Name m _) f' _] [] _) _) .Add (.Constant (.str p2) _ _) _)) _] =>
      decide (n = some m) && decide (f = f') && decide (G.xfs.lookup ci = some f) && c.vis m && okN m && (p1.cps.toList == pre) && (p2.cps.toList == post) && (s == ("str" : Str)) && c.gl s && decide (s ∈ G.bts) && (match io with
      | some i => decide (c.N[i]? = some m)
      | none => false)
  | _, _ => false
def chkHs (G : GI) (c : Ck) : List ExceptHandler → List Hd → Bool
  | [], [] => true
  | .ExceptHandler (some (.Name x _)) none (b :: suite) _ :: hds, .on ci none he :: hs => decide (G.ecs.lookup x = some ci) && c.gl x && okN x && chkH G c none none he (b :: suite) && chkHs G c hds hs
  | _, _ => false
def chkTry (G : GI) (c : Ck) (hds : List ExceptHandler) (hs : List Hd) : Bool := match hds, hs with
  | [.ExceptHandler (some (.Name x _)) (some n) (b :: suite) _], [.on ci (some i) he] => decide (G.ecs.lookup x = some ci) && c.gl x && okN x && decide (c.N[i]? = some n) && decide (c.sc.names.lookup n = some .local) && chkH G c (some n) (some i) he (b :: suite)
  | h :: hds, hs => chkHs G c (h :: hds) hs
  | [], _ => false
def parB (c : Ck) (ts : List Expr) (vs : List Expr) (is : List Nat) : Bool := match ts, is, vs with
  | [.Name x px, .Name y py], [i, j], [a, b] => decide (c.sc.kind = .function) && decide (c.N[i]? = some x) && decide (c.N[j]? = some y) && decide (i ≠ j) && decide (x ≠ y) && decide (c.sc.names.lookup x = some .local) && decide (c.sc.names.lookup y = some .local) && (py.line == px.line) && noStars [a, b] && !isFolded [a, b] && !isConst [a, b]
  | [.Name x px, .Name y py, .Name z pz], [i, j, l], [a, b, d] => decide (c.sc.kind = .function) && decide (c.N[i]? = some x) && decide (c.N[j]? = some y) && decide (c.N[l]? = some z) && decide (i ≠ j) && decide (i ≠ l) && decide (j ≠ l) && decide (x ≠ y) && decide (x ≠ z) && decide (y ≠ z) && decide (c.sc.names.lookup x = some .local) && decide (c.sc.names.lookup y = some .local) && decide (c.sc.names.lookup z = some .local) && (py.line == px.line) && (pz.line == px.line) && noStars [a, b, d] && !isFolded [a, b, d] && !isConst [a, b, d]
  | _, _, _ => false
mutual
def chkS (G : GI) : Sm → Ck → Stmt → Bool
  | .asg t e', c, s => match s with
    | .Assign [tg] e _ => match tg with
      | .Name y py => match e, e' with
        | .ListComp elt [⟨tg1, iter, ifs, 0⟩] scope vp, .comp v wp t1 it cs y1 => (match t with
            | .nm i => decide (c.N[i]? = some y)
            | _ => false) && swC c y py scope vp && blkOkB c scope wp t1 && notSetE iter && tgB (c.blk scope) t1 tg1 && chkI G it c tg1 iter && chkC G cs (c.blk scope) ifs && chkE G y1 (c.blk scope) elt
        | e, e' => tgB c t (.Name y py) && notComp e && chkE G e' c e
      | .Tuple ts kt pt => tgB c t (.Tuple ts kt pt) && swN ts e && chkE G e' c e
      | _ => false
    | _ => false
  | .par is es', c, s => match s with
    | .Assign [.Tuple ts _ _] (.Tuple vs _ _) _ => parB c ts vs is && chkEs G es' c vs
    | _ => false
  | .asgIx o' i' e', c, s => match s with
    | .Assign [.Subscript o i _] e _ => plainIx i && chkE G e' c e && chkE G o' c o && chkE G i' c i
    | _ => false
  | .aug i p e', c, s => match s with
    | .AugAssign (.Name x _) op e _ => decide (augP op = some p) && decide (c.N[i]? = some x) && c.loc x && chkE G e' c e
    | _ => false
  | .ex e', c, s => match s with
    | .Expr e _ => notComp e && chkE G e' c e
    | _ => false
  | .asgKey o' i' e', c, s => match s with
    | .Assign [.Subscript o i _] e _ => plainIx i && notComp e && chkE G e' c e && chkE G o' c o && chkE G i' c i
    | _ => false
  | .setF cc j o' e', c, s => match s with
    | .Assign [.Attribute o f _] e _ => fldB G cc j f o && notComp e && chkE G e' c e && chkE G o' c o
    | _ => false
  | .augF cc j o' p e', c, s => match s with
    | .AugAssign (.Attribute o f _) op e _ => decide (augP op = some p) && fldB G cc j f o && chkE G e' c e && chkE G o' c o
    | _ => false
  | .augIx _ _ _ _, _, _ => false
  | .ret e', c, s => match s with
    | .Return (some e) _ => chkE G e' c e
    | _ => false
  | .retN, _, s => match s with
    | .Return none _ => true
    | _ => false
  | .ife t a b, c, s => match s with
    | .If e p q _ => chkT G t c e && chkSs G a c p && chkSs G b c q
    | _ => false
  | .for_ t it b, c, s => match s with
    | .For tg iter body [] _ => notSetE iter && tgB c t tg && chkI G it c tg iter && chkSs G b c body
    | _ => false
  | .while_ t b, c, s => match s with
    | .While e body [] _ => chkT G t c e && chkSs G b c body
    | _ => false
  | .raise ci es', c, s => match s with
    | .Raise (some (.Call (.Name x _) [a] [] _)) none _ => match es' with
      | .nil => (match a with
          | .Constant (.str _) _ _ => true
          | _ => false) && decide (G.pls.lookup x = some ci) && c.gl x && okN x
      | .cons y ys => (match ys with
          | .nil => true
          | _ => false) && decide (G.ins.lookup x = some ci) && c.gl x && noStar a && chkE G y c a
    | _ => false
  | .try_ b hs, c, s => match s with
    | .Try body hds [] [] _ => chkTry G c hds hs && chkSs G b c body
    | _ => false
  | .pass, _, s => match s with
    | .Pass _ => true
    | _ => false
  | .brk, _, s => match s with
    | .Break _ => true
    | _ => false
  | .cont, _, s => match s with
    | .Continue _ => true
    | _ => false
def chkSs (G : GI) : Sms → Ck → List Stmt → Bool
  | .nil, _, ss => ss.isEmpty
  | .cons x xs, c, ss => match ss with
    | s :: ss => chkS G x c s && chkSs G xs c ss
    | [] => false
end
/-! ### suites -/
section
variable {X : Cx} {R : RC} {W : WX} {k : Nat} {cl : Call} {G : GI} {c : Ck} {cs : Clss}
theorem lit0_ok {io : Option Nat} {d : Mini.D} {e : Expr} {pos : Pos} (h : lit0 d e = true) : SuiteOK X R (.lit d) io [.Return (some e) pos] := by
  unfold lit0 at h
  split at h
  · exact suite_lit (fun a pn => pe_non) fun hd m st H => .non
  · obtain rfl := eq_of_beq h
    exact suite_lit (fun a pn => pe_bl) fun hd m st H => .bl _
  · obtain rfl := eq_of_beq h
    exact suite_lit (fun a pn => pe_int) fun hd m st H => .int _
  · obtain rfl := eq_of_beq h
    exact suite_lit (fun a pn => pe_str) fun hd m st H => .of_str _
  · cases h
theorem str_back (s : Str) : (⟨s.cps.toList.toArray⟩ : Str) = s := by
  obtain ⟨a⟩ := s
  simp
theorem chkH_ok (o : CkOk X R W k cl G c) (q : StOk X R cs G) {n : Option Str} {io : Option Nat} {h : He} {suite : List Stmt} (hh : chkH G c n io h suite = true) : SuiteOK X R h io suite := by
  unfold chkH at hh
  split at hh
  · exact lit0_ok hh
  · exact suite_nil
  · simp only [Bool.and_eq_true, decide_eq_true_eq] at hh
    obtain ⟨⟨⟨⟨⟨h1, h2⟩, h3⟩, h4⟩, h5⟩, h6⟩ := hh
    cases io with
    | none => cases h6
    | some i =>
      dsimp only at h6
      have h6 := of_decide_eq_true h6
      obtain ⟨C, g1, g2, g3⟩ := q.xfs _ _ h3
      subst h2
      exact suite_f0 g1 g2 g3 (by rw [o.N]; exact h6) (o.vis h4) (okN_d h5) (okN_c h5) (by rfl)
  · rename_i ci f pre post p1 k1 pos1 s pos2 m pos3 f' pos4 pos5 pos6 p2 k2 pos7 pos8 pos9
    simp only [Bool.and_eq_true, decide_eq_true_eq, beq_iff_eq] at hh
    obtain ⟨⟨⟨⟨⟨⟨⟨⟨⟨⟨h1, h2⟩, h3⟩, h4⟩, h5⟩, h6⟩, h7⟩, h8⟩, h9⟩, h10⟩, h11⟩ := hh
    cases io with
    | none => cases h11
    | some i =>
      dsimp only at h11
      have h11 := of_decide_eq_true h11
      obtain ⟨C, g1, g2, g3⟩ := q.xfs _ _ h3
      subst h2 h6 h7 h8
      exact suite_f3 (str_back p1).symm (str_back p2).symm g1 g2 g3 (by rw [o.N]; exact h11) (o.vis h4) (okN_d h5) (okN_c h5) (by rfl) (o.gl h9) (o.bts _ h10) o.dig (by rw [star1 rfl]; simp [starEach])
  · cases hh
theorem chkHs_ok (o : CkOk X R W k cl G c) (q : StOk X R cs G) : ∀ (hds : List ExceptHandler) (hs : List Hd), chkHs G c hds hs = true → ∃ l, HsOK X R cs hds hs l
  | [], [], _ => ⟨[], .nil⟩
  | .ExceptHandler (some (.Name x _)) none (b :: suite) _ :: hds, .on ci none he :: hs, h => by
    simp only [chkHs, Bool.and_eq_true, decide_eq_true_eq] at h
    obtain ⟨⟨⟨⟨h1, h2⟩, h3⟩, h4⟩, h5⟩ := h
    obtain ⟨l, hl⟩ := chkHs_ok o q hds hs h5
    obtain ⟨cv, g1, g2⟩ := q.ecs _ _ h1
    exact ⟨_, .cons ⟨o.gl h2, okN_d h3, .inl g1⟩ g2 (chkH_ok o q h4) hl⟩
  | [], _ :: _, h => by simp [chkHs] at h
  | .ExceptHandler none _ _ _ :: _, _, h => by simp [chkHs] at h
  | .ExceptHandler (some (.Name _ _)) (some _) _ _ :: _, _, h => by simp [chkHs] at h
  | .ExceptHandler (some (.Name _ _)) none [] _ :: _, _, h => by simp [chkHs] at h
  | .ExceptHandler (some (.Name _ _)) none (_ :: _) _ :: _, [], h => by simp [chkHs] at h
  | .ExceptHandler (some (.Name _ _)) none (_ :: _) _ :: _, .on _ (some _) _ :: _, h => by simp [chkHs] at h
  | .ExceptHandler (some (.BoolOp _ _ _)) _ _ _ :: _, _, h => by simp [chkHs] at h
  | .ExceptHandler (some (.NamedExpr _ _ _)) _ _ _ :: _, _, h => by simp [chkHs] at h
  | .ExceptHandler (some (.BinOp _ _ _ _)) _ _ _ :: _, _, h => by simp [chkHs] at h
  | .ExceptHandler (some (.UnaryOp _ _ _)) _ _ _ :: _, _, h => by simp [chkHs] at h
  | .ExceptHandler (some (.Lambda _ _ _ _)) _ _ _ :: _, _, h => by simp [chkHs] at h
  | .ExceptHandler (some (.IfExp _ _ _ _)) _ _ _ :: _, _, h => by simp [chkHs] at h
  | .ExceptHandler (some (.Dict _ _ _)) _ _ _ :: _, _, h => by simp [chkHs] at h
  | .ExceptHandler (some (.Set _ _ _)) _ _ _ :: _, _, h => by simp [chkHs] at h
  | .ExceptHandler (some (.ListComp _ _ _ _)) _ _ _ :: _, _, h => by simp [chkHs] at h
  | .ExceptHandler (some (.SetComp _ _ _ _)) _ _ _ :: _, _, h => by simp [chkHs] at h
  | .ExceptHandler (some (.DictComp _ _ _ _ _)) _ _ _ :: _, _, h => by simp [chkHs] at h
  | .ExceptHandler (some (.GeneratorExp _ _ _ _)) _ _ _ :: _, _, h => by simp [chkHs] at h
  | .ExceptHandler (some (.Await _ _)) _ _ _ :: _, _, h => by simp [chkHs] at h
  | .ExceptHandler (some (.Yield _ _)) _ _ _ :: _, _, h => by simp [chkHs] at h
  | .ExceptHandler (some (.YieldFrom _ _)) _ _ _ :: _, _, h => by simp [chkHs] at h
  | .ExceptHandler (some (.Compare _ _ _ _)) _ _ _ :: _, _, h => by simp [chkHs] at h
  | .ExceptHandler (some (.Call _ _ _ _)) _ _ _ :: _, _, h => by simp [chkHs] at h
  | .ExceptHandler (some (.FormattedValue _ _ _ _)) _ _ _ :: _, _, h => by simp [chkHs] at h
  | .ExceptHandler (some (.JoinedStr _ _)) _ _ _ :: _, _, h => by simp [chkHs] at h
  | .ExceptHandler (some (.Constant _ _ _)) _ _ _ :: _, _, h => by simp [chkHs] at h
  | .ExceptHandler (some (.Attribute _ _ _)) _ _ _ :: _, _, h => by simp [chkHs] at h
  | .ExceptHandler (some (.Subscript _ _ _)) _ _ _ :: _, _, h => by simp [chkHs] at h
  | .ExceptHandler (some (.Starred _ _)) _ _ _ :: _, _, h => by simp [chkHs] at h
  | .ExceptHandler (some (.List _ _)) _ _ _ :: _, _, h => by simp [chkHs] at h
  | .ExceptHandler (some (.Tuple _ _ _)) _ _ _ :: _, _, h => by simp [chkHs] at h
  | .ExceptHandler (some (.Slice _ _ _ _)) _ _ _ :: _, _, h => by simp [chkHs] at h
theorem ck_tr (o : CkOk X R W k cl G c) {pn : List (Addr × Obj)} {xe : Value → Shared → Prop} {W' : WX} (tk : Takes (X.tr pn xe) W') : CkOk (X.tr pn xe) R W' k cl G c :=
  ⟨o.K, o.N, o.nd, o.sc, o.fn, o.calm, o.room, o.gd, tk, o.fns, o.fna, o.cns, o.bts, o.dig, fun c => ⟨(o.kok c).nd⟩, o.kfs, o.kms, o.kls⟩
theorem st_tr (q : StOk X R cs G) {pn : List (Addr × Obj)} {xe : Value → Shared → Prop} (hp : PassesOwn (model X.prog X.w) X.A X.env xe) : StOk (X.tr pn xe) R cs G :=
  ⟨q.hst, q.hf, hp, q.pls, fun x ci h Y a => q.ins x ci h Y ⟨a.prog, a.w, a.K, a.mg, a.base, a.A⟩, q.ecs, q.xfs⟩
theorem alike_refl : Alike X X := ⟨rfl, rfl, rfl, rfl, rfl, rfl⟩
theorem assign_ix {o i : Expr} {pos : Pos} {env : PySem.Env} (h : plainIx i = true) : ∀ v, assign (.Subscript o i pos) env v = (do
      let ov ← holding [v] (eval o env)
      let iv ← holding [v, ov] (eval i env)
      standAt pos
      holding [v, ov, iv] (setItem ov iv v)
      release [v, ov, iv] []) := by
  intro v
  cases i <;> first | (cases h; done) | rfl
theorem try_ok {f : Env → Sto → Out} (o : CkOk X R W k cl G c) (q : StOk X R cs G) {body : List Stmt} {hds : List ExceptHandler} {hs : List Hd} {pos : Pos} (h : chkTry G c hds hs = true)
    (hb : ∀ (Y : Cx) (W' : WX), CkOk Y R W' k cl G c → StOk Y R cs G → PSs Y body (tS R W' f)) : PS X (.Try body hds [] [] pos) (tS R W fun env st => (f env st).tr fun x env st => hands cs x hs env st) := by
  have hb' : ∀ (W : WX) (pn : List (Addr × Obj)) (xe : Value → Shared → Prop), Takes (X.tr pn xe) W → PassesOwn (model X.prog X.w) X.A X.env xe → PSs (X.tr pn xe) body (tS R W f) := fun W' pn xe tk hp => hb _ W' (ck_tr o tk) (st_tr q hp)
  unfold chkTry at h
  split at h
  · simp only [Bool.and_eq_true, decide_eq_true_eq] at h
    obtain ⟨⟨⟨⟨⟨h1, h2⟩, h3⟩, h4⟩, h5⟩, h6⟩ := h
    obtain ⟨cv, g1, g2⟩ := q.ecs _ _ h1
    exact ps_tryAsM o.K q.hst q.hf o.tk (by rw [o.N]; exact o.nd) (by rw [o.N]; exact h4) (kindLoc o.sc h5) ⟨o.gl h2, okN_d h3, .inl g1⟩ g2 (chkH_ok o q h6) hb'
  · obtain ⟨l, hl⟩ := chkHs_ok o q _ _ h
    exact ps_tryM o.K q.hst q.hf o.tk hb' hl
  · cases h
theorem par_ok (o : CkOk X R W k cl G c) {ts vs : List Expr} {is : List Nat} {es : Exs} {kt k2 : Nat} {pt pt2 pos : Pos} (h : parB c ts vs is = true) (hq : PEL X R W cl vs es) :
    PS X (.Assign [.Tuple ts kt pt] (.Tuple vs k2 pt2) pos) (tS R W fun env st => (evEs cl es env st).out env fun ds st => nxO (setN is ds env) st) := by
  unfold parB at h
  split at h
  · simp only [Bool.and_eq_true, decide_eq_true_eq, Bool.not_eq_true'] at h
    obtain ⟨⟨⟨⟨⟨⟨⟨⟨⟨⟨h1, h2⟩, h3⟩, h4⟩, h5⟩, h6⟩, h7⟩, h8⟩, h9⟩, h10⟩, h11⟩ := h
    exact ps_parM o.calm (by rw [o.N]; exact o.nd) (by rw [o.N]; exact h2) (by rw [o.N]; exact h3) h4 (kindLoc o.sc h6) (kindLoc o.sc h7) (pel_pa h9 hq) (par2 (blockFn o.sc h1) (kindLoc o.sc h6) (kindLoc o.sc h7) h8 h5 h9 h10 h11) rfl
  · simp only [Bool.and_eq_true, decide_eq_true_eq, Bool.not_eq_true'] at h
    obtain ⟨⟨⟨⟨⟨⟨⟨⟨⟨⟨⟨⟨⟨⟨⟨⟨⟨h1, h2⟩, h3⟩, h4⟩, h5⟩, h6⟩, h7⟩, h8⟩, h9⟩, h10⟩, h11⟩, h12⟩, h13⟩, h14⟩, h15⟩, h16⟩, h17⟩, h18⟩ := h
    exact ps_parM3 o.calm (by rw [o.N]; exact o.nd) (by rw [o.N]; exact h2) (by rw [o.N]; exact h3) (by rw [o.N]; exact h4) h5 h6 h7 (kindLoc o.sc h11) (kindLoc o.sc h12) (kindLoc o.sc h13) (pel_pa h16 hq)
      (par3 (blockFn o.sc h1) (kindLoc o.sc h11) (kindLoc o.sc h12) (kindLoc o.sc h13) h14 h15 h8 h9 h10 h16 h17 h18) rfl
  · cases h
end
end Mini
end
section
set_option linter.all false
set_option autoImplicit false
set_option maxRecDepth 100000
set_option maxHeartbeats 1000000
/-! The checker of statements is right. -/
namespace Mini
open PySem PySem.Spec PyProof.Rows L2
section
variable {R : RC} {k : Nat} {cl : Call} {G : GI} {cs : Clss}
theorem ps_eq {X : Cx} {s : Stmt} {W : WX} {f g : Env → Sto → Out} (h : PS X s (tS R W f)) (e : ∀ env st, g env st = f env st) : PS X s (tS R W g) := by
  have z : g = f := funext fun env => funext fun st => e env st
  rw [z]
  exact h
theorem pss_eq {X : Cx} {s : List Stmt} {W : WX} {f g : Env → Sto → Out} (h : PSs X s (tS R W f)) (e : ∀ env st, g env st = f env st) : PSs X s (tS R W g) := by
  have z : g = f := funext fun env => funext fun st => e env st
  rw [z]
  exact h
theorem swC_loc {c : Ck} {y : Str} {py vp : Pos} {scope : Scope} (h : swC c y py scope vp = true) : c.sc.names.lookup y = some .local := by
  unfold swC at h
  simp only [Bool.and_eq_true, decide_eq_true_eq] at h
  exact h.1.1.2
theorem swaps_tup {ts : List Expr} {kt : Nat} {pt : Pos} {e : Expr} {l : Nat} {env : PySem.Env} : swapsWithSole [.Tuple ts kt pt] e l env = pure false := by
  cases e <;> rfl
theorem swaps_ix {o i : Expr} {pt : Pos} {e : Expr} {l : Nat} {env : PySem.Env} : swapsWithSole [.Subscript o i pt] e l env = pure false := by
  cases e <;> rfl
theorem swap_ix {o i : Expr} {pt : Pos} {e : Expr} {env : PySem.Env} : swappedStores [.Subscript o i pt] e env = pure none := by
  cases e <;> rfl
mutual
theorem chkS_ok : ∀ (s' : Sm) (c : Ck) (s : Stmt) (X : Cx) (W : WX), CkOk X R W k cl G c → StOk X R cs G → chkS G s' c s = true → PS X s (tS R W (exS cs cl s'))
  | .asg t e', c, s, X, W, o, q, h => by
    simp only [chkS] at h
    split at h
    · split at h
      · split at h
        · rename_i elt tg1 iter ifs scope vp v wp t1 it cs1 y1
          cases t with
          | tp is => simp at h
          | nm i =>
            simp only [Bool.and_eq_true, decide_eq_true_eq] at h
            obtain ⟨⟨⟨⟨⟨⟨⟨h0, h00⟩, h1⟩, h2⟩, h3⟩, h4⟩, h5⟩, h6⟩ := h
            unfold blkOkB at h1
            simp only [Bool.and_eq_true, decide_eq_true_eq, List.all_eq_true] at h1
            obtain ⟨⟨h7, h8⟩, h9⟩ := h1
            have hyl := swC_loc h00
            refine ps_eq (ps_compM (v := v) (own := ownOf c wp) o.calm (by rw [o.N]; exact o.nd) (by rw [o.N]; exact h0) (kindLoc o.sc hyl) (swaps_comp o.sc h00) (chkI_ok it c tg1 iter X W o h4) (by rw [o.N, o.sc]; exact blkOk_by h8)
              (fun s H C l fp => tg_ok (ck_blk o scope s H C l fp) _ _ h3) (fun s H C l fp => chkC_ok cs1 (c.blk scope) ifs _ W0 (ck_blk o scope s H C l fp) h5) (fun s H C l fp => chkE_ok y1 (c.blk scope) elt _ W0 (ck_blk o scope s H C l fp) h6) (notSet_ok h2) (by rw [h7]; exact h9)) fun env st => ?_
            rw [h7]
            simp only [exS]
            have ev : evE cl (.comp v wp t1 it cs1 y1) env st = fComp v wp t1 (evI cl it) (evC cl cs1) (evE cl y1) env st := by
              simp only [evE, fComp]
              try first | rfl | (congr 1; done)
            rw [ev]
        · simp only [Bool.and_eq_true] at h
          obtain ⟨⟨h1, h2⟩, h3⟩ := h
          cases t with
          | tp is => simp [tgB] at h1
          | nm i =>
            simp only [tgB, Bool.and_eq_true, decide_eq_true_eq] at h1
            obtain ⟨g1, g2⟩ := o.loc h1.2
            exact ps_eq (ps_setM (by rw [o.N]; exact o.nd) (by rw [o.N]; exact h1.1) g1 (chkE_ok e' c _ X W o h3) (swaps_plain h2) g2) (by intro env st; simp only [exS, exSs]; try first | rfl | (congr 1; done))
      · simp only [Bool.and_eq_true] at h
        obtain ⟨⟨h1, h2⟩, h3⟩ := h
        exact ps_eq (ps_asgM (chkE_ok e' c _ X W o h3) (tg_ok o _ _ h1) swaps_tup (swN_tup h2) (by simp [assignEach])) (by intro env st; simp only [exS, exSs]; try first | rfl | (congr 1; done))
      · cases h
    · cases h
  | .par is es', c, s, X, W, o, q, h => by
    simp only [chkS] at h
    split at h
    · rw [Bool.and_eq_true] at h
      exact ps_eq (par_ok o h.1 (chkEs_ok es' c _ X W o h.2)) (by intro env st; simp only [exS, exSs]; try first | rfl | (congr 1; done))
    · cases h
  | .asgIx o' i' e', c, s, X, W, o, q, h => by
    simp only [chkS] at h
    split at h
    · rename_i ob i p1 e p2
      simp only [Bool.and_eq_true] at h
      obtain ⟨⟨⟨h1, h2⟩, h3⟩, h4⟩ := h
      have ho := chkE_ok o' c ob X W o h3
      have hi := chkE_ok i' c i X W o h4
      exact ps_eq (ps_asgIxM ho hi (chkE_ok e' c e X W o h2) (pg_sub ho hi set_list (assign_ix h1)) swaps_ix swap_ix (by simp [assignEach])) (by intro env st; simp only [exS, exSs]; try first | rfl | (congr 1; done))
    · cases h
  | .aug i p e', c, s, X, W, o, q, h => by
    simp only [chkS] at h
    split at h
    · simp only [Bool.and_eq_true, decide_eq_true_eq] at h
      obtain ⟨⟨⟨h1, h2⟩, h3⟩, h4⟩ := h
      obtain ⟨r, g1, g2⟩ := aug_ok (X := X) (R := R) h1
      obtain ⟨g3, g4⟩ := o.loc h3
      exact ps_eq (ps_augM g1 g2 (by rw [o.N]; exact o.nd) (by rw [o.N]; exact h2) g3 (chkE_ok e' c _ X W o h4) g4) (by intro env st; simp only [exS, exSs]; try first | rfl | (congr 1; done))
    · cases h
  | .ex e', c, s, X, W, o, q, h => by
    simp only [chkS] at h
    split at h
    · rw [Bool.and_eq_true] at h
      exact ps_eq (ps_exM (chkE_ok e' c _ X W o h.2) (swaps_plain h.1)) (by intro env st; simp only [exS, exSs]; try first | rfl | (congr 1; done))
    · cases h
  | .asgKey o' i' e', c, s, X, W, o, q, h => by
    simp only [chkS] at h
    split at h
    · rename_i ob i p1 e p2
      simp only [Bool.and_eq_true] at h
      obtain ⟨⟨⟨⟨h1, h0⟩, h2⟩, h3⟩, h4⟩ := h
      exact ps_eq (ps_asgKeyM o.u1 (chkE_ok o' c ob X W o h3) (chkE_ok i' c i X W o h4) (chkE_ok e' c e X W o h2) (swaps_plain h0)) (by intro env st; simp only [exS, exSs]; try first | rfl | (congr 1; done))
    · cases h
  | .setF cc j o' e', c, s, X, W, o, q, h => by
    simp only [chkS] at h
    split at h
    · rename_i ob f p1 e p2
      simp only [Bool.and_eq_true] at h
      obtain ⟨⟨⟨h1, h0⟩, h2⟩, h3⟩ := h
      unfold fldB at h1
      simp only [Bool.and_eq_true] at h1
      obtain ⟨g1, g2⟩ := h1
      split at g1
      · rename_i fs ef
        exact ps_eq (ps_setFM o.K (o.kok cc) (fun C names hk => by rw [o.kfs cc fs C names ef hk]; exact of_decide_eq_true g1) (chkE_ok o' c ob X W o h3) (chkE_ok e' c e X W o h2) (swaps_plain h0)) (by intro env st; simp only [exS, exSs]; try first | rfl | (congr 1; done))
      · cases g1
    · cases h
  | .augF cc j o' p e', c, s, X, W, o, q, h => by
    simp only [chkS] at h
    split at h
    · rename_i ob f p1 op e p2
      simp only [Bool.and_eq_true, decide_eq_true_eq] at h
      obtain ⟨⟨⟨h0, h1⟩, h2⟩, h3⟩ := h
      obtain ⟨r, k1, k2⟩ := aug_ok (X := X) (R := R) h0
      unfold fldB at h1
      simp only [Bool.and_eq_true] at h1
      obtain ⟨g1, g2⟩ := h1
      split at g1
      · rename_i fs ef
        exact ps_eq (ps_augFM o.K (o.kok cc) (fun C names hk => by rw [o.kfs cc fs C names ef hk]; exact of_decide_eq_true g1) k1 k2 (chkE_ok o' c ob X W o h3) (chkE_ok e' c e X W o h2)) (by intro env st; simp only [exS, exSs]; try first | rfl | (congr 1; done))
      · cases g1
    · cases h
  | .augIx _ _ _ _, c, s, X, W, o, q, h => by simp [chkS] at h
  | .ret e', c, s, X, W, o, q, h => by
    simp only [chkS] at h
    split at h
    · exact ps_eq (ps_retM (chkE_ok e' c _ X W o h)) (by intro env st; simp only [exS, exSs]; try first | rfl | (congr 1; done))
    · cases h
  | .retN, c, s, X, W, o, q, h => by
    simp only [chkS] at h
    split at h
    · exact ps_eq ps_retNM (by intro env st; simp only [exS, exSs]; try first | rfl | (congr 1; done))
    · cases h
  | .ife t a b, c, s, X, W, o, q, h => by
    simp only [chkS] at h
    split at h
    · simp only [Bool.and_eq_true] at h
      exact ps_eq (ps_ifM (chkT_ok t c _ X W o h.1.1) (chkSs_ok a c _ X W o q h.1.2) (chkSs_ok b c _ X W o q h.2)) (by intro env st; simp only [exS, exSs]; try first | rfl | (congr 1; done))
    · cases h
  | .for_ t it b, c, s, X, W, o, q, h => by
    simp only [chkS] at h
    split at h
    · simp only [Bool.and_eq_true] at h
      obtain ⟨⟨⟨h1, h2⟩, h3⟩, h4⟩ := h
      exact ps_eq (ps_forM q.hp o.calm (chkI_ok it c _ _ X W o h3) (tg_ok o _ _ h2) (chkSs_ok b c _ X W o q h4) (notSet_ok h1)) (by intro env st; simp only [exS, exSs]; try first | rfl | (congr 1; done))
    · cases h
  | .while_ t b, c, s, X, W, o, q, h => by
    simp only [chkS] at h
    split at h
    · simp only [Bool.and_eq_true] at h
      exact ps_eq (ps_whileM q.hp (chkT_ok t c _ X W o h.1) (chkSs_ok b c _ X W o q h.2)) (by intro env st; simp only [exS, exSs]; try first | rfl | (congr 1; done))
    · cases h
  | .raise ci es', c, s, X, W, o, q, h => by
    simp only [chkS] at h
    split at h
    · cases es' with
      | nil =>
        dsimp only at h
        simp only [Bool.and_eq_true, decide_eq_true_eq] at h
        obtain ⟨⟨⟨h1, h2⟩, h3⟩, h4⟩ := h
        split at h1
        · obtain ⟨C, g1, ⟨kk, g2, g3⟩, g4⟩ := q.pls _ _ h2
          obtain ⟨B, ni, ii, bmB, ⟨F⟩, g5⟩ := g4.ex
          refine ps_eq (ps_raiseM (cs := cs) (c := ci) (g := fun _ st => .ok [] st) o.calm o.tk (pmk_own F g5 g4.mg g4.kC (raises_own g4.e1 g4.e2) (o.gl h3) (okN_d h4)) fun σ H Q z => tM_none g2 g3 g1 z) fun env st => ?_
          simp only [exS, evEs]
          try first | rfl | (congr 1; done)
        · cases h1
      | cons y ys =>
        dsimp only at h
        simp only [Bool.and_eq_true, decide_eq_true_eq] at h
        obtain ⟨⟨⟨⟨h1, h2⟩, h3⟩, h4⟩, h5⟩ := h
        split at h1
        · have ha : PA X [_] (tA R W (evEs cl (.cons y .nil))) := pel_pa (by unfold noStars; simp [h4]) ⟨chkE_ok y c _ X W o h5, trivial⟩
          obtain ⟨t, g1, g2⟩ := q.ins _ _ h2 X alike_refl o.calm (o.gl h3) W (evEs cl (.cons y .nil)) _ _ _ o.tk ha h4
          exact ps_eq (ps_raiseM o.calm o.tk g1 g2) (by intro env st; simp only [exS, exSs]; try first | rfl | (congr 1; done))
        · cases h1
    · cases h
  | .try_ b hs, c, s, X, W, o, q, h => by
    simp only [chkS] at h
    split at h
    · rw [Bool.and_eq_true] at h
      exact ps_eq (try_ok o q h.1 fun Y W' o' q' => chkSs_ok b c _ Y W' o' q' h.2) (by intro env st; simp only [exS, exSs]; try first | rfl | (congr 1; done))
    · cases h
  | .pass, c, s, X, W, o, q, h => by
    simp only [chkS] at h
    split at h
    · exact ps_eq ps_passM (by intro env st; simp only [exS, exSs]; try first | rfl | (congr 1; done))
    · cases h
  | .brk, c, s, X, W, o, q, h => by
    simp only [chkS] at h
    split at h
    · exact ps_eq ps_brkM (by intro env st; simp only [exS, exSs]; try first | rfl | (congr 1; done))
    · cases h
  | .cont, c, s, X, W, o, q, h => by
    simp only [chkS] at h
    split at h
    · exact ps_eq ps_contM (by intro env st; simp only [exS, exSs]; try first | rfl | (congr 1; done))
    · cases h
theorem chkSs_ok : ∀ (ss' : Sms) (c : Ck) (ss : List Stmt) (X : Cx) (W : WX), CkOk X R W k cl G c → StOk X R cs G → chkSs G ss' c ss = true → PSs X ss (tS R W (exSs cs cl ss'))
  | .nil, c, ss, X, W, o, q, h => by
    simp only [chkSs] at h
    cases ss with
    | nil => exact pss_eq pss_n (by intro env st; simp only [exS, exSs]; try first | rfl | (congr 1; done))
    | cons => cases h
  | .cons x xs, c, ss, X, W, o, q, h => by
    simp only [chkSs] at h
    cases ss with
    | nil => cases h
    | cons s ss =>
      dsimp only at h
      rw [Bool.and_eq_true] at h
      exact pss_eq (pss_c (chkS_ok x c s X W o q h.1) (chkSs_ok xs c ss X W o q h.2)) (by intro env st; simp only [exS, exSs]; try first | rfl | (congr 1; done))
end
end
end Mini
end
section
set_option linter.all false
set_option autoImplicit false
set_option maxRecDepth 100000
set_option maxHeartbeats 1000000
/-! Defs: what the program's functions give is what the defs give. -/
namespace Mini
open PySem PySem.Spec PyProof.Rows L2
section
variable {R : RC} {m m' : List Addr} {st st' : Sto} {H H' : Hp}
theorem FReps.shrink {n : Nat} : ∀ {fs : List (Str × D)} {gs : List (Str × V)}, FReps R m st H fs gs → Mini.belows n (fs.map (·.2)) = true → FReps R (m.take n) (st.take n) H fs gs
  | _, _, .nil, _ => .nil
  | _, _, .cons h t, b => by
    simp only [List.map_cons, Mini.belows, Bool.and_eq_true] at b
    exact .cons (Rep.shrink _ _ h b.1) (FReps.shrink t b.2)
theorem XRep.shrink {n : Nat} {x : Exc} {c : Value} {dd : Option Addr} (h : XRep R m st H x c dd) (b : Mini.belows n (x.flds.map (·.2)) = true) : XRep R (m.take n) (st.take n) H x c dd := by
  obtain ⟨C, h1, h2, h3⟩ := h
  refine ⟨C, h1, h2, ?_⟩
  rcases h3 with h3 | ⟨d, gs, e1, e2, e3, e4⟩
  · exact .inl h3
  · exact .inr ⟨d, gs, e1, e2, e3.take, e4.shrink b⟩
end
/-- the end of a def -/
theorem finish_ok {R : RC} {m : List Addr} {st : Sto} {H : Hp} {o : Out} {Q : VK} {E : XK} (s : SR R m st H) (p : Post R m st H (finish st o) Q E) : PostS R m st H o { nx := fun _ H' => Q .non H', rt := Q } (fun cls d _ H => E cls d H) := by
  have tk : ∀ {m' : List Addr} {st' : Sto} {H' : Hp}, Ext m st H m' st' H' → m'.take st.length = m := fun x => by
    rw [← s.len]
    exact pre_take x.pre
  cases o with
  | nx env st' =>
    intro m' H' σ' x s' er
    simp only [finish] at p
    split at p
    · rename_i c
      exact p m H' _ (Ext.cut x s) (SR.cut x s s' c) .non
    · exact p m' H' _ x s' .non
  | ret d st' =>
    intro m' H' v x s' r
    simp only [finish] at p
    split at p
    · rename_i c
      have r2 := Rep.shrink (n := st.length) _ _ r c.2
      rw [tk x] at r2
      exact p m H' _ (Ext.cut x s) (SR.cut x s s' c.1) r2
    · exact p m' H' _ x s' r
  | exc y env st' =>
    intro m' H' σ' cv dd x s' er r
    simp only [finish] at p
    split at p
    · rename_i c
      have r2 := XRep.shrink (n := st.length) r c.2
      rw [tk x] at r2
      exact p m H' _ _ (Ext.cut x s) (SR.cut x s s' c.1) r2
    · exact p m' H' _ _ x s' r
  | brk env st' => exact p.elim
  | cont env st' => exact p.elim
  | bad => exact p.elim
theorem start_ok {R : RC} {m : List Addr} {st : Sto} {H : Hp} {N : List Str} {ds : List D} {vs : List V} (r : Reps R m st H ds vs) (h : vs.length ≤ N.length) : ER R m st H (start N vs) (startE N.length ds) := by
  have hl := r.length
  refine ⟨by unfold L2.start startE; simp; omega, fun i d e => ?_⟩
  unfold startE at e
  by_cases hi : i < ds.length
  · rw [List.getElem?_append_left (by simpa using hi), List.getElem?_map] at e
    cases q : ds[i]? with
    | none =>
      rw [q] at e
      cases e
    | some d' =>
      rw [q] at e
      cases e
      obtain ⟨v, h1, h2⟩ := r.get q
      refine ⟨v, ?_, h2⟩
      unfold L2.start
      rw [List.getElem?_append_left (by simp; omega), List.getElem?_map, h1]
      rfl
  · rw [List.getElem?_append_right (by simp; omega), List.getElem?_replicate] at e
    split at e <;> cases e
def spF (P : Prog) (R : RC) (np : Nat) (k i : Nat) : Sp := fun vs H Q E => ∃ hd m st ds, SR (R.w hd) m st H ∧ Reps (R.w hd) m st H ds vs ∧ ds.length = np ∧ Post (R.w hd) m st H (callF P k i ds st) Q E
/-- what of the module the own classes must have -/
structure KlsOk (K : PySem.W.Frag) (mg : Str → Option Value) (R : RC) (G : GI) : Prop where
  kok : ∀ c C names, R.ka c = some (C, names) → names.Nodup ∧ names.length < 1000 ∧ L2.Cls K C ∧ ∀ f ∈ names, NoAttr K C f
  kfs : ∀ c fs C names, G.kfs.lookup c = some fs → R.ka c = some (C, names) → names = fs
  kms : ∀ c m i, G.kms.lookup (c, m) = some i → ∀ C names, R.ka c = some (C, names) → L2.Cls K C ∧ m ∉ names ∧ ∃ f, R.fa i = some f ∧ Meth K C m f
  kls : ∀ x c, G.kls.lookup x = some c → ∃ C names i f, R.ka c = some (C, names) ∧ mg x = some (.ref C) ∧ G.kms.lookup (c, ("__init__" : Str)) = some i ∧ R.fa i = some f ∧ Mk K C f
/-- a def of the text is a def of the small language -/
structure DefOK (K : PySem.W.Frag) (G : GI) (fn : Fn) (f : Addr) (fd : FuncData) (ps : List Str) : Prop where
  ex : ∃ (name qual : Str) (params : Arguments) (body : List Stmt) (scope : Scope) (dV kV doc pm cdv ct oc : Value) (an od : Option Addr) (osl : Array (Option Value)) (N : List Str),
    fd = PySem.W.fnOf name qual params body scope dV kV doc pm an cdv ct ∧ K.lookup f = some ⟨oc, od, .func fd, osl⟩ ∧ PySem.W.codeIn K cdv qual = true ∧ FnScope N ps scope ∧ N.length = fn.nn ∧ chkSs G fn.body ⟨N, scope, true⟩ body = true
  np : ps.length = fn.np
  keep : PySem.W.keepIn K (.ref f) = true
  binds : Binds K fd ps []
structure ProgOk (prg : Program) (w : World) (K : PySem.W.Frag) (mg : Str → Option Value) (base : Heap) (R : RC) (P : Prog) (G : GI) : Prop where
  hK : R.K = K
  dfs : ∀ i f, R.fa i = some f → ∃ fn fd ps, P.fn i = some fn ∧ DefOK K G fn f fd ps
  fns : ∀ x i, G.fns.lookup x = some i → ∃ f, mg x = some (.ref f) ∧ R.fa i = some f
  cns : ∀ x d, G.cns.lookup x = some d → ∃ u v, mg x = some u ∧ RelV v u ∧ ∀ hd m st H, Rep (R.w hd) m st H d v
  bts : ∀ x, x ∈ G.bts → mg x = none
  dig : base.NoDigits
  kl : KlsOk K mg R G
  pls : ∀ x ci, G.pls.lookup x = some ci → ∃ C, R.ca ci = some C ∧ (∃ kk, P.cs[ci]? = some kk ∧ kk.flds = []) ∧ PlX K mg x C
  ins : ∀ x ci, G.ins.lookup x = some ci → ∀ X : Cx, X.prog = prg → X.w = w → X.K = K → X.mg = mg → X.base = base → Room 2 X.A → InX X R P.cs ci x
  ecs : ∀ x ci, G.ecs.lookup x = some ci → ∃ cv, mg x = some cv ∧ ClsOK R P.cs ci cv
  xfs : ∀ ci f, G.xfs.lookup ci = some f → ∃ C, R.ca ci = some C ∧ XfC K C ∧ PySem.W.findIn K (.ref C) f = some none
section
variable {prg : Program} {w : World} {K : PySem.W.Frag} {mg : Str → Option Value} {base : Heap} {R : RC} {P : Prog} {G : GI}
theorem fn_step (PO : ProgOk prg w K mg base R P G) {k i : Nat} {f : Addr} {fn : Fn} {fd : FuncData} {ps : List Str} (hi : P.fn i = some fn) (D : DefOK K G fn f fd ps)
    (ih : ∀ i f, R.fa i = some f → ∃ fn fd ps, P.fn i = some fn ∧ DefOK K G fn f fd ps ∧ FnG prg w K mg base (2 * k + 2) f fd ps (spF P R ps.length k i)) : FnG prg w K mg base (2 * k + 4) f fd ps (spF P R ps.length (k + 1) i) := by
  obtain ⟨name, qual, params, body, scope, dV, kV, doc, pm, cdv, ct, oc, an, od, osl, N, rfl, lk, hcd, S, hN, hck⟩ := D.ex
  have len : ∀ vs H Q E, spF P R ps.length (k + 1) i vs H Q E → vs.length = ps.length := fun vs H Q E ⟨hd, m, st, ds, s, r, hl, p⟩ => by
    rw [← r.length]
    exact hl
  refine ⟨len, fun A outer s H args us vs Q E hr hg e0 hb r hsp => ?_⟩
  have hl := len _ _ _ _ hsp
  have KX : K.In s.heap := e0.mod.kin.keeps fun b o e => (e0.bs b o e).1
  have lim : s.heap.NoLimit := e0.mod.nolimit.keeps fun b o e => (e0.bs b o e).1
  have hkind : ∀ y ∈ ps.zip us, scope.names.lookup y.1 = some .local ∨ (scope.names.lookup y.1 = some .cell ∧ ((cellsFrom (s.heap.objs.size + 1) scope.names []).lookup y.1).isSome = true) := fun ⟨n, v⟩ hy => by
    rcases S.par n (List.of_mem_zip hy).1 with q | q
    · exact .inl q
    · exact .inr ⟨q, PySem.W.cellsFrom_some _ _ _ (.inl q)⟩
  refine codeAny_call_function hr.depth (KX _ _ lk) rfl S.co S.gen rfl (PySem.W.codeRec_of KX hcd) (hb _ _ _ _ ?_)
  refine wpAny_newFunctionEnv_cells S.kind hkind fun env he s1 x => ?_
  subst he
  refine ⟨lim.keeps x.toInCall.keep, codeAny_func ?_⟩
  obtain ⟨X, hX⟩ : ∃ X, X = cxOf (L2.CX prg w) prg w K mg base N qual scope f cdv A outer s H E := ⟨_, rfl⟩
  have I : Inv (cxOf (L2.CX prg w) prg w K mg base N qual scope f cdv A outer s H E) [] (start N vs) H s1 := inv_start S hr.hd e0 hl r x
  have room : Room (2 * k + 3) (A.deeper (envOfC qual scope s.heap.objs.size f cdv)) := hr.deeper _
  have o : CkOk (cxOf (L2.CX prg w) prg w K mg base N qual scope f cdv A outer s H E) R (fun cls d _ H => E cls d H) (2 * k + 2) (callF P k) G ⟨N, scope, true⟩ := {
    K := PO.hK
    N := rfl
    nd := S.nd
    sc := rfl
    fn := fun _ _ => rfl
    calm := rfl
    room := room
    gd := hg
    tk := takes_of rfl rfl rfl rfl
    fns := PO.fns
    fna := fun j g hj => by
      obtain ⟨fn', fd', ps', h1, h2, h3⟩ := ih j g hj
      refine ⟨g, fd', ps', _, hj, h2.keep, h2.binds, h3, fun hd m st H ds vs Q E sr rr pp => ?_⟩
      refine ⟨hd, m, st, ds, sr, rr, ?_, pp⟩
      by_cases hn : ds.length = ps'.length
      · exact hn
      · exfalso
        cases k with
        | zero => exact pp
        | succ k =>
          unfold callF at pp
          rw [h1] at pp
          dsimp only at pp
          rw [if_neg (by rw [← h2.np]; exact hn)] at pp
          exact pp
    cns := PO.cns
    bts := PO.bts
    dig := PO.dig
    kok := fun c => ⟨PO.kl.kok c⟩
    kfs := PO.kl.kfs
    kms := PO.kl.kms
    kls := PO.kl.kls }
  have q : StOk (cxOf (L2.CX prg w) prg w K mg base N qual scope f cdv A outer s H E) R P.cs G := {
    hst := rfl
    hf := rfl
    hp := passes_of rfl
    pls := PO.pls
    ins := fun y ci h => PO.ins y ci h _ rfl rfl rfl rfl rfl (room.mono (by omega))
    ecs := PO.ecs
    xfs := PO.xfs }
  have ht := chkSs_ok fn.body ⟨N, scope, true⟩ body _ _ o q hck
  obtain ⟨hd, m, st, ds, sr, rr, hdl, pp⟩ := hsp
  have hq : tS R (fun cls d _ H => E cls d H) (exSs P.cs (callF P k) fn.body) { nx := fun _ H' => Q .non H', rt := Q } (start N vs) H := by
    have hle : vs.length ≤ N.length := by
      have := congrArg List.length S.pre
      rw [List.length_take] at this
      omega
    refine ⟨hd, m, startE N.length ds, st, sr, start_ok rr hle, finish_ok sr ?_⟩
    unfold callF at pp
    rw [hi] at pp
    dsimp only at pp
    rw [if_pos (by rw [← D.np]; exact hdl)] at pp
    rw [hN]
    exact pp
  refine wpAny_mono (ht.run [] s1 (start N vs) H _ I hq) (fun fl s' hs => ?_) fun e s' hs => hs
  have fin : ∀ {σ' : L2.St} {H' : Hp} {v : V} {u : Value}, Inv (cxOf (L2.CX prg w) prg w K mg base N qual scope f cdv A outer s H E) [] σ' H' s' → RelV v u → Q v H' → CE outer prg w H s Q u s' :=
    fun {σ' H' v u} J rv q => ⟨v, H', J.os, J.bare, J.base, J.hok, rv, q⟩
  cases fl with
  | ret u =>
    obtain ⟨v, σ', H', J, rv, q⟩ := hs
    exact fin J rv q
  | next =>
    obtain ⟨σ', H', J, q⟩ := hs
    exact fin (v := V.non) (u := Value.none) J rfl q
  | brk =>
    obtain ⟨_, _, _, q⟩ := hs
    exact False.elim q
  | cont =>
    obtain ⟨_, _, _, q⟩ := hs
    exact False.elim q
theorem fn_all (PO : ProgOk prg w K mg base R P G) : ∀ (k i : Nat) (f : Addr), R.fa i = some f → ∃ fn fd ps, P.fn i = some fn ∧ DefOK K G fn f fd ps ∧ FnG prg w K mg base (2 * k + 2) f fd ps (spF P R ps.length k i)
  | 0, i, f, h => by
    obtain ⟨fn, fd, ps, h1, h2⟩ := PO.dfs i f h
    exact ⟨fn, fd, ps, h1, h2, fun vs H Q E ⟨_, _, _, _, _, _, _, p⟩ => p.elim, fun A outer s H args us vs Q E hr hg e0 hb r ⟨_, _, _, _, _, _, _, p⟩ => p.elim⟩
  | k + 1, i, f, h => by
    obtain ⟨fn, fd, ps, h1, h2⟩ := PO.dfs i f h
    exact ⟨fn, fd, ps, h1, h2, fn_step PO h1 h2 (fn_all PO k)⟩
end
end Mini
end
section
set_option linter.all false
set_option autoImplicit false
set_option maxRecDepth 100000
set_option maxHeartbeats 1000000
/-! The end of a law. -/
namespace Mini
open PySem PySem.Spec PyProof.Rows L2
section
variable {prg : Program} {w : World} {K : PySem.W.Frag} {mg mb : Str → Option Value} {k : Nat} {fa a : Addr} {sp : Sp} {s₁ : Shared} {us : List Value} {zs : List Int}
/-- the call of the law's def, the script alone being tracked -/
theorem lawG_at (kin : K.In s₁.heap) (nsg : s₁.heap.Ns mainGlobals mg) (nsb : s₁.heap.Ns builtinsNs mb) (boot : ∀ x : Str, x ≠ "__name__" → mb x = bootBuiltins x) (nl : s₁.heap.NoLimit) (gens : s₁.gens = #[])
    (at_ : s₁.heap.get? a = some { cls := .type "list", data := .seq us.toArray }) (rm : Room k callerA)
    (F : ∀ base : Heap, K.In base → base.Ns mainGlobals mg → base.NoLimit → ∃ (fd : FuncData) (ps : List Str), FnG prg w K mg base k fa fd ps sp ∧ Binds K fd ps [] ∧ ps.length = 1)
    (H : Hp) (only : Only H) (prom : sp [.ref a] H (fun v _ => v = .bl true) fun _ _ _ => False) (hok : HOk prg w H s₁.heap) (alone : ∀ b, H b ≠ none → b = a) (fresh : H a ≠ none → K.lookup a = none) :
    codeAny (model prg w) callerA (.call (.ref fa) ⟨[.ref a], []⟩) (fun r s' => r = .ok (.ret (.bool true)) ∧ OldK s₁.heap s'.heap ∧ s'.os = s₁.os ∧ AllBare s'.gens) s₁ := by
  have dictFree : ∀ {b : Addr} {o : Obj} {es : Array DictEntry} {ep : Nat}, s₁.heap.get? b = some o → o.data = .dict es ep → H b = none := fun {b o es ep} e d => by
    rcases only b with z | ⟨ob, xs, z⟩
    · exact z
    · have hb : b = a := alone b (by rw [z]; simp)
      rw [hb, at_] at e
      cases e
      cases d
  have toBase : ∀ {b : Addr} {m : Str → Option Value}, s₁.heap.Ns b m → (hidT s₁.heap H).Ns b m := fun {b m} ⟨o, es, ep, e, d, r⟩ => ⟨o, es, ep, hidT_get e (dictFree e d), d, r⟩
  have kinB : K.In (hidT s₁.heap H) := fun b o e => hidT_get (kin b o e) (by
    rcases only b with z | ⟨ob, xs, z⟩
    · exact z
    · have ne : H b ≠ none := by
        rw [z]
        simp
      have hb : b = a := alone b ne
      subst hb
      rw [fresh ne] at e
      cases e)
  have md : Mod K mg (hidT s₁.heap H) := ⟨kinB, toBase nsg, ⟨mb, toBase nsb, boot⟩, by
    obtain ⟨mc, h1, h2⟩ := nl
    exact ⟨mc, toBase h1, h2⟩⟩
  have env : Env0 prg w K mg (hidT s₁.heap H) callerA [] s₁ H := ⟨rfl, md, fun _ _ e => of_hidT e, Nat.le_of_eq (hidT_size _ _), trivial, fun b hb => absurd (show b ∈ ([] : List Addr) from hb) (by simp), hok, .of_eq gens⟩
  have nlB : (hidT s₁.heap H).NoLimit := by
    obtain ⟨mc, h1, h2⟩ := nl
    exact ⟨mc, toBase h1, h2⟩
  obtain ⟨fd, ps, G, B, l1⟩ := F _ kinB (toBase nsg) nlB
  have bt := B s₁ [.ref a] kin (by rw [l1]; rfl)
  rw [List.append_nil] at bt
  refine codeAny_mono (G.run callerA [] s₁ H ⟨[.ref a], []⟩ [.ref a] [.ref a] _ _ rm rfl env bt (.cons rfl .nil) prom) ?_
  intro r s' out
  cases r with
  | error e =>
    obtain ⟨_, _, _, _, _, _, _, _, _, _, _, _, bad⟩ := out
    exact bad.elim
  | ok fl =>
    cases fl with
    | ret u =>
      obtain ⟨v, H', os, bare, un, hok', rv, ev⟩ := out
      have ev : v = .bl true := ev
      subst ev
      obtain rfl : u = Value.bool true := rv
      refine ⟨rfl, OldK.of_keep fun b o e => ?_, os, bare⟩
      rcases only b with z | ⟨ob, xs, z⟩
      · exact un.keep b o e z (fun y => absurd (show b ∈ ([] : List Addr) from y) (by simp)) (by simp)
      · obtain ⟨e1, _⟩ := hok b _ z
        obtain ⟨e2, _⟩ := hok' b _ (un.frzs b ob _ z)
        rw [e] at e1
        cases e1
        exact e2
    | next => exact False.elim out
    | brk => exact False.elim out
    | cont => exact False.elim out
theorem lawG (kin : K.In s₁.heap) (nsg : s₁.heap.Ns mainGlobals mg) (nsb : s₁.heap.Ns builtinsNs mb) (boot : ∀ x : Str, x ≠ "__name__" → mb x = bootBuiltins x) (nl : s₁.heap.NoLimit) (gens : s₁.gens = #[])
    (at_ : s₁.heap.get? a = some { cls := .type "list", data := .seq us.toArray }) (hin : IntsAre us zs) (short : zs.length ≤ sizeLine) (rm : Room k callerA)
    (F : ∀ base : Heap, K.In base → base.Ns mainGlobals mg → base.NoLimit → ∃ (fd : FuncData) (ps : List Str), FnG prg w K mg base k fa fd ps sp ∧ Binds K fd ps [] ∧ ps.length = 1)
    (prom : ∀ H : Hp, SqL K H a (zs.map V.int) → sp [.ref a] H (fun v _ => v = .bl true) fun _ _ _ => False) :
    codeAny (model prg w) callerA (.call (.ref fa) ⟨[.ref a], []⟩) (fun r s' => r = .ok (.ret (.bool true)) ∧ OldK s₁.heap s'.heap ∧ s'.os = s₁.os ∧ AllBare s'.gens) s₁ := by
  have vals := vals_ints hin
  have same := hin.length
  cases known : K.lookup a with
  | some o =>
    have e := kin a o known
    rw [at_] at e
    cases e
    refine lawG_at kin nsg nsb boot nl gens at_ rm F (fun _ => none) (fun _ => .inl rfl) (prom _ (.inr ⟨_, us.toArray, _, known, rfl, rfl, rfl, by rw [List.size_toArray, same]; exact short, by simpa using vals⟩)) (fun b u z => nomatch (show (none : Option HO) = some u from z)) (fun _ z => absurd rfl z) fun z => absurd rfl z
  | none =>
    obtain ⟨T, hT⟩ : ∃ T : HO, T = .frz { cls := .type "list", data := .seq us.toArray } (.lst (zs.map V.int)) := ⟨_, rfl⟩
    have isA : (fun b => if b = a then some T else none : Hp) a = some T := if_pos rfl
    have notA : ∀ {b : Addr}, b ≠ a → (fun b => if b = a then some T else none : Hp) b = none := fun h => if_neg h
    refine lawG_at kin nsg nsb boot nl gens at_ rm F (fun b => if b = a then some T else none) (fun b => ?_) (prom _ (.inl (.inr ⟨{ cls := .type "list", data := .seq us.toArray }, by rw [← hT]; exact isA⟩))) (fun b u z => ?_) (fun b z => ?_) fun _ => known
    · by_cases h : b = a
      · exact .inr ⟨{ cls := .type "list", data := .seq us.toArray }, zs.map V.int, by rw [h, ← hT]; exact isA⟩
      · exact .inl (notA h)
    · by_cases h : b = a
      · subst h
        rw [isA] at z
        cases z
        subst hT
        exact ⟨at_, by rw [List.length_map]; exact short, us, _, vals, at_⟩
      · rw [notA h] at z
        cases z
    · by_cases h : b = a
      · exact h
      · exact absurd (notA h) z
end
/-- the script as the law's def has it -/
theorem script_SR {R : RC} {H : Hp} : SR (R.w []) [] [] H := ⟨rfl, List.nodup_nil, fun n a e => (by simp at e), fun a h => (by cases h), fun n a e => (by simp at e), fun n a o e => (by simp at e)⟩
theorem ints_rep {R : RC} {m : List Addr} {st : Sto} {H : Hp} : ∀ zs : List Int, Reps R m st H (zs.map Mini.D.int) (zs.map V.int)
  | [] => .nil
  | z :: zs => .cons (.int z) (ints_rep zs)
theorem law_prom {P : Prog} {R : RC} {k i : Nat} {zs : List Int} {a : Addr} {st : Sto} (h : callF P k i [.ro (zs.map .int)] [] = .ok (.bl true) st) {K : PySem.W.Frag} (hK : R.K = K) (H : Hp) (hS : SqL K H a (zs.map V.int)) :
    spF P R 1 k i [.ref a] H (fun v _ => v = .bl true) fun _ _ _ => False := by
  refine ⟨[], [], [], [.ro (zs.map .int)], script_SR, .cons (.ro ?_ (ints_rep zs)) .nil, rfl, ?_⟩
  · rcases hS with hS | hS
    · exact .inl ⟨hS, fun n e => (by simp at e), (by
        show a ∉ ([] : List Addr)
        simp)⟩
    · refine .inr ?_
      show KLst R.K a _
      rw [hK]
      exact hS
  · rw [h]
    intro m' H' v x s r
    cases r
    rfl
/-- the walk of a law by the small language -/
theorem walkM {l : PySem.W.OpenLaw} {n k : Nat} {q : Program} {loose : List Str} {XP : (Str → Option Value) → Heap → Prop} {YP : World → Heap → Prop} {d : DefRec} {P : Prog} {i : Nat} {fn : Fn}
    (hn : l.most = some n) (hn2 : n ≤ sizeLine) (hdf : d.params.defaults = []) (hr : Room (2 * k + 2) callerA) (hi : P.fn i = some fn) (h1 : fn.np = 1)
    (F : ∀ (w : World) (mg : Str → Option Value) (fa : Addr) (h : Heap), YP w h → h.Ns mainGlobals mg → mg d.name = some (.ref fa) →
      ∃ (K : PySem.W.Frag) (R : RC) (G : GI), K.In h ∧ R.fa i = some fa ∧ ∀ base : Heap, K.In base → base.Ns mainGlobals mg → base.NoLimit → ProgOk l.prog w K mg base R P G)
    (plain : ∀ zs : List Int, zs.length ≤ n → (∀ z ∈ zs, Builtin.Int.intBits z ≤ 1048576) → ∃ st, callF P k i [.ro (zs.map .int)] [] = .ok (.bl true) st) :
    PySem.W.WalkO q loose XP YP l.row.toRowW d [] (fun f vs => PySem.call f vs) := by
  refine Att.attach_callB hn hdf fun w s₀ s₁ mg mb fa o pm cd doc a vs ns T Y ho hd hcd hmg hobj hints hlen hbits hg => ?_
  obtain ⟨K, R, G, kin, hfa, po⟩ := F w mg fa _ Y T.T.g hmg
  obtain ⟨st, hst⟩ := plain ns hlen hbits
  refine lawG (k := 2 * k + 2) (sp := spF P R 1 k i) kin T.T.g T.T.b T.T.builtins T.T.nolimit hg hobj hints (Nat.le_trans hlen hn2) hr (fun base kb nb nl => ?_) fun H hS => ?_
  · obtain ⟨fn', fd, ps, g1, g2, g3⟩ := fn_all (po base kb nb nl) k i fa hfa
    rw [hi] at g1
    cases g1
    have l1 : ps.length = 1 := by rw [g2.np, h1]
    rw [l1] at g3
    exact ⟨fd, ps, g3, g2.binds, l1⟩
  · by_cases hb : ∃ base : Heap, K.In base ∧ base.Ns mainGlobals mg ∧ base.NoLimit
    · obtain ⟨base, kb, nb, nl⟩ := hb
      exact law_prom hst (po base kb nb nl).hK H hS
    · exact absurd ⟨_, kin, T.T.g, T.T.nolimit⟩ hb
end Mini
end
section
set_option linter.all false
set_option autoImplicit false
set_option maxRecDepth 100000
set_option maxHeartbeats 1000000
/-! The head's facts, as the small language needs them. -/
namespace Mini
open PySem PySem.Spec PyProof.Rows L2 _root_.He
def rcOf (K : PySem.W.Frag) (fn : List (Nat × DefD)) (cls : List (Nat × Str)) (kl : List (Nat × Str × List Str)) : RC := { K := K, fa := fun i => (fn.lookup i).map fun d => fAd K d.at_, ca := fun i => (cls.lookup i).map (ga K), ka := fun c => (kl.lookup c).map fun p => (ga K p.1, p.2) }
abbrev SupV : Type := Option (Str × Str × Arguments × FuncBody × Scope × Addr × List Str × Addr × Value)
/-- the __init__ of an own class -/
def supV (K : PySem.W.Frag) (x : Str) : SupV := match K.lookup (ma K (ga K x) "__init__") with
  | some ⟨_, _, .func fd, _⟩ => some (fd.name, fd.qualname, fd.params, fd.body, fd.scope, fd.globals, fd.closure.map (·.1), fd.builtins, fd.defaults)
  | _ => none
/-- a class and its __init__: the name, the text -/
structure SupD where
  x : Str
  qual : Str
  params : Arguments
  body : List Stmt
  scope : Scope
def SupD.val (d : SupD) : SupV := some ("__init__", d.qual, d.params, .stmts d.body, d.scope, mainGlobals, ["__class__"], builtinsNs, .none)
abbrev AlM : Type := AlD × List SupV
def valM (fn : List DefD) (sp : List SupD) : AlM := (valD fn, sp.map SupD.val)
def obsM (chk : PySem.W.Frag → Bool) (fn : List DefD) (sp : List SupD) (K : PySem.W.Frag) : AlM := ((chk K && fn.all fun d => d.ok K, fn.map fun d => fnW K d.at_), sp.map fun d => supV K d.x)
/-- the defs without their numbers -/
def dOf (fn : List (Nat × DefD)) : List DefD := fn.map (·.2)
def obsMG (n : Nat) (chk : PySem.W.Frag → Bool) (fn : List DefD) (sp : List SupD) (g : Addr → Option Obj) : AlM := obsM chk fn sp (frG g (cStatics :: asD g n))
def hookM (n : Nat) (chk : PySem.W.Frag → Bool) (fn : List DefD) (sp : List SupD) : PySem.W.Hook where
  α := AlM
  obs := fun s => obsMG n chk fn sp s.heap.get?
  val := fun _ => valM fn sp
  says := fun _ h => ∃ K : PySem.W.Frag, K.In h ∧ obsM chk fn sp K = valM fn sp
  of := fun _ _ e => ⟨_, frG_in, e⟩
  keeps := fun _ _ _ ⟨K, hK, c⟩ k => ⟨K, PySem.W.Frag.In.keeps hK k, c⟩
theorem obsMG_eq {n : Nat} {chk : PySem.W.Frag → Bool} {fn : List DefD} {sp : List SupD} {g : Addr → Option Obj} {s : Shared} (h : ∀ a, g a = s.heap.get? a) : obsMG n chk fn sp g = (hookM n chk fn sp).obs s := by
  have e : g = s.heap.get? := funext h
  rw [e] <;> rfl
/-! ### the facts -/
/-- a constant of the module: a number, a text, a tuple of such -/
def conB (K : PySem.W.Frag) (x : Str) (d : Mini.D) : Bool := match d with
  | .int i => (Fa.int x i).ok K
  | .str s => (Fa.str x ⟨s.toArray⟩).ok K
  | .ct xs => (Fa.glo x).ok K && xs.all flatD && (match K.lookup (ga K x) with
      | some ⟨.type c, _, .seq its _, _⟩ => decide (c = "tuple") && (decide (its.size ≤ sizeLine) && relAll (xs.map fun d => match d with
          | .int i => V.int i
          | .str s => .str ⟨s.toArray⟩
          | .bl b => .bl b
          | _ => .non) its.toList)
      | _ => false)
  | _ => false
theorem conB_ok {K : PySem.W.Frag} {h : Heap} {mg : Str → Option Value} (X : K.In h) (Gn : h.Ns mainGlobals mg) {x : Str} {d : Mini.D} (c : conB K x d = true) {R : RC} (hR : R.K = K) : ∃ u v, mg x = some u ∧ RelV v u ∧ ∀ hd m st H, Rep (R.w hd) m st H d v := by
  unfold conB at c
  split at c
  · obtain ⟨t, e⟩ := int_ok X Gn c
    exact ⟨_, .int _, e, ⟨t, rfl⟩, fun hd m st H => .int _⟩
  · obtain ⟨t, e⟩ := str_ok X Gn c
    exact ⟨_, .str _, e, ⟨t, rfl⟩, fun hd m st H => .str _⟩
  · rename_i xs
    simp only [Bool.and_eq_true] at c
    obtain ⟨⟨c1, c2⟩, c3⟩ := c
    refine ⟨_, .ref (ga K x), glo_ok X Gn c1, rfl, fun hd m st H => ?_⟩
    split at c3
    · rename_i c0 d0 its n0 sl q
      simp only [Bool.and_eq_true, decide_eq_true_eq] at c3
      obtain ⟨h1, h2, h3⟩ := c3
      subst h1
      refine .ct (vs := xs.map fun d => match d with
          | .int i => V.int i
          | .str s => .str ⟨s.toArray⟩
          | .bl b => .bl b
          | _ => .non) ?_ ?_
      · show KTup R.K _ _
        rw [hR]
        exact ⟨_, its, n0, q, rfl, rfl, h2, relAll_ok h3⟩
      · have gen : ∀ l : List Mini.D, l.all flatD = true → Reps (R.w hd) m st H l (l.map fun d => match d with
            | .int i => V.int i
            | .str s => .str ⟨s.toArray⟩
            | .bl b => .bl b
            | _ => .non) := fun l => by
          induction l with
          | nil => exact fun _ => .nil
          | cons y ys ih =>
            intro hl
            simp only [List.all_cons, Bool.and_eq_true] at hl
            refine .cons ?_ (ih hl.2)
            cases y <;> first | exact .non | exact .int _ | exact .str _ | exact .bl _ | (simp [flatD] at hl)
        exact gen xs c2
    · cases c3
  · cases c
/-- what is asked of the module, but own exceptions with an own __init__ -/
def facB (cs : Clss) (G : GI) (fn : List (Nat × DefD)) (cls : List (Nat × Str)) (kl : List (Nat × Str × List Str)) (K : PySem.W.Frag) : Bool :=
  (G.fns.all fun p => (Fa.glo p.1).ok K) && (G.bts.all fun x => (Fa.free x).ok K) && (G.cns.all fun p => conB K p.1 p.2) && (G.pls.all fun p => decide (cls.lookup p.2 = some p.1) && (Fa.glo p.1).ok K && (Fa.exc p.1).ok K && (match cs[p.2]? with
    | some kk => kk.flds.isEmpty
    | none => false)) && (G.ecs.all fun p => (Fa.glo p.1).ok K && cls.all fun q => (Fa.exm q.2 p.1 (isA cs q.1 p.2)).ok K) &&
  (G.xfs.all fun p => match cls.lookup p.1 with
    | some x => xfB K (ga K x) && decide (PySem.W.findIn K (.ref (ga K x)) p.2 = some none)
    | none => false) &&
  decide (PySem.W.nsIn K cStatics "sys.int_max_str_digits" = some none) &&
  (kl.all fun p => (Fa.cls p.2.1).ok K && p.2.2.all (fun f => (Fa.noat p.2.1 f).ok K) && decide p.2.2.Nodup && decide (p.2.2.length < 1000)) &&
  (G.kfs.all fun p => match kl.lookup p.1 with
    | some q => decide (q.2 = p.2)
    | none => true) &&
  (G.kms.all fun p => match kl.lookup p.1.1, fn.lookup p.2 with
    | some q, some d => decide (d.at_ = (q.1, some p.1.2)) && (Fa.meth q.1 p.1.2).ok K && decide (p.1.2 ∉ q.2)
    | _, _ => false) &&
  (G.kls.all fun p => match kl.lookup p.2 with
    | some q => decide (q.1 = p.1) && (Fa.glo p.1).ok K && (Fa.mkr p.1).ok K && (match G.kms.lookup (p.2, ("__init__" : Str)) with
      | some i => (match fn.lookup i with
        | some d => decide (d.at_ = (p.1, some ("__init__" : Str)))
        | none => false)
      | none => false)
    | none => false)
/-- a def's own conditions -/
structure DefS (G : GI) (d : DefD) (f : Fn) : Prop where
  ex : ∃ N ps : List Str, chkSs G f.body ⟨N, d.scope, true⟩ d.body = true ∧ C8.scC N ps d.scope = true ∧ N.length = f.nn ∧ ps.length = f.np ∧ d.dfl = [] ∧ d.kwd = [] ∧
    ∀ (kV doc pm : Value) (an : Option Addr) (cdv ct : Value) (us : List Value), us.length = ps.length → bindArgs (PySem.W.fnOf d.name d.qual d.params d.body d.scope .none kV doc pm an cdv ct) ⟨us, []⟩ = pure (ps.zip us)
inductive DefsS (G : GI) : List (Nat × DefD) → List (Nat × Fn) → Prop
  | nil : DefsS G [] []
  | cons {n : Nat} {d : DefD} {f : Fn} {ds : List (Nat × DefD)} {fs : List (Nat × Fn)} : DefS G d f → DefsS G ds fs → DefsS G ((n, d) :: ds) ((n, f) :: fs)
theorem DefsS.get {G : GI} {i : Nat} {d : DefD} : ∀ {ds : List (Nat × DefD)} {fs : List (Nat × Fn)}, DefsS G ds fs → ds.lookup i = some d → ∃ f, fs.lookup i = some f ∧ DefS G d f
  | [], [], .nil, e => by cases e
  | (n, d') :: ds, (_, f) :: fs, .cons h t, e => by
    rw [List.lookup_cons] at e ⊢
    split at e
    · cases e
      exact ⟨f, rfl, h⟩
    · exact DefsS.get t e
theorem lookup_mem {α : Type} : ∀ {l : List (Str × α)} {x : Str} {v : α}, l.lookup x = some v → (x, v) ∈ l
  | [], _, _, h => by cases h
  | (y, u) :: l, x, v, h => by
    rw [List.lookup_cons] at h
    split at h
    · rename_i e
      cases h
      rw [eq_of_beq e]
      exact List.mem_cons_self
    · exact List.mem_cons_of_mem _ (lookup_mem h)
theorem lookup_memN {α : Type} : ∀ {l : List (Nat × α)} {x : Nat} {v : α}, l.lookup x = some v → (x, v) ∈ l
  | [], _, _, h => by cases h
  | (y, u) :: l, x, v, h => by
    rw [List.lookup_cons] at h
    split at h
    · rename_i e
      cases h
      rw [eq_of_beq e]
      exact List.mem_cons_self
    · exact List.mem_cons_of_mem _ (lookup_memN h)
theorem lookup_memG {α β : Type} [BEq α] [LawfulBEq α] : ∀ {l : List (α × β)} {x : α} {v : β}, l.lookup x = some v → (x, v) ∈ l
  | [], _, _, h => by cases h
  | (y, u) :: l, x, v, h => by
    rw [List.lookup_cons] at h
    split at h
    · rename_i e
      cases h
      rw [eq_of_beq e]
      exact List.mem_cons_self
    · exact List.mem_cons_of_mem _ (lookup_memG h)
theorem digits_ok {K : PySem.W.Frag} {h : Heap} (X : K.In h) (nl : h.NoLimit) (e : PySem.W.nsIn K cStatics "sys.int_max_str_digits" = some none) : h.NoDigits := by
  obtain ⟨mc, h1, h2⟩ := nl
  exact ⟨mc, h1, PySem.W.ns_none_of X h1 e⟩
theorem progOk {prg : Program} {w : World} {K : PySem.W.Frag} {mg : Str → Option Value} {base : Heap} {fn : List (Nat × DefD)} {cls : List (Nat × Str)} {kl : List (Nat × Str × List Str)} {P : Prog} {G : GI} {chk : PySem.W.Frag → Bool} {sp : List SupD} (X : K.In base) (Gn : base.Ns mainGlobals mg) (nl : base.NoLimit) (c : obsM chk (dOf fn) sp K = valM (dOf fn) sp) (hf : chk K = true → facB P.cs G fn cls kl K = true)
    (hd : DefsS G fn P.fns) (hn : ∀ x i, G.fns.lookup x = some i → ∃ d, fn.lookup i = some d ∧ d.at_ = (x, none))
    (hi : ∀ x ci, G.ins.lookup x = some ci → ∀ Y : Cx, Y.prog = prg → Y.w = w → Y.K = K → Y.mg = mg → Y.base = base → Room 2 Y.A → InX Y (rcOf K fn cls kl) P.cs ci x) : ProgOk prg w K mg base (rcOf K fn cls kl) P G := by
  have c0 := ba (show (chk K && (dOf fn).all fun d => d.ok K) = true from congrArg (fun z : AlM => z.1.1) c)
  have e0 : (dOf fn).map (fun d => fnW K d.at_) = (dOf fn).map DefD.val := congrArg (fun z : AlM => z.1.2) c
  have f0 := hf c0.1
  unfold facB at f0
  simp only [Bool.and_eq_true, List.all_eq_true] at f0
  obtain ⟨⟨⟨⟨⟨⟨⟨⟨⟨⟨f1, f2⟩, f3⟩, f4⟩, f5⟩, f6⟩, f7⟩, f8⟩, f9⟩, f10⟩, f11⟩ := f0
  refine ⟨rfl, fun i f h => ?_, fun x i h => ?_, fun x d h => ?_, fun x h => ?_, digits_ok X nl (of_decide_eq_true f7), ?_, fun x ci h => ?_, hi, fun x ci h => ?_, fun ci f h => ?_⟩
  · have h : (fn.lookup i).map (fun d => fAd K d.at_) = some f := h
    cases hdi : fn.lookup i with
    | none =>
      rw [hdi] at h
      cases h
    | some d =>
      rw [hdi] at h
      cases h
      obtain ⟨g, h1, h2⟩ := hd.get hdi
      obtain ⟨N, ps, k1, k2, k3, k4, k5, k6, k7⟩ := h2.ex
      have hm : d ∈ dOf fn := List.mem_map.mpr ⟨(i, d), lookup_memN hdi, rfl⟩
      obtain ⟨j, hj⟩ := List.mem_iff_getElem?.mp hm
      have e2 : ((dOf fn).map fun d => fnW K d.at_)[j]? = ((dOf fn).map DefD.val)[j]? := by rw [e0]
      rw [List.getElem?_map, List.getElem?_map, hj] at e2
      obtain ⟨fd, F⟩ := DefD.funD (Option.some.inj e2) (List.all_eq_true.mp c0.2 d hm)
      have d1 : d.dvs K = [] := by
        unfold DefD.dvs
        rw [k5]
        rfl
      have d2 : d.kws K = [] := by
        unfold DefD.kws
        rw [k6]
        rfl
      rw [d1, d2] at F
      have bn : Binds K fd ps [] := F.bindsN k7
      obtain ⟨oc, od, dV, kV, doc, pm, an, cdv, ct, osl, q1, q2, q3, _, _⟩ := F.ex
      exact ⟨g, fd, ps, h1, ⟨⟨_, _, _, _, _, dV, kV, doc, pm, cdv, ct, oc, an, od, osl, N, q1, q2, q3, C8.fnScope_by k2, k3, k1⟩, k4, F.kp, bn⟩⟩
  · obtain ⟨d, h1, h2⟩ := hn x i h
    refine ⟨ga K x, glo_ok X Gn (f1 _ (lookup_mem h)), ?_⟩
    show (fn.lookup i).map _ = _
    rw [h1]
    show some (fAd K d.at_) = _
    rw [h2]
    rfl
  · exact conB_ok X Gn (f3 _ (lookup_mem h)) rfl
  · exact free_ok X Gn (f2 _ h)
  · have kl_of : ∀ {c C names}, (rcOf K fn cls kl).ka c = some (C, names) → ∃ x, kl.lookup c = some (x, names) ∧ C = ga K x := fun {c C names} h => by
      have h : (kl.lookup c).map (fun p => (ga K p.1, p.2)) = some (C, names) := h
      cases e : kl.lookup c with
      | none =>
        rw [e] at h
        cases h
      | some p =>
        obtain ⟨x, ns⟩ := p
        rw [e] at h
        cases h
        exact ⟨x, rfl, rfl⟩
    refine ⟨fun c C names h => ?_, fun c fs C names h k => ?_, fun c m i h C names k => ?_, fun x c h => ?_⟩
    · obtain ⟨x, e, rfl⟩ := kl_of h
      obtain ⟨⟨⟨g1, g2⟩, g3⟩, g4⟩ := f8 _ (lookup_memG e)
      exact ⟨of_decide_eq_true g3, of_decide_eq_true g4, cls_ok g1, fun f hf => eqO_ok (g2 f hf)⟩
    · obtain ⟨x, e, rfl⟩ := kl_of k
      have z := f9 _ (lookup_memG h)
      dsimp only at z
      rw [e] at z
      exact of_decide_eq_true z
    · obtain ⟨x, e, rfl⟩ := kl_of k
      have z := f10 _ (lookup_memG h)
      dsimp only at z
      rw [e] at z
      cases e2 : fn.lookup i with
      | none =>
        rw [e2] at z
        cases z
      | some d =>
        rw [e2] at z
        simp only [Bool.and_eq_true, decide_eq_true_eq] at z
        obtain ⟨⟨z1, z2⟩, z3⟩ := z
        have cl := (f8 _ (lookup_memG e)).1.1.1
        refine ⟨cls_ok cl, z3, fAd K d.at_, ?_, ?_⟩
        · show (fn.lookup i).map _ = _
          rw [e2]
          rfl
        · rw [z1]
          exact meth_ok z2
    · have z := f11 _ (lookup_mem h)
      dsimp only at z
      cases e : kl.lookup c with
      | none =>
        rw [e] at z
        cases z
      | some q =>
        obtain ⟨y, names⟩ := q
        rw [e] at z
        simp only [Bool.and_eq_true, decide_eq_true_eq] at z
        obtain ⟨⟨⟨z1, z2⟩, z3⟩, z4⟩ := z
        subst z1
        split at z4
        · rename_i i ei
          split at z4
          · rename_i d ed
            have z4 := of_decide_eq_true z4
            refine ⟨ga K y, names, i, fAd K d.at_, ?_, glo_ok X Gn z2, ei, ?_, ?_⟩
            · show (kl.lookup c).map _ = _
              rw [e]
              rfl
            · show (fn.lookup i).map _ = _
              rw [ed]
              rfl
            · rw [z4]
              exact mkr_ok z3
          · cases z4
        · cases z4
  · have z := f4 _ (lookup_mem h)
    obtain ⟨⟨⟨z1, z2⟩, z3⟩, z4⟩ := z
    have z1 := of_decide_eq_true z1
    refine ⟨ga K x, ?_, ?_, ?_⟩
    · show (cls.lookup ci).map (ga K) = _
      have z1 : cls.lookup ci = some x := z1
      rw [z1]
      rfl
    · dsimp only at z4
      split at z4
      · rename_i kk ek
        exact ⟨kk, ek, by simpa using z4⟩
      · cases z4
    · obtain ⟨g1, g2, g3, g4⟩ := exc_ok z3
      exact ⟨⟨_, _, _, _, ⟨F.excBase_ValueError⟩, g1⟩, glo_ok X Gn z2, g2, g3, g4⟩
  · obtain ⟨z1, z2⟩ := f5 _ (lookup_mem h)
    refine ⟨_, glo_ok X Gn z1, fun j C hj => ?_⟩
    have hj : (cls.lookup j).map (ga K) = some C := hj
    cases hc : cls.lookup j with
    | none =>
      rw [hc] at hj
      cases hj
    | some y =>
      rw [hc] at hj
      cases hj
      exact exm_ok (z2 (j, y) (lookup_memN hc))
  · have z := f6 _ (lookup_memN h)
    dsimp only at z
    split at z
    · rename_i x ex
      simp only [Bool.and_eq_true, decide_eq_true_eq] at z
      refine ⟨ga K x, ?_, xfB_ok z.1, z.2⟩
      show (cls.lookup ci).map (ga K) = _
      rw [ex]
      rfl
    · cases z
end Mini
end
section
set_option linter.all false
set_option autoImplicit false
set_option maxRecDepth 100000
set_option maxHeartbeats 1000000
/-! An own exception under a class over ValueError whose __init__ says super().__init__(x): ValueError.__init__ bound. -/
namespace Mini
namespace VE
open PySem PySem.Spec PySem.W PySem.Calls PyProof.Rows PySem.HandSPX
/-- ValueError.__init__ bound to an instance -/
abbrev mw (e : Addr) : Obj := { cls := .type "method-wrapper", dict := none, data := .fields #[.builtin "ValueError.__init__", .ref e], slots := #[] }
theorem isWD : typeOf (.builtin "ValueError.__init__") = pure (.type "wrapper_descriptor") := by
  show builtinType _ = _
  rw [builtinType_eq_fast]
  kernel_rfl
theorem nameOf : (kfb_private% "nameAndClass") (Value.builtin "ValueError.__init__") = (pure (("__init__" : Str), Value.type "ValueError") : Sem (Str × Value)) := by
  kernel_rfl
theorem argsWD (u v z : Value) : argsOk "wrapper_descriptor.__get__" ⟨[u, v, z], []⟩ := by
  unfold argsOk
  kernel_rfl
section
variable {prog : Program} {w : World} {M : Model} {A : Around} {E : Value → Shared → Prop} {hp : Heap} {g : Array GenState} {d : Drawn} {t : Nat} {os : OsState}
theorem getWD {e C : Addr} {P : Fin → Shared → Prop} (isin : W.Looks M hp (isInstance (.ref e) (.type "ValueError")) true) (q : P (.done (.ret (.ref hp.objs.size))) ⟨hp.push (mw e), g, d, t, os⟩) :
    wpAny M A (Builtin.«wrapper_descriptor.__get__» ⟨[.builtin "ValueError.__init__", .ref e, .ref C], []⟩) P E ⟨hp, g, d, t, os⟩ := by
  unfold Builtin.«wrapper_descriptor.__get__»
  refine wpAny_bind (wpAny_of_eq (a := (.builtin "ValueError.__init__", some (.ref e), some (.ref C))) (by first | rfl | kernel_rfl) ?_)
  show wpAny M A ((kfb_private% "checkInstance") (.builtin "ValueError.__init__") (.ref e) >>= fun _ => newFields "method-wrapper" [.builtin "ValueError.__init__", .ref e] >>= fun r => ret r) P E _
  refine wpAny_bind ?_
  show wpAny M A ((kfb_private% "nameAndClass") (.builtin "ValueError.__init__") >>= _) _ E _
  refine wpAny_bind (wpAny_of_eq nameOf ?_)
  show wpAny M A (isInstance (.ref e) (.type "ValueError") >>= _) _ E _
  refine wpAny_bind (isin.at (KFB.if_not rfl (wpAny_pure ?_)))
  exact wpAny_bind (wpAny_newObj_type (wpAny_pure q))
/-- the look of a super object for __init__ -/
theorem superGet {so D e C : Addr} {l₀ l : List Value} {K : Frag} {name : Str} {tk : Tok} {Q : Fin → Shared → Prop} (sup : hp.get? so = some { cls := .type "super", dict := none, data := .fields #[.ref D, .ref e, .ref C], slots := #[] })
    (opq : W.Looks (model prog w) hp (opaqueClassAbove (.ref C)) none) (mro : W.Looks (model prog w) hp (mroOf (.ref C)) l₀) (cut : (l₀.dropWhile (· != .ref D)).drop 1 = l) (kin : K.In hp) (found : alongIn K name l = some (some (.builtin "ValueError.__init__")))
    (ne : e ≠ C) (nc : (name == ("__class__" : Str)) = false) (isin : W.Looks (model prog w) hp (isInstance (.ref e) (.type "ValueError")) true) (q : Q (.done (.ret (.ref hp.objs.size))) ⟨hp.push (mw e), g, d, t, os⟩) :
    wpAny (model prog w) A (Builtin.«super.__getattribute__» ⟨[.ref so, .str name tk], []⟩) Q E ⟨hp, g, d, t, os⟩ := by
  have wd := ESX.slot_wd.lookup
  have neB : (Value.ref e == Value.ref C) = false := by
    simp [ne]
  have ty := isWD
  have tyS : Shared.TypeIs ⟨hp, g, d, t, os⟩ (.builtin "ValueError.__init__") "wrapper_descriptor" := isWD
  have dat : ({ cls := .type "super", dict := none, data := .fields #[.ref D, .ref e, .ref C], slots := #[] } : Obj).data = .fields #[.ref D, .ref e, .ref C] := rfl
  have at0 : (#[.ref D, .ref e, .ref C] : Array Value)[0]? = some (.ref D) := rfl
  have at1 : (#[.ref D, .ref e, .ref C] : Array Value)[1]? = some (.ref e) := rfl
  have at2 : (#[.ref D, .ref e, .ref C] : Array Value)[2]? = some (.ref C) := rfl
  unfold Builtin.«super.__getattribute__»
  repeat (first
    | (with_reducible refine wpAny_field sup dat at0 ?_)
    | (with_reducible refine wpAny_field sup dat at1 ?_)
    | (with_reducible refine wpAny_field sup dat at2 ?_)
    | (with_reducible refine ks_wpAny_notOpaque opq ?_)
    | (with_reducible refine Looks.at mro ?_; rw [cut])
    | (refine ks_forIn_along kin (fun _ _ => rfl) rfl ?_ found)
    | (with_reducible refine wpAny_call_entry ESX.slot_wd tyS ESX.entry_wd ?_ (argsWD _ _ _))
    | (with_reducible refine getWD isin ?_)
    | (with_reducible refine ⟨_, rfl, ?_⟩)
    | (simp only [nc, neB, Bool.or_false, Bool.false_eq_true, if_false])
    | wp_step
    | dsimp only)
  all_goals exact q
theorem superMeth {so D e C : Addr} {l₀ l : List Value} {K : Frag} {name : Str} {pl : Sem Bool} {Q : Value × List Value → Shared → Prop} (sup : hp.get? so = some { cls := .type "super", dict := none, data := .fields #[.ref D, .ref e, .ref C], slots := #[] })
    (opq : W.Looks (model prog w) hp (opaqueClassAbove (.ref C)) none) (mro : W.Looks (model prog w) hp (mroOf (.ref C)) l₀) (cut : (l₀.dropWhile (· != .ref D)).drop 1 = l) (kin : K.In hp) (found : alongIn K name l = some (some (.builtin "ValueError.__init__")))
    (ne : e ≠ C) (nc : (name == ("__class__" : Str)) = false) (isin : W.Looks (model prog w) hp (isInstance (.ref e) (.type "ValueError")) true) (q : Q (.ref hp.objs.size, []) ⟨hp.push (mw e), g, d, t + 1, os⟩) :
    wpAny (model prog w) A (getMethod (.ref so) name pl) Q E ⟨hp, g, d, t, os⟩ := by
  have lk := F.ks_slot_super_ga.lookup
  have can := F.ks_canon_super_ga
  have tyS : ∀ t', (⟨hp, g, d, t', os⟩ : Shared).TypeIs (.ref so) "super" := fun _ => ⟨_, sup, rfl⟩
  unfold getMethod
  refine wpAny_bind (wpAny_specialOf (tyS _) lk ?_)
  show wpAny _ _ (if (Manifest.canonical "super.__getattribute__" != "object.__getattribute__") = true then _ else _) _ _ _
  rw [if_pos can]
  unfold getAttr getAttrBy
  refine wpAny_bind (wpAny_bind (wpAny_mkText (wpAny_holding (wpAny_bind (wpAny_typeOf (tyS _) (wpAny_bind (wpAny_of_eq lk ?_)))))))
  show wpAny _ _ (getAttrByItsOwn (.ref so) (.str name t) (.type "super") (.builtin "super.__getattribute__") true false) _ _ _
  unfold getAttrByItsOwn hookBefore callGetattribute boundAndCalled
  refine wpAny_bind (wpAny_of_eq (show (if onTheHeap (.type "super") then typeLookup (.type "super") "__getattr__" else pure none) = pure none from rfl) (wpAny_bind (wpAny_attempt (wpAny_holding ?_))))
  show wpAny _ _ (bindSpecial (.builtin "super.__getattribute__") (.ref so) >>= _) _ _ _
  refine wpAny_bind (wpAny_of_eq (F.ks_slot_super_ga.bind _) ?_)
  have run := superGet (A := A.in1.in1) (E := fun _ _ => False) (g := g) (d := d) (t := t + 1) (os := os) (tk := t) (Q := fun f s' => f = .done (.ret (.ref hp.objs.size)) ∧ s' = ⟨hp.push (mw e), g, d, t + 1, os⟩) sup opq mro cut kin found ne nc isin ⟨rfl, rfl⟩
  refine wpAny_mono (Q := fun v s' => v = .ref hp.objs.size ∧ s' = ⟨hp.push (mw e), g, d, t + 1, os⟩) (E := fun _ _ => False)
    (wpAny_call_entry F.ks_slot_super_ga (tyS _) F.ks_entry_super_ga (superGet sup opq mro cut kin found ne nc isin ⟨_, rfl, rfl, rfl⟩) (F.ks_gaArgs_super _ _)) (fun v s' hv => ?_) fun _ _ z => z.elim
  obtain ⟨rfl, rfl⟩ := hv
  exact wpAny_pure (wpAny_pure q)
end
section
variable {prog : Program} {w : World} {M : Model} {A : Around} {E : Value → Shared → Prop} {s : Shared}
theorem callMW {pos : Pos} {u e : Addr} {args : List (Bool × Sem Value)} {Q : Value → Shared → Prop} (plain : args.any (·.1) = false)
    (h : wpAny M A (evalArgs (.ref u) true args []) (fun a s₁ => s₁.heap.get? u = some (mw e) ∧ wpAny M A (call (.ref u) ([] ++ a.pos) a.kw) Q E s₁) E s) : wpAny M A (callWith pos (.ref u) [] args []) Q E s := by
  unfold callWith
  refine wpAny_bind (wpAny_holding (wpAny_mono h (fun a s₁ got => wpAny_bind (wpAny_standAt ?_)) fun _ _ z => z))
  obtain ⟨ho, run⟩ := got
  simp only [plain, List.any_nil, Bool.or_false]
  refine wpAny_bind (m := keeperOf (.ref u)) ?_
  unfold keeperOf
  refine wpAny_bind (wpAny_load ho ?_)
  simp only [mw, show (Value.type "method-wrapper" != Value.type "method") = true by decide,
    show (Value.type "method-wrapper" == Value.type "builtin_function_or_method" || Value.type "method-wrapper" == Value.type "method-wrapper") = true by decide, if_true]
  refine wpAny_pure (wpAny_bind (wpAny_mono run (fun r s₂ got => ?_) fun _ _ z => z))
  exact wpAny_bind (wpAny_holding (wpAny_point (wpAny_pure got)))
end
section
variable {prog : Program} {w : World} {A : Around} {E : Value → Shared → Prop} {hp : Heap} {g : Array GenState} {d : Drawn} {t : Nat} {os : OsState}
variable {nm q : Str} {C N : Addr} {bs bm : List Value} {hdct : Bool} {sn : List Str} {sub : List Value} {ab : Bool} {col : Option Bool} {dd : Option Addr} {k0 k1 k2 k3 k5 : Option Value}
theorem runMW {u e t0 : Addr} {rest : List Value} {Q : Value → Shared → Prop} (hC : hp.get? C = some (excClassObj nm q C N bs bm hdct sn sub ab col dd k0 k1 k2 k3 k5 "ValueError.__new__")) (he : hp.get? e = some (excO C t0)) (hu : hp.get? u = some (mw e)) (few : rest.length ≤ sizeLine)
    (k : ∀ h' t1, (∀ b o, b ≠ e → hp.get? b = some o → h'.get? b = some o) → h'.get? e = some (excO C t1) → Q .none ⟨h', g, d, t, os⟩) : wpAny (model prog w) A (call (.ref u) rest) Q E ⟨hp, g, d, t, os⟩ := by
  refine wpAny_call (codeAny_of_tree ?_)
  show wpAny _ A.in1 (callAny (.ref u) ⟨rest, []⟩) _ _ _
  simp only [callAny]
  refine wpAny_bind (wpAny_load hu ?_)
  simp only [mw, show (Value.type "method-wrapper" == Value.type "method" || Value.type "method-wrapper" == Value.type "builtin_function_or_method" || Value.type "method-wrapper" == Value.type "method-wrapper") = true by decide, if_true]
  refine W.KFB.if_so (by decide) (wpAny_bind (ESX.check_bound F.excBase_ValueError hC he rfl ?_))
  refine wpAny_bind (wpAny_pure (wpAny_pure ⟨Code.quiet_builtin _ (by decide +kernel), codeAny_builtin F.excBase_ValueError.initEntry ?_⟩))
  rw [Around.under_plainId F.excBase_ValueError.init.plain _]
  wp_walk
  refine k _ hp.objs.size (fun b o hb ho => ?_) ?_
  · rw [Heap.get?_update_other _ _ (Ne.symm hb)]
    exact Heap.get?_push_of_some _ ho
  · rw [Heap.get?_update_self _ (Heap.get?_push_of_some _ he) rfl]
    rfl
end
end VE
end Mini
end
section
set_option linter.all false
set_option autoImplicit false
set_option maxRecDepth 100000
set_option maxHeartbeats 1000000
/-! .. its __init__, walked; the exception that it makes. -/
namespace Mini
namespace VE
open PySem PySem.Spec PySem.W PySem.Calls PyProof.Rows PySem.HandSPX
/-- def __init__(self, pn): super().__init__(arg); self.fld = pn -/
def supBody (fld pn : Str) (arg : Expr) (p0 p1 p2 p3 p4 p5 p6 p7 p8 : Pos) : List Stmt := [.Expr (.Call (.Attribute (.Call (.Name "super" p0) [] [] p1) "__init__" p2) [arg] [] p3) p4, .Assign [.Attribute (.Name "self" p5) fld p6] (.Name pn p7) p8]
/-- the argument of super().__init__: it is read at pn's value v, and nothing changes but counts -/
def ArgOk (prog : Program) (w : World) (mg : Str → Option Value) (arg : Expr) (pn : Str) (sc : Scope) (v : Value) : Prop := ∀ (A : Around) (E : Value → Shared → Prop) (Q : Value → Shared → Prop) (env : PySem.Env) (m mb : Str → Option Value) (s : Shared), env.scope = sc →
  s.heap.Ns env.locals m → m pn = some v → s.heap.Ns env.globals mg → s.heap.Ns env.builtins mb → (∀ x : Str, x ≠ "__name__" → mb x = bootBuiltins x) → (∀ u t, Q u { s with toks := t }) → wpAny (model prog w) A (eval arg env) Q E s
structure SupT (prog : Program) (K : Frag) (C fI cda cc : Addr) (fld pn : Str) (arg : Expr) (sc : Scope) : Prop where
  oex : L2.OexC K C
  iC : findIn K (.ref C) "__init__" = some (some (.ref fI))
  tI : typeIn K (.ref fI) = some (.type "function")
  fn : ∃ (oc : Value) (od : Option Addr) (osl : Array (Option Value)) (fd : FuncData) (p0 p1 p2 p3 p4 p5 p6 p7 p8 : Pos) (ar : Arg), K.lookup fI = some ⟨oc, od, .func fd, osl⟩ ∧ fd.body = .stmts (supBody fld pn arg p0 p1 p2 p3 p4 p5 p6 p7 p8) ∧ fd.code = .ref cda ∧ codeIn K fd.code fd.qualname = true ∧
    fd.closure = [(("__class__" : Str), cc)] ∧ fd.globals = mainGlobals ∧ fd.builtins = builtinsNs ∧ fd.scope = sc ∧ sc.kind = .function ∧ sc.isCoroutine = false ∧ sc.isGenerator = false ∧ (∀ x ∈ sc.names, x.2 ≠ .cell) ∧ sc.names.lookup ("self" : Str) = some .local ∧ sc.names.lookup pn = some .local ∧
    sc.names.lookup ("super" : Str) = some .globalImplicit ∧ sc.names.lookup ("__class__" : Str) = some .free ∧ (fd.params.posonlyargs ++ fd.params.args).head? = some ar ∧ ar.arg = "self" ∧ (∀ x v : Value, bindArgs fd ⟨[x, v], []⟩ = pure [(("self" : Str), x), (pn, v)]) ∧ (∀ env, starEach [arg] env = [(false, eval arg env)]) ∧ (p2.endLine == p3.line) = true
  code : ∃ (ccl : Value) (cdd : Option Addr) (vs : Array Value) (ccs : Array (Option Value)) (file : Str) (tf : Tok), K.lookup cda = some ⟨ccl, cdd, .fields vs, ccs⟩ ∧ vs[2]? = some (.str file tf) ∧ ((prog.main.file : Str) == file) = true
  cell : ∃ (cl : Value) (cld : Option Addr) (csl : Array (Option Value)), K.lookup cc = some ⟨cl, cld, .cell (some (.ref C)), csl⟩
  sub : mroIn K C (.ref C) = some true
  sup : ks_superIn K C C "__init__" = some (some (.builtin "ValueError.__init__"))
  ve : mroIn K C (.type "ValueError") = some true
  opq : nsIn K cStatics "thirdparty.any" = some none
  noF : findIn K (.ref C) fld = some none
  pn2 : pn ≠ "self" ∧ (pn == ("__debug__" : Str)) = false
  top : (prog.main.scope.names.lookup ("super" : Str)).isSome = false
theorem ns_but {h h' : Heap} {L x : Addr} {m : Str → Option Value} {C t0 : Addr} (n : h.Ns L m) (hx : h.get? x = some (excO C t0)) (k : ∀ b o, b ≠ x → h.get? b = some o → h'.get? b = some o) : h'.Ns L m := by
  obtain ⟨o, es, ep, e, d, r⟩ := n
  refine ⟨o, es, ep, k L o (fun z => ?_) e, d, r⟩
  rw [z, hx] at e
  cases e
  cases d
theorem kin_but {K : Frag} {h h' : Heap} {x : Addr} (kin : K.In h) (hx : K.lookup x = none) (k : ∀ b o, b ≠ x → h.get? b = some o → h'.get? b = some o) : K.In h' := fun a o e => k a o (fun z => by
  rw [z, hx] at e
  cases e) (kin a o e)
section
variable {prog : Program} {w : World} {A : Around} {E : Value → Shared → Prop} {R : Result → Shared → Prop} {s : Shared} {K : Frag} {mg mb : Str → Option Value} {C fI cda cc : Addr} {fld pn : Str} {arg : Expr} {sc : Scope}
theorem supInit (T : SupT prog K C fI cda cc fld pn arg sc) {x t0 : Addr} {v : Value} (kin : K.In s.heap) (nsg : s.heap.Ns mainGlobals mg) (nsb : s.heap.Ns builtinsNs mb) (boot : ∀ x : Str, x ≠ "__name__" → mb x = bootBuiltins x) (noS : mg "super" = none) (nl : s.heap.NoLimit)
    (hx : s.heap.get? x = some (excO C t0)) (nx : K.lookup x = none) (room : A.depth < recursionLimit) (ha : ArgOk prog w mg arg pn sc v)
    (hq : ∀ h' tk dx t1, (∀ b o, b ≠ x → s.heap.get? b = some o → h'.get? b = some o) → h'.get? x = some { cls := .ref C, dict := some dx, data := .fields #[.ref t1, .none, .none, .none, .bool false, .none] } → s.heap.objs.size ≤ dx → dx ≠ x →
      h'.Ns1 dx (fun y => if y = fld then some v else none) → R (.ok (.ret .none)) { s with heap := h', toks := tk }) :
    codeAny (model prog w) A (.call (.ref fI) ⟨[.ref x, v], []⟩) R s := by
  obtain ⟨oc, od, osl, fd, p0, p1, p2, p3, p4, p5, p6, p7, p8, ar, ho, hbody, hcode, hcodeIn, hclo, hglob, hblt, hsc, hkind, hco, hgen, hcell, hself, hpn, hsup, hcls, hhead, har, hbind, hstar, hline⟩ := T.fn
  subst hsc
  obtain ⟨ccl, cdd, vs, ccs, file, tf, hcda, hvs, hfile⟩ := T.code
  obtain ⟨cl, cld, csl, hcc⟩ := T.cell
  obtain ⟨nm, q, N, bs, bm, sn, sub, ab, col, dd, k0, k1, k2, k3, k5, hC, hbm⟩ := T.oex.cls
  have hcl : clsIn K C = some { name := nm, bases := bs, mro := .ref C :: bm, ns := N, qualname := q, hasDict := true, slotNames := sn, subclasses := sub, abstract := ab, collection := col, hasDel := false } := by
    unfold clsIn
    rw [hC] <;> rfl
  refine ks_codeAny_call_defAt (binds := [(("self" : Str), .ref x), (pn, v)]) room (kin _ _ ho) rfl nl (codeRec_of kin hcodeIn) hbody (BindsTo.of_eq (hbind _ _)) hcell (fun y hy => ?_) (fun h₁ hn k₁ => ?_) hco hgen hkind
  · rcases List.mem_cons.mp hy with e | hy
    · rw [e]
      exact hself
    · rw [List.mem_singleton.mp hy]
      exact hpn
  have kin₁ : K.In h₁ := kin.keeps k₁
  have hx₁ := k₁ _ _ hx
  have neL : s.heap.objs.size ≠ x := Nat.ne_of_gt (Heap.lt_size hx)
  have mSelf : (fun y => ([(("self" : Str), Value.ref x), (pn, v)] : List (Str × Value)).reverse.lookup y) ("self" : Str) = some (.ref x) := by
    have z : ((("self" : Str)) == pn) = false := by simpa using (Ne.symm T.pn2.1)
    simp [List.lookup, z]
  have mPn : (fun y => ([(("self" : Str), Value.ref x), (pn, v)] : List (Str × Value)).reverse.lookup y) pn = some v := by
    simp [List.lookup]
  have inC : h₁.get? C = some _ := kin₁ _ _ hC
  have xneC : x ≠ C := fun z => by
    rw [z, inC] at hx₁
    cases hx₁
  have instVE : ∀ h' : Heap, K.In h' → h'.get? x = some (excO C t0) → W.Looks (model prog w) h' (isInstance (.ref x) (.type "ValueError")) true := fun h' k' e =>
    (show W.Looks (model prog w) h' (typeOf (.ref x)) (.ref C) from fun A Q E s k q => wpAny_typeOf_ref (k _ _ e) q).andThen (looks_mroIn k' T.ve)
  have inter : interactive (callEnv fd s.heap.objs.size fI) = false := by
    have z : (callEnv fd s.heap.objs.size fI).scope.kind = .function := hkind
    simp [interactive, z]
  unfold supBody
  refine ks_wpAt_execs_cons (ks_wpAt_Expr_any ?_ inter rfl)
  have few : methodCallForm 1 (backTo p3 (starEach [arg] (callEnv fd s.heap.objs.size fI))) [] = true := by
    rw [hstar]
    rfl
  refine ks_wpAt_MethodCall (pl := L2.plainOf (.Call (.Name "super" p0) [] [] p1) (callEnv fd s.heap.objs.size fI)) ?_ ?_
  rotate_left
  · show (do
      let ov ← attributeBase (.Call (.Name "super" p0) [] [] p1) "__init__" (callEnv fd s.heap.objs.size fI) (eval (.Call (.Name "super" p0) [] [] p1) (callEnv fd s.heap.objs.size fI))
      standAt p2.atName
      methodCall (.Call (.Name "super" p0) [] [] p1) "__init__" p2 p3 (callEnv fd s.heap.objs.size fI) ov 1 (backTo p3 (starEach [arg] (callEnv fd s.heap.objs.size fI))) []) = _
    simp only [L2.mcall_line few hline]
  refine ks_wpAt_super_base (f := fI) (cc := cda) (vs := vs) hsup hcls (by decide +kernel) rfl (kin₁ _ _ ho) rfl hhead hcode (kin₁ _ _ hcda) rfl hvs hfile T.top ?_
  have nsg₁ : h₁.Ns (callEnv fd s.heap.objs.size fI).globals mg := by
    show h₁.Ns fd.globals mg
    rw [hglob]
    obtain ⟨o, es, ep, e, d, r⟩ := nsg
    exact ⟨o, es, ep, k₁ _ _ e, d, r⟩
  have nsb₁ : h₁.Ns (callEnv fd s.heap.objs.size fI).builtins mb := by
    show h₁.Ns fd.builtins mb
    rw [hblt]
    obtain ⟨o, es, ep, e, d, r⟩ := nsb
    exact ⟨o, es, ep, k₁ _ _ e, d, r⟩
  refine ks_loadName_global hkind hsup (loadGlobal_builtin nsg₁ noS nsb₁ ((boot _ (by decide +kernel)).trans (show bootBuiltins "super" = some (.type "super") by decide +kernel)) ⟨rfl, ?_⟩)
  refine wpAny_loadName_free hkind hcls (c := cc) (by
    show fd.closure.lookup ("__class__" : Str) = some cc
    rw [hclo]
    rfl) (v := .ref C) ⟨_, kin₁ _ _ hcc, rfl⟩ ?_
  refine wpAny_loadName_local hkind (by
    rw [har]
    exact hself) hn (v := .ref x) (by
    rw [har]
    exact mSelf) ?_
  refine ks_wpAny_isType_cls inC rfl ⟨rfl, ?_⟩
  refine ks_wpAny_call_super inC rfl hx₁ rfl (fun c e => nomatch e) (looks_mroIn kin₁ T.sub) (fun h₂ hs₂ k₂ => ?_)
  -- the method of the super object
  have kin₂ : K.In h₂ := kin₁.keeps k₂
  have hx₂ := k₂ _ _ hx₁
  have sup := T.sup
  unfold ks_superIn at sup
  rw [hcl] at sup
  refine superMeth (l₀ := .ref C :: bm) hs₂ (looks_opaque kin₂ T.opq) (fun A Q E s k q => wpAny_bind ((looks_clsIn kin₂ hcl) A _ E s k (wpAny_pure q))) rfl kin₂ sup xneC (by decide +kernel) (instVE _ kin₂ hx₂) ?_
  rw [hstar]
  show wpAny _ _ (callWith p3 (.ref h₂.objs.size) [] [(false, if false = true then _ else eval arg _)] []) _ _ _
  refine callMW (e := x) rfl (evalArgs_plain (spliced_cons ?_))
  have k₃ : ∀ b o, h₂.get? b = some o → (h₂.push (mw x)).get? b = some o := fun b o e => Heap.get?_push_of_some _ e
  have up : ∀ {b : Addr} {m : Str → Option Value}, h₁.Ns b m → (h₂.push (mw x)).Ns b m := fun ⟨o, es, ep, e, d, r⟩ => ⟨o, es, ep, k₃ _ _ (k₂ _ _ e), d, r⟩
  refine ha _ _ _ _ _ mb _ rfl (up hn) mPn (up nsg₁) (up nsb₁) boot fun u t => ?_
  refine spliced_nil ⟨Heap.get?_push_size _ rfl, ?_⟩
  refine runMW (e := x) (t0 := t0) (k₃ _ _ (k₂ _ _ inC)) (k₃ _ _ hx₂) (Heap.get?_push_size _ rfl) (by
    show 1 ≤ sizeLine
    rw [sizeLine_eq]
    omega) (fun h₄ t1 k₄ hx₄ => ?_)
  -- self.fld = pn
  have all : ∀ b o, b ≠ x → h₁.get? b = some o → h₄.get? b = some o := fun b o hb e => k₄ b o hb (k₃ _ _ (k₂ _ _ e))
  have kin₄ : K.In h₄ := kin_but kin₁ nx all
  have hn₄ := ns_but hn hx₁ all
  refine wpAt_of_wpAny (wpAny_execs_cons (plainObj_wpAny_Assign_Attribute ?_))
  refine wpAny_Name (wpAny_loadName_local hkind hpn hn₄ mPn ?_) T.pn2.2
  refine wpAny_Name (wpAny_loadName_local hkind hself hn₄ mSelf ?_) (by decide)
  refine set_plain kin₄ (ox := excO C t1) (od := none) ⟨hx₄, rfl, rfl, trivial⟩ T.oex.sa ?_
  refine exc_osa kin₄ hx₄ hcl (show refsVE (.ref C :: bm) = true from hbm) rfl T.noF (fun h₅ tk₅ dx k₅ dn dne hx₅ hn₅ => ?_)
  have z : s.heap.objs.size ≤ h₄.objs.size := by
    have a1 := hn.lt
    obtain ⟨o, es, ep, e, _, _⟩ := hn₄
    exact Nat.le_of_lt (Heap.lt_size e)
  exact wpAny_execs_nil (hq h₅ tk₅ dx t1 (fun b o hb e => k₅ b o hb (all b o hb (k₁ b o e))) hx₅ (Nat.le_trans z dn) dne hn₅)
end
end VE
end Mini
end
section
set_option linter.all false
set_option autoImplicit false
set_option maxRecDepth 100000
set_option maxHeartbeats 1000000
/-! .. raised. -/
namespace Mini
namespace VE
open PySem PySem.Spec PySem.W PySem.Calls PyProof.Rows PySem.HandSPX
/-- a made one, its dict at d -/
structure MadeX (h h' : Heap) (e C d : Addr) (fld : Str) (v : Value) : Prop where
  keep : ∀ b o, h.get? b = some o → h'.get? b = some o
  new : h.objs.size ≤ e
  obj : ∃ oe vs, h'.get? e = some oe ∧ oe.cls = .ref C ∧ oe.dict = some d ∧ oe.data = .fields vs ∧ vs[1]? = some .none
  dnew : h.objs.size ≤ d
  dne : d ≠ e
  ns : h'.Ns1 d (fun y => if y = fld then some v else none)
section
variable {prog : Program} {w : World} {A : Around} {R : Result → Shared → Prop} {s : Shared} {K : Frag} {mg mb : Str → Option Value} {C fI cda cc : Addr} {fld pn : Str} {arg : Expr} {sc : Scope}
theorem supMade (T : SupT prog K C fI cda cc fld pn arg sc) {v : Value} (kin : K.In s.heap) (nsg : s.heap.Ns mainGlobals mg) (nsb : s.heap.Ns builtinsNs mb) (boot : ∀ x : Str, x ≠ "__name__" → mb x = bootBuiltins x) (noS : mg "super" = none) (nl : s.heap.NoLimit) (room : A.depth + 1 < recursionLimit)
    (ha : ArgOk prog w mg arg pn sc v) (hq : ∀ h' tk e d, MadeX s.heap h' e C d fld v → R (.ok (.ret (.ref e))) { s with heap := h', toks := tk }) : codeAny (model prog w) A (.call (.ref C) ⟨[v], []⟩) R s := by
  obtain ⟨nm, q, N, bs, bm, sn, sub, ab, col, dd, k0, k1, k2, k3, k5, hC, hbm⟩ := T.oex.cls
  obtain ⟨hp, g, dr, tk, os⟩ := s
  have up : ∀ b o, hp.get? b = some o → ((hp.push (kdv_tup [v])).push (excO C hp.objs.size)).get? b = some o := fun b o e => Heap.get?_push_of_some _ (Heap.get?_push_of_some _ e)
  have at_ : ((hp.push (kdv_tup [v])).push (excO C hp.objs.size)).get? (hp.objs.size + 1) = some (excO C hp.objs.size) := by heap_get
  have out : K.lookup (hp.objs.size + 1) = none := by
    cases e : K.lookup (hp.objs.size + 1) with
    | none => rfl
    | some o => exact absurd (Nat.lt_of_succ_lt (Heap.lt_size (show hp.get? (hp.objs.size + 1) = some o from kin _ _ e))) (Nat.lt_irrefl _)
  have nsUp : ∀ {b : Addr} {m : Str → Option Value}, hp.Ns b m → ((hp.push (kdv_tup [v])).push (excO C hp.objs.size)).Ns b m := fun ⟨o, es, ep, e, d, r⟩ => ⟨o, es, ep, up _ _ e, d, r⟩
  refine call_own F.excBase_ValueError (fun X => refsVE_contains X bm hbm) (kin _ _ hC) (looks_findIn kin T.iC) (fun self => bind_fn kin self T.tI) (by
    show 1 ≤ sizeLine
    rw [sizeLine_eq]
    omega) ?_
  refine supInit (s := ⟨(hp.push (kdv_tup [v])).push (excO C hp.objs.size), g, dr, tk, os⟩) (mb := mb) T (kin.keeps up) (nsUp nsg) (nsUp nsb) boot noS (nl.keeps up) at_ out (by
    rw [L2.make_depth]
    exact room) ha fun h' tk' dx t1 k' hx dn dne hns => ?_
  have old : ∀ b o, hp.get? b = some o → h'.get? b = some o := fun b o e => k' b o (Nat.ne_of_lt (Nat.lt_succ_of_lt (Heap.lt_size e))) (up b o e)
  have big : hp.objs.size ≤ dx := Nat.le_trans (Nat.le_of_lt (Nat.lt_of_succ_lt (Heap.lt_size at_))) dn
  exact ⟨rfl, hq h' tk' (hp.objs.size + 1) dx ⟨old, Nat.le_succ _, ⟨_, _, hx, rfl, rfl, rfl, rfl⟩, big, dne, hns⟩⟩
end
end VE
open PySem PySem.Spec PyProof.Rows L2
theorem relO_one {fld : Str} {v : V} {u : Value} (r : RelV v u) (f : Str) : RelO (List.lookup f [(fld, v)]) (if f = fld then some u else none) := by
  rw [lookup_put]
  by_cases h : f = fld
  · rw [if_pos h, if_pos h]
    exact r
  · rw [if_neg h, if_neg h]
    exact True.intro
/-- C(e): the reading -/
def tSup (C : Addr) (fld : Str) (ok : V → Prop) (ta : TA) : L2.St → Hp → XK → Prop := fun σ H Q => ta σ H fun vs H1 => ∃ v, vs = [v] ∧ ok v ∧ ∀ d, H1 d = none → Q (.ref C) (some d) (upd H1 d (.xd [(fld, v)]))
theorem pmk_sup {X : Cx} {C fI cda cc : Addr} {fld pn x : Str} {arg a : Expr} {sc : Scope} {ok : V → Prop} {ta : TA} {p pos : Pos} {k : Nat} (T : VE.SupT X.prog X.K C fI cda cc fld pn arg sc) (hr : Room k X.A) (hm : X.mg x = some (.ref C)) (noS : X.mg "super" = none)
    (hok : ∀ v u, ok v → RelV v u → VE.ArgOk X.prog X.w X.mg arg pn sc u) (ha : PA X [a] ta) (hg : Gl X x) (hdb : (x == ("__debug__" : Str)) = false) (he : starEach [a] X.env = (false, eval a X.env) :: starEach [] X.env) :
    PMk X (.Call (.Name x p) [a] [] pos) (tSup C fld ok ta) := by
  intro pins s σ H Q I h
  refine wpAny_Call_Name_kw (ld_glob I hg hm ?_ hdb)
  refine PySem.W.callWith_K (h₀ := X.base) I.ok.mod.kin T.oex.kC (thn (ha.run pos pins s σ H _ I h) fun us s1 got => ?_) he rfl
  obtain ⟨vs, H1, I1, rel, v, ev, hv, q1⟩ := got
  subst ev
  refine ⟨I1.kIn, ?_⟩
  obtain ⟨u, rfl, ru⟩ := rel.one
  show wpAny _ _ (call (.ref C) [u]) _ _ _
  have lim := I1.nolimit
  have nsg : s1.heap.Ns mainGlobals X.mg := I1.mod.glob.keeps I1.bk
  obtain ⟨mb, nb, boot⟩ := I1.mod.blt
  have nsb : s1.heap.Ns builtinsNs mb := nb.keeps I1.bk
  obtain ⟨hp, g, dr, tk, os⟩ := s1
  refine wpAny_call (VE.supMade T I1.kIn nsg nsb boot noS lim (by have := hr.dp; omega) (hok v u hv ru) fun h' tk' e d M => ?_)
  show MkP X pins σ Q (.ref e) ⟨h', g, dr, tk', os⟩
  obtain ⟨oe, fv, hoe, hcl, hd, hdat, h1⟩ := M.obj
  have hns := M.ns
  obtain ⟨B, b1, b2⟩ := restrict h' fun b => decide (b ≠ e)
  have bk : ∀ b, b ≠ e → B.get? b = h'.get? b := fun b hb => b1 b (decide_eq_true hb)
  have be : B.get? e = none := b2 e (by simp)
  have old : ∀ b o, hp.get? b = some o → B.get? b = some o := fun b o z => (bk b (Nat.ne_of_lt (Nat.lt_of_lt_of_le (Heap.lt_size z) M.new))).trans (M.keep b o z)
  have obk : ObjOk X.prog X.w (upd H1 d (.xd [(fld, v)])) B d (.xd [(fld, v)]) := ⟨_, hns.at (fun o z => (bk d M.dne).trans z), fun f => relO_one ru f⟩
  have J : Inv X pins σ (upd H1 d (.xd [(fld, v)])) ⟨B, g, dr, tk', os⟩ := I1.laid (t' := tk') old M.dnew obk
  refine ⟨e, oe, fv, ⟨B, g, dr, tk', os⟩, _, .ref C, some d, rfl, J, fun b o z => ?_, be, hoe, ⟨hcl, hd⟩, hdat, h1, ?_, rfl, I1.bare, raises_own T.oex.exC T.oex.tyC, q1 d (I1.hok.fresh M.dnew)⟩
  · by_cases hb : b = e
    · have z : B.get? b = some o := z
      rw [hb, be] at z
      cases z
    · exact (bk b hb).symm.trans z
  · rw [upd_ne (Ne.symm M.dne)]
    exact I1.hok.fresh M.new
/-- the program's raise of such a class -/
theorem tM_sup {R : RC} {W : WX} {cs : Clss} {ci : Nat} {C : Addr} {k : Cls} {fld : Str} {ok : V → Prop} {g : Env → Sto → Res (List Mini.D)} (hk : cs[ci]? = some k) (hf : k.flds = [fld]) (hC : R.ca ci = some C)
    (hv : ∀ (R : RC) m st H d v, Rep R m st H d v → numOk k [d] = true → ok v) {σ : L2.St} {H : Hp} {Q : XK} (h : tM R cs ci g σ H Q) : tSup C fld ok (tA R W g) σ H Q := by
  obtain ⟨hd, m, env, st, s, er, q⟩ := h
  refine ⟨hd, m, env, st, s, er, ?_⟩
  cases e : g env st with
  | bad =>
    rw [e] at q
    exact q.elim
  | exc x st1 =>
    rw [e] at q
    exact q.elim
  | ok ds st1 =>
    rw [e] at q
    obtain ⟨k', fs, e1, en, e2, q⟩ := q
    rw [hk] at e1
    cases e1
    rw [hf] at e2
    rcases ds with _ | ⟨d, _ | ⟨d2, l⟩⟩
    · cases e2
    · cases e2
      intro m1 H1 vs x1 s1 r1
      obtain ⟨v, rfl, rv⟩ := r1.one
      refine ⟨v, rfl, hv _ _ _ _ _ _ rv en, fun a ha => ?_⟩
      have xn : Ext m1 st1 H1 m1 st1 (upd H1 a (.xd [(fld, v)])) := Ext.new ha
      exact q m1 _ _ _ (x1.trans xn) (s1.new ha) ⟨C, hC, rfl, .inr ⟨a, _, rfl, upd_same, s1.notLive ha, .cons (Rep.mono xn _ _ rv) .nil⟩⟩
    · cases e2
end Mini
end
section
set_option linter.all false
set_option autoImplicit false
set_option maxRecDepth 100000
set_option maxHeartbeats 1000000
/-! .. by facts about the module. -/
namespace Mini
open PySem PySem.Spec PyProof.Rows L2 _root_.He
/-! ### the argument of super().__init__ -/
theorem argOk_name {prog : Program} {w : World} {mg : Str → Option Value} {pn : Str} {p : Pos} {sc : Scope} {v : Value} (hk : sc.kind = .function) (hl : sc.names.lookup pn = some .local) (hd : (pn == ("__debug__" : Str)) = false) : VE.ArgOk prog w mg (.Name pn p) pn sc v := by
  intro A E Q env m mb s hs hn hm _ _ _ hq
  exact wpAny_Name (wpAny_loadName_local (by rw [hs]; exact hk) (by show env.scope.names.lookup pn = _; rw [hs]; exact hl) hn hm (hq v s.toks)) hd
theorem argOk_str {prog : Program} {w : World} {mg : Str → Option Value} {pn pre : Str} {j : Nat} {p1 p2 p3 p4 p5 : Pos} {sc : Scope} {i : Int} {t0 : Tok} (hk : sc.kind = .function) (hl : sc.names.lookup pn = some .local) (hd : (pn == ("__debug__" : Str)) = false) (hs : sc.names.lookup ("str" : Str) = some .globalImplicit) (hm : mg "str" = none)
    (hi : i.natAbs.log2 < 1920) (hz : pre.length + (toString i : Str).length ≤ sizeLine) : VE.ArgOk prog w mg (.BinOp (.Constant (.str pre) j p1) .Add (.Call (.Name "str" p2) [.Name pn p3] [] p4) p5) pn sc (.int i t0) := by
  intro A E Q env m mb s hsc hn hmm hg hb boot hq
  have kind : env.scope.kind = .function := by rw [hsc]; exact hk
  refine wpAny_BinOp (Calls.Constant_str ?_)
  refine wpAny_Call_Name_kw (Calls.Name_function_global kind (by show env.scope.names.lookup _ = _; rw [hsc]; exact hs) (Calls.loadGlobal_builtin hg hm hb ((boot _ (by decide)).trans (show bootBuiltins "str" = some (.type "str") by decide +kernel)) ?_) (by decide))
  refine PyProof.Rows.callWith_type1 (Calls.spliced_cons ?_) (by rfl) (by rfl)
  refine wpAny_Name (wpAny_loadName_local kind (by show env.scope.names.lookup pn = _; rw [hsc]; exact hl) hn hmm ?_) hd
  refine Calls.spliced_nil (PySem.P.str_of_int hi ?_)
  exact add_str (fun t' tk => hq _ _) hz
/-! ### the facts -/
def oexB (K : PySem.W.Frag) (C : Addr) : Bool := (match K.lookup C with
  | some ⟨.type "type", _, .cls cd, sl⟩ => (match cd.mro, sl.toList with
    | .ref C' :: bm, [_, _, _, _, some (.builtin n), _] => C' == C && n == "ValueError.__new__" && !cd.hasDel && cd.hasDict && PySem.HandSPX.refsVE bm
    | _, _ => false)
  | _ => false) && (decide (PySem.W.findIn K (.ref C) "__setattr__" = some (some (.builtin "object.__setattr__"))) && (decide (PySem.W.subIn K (.ref C) (.type "BaseException") = some true) &&
    (decide (PySem.W.typeIn K (.ref C) = some (.type "type")) && PySem.W.keepIn K (.ref C))))
theorem oexB_ok {K : PySem.W.Frag} {C : Addr} (h : oexB K C = true) : OexC K C := by
  unfold oexB at h
  simp only [Bool.and_eq_true, decide_eq_true_eq] at h
  obtain ⟨h1, h2, h3, h4, h5⟩ := h
  refine ⟨?_, h2, h3, h4, h5⟩
  split at h1
  · rename_i dd cd sl q
    split at h1
    · rename_i C' bm k0 k1 k2 k3 n k5 hm hs
      simp only [Bool.and_eq_true, beq_iff_eq, Bool.not_eq_true'] at h1
      obtain ⟨⟨⟨⟨rfl, rfl⟩, hdel⟩, hdct⟩, hbm⟩ := h1
      obtain ⟨nm, bs, mro, ns, qn, hd, sn, sub, ab, col, del⟩ := cd
      dsimp only at hm hdel hdct
      subst hm hdel hdct
      obtain ⟨l⟩ := sl
      dsimp only at hs
      subst hs
      exact ⟨nm, qn, ns, bs, bm, sn, sub, ab, col, dd, k0, k1, k2, k3, k5, q, hbm⟩
    · cases h1
  · cases h1
def supB (prog : Program) (K : PySem.W.Frag) (x fld : Str) : Bool :=
  oexB K (ga K x) && (decide (PySem.W.findIn K (.ref (ga K x)) "__init__" = some (some (.ref (ma K (ga K x) "__init__")))) && (decide (PySem.W.typeIn K (.ref (ma K (ga K x) "__init__")) = some (.type "function")) && ((match K.lookup (ma K (ga K x) "__init__") with
    | some ⟨_, _, .func fd, _⟩ => PySem.W.codeIn K fd.code fd.qualname && ((match fd.code with
        | .ref cda => (match K.lookup cda with
          | some ⟨_, _, .fields vs, _⟩ => (match (vs[2]? : Option Value) with
            | some (Value.str file _) => (prog.main.file : Str) == file
            | _ => false)
          | _ => false)
        | _ => false) && (match fd.closure with
        | [(_, cc)] => (match K.lookup cc with
          | some ⟨_, _, .cell (some (.ref D)), _⟩ => decide (D = ga K x)
          | _ => false)
        | _ => false))
    | _ => false) && (decide (PySem.W.mroIn K (ga K x) (.ref (ga K x)) = some true) && (decide (PySem.W.ks_superIn K (ga K x) (ga K x) "__init__" = some (some (.builtin "ValueError.__init__"))) && (decide (PySem.W.mroIn K (ga K x) (.type "ValueError") = some true) &&
    (decide (PySem.W.nsIn K cStatics "thirdparty.any" = some none) && (decide (PySem.W.findIn K (.ref (ga K x)) fld = some none) && ((Fa.free "super").ok K && (Fa.glo x).ok K)))))))))
/-- a look at the scope -/
def supSc (sc : Scope) (pn : Str) : Bool := decide (sc.kind = .function) && !sc.isCoroutine && !sc.isGenerator && sc.names.all (fun y => !decide (y.2 = .cell)) && decide (sc.names.lookup ("self" : Str) = some .local) && decide (sc.names.lookup pn = some .local) &&
  decide (sc.names.lookup ("super" : Str) = some .globalImplicit) && decide (sc.names.lookup ("__class__" : Str) = some .free) && !(pn == ("__debug__" : Str)) && decide (pn ≠ ("self" : Str))
theorem supT_of {prog : Program} {K : PySem.W.Frag} {d : SupD} {fld pn : Str} {arg : Expr} {p0 p1 p2 p3 p4 p5 p6 p7 p8 : Pos} {ar : Arg} (hb : supB prog K d.x fld = true) (hv : supV K d.x = d.val) (hbody : d.body = VE.supBody fld pn arg p0 p1 p2 p3 p4 p5 p6 p7 p8) (hsc : supSc d.scope pn = true)
    (hhead : (d.params.posonlyargs ++ d.params.args).head? = some ar) (har : ar.arg = "self") (hbind : ∀ fd : FuncData, fd.params = d.params → fd.defaults = .none → ∀ x v : Value, bindArgs fd ⟨[x, v], []⟩ = pure [(("self" : Str), x), (pn, v)]) (hstar : ∀ env, starEach [arg] env = [(false, eval arg env)]) (hline : (p2.endLine == p3.line) = true)
    (htop : (prog.main.scope.names.lookup ("super" : Str)).isSome = false) : ∃ cda cc, VE.SupT prog K (ga K d.x) (ma K (ga K d.x) "__init__") cda cc fld pn arg d.scope := by
  unfold supB at hb
  simp only [Bool.and_eq_true, decide_eq_true_eq] at hb
  obtain ⟨b1, b2, b3, b4, b5, b6, b7, b8, b9, b10⟩ := hb
  unfold supSc at hsc
  simp only [Bool.and_eq_true, decide_eq_true_eq, Bool.not_eq_true', List.all_eq_true, decide_eq_false_iff_not] at hsc
  obtain ⟨⟨⟨⟨⟨⟨⟨⟨⟨s1, s2⟩, s3⟩, s4⟩, s5⟩, s6⟩, s7⟩, s8⟩, s9⟩, s10⟩ := hsc
  unfold supV at hv
  split at b4
  · rename_i oc od fd sl q
    rw [q] at hv
    simp only [SupD.val, Option.some.injEq, Prod.mk.injEq] at hv
    obtain ⟨v1, v2, v3, v4, v5, v6, v7, v8, v9⟩ := hv
    simp only [Bool.and_eq_true] at b4
    obtain ⟨c1, c2, c3⟩ := b4
    split at c2
    · rename_i cda hcd
      split at c2
      · rename_i ccl cdd vs ccs hq
        split at c2
        · rename_i file tf hvs
          split at c3
          · rename_i nm cc hclo
            split at c3
            · rename_i cl cld D csl hcc
              have c3 := of_decide_eq_true c3
              subst c3
              have hn : nm = "__class__" := by
                rw [hclo] at v7
                simpa using v7
              subst hn
              refine ⟨cda, cc, ⟨oexB_ok b1, b2, b3, ?_, ⟨ccl, cdd, vs, ccs, file, tf, hq, hvs, c2⟩, ⟨cl, cld, csl, hcc⟩, b5, b6, b7, b8, b9, ⟨s10, s9⟩, htop⟩⟩
              exact ⟨oc, od, sl, fd, p0, p1, p2, p3, p4, p5, p6, p7, p8, ar, q, by rw [v4, hbody], hcd, by rw [← hcd] at *; exact c1, hclo, v6, v8, v5, s1, s2, s3, s4, s5, s6, s7, s8, by rw [v3]; exact hhead, har, hbind fd v3 v9, hstar, hline⟩
            · cases c3
          · cases c3
        · cases c2
      · cases c2
    · cases c2
  · cases b4
/-- such a class, raised in a def -/
theorem inX_of {K : PySem.W.Frag} {base : Heap} {prg : Program} {w : World} {mg : Str → Option Value} {d : SupD} {fld pn : Str} {arg : Expr} {cda cc : Addr} {fn : List (Nat × DefD)} {cls : List (Nat × Str)} {kl : List (Nat × Str × List Str)} {cs : Clss} {ci : Nat} {kk : Cls} {ok : V → Prop} (X : K.In base) (Gn : base.Ns mainGlobals mg) (hb : supB prg K d.x fld = true)
    (T : VE.SupT prg K (ga K d.x) (ma K (ga K d.x) "__init__") cda cc fld pn arg d.scope) (hci : cls.lookup ci = some d.x) (hk : cs[ci]? = some kk) (hf : kk.flds = [fld]) (hx : okN d.x = true)
    (hok : ∀ v u, ok v → RelV v u → VE.ArgOk prg w mg arg pn d.scope u) (hv : ∀ (R : RC) m st H y v, Rep R m st H y v → numOk kk [y] = true → ok v) (Z : Cx) (z1 : Z.prog = prg) (z2 : Z.w = w) (z3 : Z.K = K) (z4 : Z.mg = mg) (z5 : Z.base = base) (hr : Room 2 Z.A) : InX Z (rcOf K fn cls kl) cs ci d.x := by
  intro Y al hc hg W g a p pos tk ha hs
  subst z1 z2 z3 z4 z5
  have gx : Z.mg d.x = some (.ref (ga Z.K d.x)) ∧ Z.mg "super" = none := by
    unfold supB at hb
    simp only [Bool.and_eq_true, decide_eq_true_eq] at hb
    obtain ⟨b1, b2, b3, b4, b5, b6, b7, b8, b9, b10, b11⟩ := hb
    exact ⟨glo_ok X Gn b11, free_ok X Gn b10⟩
  refine ⟨_, pmk_sup (X := Y) (k := 2) (C := ga Z.K d.x) (fI := ma Z.K (ga Z.K d.x) "__init__") (cda := cda) (cc := cc) (fld := fld) (pn := pn) (arg := arg) (sc := d.scope) (ok := ok) ?_ ?_ ?_ ?_ ?_ ha hg (okN_d hx) (star1 hs), fun σ H Q h => tM_sup hk hf ?_ hv h⟩
  · rw [al.prog, al.K]
    exact T
  · rw [al.A]
    exact hr
  · rw [al.mg]
    exact gx.1
  · rw [al.mg]
    exact gx.2
  · intro v u h1 h2
    rw [al.prog, al.w, al.mg]
    exact hok v u h1 h2
  · show (cls.lookup ci).map (ga Z.K) = _
    rw [hci]
    rfl
def atsB (G : GI) (fn : List (Nat × DefD)) : Bool := G.fns.all fun p => match fn.lookup p.2 with
  | some d => decide (d.at_ = (p.1, none))
  | none => false
theorem ats_ok {G : GI} {fn : List (Nat × DefD)} (h : atsB G fn = true) : ∀ x i, G.fns.lookup x = some i → ∃ d, fn.lookup i = some d ∧ d.at_ = (x, none) := by
  intro x i e
  unfold atsB at h
  rw [List.all_eq_true] at h
  have z := h _ (lookup_mem e)
  dsimp only at z
  split at z
  · rename_i d ed
    exact ⟨d, ed, of_decide_eq_true z⟩
  · cases z
/-- an int argument whose text is told -/
def okNum (v : V) : Prop := ∃ i : Int, v = .int i ∧ i.natAbs.log2 < 1920 ∧ (toString i : Str).length ≤ 1000
end Mini
end
section
set_option linter.all false
set_option autoImplicit false
set_option maxRecDepth 100000
/-! The defs of the laws in the small language. -/
namespace MD
open PySem Mini
def cs : Clss := [⟨[0], [], false⟩, ⟨[1, 0], [], false⟩, ⟨[2, 0], ["reason"], false⟩, ⟨[3, 0], ["at"], true⟩]
/-- is_whole: 0 value -/
def b_sentence_is_whole : Sms := (.cons 
  (.ret (.andE (.pr (.isi [.int]) (.cons (.var 0) .nil)) (.notE (.pr (.isi [.bool]) (.cons (.var 0) .nil))))) .nil)
def f_sentence_is_whole : Fn := ⟨1, 1, b_sentence_is_whole⟩
/-- is_word: 0 value 1 sign -/
def l_datatext_is_word_0e : Ex := (.orE (.pr .isin (.cons (.var 1) (.cons (.lit (.str [97, 98, 99, 100, 101, 102, 103, 104, 105, 106, 107, 108, 109, 110, 111, 112, 113, 114, 115, 116, 117, 118, 119, 120, 121, 122])) .nil))) (.pr .isin (.cons (.var 1) (.cons (.lit (.str [48, 49, 50, 51, 52, 53, 54, 55, 56, 57])) .nil))))
def l_datatext_is_word_0q : Ex := .comp true [1] (.nm 1) (.seq (.var 0)) .nil l_datatext_is_word_0e
def l_datatext_is_word_1i : Ex := (.orE (.notE (.pr (.isi [.str]) (.cons (.var 0) .nil))) (.orE (.notE (.chain .le .le (.lit (.int 1)) (.pr .len (.cons (.var 0) .nil)) (.lit (.int 12)))) (.pr .notin (.cons (.pr .ix (.cons (.var 0) (.cons (.lit (.int 0)) .nil))) (.cons (.lit (.str [97, 98, 99, 100, 101, 102, 103, 104, 105, 106, 107, 108, 109, 110, 111, 112, 113, 114, 115, 116, 117, 118, 119, 120, 121, 122])) .nil)))))
def b_datatext_is_word : Sms := (.cons 
  (.ife l_datatext_is_word_1i (.cons 
   (.ret (.lit (.bl false))) .nil) .nil) (.cons 
  (.ret (.pr .all (.cons l_datatext_is_word_0q .nil))) .nil))
def f_datatext_is_word : Fn := ⟨1, 2, b_datatext_is_word⟩
/-- is_short: 0 value 1 most 2 _ -/
def l_datatext_is_short_0b : Sms := (.cons 
  (.aug 1 .imul (.pr .pow (.cons (.lit (.int 10)) (.cons (.lit (.int 32)) .nil)))) .nil)
def l_datatext_is_short_1i : Ex := (.chain .lt .lt (.pr .neg (.cons (.var 1) .nil)) (.var 0) (.var 1))
def l_datatext_is_short_2i : Ex := (.notE (.call 0 (.cons (.var 0) .nil)))
def b_datatext_is_short : Sms := (.cons 
  (.ife l_datatext_is_short_2i (.cons 
   (.ret (.lit (.bl false))) .nil) .nil) (.cons 
  (.asg (.nm 1) (.pr .pow (.cons (.lit (.int 10)) (.cons (.lit (.int 32)) .nil)))) (.cons 
  (.ife l_datatext_is_short_1i (.cons 
   (.ret (.lit (.bl true))) .nil) .nil) (.cons 
  (.for_ (.nm 2) (.rng (.cons (.pr .sub (.cons (.pr .fdiv (.cons (.lit (.int 4000)) (.cons (.lit (.int 32)) .nil))) (.cons (.lit (.int 1)) .nil))) .nil)) l_datatext_is_short_0b) (.cons 
  (.ret (.chain .lt .lt (.pr .neg (.cons (.var 1) .nil)) (.var 0) (.var 1))) .nil)))))
def f_datatext_is_short : Fn := ⟨1, 3, b_datatext_is_short⟩
/-- write_data: 0 data 1 waiting 2 found 3 one 4 depth 5 k -/
def l_datatext_write_data_0i : Ex := (.pr .eq (.cons (.var 4) (.cons (.lit (.int 0)) .nil)))
def l_datatext_write_data_1i : Ex := (.andE (.pr (.isi [.tuple]) (.cons (.var 3) .nil)) (.pr .le (.cons (.var 4) (.cons (.lit (.int 1000)) .nil))))
def l_datatext_write_data_2i : Ex := (.pr .gt (.cons (.var 5) (.cons (.lit (.int 0)) .nil)))
def l_datatext_write_data_3b : Sms := (.cons 
  (.ex (.mth .append (.var 1) (.cons (.tup (.cons (.pr .ix (.cons (.var 3) (.cons (.var 5) .nil))) (.cons (.pr .add (.cons (.var 4) (.cons (.lit (.int 1)) .nil))) .nil))) .nil))) (.cons 
  (.ife l_datatext_write_data_2i (.cons 
   (.ex (.mth .append (.var 1) (.cons (.tup (.cons (.lit (.str [44])) (.cons (.lit (.int 0)) .nil))) .nil))) .nil) .nil) .nil))
def l_datatext_write_data_4i : Ex := (.orE (.call 1 (.cons (.var 3) .nil)) (.call 2 (.cons (.var 3) .nil)))
def l_datatext_write_data_5c : Ex := (.pr .gt (.cons (.pr .len (.cons (.var 1) .nil)) (.cons (.lit (.int 0)) .nil)))
def l_datatext_write_data_5b : Sms := (.cons 
  (.asg (.tp (.cons (.nm 3) (.cons (.nm 4) .nil))) (.mth .pop (.var 1) .nil)) (.cons 
  (.ife l_datatext_write_data_0i (.cons 
   (.ex (.mth .append (.var 2) (.cons (.var 3) .nil))) .nil) (.cons 
   (.ife l_datatext_write_data_1i (.cons 
    (.ex (.mth .append (.var 2) (.cons (.lit (.str [91])) .nil))) (.cons 
    (.ex (.mth .append (.var 1) (.cons (.tup (.cons (.lit (.str [93])) (.cons (.lit (.int 0)) .nil))) .nil))) (.cons 
    (.for_ (.nm 5) (.rng (.cons (.pr .sub (.cons (.pr .len (.cons (.var 3) .nil)) (.cons (.lit (.int 1)) .nil))) (.cons (.pr .neg (.cons (.lit (.int 1)) .nil)) (.cons (.pr .neg (.cons (.lit (.int 1)) .nil)) .nil)))) l_datatext_write_data_3b) .nil))) (.cons 
    (.ife l_datatext_write_data_4i (.cons 
     (.ex (.mth .append (.var 2) (.cons (.pr .str (.cons (.var 3) .nil)) .nil))) .nil) (.cons 
     (.raise 1 .nil) .nil)) .nil)) .nil)) .nil))
def b_datatext_write_data : Sms := (.cons 
  (.par [1, 2] (.cons (.lst (.cons (.tup (.cons (.var 0) (.cons (.lit (.int 1)) .nil))) .nil)) (.cons (.lst .nil) .nil))) (.cons 
  (.while_ l_datatext_write_data_5c l_datatext_write_data_5b) (.cons 
  (.ret (.mth .join (.lit (.str [])) (.cons (.var 2) .nil))) .nil)))
def f_datatext_write_data : Fn := ⟨1, 6, b_datatext_write_data⟩
/-- read_whole: 0 text 1 body 2 sign -/
def l_datatext_read_whole_0i : Ex := (.andE (.pr .eq (.cons (.pr .ix (.cons (.var 1) (.cons (.lit (.int 0)) .nil))) (.cons (.lit (.str [48])) .nil))) (.pr .ne (.cons (.var 0) (.cons (.lit (.str [48])) .nil))))
def l_datatext_read_whole_1e : Ex := (.pr .isin (.cons (.var 2) (.cons (.lit (.str [48, 49, 50, 51, 52, 53, 54, 55, 56, 57])) .nil)))
def l_datatext_read_whole_1q : Ex := .comp true [2] (.nm 2) (.seq (.var 1)) .nil l_datatext_read_whole_1e
def l_datatext_read_whole_2i : Ex := (.orE (.notE (.chain .le .le (.lit (.int 1)) (.pr .len (.cons (.var 1) .nil)) (.lit (.int 4000)))) (.notE (.pr .all (.cons l_datatext_read_whole_1q .nil))))
def b_datatext_read_whole : Sms := (.cons 
  (.asg (.nm 1) (.ife (.pr .eq (.cons (.pr (.sl false true) (.cons (.var 0) (.cons (.lit (.int 1)) .nil))) (.cons (.lit (.str [45])) .nil))) (.pr (.sl true false) (.cons (.var 0) (.cons (.lit (.int 1)) .nil))) (.var 0))) (.cons 
  (.ife l_datatext_read_whole_2i (.cons 
   (.raise 1 .nil) .nil) .nil) (.cons 
  (.ife l_datatext_read_whole_0i (.cons 
   (.raise 1 .nil) .nil) .nil) (.cons 
  (.ret (.pr .int (.cons (.var 0) .nil))) .nil))))
def f_datatext_read_whole : Fn := ⟨1, 3, b_datatext_read_whole⟩
/-- pieces_of: 0 text 1 found 2 start 3 place 4 sign -/
def l_datatext_pieces_of_0i : Ex := (.pr .isin (.cons (.var 4) (.cons (.lit (.str [91, 93, 44])) .nil)))
def l_datatext_pieces_of_1i : Ex := (.pr .lt (.cons (.var 2) (.cons (.var 3) .nil)))
def l_datatext_pieces_of_2b : Sms := (.cons 
  (.ife l_datatext_pieces_of_0i (.cons 
   (.ife l_datatext_pieces_of_1i (.cons 
    (.ex (.mth .append (.var 1) (.cons (.pr (.sl true true) (.cons (.var 0) (.cons (.var 2) (.cons (.var 3) .nil)))) .nil))) .nil) .nil) (.cons 
   (.ex (.mth .append (.var 1) (.cons (.var 4) .nil))) (.cons 
   (.asg (.nm 2) (.pr .add (.cons (.var 3) (.cons (.lit (.int 1)) .nil)))) .nil))) .nil) .nil)
def b_datatext_pieces_of : Sms := (.cons 
  (.par [1, 2] (.cons (.lst .nil) (.cons (.lit (.int 0)) .nil))) (.cons 
  (.for_ (.tp (.cons (.nm 3) (.cons (.nm 4) .nil))) (.enum (.var 0)) l_datatext_pieces_of_2b) (.cons 
  (.ret (.pr .add (.cons (.var 1) (.cons (.ife (.pr .lt (.cons (.var 2) (.cons (.pr .len (.cons (.var 0) .nil)) .nil))) (.vlst (.cons (.pr (.sl true false) (.cons (.var 0) (.cons (.var 2) .nil))) .nil)) (.vlst .nil)) .nil)))) .nil)))
def f_datatext_pieces_of : Fn := ⟨1, 5, b_datatext_pieces_of⟩
/-- read_data: 0 text 1 reader 2 piece -/
def l_datatext_read_data_0i : Ex := (.orE (.pr .gt (.cons (.pr .len (.cons (.fld 0 0 (.var 1)) .nil)) (.cons (.lit (.int 0)) .nil))) (.pr .ne (.cons (.pr .len (.cons (.fld 0 2 (.var 1)) .nil)) (.cons (.lit (.int 1)) .nil))))
def l_datatext_read_data_1b : Sms := (.cons 
  (.ex (.mcall 0 21 (.var 1) (.cons (.var 2) .nil))) .nil)
def l_datatext_read_data_2i : Ex := (.notE (.pr (.isi [.str]) (.cons (.var 0) .nil)))
def b_datatext_read_data : Sms := (.cons 
  (.ife l_datatext_read_data_2i (.cons 
   (.raise 1 .nil) .nil) .nil) (.cons 
  (.asg (.nm 1) (.new 0 16 .nil)) (.cons 
  (.for_ (.nm 2) (.seq (.call 5 (.cons (.var 0) .nil))) l_datatext_read_data_1b) (.cons 
  (.ife l_datatext_read_data_0i (.cons 
   (.raise 1 .nil) .nil) .nil) (.cons 
  (.ret (.pr .ix (.cons (.fld 0 2 (.var 1)) (.cons (.lit (.int 0)) .nil)))) .nil)))))
def f_datatext_read_data : Fn := ⟨1, 3, b_datatext_read_data⟩
/-- _law_draw: 0 script 1 seed 2 cell -/
def l_law_draw_0e : Ex := (.pr .abs (.cons (.pr .int (.cons (.var 2) .nil)) .nil))
def l_law_draw_0q : Ex := .comp true [2] (.nm 2) (.seq (.var 0)) .nil l_law_draw_0e
def l_law_draw_1b : Sms := (.cons 
  (.asg (.nm 1) (.pr .mod (.cons (.pr .int (.cons (.pr .add (.cons (.pr .add (.cons (.pr .mul (.cons (.var 1) (.cons (.lit (.int 48271)) .nil))) (.cons (.pr .mod (.cons (.pr .abs (.cons (.pr .int (.cons (.var 2) .nil)) .nil)) (.cons (.lit (.int 65521)) .nil))) .nil))) (.cons (.lit (.int 1)) .nil))) .nil)) (.cons (.lit (.int 2147483647)) .nil)))) .nil)
def b_law_draw : Sms := (.cons 
  (.asg (.nm 1) (.lit (.int 7))) (.cons 
  (.for_ (.nm 2) (.seq (.var 0)) l_law_draw_1b) (.cons 
  (.ret (.lst (.cons l_law_draw_0q (.cons (.pr .neg (.cons (.lit (.int 1)) .nil)) (.cons (.lit (.int 0)) (.cons (.var 1) .nil)))))) .nil)))
def f_law_draw : Fn := ⟨1, 3, b_law_draw⟩
/-- _law_take: 0 draw 1 many 2 found -/
def l_law_take_0i : Ex := (.pr .eq (.cons (.pr .ix (.cons (.var 0) (.cons (.lit (.int 2)) .nil))) (.cons (.lit (.int 0)) .nil)))
def l_law_take_1i : Ex := (.pr .eq (.cons (.pr .ix (.cons (.var 0) (.cons (.lit (.int 2)) .nil))) (.cons (.lit (.int 0)) .nil)))
def l_law_take_2i : Ex := (.pr .lt (.cons (.pr .ix (.cons (.var 0) (.cons (.lit (.int 1)) .nil))) (.cons (.pr .len (.cons (.pr .ix (.cons (.var 0) (.cons (.lit (.int 0)) .nil))) .nil)) .nil)))
def b_law_take : Sms := (.cons 
  (.ife l_law_take_0i (.cons 
   (.asgIx (.var 0) (.lit (.int 1)) (.pr .add (.cons (.pr .ix (.cons (.var 0) (.cons (.lit (.int 1)) .nil))) (.cons (.lit (.int 1)) .nil)))) (.cons 
   (.ife l_law_take_2i (.cons 
    (.asgIx (.var 0) (.lit (.int 2)) (.pr .ix (.cons (.pr .ix (.cons (.var 0) (.cons (.lit (.int 0)) .nil))) (.cons (.pr .ix (.cons (.var 0) (.cons (.lit (.int 1)) .nil))) .nil)))) .nil) .nil) (.cons 
   (.ife l_law_take_1i (.cons 
    (.asgIx (.var 0) (.lit (.int 3)) (.pr .mod (.cons (.pr .int (.cons (.pr .add (.cons (.pr .mul (.cons (.pr .ix (.cons (.var 0) (.cons (.lit (.int 3)) .nil))) (.cons (.lit (.int 48271)) .nil))) (.cons (.lit (.int 11)) .nil))) .nil)) (.cons (.lit (.int 2147483647)) .nil)))) (.cons 
    (.asgIx (.var 0) (.lit (.int 2)) (.pr .ix (.cons (.var 0) (.cons (.lit (.int 3)) .nil)))) .nil)) .nil) .nil))) .nil) (.cons 
  (.asg (.nm 2) (.pr .mod (.cons (.pr .int (.cons (.pr .ix (.cons (.var 0) (.cons (.lit (.int 2)) .nil))) .nil)) (.cons (.var 1) .nil)))) (.cons 
  (.asgIx (.var 0) (.lit (.int 2)) (.pr .fdiv (.cons (.pr .ix (.cons (.var 0) (.cons (.lit (.int 2)) .nil))) (.cons (.var 1) .nil)))) (.cons 
  (.ret (.var 2)) .nil))))
def f_law_take : Fn := ⟨2, 3, b_law_take⟩
/-- _law_data: 0 draw 1 deep 2 k 3 turn -/
def l_law_data_0i : Ex := (.pr .eq (.cons (.var 2) (.cons (.lit (.int 3)) .nil)))
def l_law_data_1i : Ex := (.andE (.pr .gt (.cons (.var 1) (.cons (.lit (.int 0)) .nil))) (.pr .lt (.cons (.var 2) (.cons (.lit (.int 3)) .nil))))
def l_law_data_2e : Ex := (.call 9 (.cons (.var 0) (.cons (.pr .sub (.cons (.var 1) (.cons (.lit (.int 1)) .nil))) .nil)))
def l_law_data_2q : Ex := .comp true [3] (.nm 3) (.rng (.cons (.call 8 (.cons (.var 0) (.cons (.lit (.int 4)) .nil))) .nil)) .nil l_law_data_2e
def b_law_data : Sms := (.cons 
  (.asg (.nm 2) (.call 8 (.cons (.var 0) (.cons (.lit (.int 6)) .nil)))) (.cons 
  (.ife l_law_data_1i (.cons 
   (.ret (.pr .tuple (.cons l_law_data_2q .nil))) .nil) .nil) (.cons 
  (.ife l_law_data_0i (.cons 
   (.ret (.ife (.pr .gt (.cons (.call 8 (.cons (.var 0) (.cons (.lit (.int 4)) .nil))) (.cons (.lit (.int 0)) .nil))) (.pr (.sl true false) (.cons (.lit (.str [97, 98, 122, 57])) (.cons (.call 8 (.cons (.var 0) (.cons (.lit (.int 3)) .nil))) .nil))) (.lit (.str [97, 50, 51, 52, 53, 54, 55, 56, 57, 48, 49, 50])))) .nil) .nil) (.cons 
  (.ret (.pr .ix (.cons (.vlst (.cons (.lit (.int 0)) (.cons (.pr .neg (.cons (.lit (.int 1)) .nil)) (.cons (.lit (.int 7)) (.cons (.pr .pow (.cons (.lit (.int 10)) (.cons (.lit (.int 40)) .nil))) (.cons (.pr .neg (.cons (.pr .pow (.cons (.lit (.int 10)) (.cons (.lit (.int 20)) .nil))) .nil)) (.cons (.lit (.int 1000)) .nil))))))) (.cons (.call 8 (.cons (.var 0) (.cons (.lit (.int 6)) .nil))) .nil)))) .nil))))
def f_law_data : Fn := ⟨2, 4, b_law_data⟩
/-- _law_word: 0 value 1 sign -/
def l_law_word_0e : Ex := (.orE (.chain .le .le (.lit (.str [97])) (.var 1) (.lit (.str [122]))) (.chain .le .le (.lit (.str [48])) (.var 1) (.lit (.str [57]))))
def l_law_word_0q : Ex := .comp true [1] (.nm 1) (.seq (.var 0)) .nil l_law_word_0e
def l_law_word_1i : Ex := (.orE (.notE (.pr (.isi [.str]) (.cons (.var 0) .nil))) (.orE (.notE (.chain .le .le (.lit (.int 1)) (.pr .len (.cons (.var 0) .nil)) (.lit (.int 12)))) (.notE (.chain .le .le (.lit (.str [97])) (.pr .ix (.cons (.var 0) (.cons (.lit (.int 0)) .nil))) (.lit (.str [122]))))))
def b_law_word : Sms := (.cons 
  (.ife l_law_word_1i (.cons 
   (.ret (.lit (.bl false))) .nil) .nil) (.cons 
  (.ret (.pr .all (.cons l_law_word_0q .nil))) .nil))
def f_law_word : Fn := ⟨1, 2, b_law_word⟩
/-- _law_written: 0 data 1 parts 2 item -/
def l_law_written_0i : Ex := (.call 10 (.cons (.var 0) .nil))
def l_law_written_1i : Ex := (.pr (.isi [.tuple]) (.cons (.var 0) .nil))
def l_law_written_2e : Ex := (.call 11 (.cons (.var 2) .nil))
def l_law_written_2q : Ex := .comp true [2] (.nm 2) (.seq (.var 0)) .nil l_law_written_2e
def b_law_written : Sms := (.cons 
  (.ife l_law_written_1i (.cons 
   (.asg (.nm 1) l_law_written_2q) (.cons 
   (.ret (.ife (.pr .isin (.cons (.lit (.non)) (.cons (.var 1) .nil))) (.lit (.non)) (.pr .add (.cons (.pr .add (.cons (.lit (.str [91])) (.cons (.mth .join (.lit (.str [44])) (.cons (.var 1) .nil)) .nil))) (.cons (.lit (.str [93])) .nil))))) .nil)) .nil) (.cons 
  (.ife l_law_written_0i (.cons 
   (.ret (.var 0)) .nil) .nil) (.cons 
  (.ret (.ife (.andE (.pr (.isi [.int]) (.cons (.var 0) .nil)) (.notE (.pr (.isi [.bool]) (.cons (.var 0) .nil)))) (.pr .str (.cons (.var 0) .nil)) (.lit (.non)))) .nil)))
def f_law_written : Fn := ⟨1, 3, b_law_written⟩
/-- _law_number: 0 text 1 body 2 sign -/
def l_law_number_0e : Ex := (.pr .notin (.cons (.var 2) (.cons (.lit (.str [48, 49, 50, 51, 52, 53, 54, 55, 56, 57])) .nil)))
def l_law_number_0q : Ex := .comp true [2] (.nm 2) (.seq (.var 1)) .nil l_law_number_0e
def l_law_number_1i : Ex := (.orE (.pr .eq (.cons (.var 1) (.cons (.lit (.str [])) .nil))) (.orE (.pr .any (.cons l_law_number_0q .nil)) (.andE (.pr .eq (.cons (.pr .ix (.cons (.var 1) (.cons (.lit (.int 0)) .nil))) (.cons (.lit (.str [48])) .nil))) (.pr .ne (.cons (.var 0) (.cons (.lit (.str [48])) .nil))))))
def b_law_number : Sms := (.cons 
  (.asg (.nm 1) (.ife (.pr .eq (.cons (.pr (.sl false true) (.cons (.var 0) (.cons (.lit (.int 1)) .nil))) (.cons (.lit (.str [45])) .nil))) (.pr (.sl true false) (.cons (.var 0) (.cons (.lit (.int 1)) .nil))) (.var 0))) (.cons 
  (.ife l_law_number_1i (.cons 
   (.ret (.lit (.non))) .nil) .nil) (.cons 
  (.ret (.pr .int (.cons (.var 0) .nil))) .nil)))
def f_law_number : Fn := ⟨1, 3, b_law_number⟩
/-- _law_read: 0 text 1 rows 2 done 3 token 4 ahead 5 sign 6 atom 7 row -/
def l_law_read_0i : Ex := (.pr .isin (.cons (.var 5) (.cons (.lit (.str [91, 93, 44, 59])) .nil)))
def l_law_read_1i : Ex := (.pr .eq (.cons (.var 5) (.cons (.lit (.str [91])) .nil)))
def l_law_read_2i : Ex := (.notE (.var 4))
def l_law_read_3i : Ex := (.pr .eq (.cons (.var 5) (.cons (.lit (.str [44])) .nil)))
def l_law_read_4i : Ex := (.orE (.var 4) (.pr .eq (.cons (.var 1) (.cons (.vlst .nil) .nil))))
def l_law_read_5i : Ex := (.pr .eq (.cons (.var 5) (.cons (.lit (.str [93])) .nil)))
def l_law_read_6i : Ex := (.orE (.pr .eq (.cons (.var 1) (.cons (.vlst .nil) .nil))) (.andE (.var 4) (.pr .ne (.cons (.pr .ix (.cons (.var 1) (.cons (.pr .neg (.cons (.lit (.int 1)) .nil)) .nil))) (.cons (.vlst .nil) .nil)))))
def l_law_read_7i : Ex := (.pr .ne (.cons (.var 3) (.cons (.lit (.str [])) .nil)))
def l_law_read_8i : Ex := (.orE (.pr .isN (.cons (.var 6) .nil)) (.notE (.var 4)))
def l_law_read_9b : Sms := (.cons 
  (.ife l_law_read_0i (.cons 
   (.ife l_law_read_7i (.cons 
    (.asg (.nm 6) (.ife (.call 10 (.cons (.var 3) .nil)) (.var 3) (.call 12 (.cons (.var 3) .nil)))) (.cons 
    (.ife l_law_read_8i (.cons 
     (.ret (.lit (.non))) .nil) .nil) (.cons 
    (.par [2, 4, 3] (.cons (.vlst (.cons (.var 6) .nil)) (.cons (.lit (.bl false)) (.cons (.lit (.str [])) .nil)))) .nil))) .nil) (.cons 
   (.ife l_law_read_1i (.cons 
    (.ife l_law_read_2i (.cons 
     (.ret (.lit (.non))) .nil) .nil) (.cons 
    (.ex (.mth .append (.var 1) (.cons (.lst .nil) .nil))) .nil)) (.cons 
    (.ife l_law_read_3i (.cons 
     (.ife l_law_read_4i (.cons 
      (.ret (.lit (.non))) .nil) .nil) (.cons 
     (.ex (.mth .append (.pr .ix (.cons (.var 1) (.cons (.pr .neg (.cons (.lit (.int 1)) .nil)) .nil))) (.cons (.pr .ix (.cons (.var 2) (.cons (.lit (.int 0)) .nil))) .nil))) (.cons 
     (.asg (.nm 4) (.lit (.bl true))) .nil))) (.cons 
     (.ife l_law_read_5i (.cons 
      (.ife l_law_read_6i (.cons 
       (.ret (.lit (.non))) .nil) .nil) (.cons 
      (.asg (.nm 7) (.mth .pop (.var 1) .nil)) (.cons 
      (.par [2, 4] (.cons (.vlst (.cons (.pr .tuple (.cons (.pr .add (.cons (.var 7) (.cons (.ife (.var 4) (.vlst .nil) (.vlst (.cons (.pr .ix (.cons (.var 2) (.cons (.lit (.int 0)) .nil))) .nil))) .nil))) .nil)) .nil)) (.cons (.lit (.bl false)) .nil))) .nil))) .nil) .nil)) .nil)) .nil)) (.cons 
   (.asg (.nm 3) (.pr .add (.cons (.var 3) (.cons (.var 5) .nil)))) .nil)) .nil)
def b_law_read : Sms := (.cons 
  (.asg (.tp (.cons (.nm 1) (.cons (.nm 2) (.cons (.nm 3) (.cons (.nm 4) .nil))))) (.tup (.cons (.lst .nil) (.cons (.vlst .nil) (.cons (.lit (.str [])) (.cons (.lit (.bl true)) .nil)))))) (.cons 
  (.for_ (.nm 5) (.seq (.pr .add (.cons (.var 0) (.cons (.lit (.str [59])) .nil)))) l_law_read_9b) (.cons 
  (.ret (.ife (.andE (.pr .eq (.cons (.var 1) (.cons (.vlst .nil) .nil))) (.andE (.notE (.var 4)) (.pr .notin (.cons (.lit (.str [59])) (.cons (.var 0) .nil))))) (.var 2) (.lit (.non)))) .nil)))
def f_law_read : Fn := ⟨1, 8, b_law_read⟩
/-- _law_told: 0 which 1 value -/
def b_law_told : Sms := (.cons 
  (.try_ (.cons 
   (.ret (.ife (.pr .eq (.cons (.var 0) (.cons (.lit (.int 0)) .nil))) (.vlst (.cons (.call 3 (.cons (.var 1) .nil)) .nil)) (.vlst (.cons (.call 6 (.cons (.var 1) .nil)) .nil)))) .nil) [.on 1 none (.lit (.non))]) .nil)
def f_law_told : Fn := ⟨2, 2, b_law_told⟩
/-- law: 0 script 1 draw 2 turn 3 data 4 text 5 again 6 other 7 i 8 sign 9 due 10 bad 11 long 12 deep 13 value -/
def l_law_k53_0e : Ex := (.call 14 (.cons (.lit (.int 1)) (.cons (.var 13) .nil)))
def l_law_k53_0q : Ex := .comp true [13] (.nm 13) (.seq (.vlst (.cons (.lit (.non)) (.cons (.lit (.int 5)) (.cons (.tup (.cons (.lit (.int 1)) .nil)) (.cons (.lit (.str [])) (.cons (.lit (.str [91, 97, 93, 91, 98, 93])) (.cons (.lit (.str [97, 44, 98])) (.cons (.lit (.str [91, 97])) .nil))))))))) .nil l_law_k53_0e
def l_law_k53_1i : Ex := (.orE (.pr .ne (.cons (.call 14 (.cons (.lit (.int 0)) (.cons (.var 12) .nil))) (.cons (.vlst (.cons (.pr .add (.cons (.pr .mul (.cons (.lit (.str [91])) (.cons (.lit (.int 1000)) .nil))) (.cons (.pr .mul (.cons (.lit (.str [93])) (.cons (.lit (.int 1000)) .nil))) .nil))) .nil)) .nil))) (.orE (.pr .notN (.cons (.call 14 (.cons (.lit (.int 0)) (.cons (.tup (.cons (.var 12) .nil)) .nil))) .nil)) (.pr .notN (.cons (.call 14 (.cons (.lit (.int 1)) (.cons (.pr .add (.cons (.pr .mul (.cons (.lit (.str [91])) (.cons (.lit (.int 1001)) .nil))) (.cons (.pr .mul (.cons (.lit (.str [93])) (.cons (.lit (.int 1001)) .nil))) .nil))) .nil))) .nil))))
def l_law_k53_2b : Sms := (.cons 
  (.asg (.nm 12) (.tup (.cons (.var 12) .nil))) .nil)
def l_law_k53_3i : Ex := (.orE (.pr .ne (.cons (.call 14 (.cons (.lit (.int 0)) (.cons (.pr .int (.cons (.var 11) .nil)) .nil))) (.cons (.vlst (.cons (.var 11) .nil)) .nil))) (.orE (.pr .isN (.cons (.call 14 (.cons (.lit (.int 1)) (.cons (.pr .add (.cons (.lit (.str [45])) (.cons (.var 11) .nil))) .nil))) .nil)) (.orE (.pr .notN (.cons (.call 14 (.cons (.lit (.int 1)) (.cons (.pr .add (.cons (.var 11) (.cons (.lit (.str [48])) .nil))) .nil))) .nil)) (.pr .notN (.cons (.call 14 (.cons (.lit (.int 0)) (.cons (.pr .add (.cons (.pr .int (.cons (.var 11) .nil)) (.cons (.lit (.int 1)) .nil))) .nil))) .nil)))))
def l_law_k53_4i : Ex := (.pr .notN (.cons (.call 14 (.cons (.lit (.int 0)) (.cons (.var 10) .nil))) .nil))
def l_law_k53_5b : Sms := (.cons 
  (.ife l_law_k53_4i (.cons 
   (.ret (.lit (.bl false))) .nil) .nil) .nil)
def l_law_k53_6i : Ex := (.pr .ne (.cons (.pr .repr (.cons (.call 14 (.cons (.lit (.int 1)) (.cons (.var 6) .nil))) .nil)) (.cons (.pr .repr (.cons (.ife (.andE (.pr .notN (.cons (.var 9) .nil)) (.pr .eq (.cons (.call 11 (.cons (.pr .ix (.cons (.var 9) (.cons (.lit (.int 0)) .nil))) .nil)) (.cons (.var 6) .nil)))) (.var 9) (.lit (.non))) .nil)) .nil)))
def l_law_k53_7b : Sms := (.cons 
  (.asg (.nm 9) (.call 13 (.cons (.var 6) .nil))) (.cons 
  (.ife l_law_k53_6i (.cons 
   (.ret (.lit (.bl false))) .nil) .nil) .nil))
def l_law_k53_8b : Sms := (.cons 
  (.par [7, 8] (.cons (.call 8 (.cons (.var 1) (.cons (.pr .add (.cons (.pr .len (.cons (.var 4) .nil)) (.cons (.lit (.int 1)) .nil))) .nil))) (.cons (.pr .ix (.cons (.lit (.str [91, 93, 44, 97, 48, 45, 49, 32, 65])) (.cons (.call 8 (.cons (.var 1) (.cons (.lit (.int 9)) .nil))) .nil))) .nil))) (.cons 
  (.for_ (.nm 6) (.seq (.vlst (.cons (.pr .add (.cons (.pr .add (.cons (.pr (.sl false true) (.cons (.var 4) (.cons (.var 7) .nil))) (.cons (.var 8) .nil))) (.cons (.pr (.sl true false) (.cons (.var 4) (.cons (.var 7) .nil))) .nil))) (.cons (.pr .add (.cons (.pr (.sl false true) (.cons (.var 4) (.cons (.var 7) .nil))) (.cons (.pr (.sl true false) (.cons (.var 4) (.cons (.pr .add (.cons (.var 7) (.cons (.lit (.int 1)) .nil))) .nil))) .nil))) (.cons (.pr .add (.cons (.pr .add (.cons (.pr (.sl false true) (.cons (.var 4) (.cons (.var 7) .nil))) (.cons (.var 8) .nil))) (.cons (.pr (.sl true false) (.cons (.var 4) (.cons (.pr .add (.cons (.var 7) (.cons (.lit (.int 1)) .nil))) .nil))) .nil))) .nil))))) l_law_k53_7b) .nil))
def l_law_k53_9i : Ex := (.orE (.pr .ne (.cons (.call 14 (.cons (.lit (.int 0)) (.cons (.var 3) .nil))) (.cons (.vlst (.cons (.var 4) .nil)) .nil))) (.pr .ne (.cons (.pr .repr (.cons (.call 14 (.cons (.lit (.int 1)) (.cons (.var 4) .nil))) .nil)) (.cons (.pr .repr (.cons (.vlst (.cons (.var 3) .nil)) .nil)) .nil))))
def l_law_k53_10b : Sms := (.cons 
  (.asg (.nm 3) (.call 9 (.cons (.var 1) (.cons (.lit (.int 5)) .nil)))) (.cons 
  (.asg (.nm 4) (.call 11 (.cons (.var 3) .nil))) (.cons 
  (.ife l_law_k53_9i (.cons 
   (.ret (.lit (.bl false))) .nil) .nil) (.cons 
  (.for_ (.nm 5) (.rng (.cons (.lit (.int 8)) .nil)) l_law_k53_8b) .nil))))
def b_law_k53 : Sms := (.cons 
  (.asg (.nm 1) (.call 7 (.cons (.var 0) .nil))) (.cons 
  (.for_ (.nm 2) (.rng (.cons (.lit (.int 4)) .nil)) l_law_k53_10b) (.cons 
  (.for_ (.nm 10) (.seq (.vlst (.cons (.lit (.non)) (.cons (.lit (.bl true)) (.cons (.lit (.str [65])) (.cons (.lit (.str [])) (.cons (.lit (.str [97, 32, 98])) (.cons (.lit (.str [57, 97])) (.cons (.lit (.str [97, 98, 99, 100, 101, 102, 103, 104, 105, 106, 107, 108, 109])) (.cons (.vlst (.cons (.lit (.int 1)) .nil)) (.cons (.tup (.cons (.lit (.int 1)) (.cons (.lit (.non)) .nil))) (.cons (.tup (.cons (.tup (.cons (.lit (.bl true)) .nil)) .nil)) (.cons (.vlst (.cons (.lit (.str [97])) .nil)) (.cons (.tup (.cons (.lit (.str [97])) (.cons (.vlst .nil) .nil))) (.cons (.lit (.str [93])) (.cons (.tup (.cons (.lit (.str [93])) .nil)) .nil)))))))))))))))) l_law_k53_5b) (.cons 
  (.asg (.nm 11) (.pr .mul (.cons (.lit (.str [57])) (.cons (.lit (.int 4000)) .nil)))) (.cons 
  (.ife l_law_k53_3i (.cons 
   (.ret (.lit (.bl false))) .nil) .nil) (.cons 
  (.asg (.nm 12) (.tup .nil)) (.cons 
  (.for_ (.nm 2) (.rng (.cons (.lit (.int 999)) .nil)) l_law_k53_2b) (.cons 
  (.ife l_law_k53_1i (.cons 
   (.ret (.lit (.bl false))) .nil) .nil) (.cons 
  (.ret (.andE (.pr .notN (.cons (.call 14 (.cons (.lit (.int 1)) (.cons (.pr .add (.cons (.pr .mul (.cons (.lit (.str [91])) (.cons (.lit (.int 1000)) .nil))) (.cons (.pr .mul (.cons (.lit (.str [93])) (.cons (.lit (.int 1000)) .nil))) .nil))) .nil))) .nil)) (.pr .eq (.cons l_law_k53_0q (.cons (.pr .mul (.cons (.vlst (.cons (.lit (.non)) .nil)) (.cons (.lit (.int 7)) .nil))) .nil))))) .nil)))))))))
def f_law_k53 : Fn := ⟨1, 14, b_law_k53⟩
/-- DataReader.__init__: 0 self -/
def b_datatext_DataReader_init : Sms := (.cons 
  (.setF 0 0 (.var 0) (.lst .nil)) (.cons 
  (.setF 0 1 (.var 0) (.lit (.bl true))) (.cons 
  (.setF 0 2 (.var 0) (.lst .nil)) .nil)))
def f_datatext_DataReader_init : Fn := ⟨1, 1, b_datatext_DataReader_init⟩
/-- DataReader.item: 0 self 1 value -/
def l_datatext_DataReader_item_0i : Ex := (.pr .gt (.cons (.pr .len (.cons (.fld 0 0 (.var 0)) .nil)) (.cons (.lit (.int 0)) .nil)))
def l_datatext_DataReader_item_1i : Ex := (.notE (.fld 0 1 (.var 0)))
def b_datatext_DataReader_item : Sms := (.cons 
  (.ife l_datatext_DataReader_item_1i (.cons 
   (.raise 1 .nil) .nil) .nil) (.cons 
  (.ife l_datatext_DataReader_item_0i (.cons 
   (.ex (.mth .append (.pr .ix (.cons (.fld 0 0 (.var 0)) (.cons (.pr .neg (.cons (.lit (.int 1)) .nil)) .nil))) (.cons (.var 1) .nil))) .nil) (.cons 
   (.ex (.mth .append (.fld 0 2 (.var 0)) (.cons (.var 1) .nil))) .nil)) (.cons 
  (.setF 0 1 (.var 0) (.lit (.bl false))) .nil)))
def f_datatext_DataReader_item : Fn := ⟨2, 2, b_datatext_DataReader_item⟩
/-- DataReader.open_one: 0 self -/
def l_datatext_DataReader_open_one_0i : Ex := (.orE (.notE (.fld 0 1 (.var 0))) (.pr .ge (.cons (.pr .len (.cons (.fld 0 0 (.var 0)) .nil)) (.cons (.lit (.int 1000)) .nil))))
def b_datatext_DataReader_open_one : Sms := (.cons 
  (.ife l_datatext_DataReader_open_one_0i (.cons 
   (.raise 1 .nil) .nil) .nil) (.cons 
  (.ex (.mth .append (.fld 0 0 (.var 0)) (.cons (.lst .nil) .nil))) .nil))
def f_datatext_DataReader_open_one : Fn := ⟨1, 1, b_datatext_DataReader_open_one⟩
/-- DataReader.close_one: 0 self 1 found -/
def l_datatext_DataReader_close_one_0i : Ex := (.orE (.pr .eq (.cons (.pr .len (.cons (.fld 0 0 (.var 0)) .nil)) (.cons (.lit (.int 0)) .nil))) (.andE (.fld 0 1 (.var 0)) (.pr .gt (.cons (.pr .len (.cons (.pr .ix (.cons (.fld 0 0 (.var 0)) (.cons (.pr .neg (.cons (.lit (.int 1)) .nil)) .nil))) .nil)) (.cons (.lit (.int 0)) .nil)))))
def b_datatext_DataReader_close_one : Sms := (.cons 
  (.ife l_datatext_DataReader_close_one_0i (.cons 
   (.raise 1 .nil) .nil) .nil) (.cons 
  (.asg (.nm 1) (.pr .tuple (.cons (.mth .pop (.fld 0 0 (.var 0)) .nil) .nil))) (.cons 
  (.setF 0 1 (.var 0) (.lit (.bl true))) (.cons 
  (.ex (.mcall 0 17 (.var 0) (.cons (.var 1) .nil))) .nil))))
def f_datatext_DataReader_close_one : Fn := ⟨1, 2, b_datatext_DataReader_close_one⟩
/-- DataReader.comma: 0 self -/
def l_datatext_DataReader_comma_0i : Ex := (.orE (.fld 0 1 (.var 0)) (.pr .eq (.cons (.pr .len (.cons (.fld 0 0 (.var 0)) .nil)) (.cons (.lit (.int 0)) .nil))))
def b_datatext_DataReader_comma : Sms := (.cons 
  (.ife l_datatext_DataReader_comma_0i (.cons 
   (.raise 1 .nil) .nil) .nil) (.cons 
  (.setF 0 1 (.var 0) (.lit (.bl true))) .nil))
def f_datatext_DataReader_comma : Fn := ⟨1, 1, b_datatext_DataReader_comma⟩
/-- DataReader.take: 0 self 1 piece -/
def l_datatext_DataReader_take_0i : Ex := (.pr .eq (.cons (.var 1) (.cons (.lit (.str [91])) .nil)))
def l_datatext_DataReader_take_1i : Ex := (.pr .eq (.cons (.var 1) (.cons (.lit (.str [93])) .nil)))
def l_datatext_DataReader_take_2i : Ex := (.pr .eq (.cons (.var 1) (.cons (.lit (.str [44])) .nil)))
def b_datatext_DataReader_take : Sms := (.cons 
  (.ife l_datatext_DataReader_take_0i (.cons 
   (.ex (.mcall 0 18 (.var 0) .nil)) .nil) (.cons 
   (.ife l_datatext_DataReader_take_1i (.cons 
    (.ex (.mcall 0 19 (.var 0) .nil)) .nil) (.cons 
    (.ife l_datatext_DataReader_take_2i (.cons 
     (.ex (.mcall 0 20 (.var 0) .nil)) .nil) (.cons 
     (.ex (.mcall 0 17 (.var 0) (.cons (.ife (.call 1 (.cons (.var 1) .nil)) (.var 1) (.call 4 (.cons (.var 1) .nil))) .nil))) .nil)) .nil)) .nil)) .nil)
def f_datatext_DataReader_take : Fn := ⟨2, 2, b_datatext_DataReader_take⟩
end MD
end
section
set_option linter.all false
set_option autoImplicit false
namespace K53
open PySem Mini
def P : Prog := ⟨MD.cs, [(0, MD.f_sentence_is_whole), (1, MD.f_datatext_is_word), (2, MD.f_datatext_is_short), (3, MD.f_datatext_write_data), (4, MD.f_datatext_read_whole), (5, MD.f_datatext_pieces_of), (6, MD.f_datatext_read_data), (7, MD.f_law_draw), (8, MD.f_law_take), (9, MD.f_law_data), (10, MD.f_law_word), (11, MD.f_law_written), (12, MD.f_law_number), (13, MD.f_law_read), (14, MD.f_law_told), (15, MD.f_law_k53), (16, MD.f_datatext_DataReader_init), (17, MD.f_datatext_DataReader_item), (18, MD.f_datatext_DataReader_open_one), (19, MD.f_datatext_DataReader_close_one), (20, MD.f_datatext_DataReader_comma), (21, MD.f_datatext_DataReader_take)]⟩
theorem p_sentence_is_whole : P.fn 0 = some MD.f_sentence_is_whole := rfl
theorem p_datatext_is_word : P.fn 1 = some MD.f_datatext_is_word := rfl
theorem p_datatext_is_short : P.fn 2 = some MD.f_datatext_is_short := rfl
theorem p_datatext_write_data : P.fn 3 = some MD.f_datatext_write_data := rfl
theorem p_datatext_read_whole : P.fn 4 = some MD.f_datatext_read_whole := rfl
theorem p_datatext_pieces_of : P.fn 5 = some MD.f_datatext_pieces_of := rfl
theorem p_datatext_read_data : P.fn 6 = some MD.f_datatext_read_data := rfl
theorem p_law_draw : P.fn 7 = some MD.f_law_draw := rfl
theorem p_law_take : P.fn 8 = some MD.f_law_take := rfl
theorem p_law_data : P.fn 9 = some MD.f_law_data := rfl
theorem p_law_word : P.fn 10 = some MD.f_law_word := rfl
theorem p_law_written : P.fn 11 = some MD.f_law_written := rfl
theorem p_law_number : P.fn 12 = some MD.f_law_number := rfl
theorem p_law_read : P.fn 13 = some MD.f_law_read := rfl
theorem p_law_told : P.fn 14 = some MD.f_law_told := rfl
theorem p_law_k53 : P.fn 15 = some MD.f_law_k53 := rfl
theorem p_datatext_DataReader_init : P.fn 16 = some MD.f_datatext_DataReader_init := rfl
theorem p_datatext_DataReader_item : P.fn 17 = some MD.f_datatext_DataReader_item := rfl
theorem p_datatext_DataReader_open_one : P.fn 18 = some MD.f_datatext_DataReader_open_one := rfl
theorem p_datatext_DataReader_close_one : P.fn 19 = some MD.f_datatext_DataReader_close_one := rfl
theorem p_datatext_DataReader_comma : P.fn 20 = some MD.f_datatext_DataReader_comma := rfl
theorem p_datatext_DataReader_take : P.fn 21 = some MD.f_datatext_DataReader_take := rfl
end K53
end
section
set_option linter.all false
set_option autoImplicit false
set_option maxRecDepth 100000
set_option maxHeartbeats 1000000
namespace K53
open PySem Mini
def G : GI := {
  fns := [("is_whole", 0), ("is_word", 1), ("is_short", 2), ("write_data", 3), ("read_whole", 4), ("pieces_of", 5), ("read_data", 6), ("_law_draw", 7), ("_law_take", 8), ("_law_data", 9), ("_law_word", 10), ("_law_written", 11), ("_law_number", 12), ("_law_read", 13), ("_law_told", 14), ("law", 15)]
  cns := [("DIGITS", .str [48, 49, 50, 51, 52, 53, 54, 55, 56, 57]), ("LETTERS", .str [97, 98, 99, 100, 101, 102, 103, 104, 105, 106, 107, 108, 109, 110, 111, 112, 113, 114, 115, 116, 117, 118, 119, 120, 121, 122]), ("MOST_DEPTH", .int 1000), ("MOST_DIGITS", .int 4000), ("MOST_WORD", .int 12)]
  bts := ["abs", "all", "any", "bool", "enumerate", "int", "isinstance", "len", "range", "repr", "str", "tuple"]
  pls := [("Malformed", 1)]
  ins := []
  ecs := [("Fault", 0), ("Malformed", 1)]
  xfs := []
  kls := [("DataReader", 0)]
  kfs := [(0, ["tuples", "ready", "told"])]
  kms := [((0, "__init__"), 16), ((0, "item"), 17), ((0, "open_one"), 18), ((0, "close_one"), 19), ((0, "comma"), 20), ((0, "take"), 21)] }
def top (i : Nat) : Stmt := PySem.Challenge.pw_twohandswon_k53_whole_plain_data.main.body.getD i (.Pass ⟨0, 0, 0, 0⟩)
def ofCls (s : Stmt) (k : Nat) : Stmt := match s with
  | .ClassDef (body := b) .. => b.getD k (.Pass ⟨0, 0, 0, 0⟩)
  | s => s
abbrev s_sentence_is_whole : Stmt := top 6
def N_sentence_is_whole : List PySem.Str := ["value"]
abbrev s_datatext_is_word : Stmt := top 11
def N_datatext_is_word : List PySem.Str := ["value", "sign"]
abbrev s_datatext_is_short : Stmt := top 12
def N_datatext_is_short : List PySem.Str := ["value", "most", "_"]
abbrev s_datatext_write_data : Stmt := top 13
def N_datatext_write_data : List PySem.Str := ["data", "waiting", "found", "one", "depth", "k"]
abbrev s_datatext_read_whole : Stmt := top 14
def N_datatext_read_whole : List PySem.Str := ["text", "body", "sign"]
abbrev s_datatext_pieces_of : Stmt := top 15
def N_datatext_pieces_of : List PySem.Str := ["text", "found", "start", "place", "sign"]
abbrev s_datatext_read_data : Stmt := top 17
def N_datatext_read_data : List PySem.Str := ["text", "reader", "piece"]
abbrev s_law_draw : Stmt := top 19
def N_law_draw : List PySem.Str := ["script", "seed", "cell"]
abbrev s_law_take : Stmt := top 20
def N_law_take : List PySem.Str := ["draw", "many", "found"]
abbrev s_law_data : Stmt := top 21
def N_law_data : List PySem.Str := ["draw", "deep", "k", "turn"]
abbrev s_law_word : Stmt := top 22
def N_law_word : List PySem.Str := ["value", "sign"]
abbrev s_law_written : Stmt := top 23
def N_law_written : List PySem.Str := ["data", "parts", "item"]
abbrev s_law_number : Stmt := top 24
def N_law_number : List PySem.Str := ["text", "body", "sign"]
abbrev s_law_read : Stmt := top 25
def N_law_read : List PySem.Str := ["text", "rows", "done", "token", "ahead", "sign", "atom", "row"]
abbrev s_law_told : Stmt := top 26
def N_law_told : List PySem.Str := ["which", "value"]
abbrev s_law_k53 : Stmt := top 27
def N_law_k53 : List PySem.Str := ["script", "draw", "turn", "data", "text", "again", "other", "i", "sign", "due", "bad", "long", "deep", "value"]
abbrev s_datatext_DataReader_init : Stmt := ofCls (top 16) 0
def N_datatext_DataReader_init : List PySem.Str := ["self"]
abbrev s_datatext_DataReader_item : Stmt := ofCls (top 16) 1
def N_datatext_DataReader_item : List PySem.Str := ["self", "value"]
abbrev s_datatext_DataReader_open_one : Stmt := ofCls (top 16) 2
def N_datatext_DataReader_open_one : List PySem.Str := ["self"]
abbrev s_datatext_DataReader_close_one : Stmt := ofCls (top 16) 3
def N_datatext_DataReader_close_one : List PySem.Str := ["self", "found"]
abbrev s_datatext_DataReader_comma : Stmt := ofCls (top 16) 4
def N_datatext_DataReader_comma : List PySem.Str := ["self"]
abbrev s_datatext_DataReader_take : Stmt := ofCls (top 16) 5
def N_datatext_DataReader_take : List PySem.Str := ["self", "piece"]
theorem ck_sentence_is_whole : chkSs G MD.b_sentence_is_whole ⟨N_sentence_is_whole, L2.defScope s_sentence_is_whole, true⟩ (L2.defBody s_sentence_is_whole) = true := by decide +kernel
def d_sentence_is_whole : _root_.He.DefD := ⟨("is_whole", none), "is_whole", "is_whole", L2.defArgs s_sentence_is_whole, L2.defBody s_sentence_is_whole, L2.defScope s_sentence_is_whole, [], []⟩
theorem ds_sentence_is_whole : DefS G d_sentence_is_whole MD.f_sentence_is_whole := ⟨N_sentence_is_whole, ["value"], ck_sentence_is_whole, by decide +kernel, rfl, rfl, rfl, rfl, fun _ _ _ _ _ _ us hl => match us, hl with | [_], _ => rfl⟩
theorem ck_datatext_is_word : chkSs G MD.b_datatext_is_word ⟨N_datatext_is_word, L2.defScope s_datatext_is_word, true⟩ (L2.defBody s_datatext_is_word) = true := by decide +kernel
def d_datatext_is_word : _root_.He.DefD := ⟨("is_word", none), "is_word", "is_word", L2.defArgs s_datatext_is_word, L2.defBody s_datatext_is_word, L2.defScope s_datatext_is_word, [], []⟩
theorem ds_datatext_is_word : DefS G d_datatext_is_word MD.f_datatext_is_word := ⟨N_datatext_is_word, ["value"], ck_datatext_is_word, by decide +kernel, rfl, rfl, rfl, rfl, fun _ _ _ _ _ _ us hl => match us, hl with | [_], _ => rfl⟩
theorem ck_datatext_is_short : chkSs G MD.b_datatext_is_short ⟨N_datatext_is_short, L2.defScope s_datatext_is_short, true⟩ (L2.defBody s_datatext_is_short) = true := by decide +kernel
def d_datatext_is_short : _root_.He.DefD := ⟨("is_short", none), "is_short", "is_short", L2.defArgs s_datatext_is_short, L2.defBody s_datatext_is_short, L2.defScope s_datatext_is_short, [], []⟩
theorem ds_datatext_is_short : DefS G d_datatext_is_short MD.f_datatext_is_short := ⟨N_datatext_is_short, ["value"], ck_datatext_is_short, by decide +kernel, rfl, rfl, rfl, rfl, fun _ _ _ _ _ _ us hl => match us, hl with | [_], _ => rfl⟩
theorem ck_datatext_write_data : chkSs G MD.b_datatext_write_data ⟨N_datatext_write_data, L2.defScope s_datatext_write_data, true⟩ (L2.defBody s_datatext_write_data) = true := by decide +kernel
def d_datatext_write_data : _root_.He.DefD := ⟨("write_data", none), "write_data", "write_data", L2.defArgs s_datatext_write_data, L2.defBody s_datatext_write_data, L2.defScope s_datatext_write_data, [], []⟩
theorem ds_datatext_write_data : DefS G d_datatext_write_data MD.f_datatext_write_data := ⟨N_datatext_write_data, ["data"], ck_datatext_write_data, by decide +kernel, rfl, rfl, rfl, rfl, fun _ _ _ _ _ _ us hl => match us, hl with | [_], _ => rfl⟩
theorem ck_datatext_read_whole : chkSs G MD.b_datatext_read_whole ⟨N_datatext_read_whole, L2.defScope s_datatext_read_whole, true⟩ (L2.defBody s_datatext_read_whole) = true := by decide +kernel
def d_datatext_read_whole : _root_.He.DefD := ⟨("read_whole", none), "read_whole", "read_whole", L2.defArgs s_datatext_read_whole, L2.defBody s_datatext_read_whole, L2.defScope s_datatext_read_whole, [], []⟩
theorem ds_datatext_read_whole : DefS G d_datatext_read_whole MD.f_datatext_read_whole := ⟨N_datatext_read_whole, ["text"], ck_datatext_read_whole, by decide +kernel, rfl, rfl, rfl, rfl, fun _ _ _ _ _ _ us hl => match us, hl with | [_], _ => rfl⟩
theorem ck_datatext_pieces_of : chkSs G MD.b_datatext_pieces_of ⟨N_datatext_pieces_of, L2.defScope s_datatext_pieces_of, true⟩ (L2.defBody s_datatext_pieces_of) = true := by decide +kernel
def d_datatext_pieces_of : _root_.He.DefD := ⟨("pieces_of", none), "pieces_of", "pieces_of", L2.defArgs s_datatext_pieces_of, L2.defBody s_datatext_pieces_of, L2.defScope s_datatext_pieces_of, [], []⟩
theorem ds_datatext_pieces_of : DefS G d_datatext_pieces_of MD.f_datatext_pieces_of := ⟨N_datatext_pieces_of, ["text"], ck_datatext_pieces_of, by decide +kernel, rfl, rfl, rfl, rfl, fun _ _ _ _ _ _ us hl => match us, hl with | [_], _ => rfl⟩
theorem ck_datatext_read_data : chkSs G MD.b_datatext_read_data ⟨N_datatext_read_data, L2.defScope s_datatext_read_data, true⟩ (L2.defBody s_datatext_read_data) = true := by decide +kernel
def d_datatext_read_data : _root_.He.DefD := ⟨("read_data", none), "read_data", "read_data", L2.defArgs s_datatext_read_data, L2.defBody s_datatext_read_data, L2.defScope s_datatext_read_data, [], []⟩
theorem ds_datatext_read_data : DefS G d_datatext_read_data MD.f_datatext_read_data := ⟨N_datatext_read_data, ["text"], ck_datatext_read_data, by decide +kernel, rfl, rfl, rfl, rfl, fun _ _ _ _ _ _ us hl => match us, hl with | [_], _ => rfl⟩
theorem ck_law_draw : chkSs G MD.b_law_draw ⟨N_law_draw, L2.defScope s_law_draw, true⟩ (L2.defBody s_law_draw) = true := by decide +kernel
def d_law_draw : _root_.He.DefD := ⟨("_law_draw", none), "_law_draw", "_law_draw", L2.defArgs s_law_draw, L2.defBody s_law_draw, L2.defScope s_law_draw, [], []⟩
theorem ds_law_draw : DefS G d_law_draw MD.f_law_draw := ⟨N_law_draw, ["script"], ck_law_draw, by decide +kernel, rfl, rfl, rfl, rfl, fun _ _ _ _ _ _ us hl => match us, hl with | [_], _ => rfl⟩
theorem ck_law_take : chkSs G MD.b_law_take ⟨N_law_take, L2.defScope s_law_take, true⟩ (L2.defBody s_law_take) = true := by decide +kernel
def d_law_take : _root_.He.DefD := ⟨("_law_take", none), "_law_take", "_law_take", L2.defArgs s_law_take, L2.defBody s_law_take, L2.defScope s_law_take, [], []⟩
theorem ds_law_take : DefS G d_law_take MD.f_law_take := ⟨N_law_take, ["draw", "many"], ck_law_take, by decide +kernel, rfl, rfl, rfl, rfl, fun _ _ _ _ _ _ us hl => match us, hl with | [_, _], _ => rfl⟩
theorem ck_law_data : chkSs G MD.b_law_data ⟨N_law_data, L2.defScope s_law_data, true⟩ (L2.defBody s_law_data) = true := by decide +kernel
def d_law_data : _root_.He.DefD := ⟨("_law_data", none), "_law_data", "_law_data", L2.defArgs s_law_data, L2.defBody s_law_data, L2.defScope s_law_data, [], []⟩
theorem ds_law_data : DefS G d_law_data MD.f_law_data := ⟨N_law_data, ["draw", "deep"], ck_law_data, by decide +kernel, rfl, rfl, rfl, rfl, fun _ _ _ _ _ _ us hl => match us, hl with | [_, _], _ => rfl⟩
theorem ck_law_word : chkSs G MD.b_law_word ⟨N_law_word, L2.defScope s_law_word, true⟩ (L2.defBody s_law_word) = true := by decide +kernel
def d_law_word : _root_.He.DefD := ⟨("_law_word", none), "_law_word", "_law_word", L2.defArgs s_law_word, L2.defBody s_law_word, L2.defScope s_law_word, [], []⟩
theorem ds_law_word : DefS G d_law_word MD.f_law_word := ⟨N_law_word, ["value"], ck_law_word, by decide +kernel, rfl, rfl, rfl, rfl, fun _ _ _ _ _ _ us hl => match us, hl with | [_], _ => rfl⟩
theorem ck_law_written : chkSs G MD.b_law_written ⟨N_law_written, L2.defScope s_law_written, true⟩ (L2.defBody s_law_written) = true := by decide +kernel
def d_law_written : _root_.He.DefD := ⟨("_law_written", none), "_law_written", "_law_written", L2.defArgs s_law_written, L2.defBody s_law_written, L2.defScope s_law_written, [], []⟩
theorem ds_law_written : DefS G d_law_written MD.f_law_written := ⟨N_law_written, ["data"], ck_law_written, by decide +kernel, rfl, rfl, rfl, rfl, fun _ _ _ _ _ _ us hl => match us, hl with | [_], _ => rfl⟩
theorem ck_law_number : chkSs G MD.b_law_number ⟨N_law_number, L2.defScope s_law_number, true⟩ (L2.defBody s_law_number) = true := by decide +kernel
def d_law_number : _root_.He.DefD := ⟨("_law_number", none), "_law_number", "_law_number", L2.defArgs s_law_number, L2.defBody s_law_number, L2.defScope s_law_number, [], []⟩
theorem ds_law_number : DefS G d_law_number MD.f_law_number := ⟨N_law_number, ["text"], ck_law_number, by decide +kernel, rfl, rfl, rfl, rfl, fun _ _ _ _ _ _ us hl => match us, hl with | [_], _ => rfl⟩
theorem ck_law_read : chkSs G MD.b_law_read ⟨N_law_read, L2.defScope s_law_read, true⟩ (L2.defBody s_law_read) = true := by decide +kernel
def d_law_read : _root_.He.DefD := ⟨("_law_read", none), "_law_read", "_law_read", L2.defArgs s_law_read, L2.defBody s_law_read, L2.defScope s_law_read, [], []⟩
theorem ds_law_read : DefS G d_law_read MD.f_law_read := ⟨N_law_read, ["text"], ck_law_read, by decide +kernel, rfl, rfl, rfl, rfl, fun _ _ _ _ _ _ us hl => match us, hl with | [_], _ => rfl⟩
theorem ck_law_told : chkSs G MD.b_law_told ⟨N_law_told, L2.defScope s_law_told, true⟩ (L2.defBody s_law_told) = true := by decide +kernel
def d_law_told : _root_.He.DefD := ⟨("_law_told", none), "_law_told", "_law_told", L2.defArgs s_law_told, L2.defBody s_law_told, L2.defScope s_law_told, [], []⟩
theorem ds_law_told : DefS G d_law_told MD.f_law_told := ⟨N_law_told, ["which", "value"], ck_law_told, by decide +kernel, rfl, rfl, rfl, rfl, fun _ _ _ _ _ _ us hl => match us, hl with | [_, _], _ => rfl⟩
theorem ck_law_k53 : chkSs G MD.b_law_k53 ⟨N_law_k53, L2.defScope s_law_k53, true⟩ (L2.defBody s_law_k53) = true := by decide +kernel
def d_law_k53 : _root_.He.DefD := ⟨("law", none), "law", "law", L2.defArgs s_law_k53, L2.defBody s_law_k53, L2.defScope s_law_k53, [], []⟩
theorem ds_law_k53 : DefS G d_law_k53 MD.f_law_k53 := ⟨N_law_k53, ["script"], ck_law_k53, by decide +kernel, rfl, rfl, rfl, rfl, fun _ _ _ _ _ _ us hl => match us, hl with | [_], _ => rfl⟩
theorem ck_datatext_DataReader_init : chkSs G MD.b_datatext_DataReader_init ⟨N_datatext_DataReader_init, L2.defScope s_datatext_DataReader_init, true⟩ (L2.defBody s_datatext_DataReader_init) = true := by decide +kernel
def d_datatext_DataReader_init : _root_.He.DefD := ⟨("DataReader", some "__init__"), "__init__", "DataReader.__init__", L2.defArgs s_datatext_DataReader_init, L2.defBody s_datatext_DataReader_init, L2.defScope s_datatext_DataReader_init, [], []⟩
theorem ds_datatext_DataReader_init : DefS G d_datatext_DataReader_init MD.f_datatext_DataReader_init := ⟨N_datatext_DataReader_init, ["self"], ck_datatext_DataReader_init, by decide +kernel, rfl, rfl, rfl, rfl, fun _ _ _ _ _ _ us hl => match us, hl with | [_], _ => rfl⟩
theorem ck_datatext_DataReader_item : chkSs G MD.b_datatext_DataReader_item ⟨N_datatext_DataReader_item, L2.defScope s_datatext_DataReader_item, true⟩ (L2.defBody s_datatext_DataReader_item) = true := by decide +kernel
def d_datatext_DataReader_item : _root_.He.DefD := ⟨("DataReader", some "item"), "item", "DataReader.item", L2.defArgs s_datatext_DataReader_item, L2.defBody s_datatext_DataReader_item, L2.defScope s_datatext_DataReader_item, [], []⟩
theorem ds_datatext_DataReader_item : DefS G d_datatext_DataReader_item MD.f_datatext_DataReader_item := ⟨N_datatext_DataReader_item, ["self", "value"], ck_datatext_DataReader_item, by decide +kernel, rfl, rfl, rfl, rfl, fun _ _ _ _ _ _ us hl => match us, hl with | [_, _], _ => rfl⟩
theorem ck_datatext_DataReader_open_one : chkSs G MD.b_datatext_DataReader_open_one ⟨N_datatext_DataReader_open_one, L2.defScope s_datatext_DataReader_open_one, true⟩ (L2.defBody s_datatext_DataReader_open_one) = true := by decide +kernel
def d_datatext_DataReader_open_one : _root_.He.DefD := ⟨("DataReader", some "open_one"), "open_one", "DataReader.open_one", L2.defArgs s_datatext_DataReader_open_one, L2.defBody s_datatext_DataReader_open_one, L2.defScope s_datatext_DataReader_open_one, [], []⟩
theorem ds_datatext_DataReader_open_one : DefS G d_datatext_DataReader_open_one MD.f_datatext_DataReader_open_one := ⟨N_datatext_DataReader_open_one, ["self"], ck_datatext_DataReader_open_one, by decide +kernel, rfl, rfl, rfl, rfl, fun _ _ _ _ _ _ us hl => match us, hl with | [_], _ => rfl⟩
theorem ck_datatext_DataReader_close_one : chkSs G MD.b_datatext_DataReader_close_one ⟨N_datatext_DataReader_close_one, L2.defScope s_datatext_DataReader_close_one, true⟩ (L2.defBody s_datatext_DataReader_close_one) = true := by decide +kernel
def d_datatext_DataReader_close_one : _root_.He.DefD := ⟨("DataReader", some "close_one"), "close_one", "DataReader.close_one", L2.defArgs s_datatext_DataReader_close_one, L2.defBody s_datatext_DataReader_close_one, L2.defScope s_datatext_DataReader_close_one, [], []⟩
theorem ds_datatext_DataReader_close_one : DefS G d_datatext_DataReader_close_one MD.f_datatext_DataReader_close_one := ⟨N_datatext_DataReader_close_one, ["self"], ck_datatext_DataReader_close_one, by decide +kernel, rfl, rfl, rfl, rfl, fun _ _ _ _ _ _ us hl => match us, hl with | [_], _ => rfl⟩
theorem ck_datatext_DataReader_comma : chkSs G MD.b_datatext_DataReader_comma ⟨N_datatext_DataReader_comma, L2.defScope s_datatext_DataReader_comma, true⟩ (L2.defBody s_datatext_DataReader_comma) = true := by decide +kernel
def d_datatext_DataReader_comma : _root_.He.DefD := ⟨("DataReader", some "comma"), "comma", "DataReader.comma", L2.defArgs s_datatext_DataReader_comma, L2.defBody s_datatext_DataReader_comma, L2.defScope s_datatext_DataReader_comma, [], []⟩
theorem ds_datatext_DataReader_comma : DefS G d_datatext_DataReader_comma MD.f_datatext_DataReader_comma := ⟨N_datatext_DataReader_comma, ["self"], ck_datatext_DataReader_comma, by decide +kernel, rfl, rfl, rfl, rfl, fun _ _ _ _ _ _ us hl => match us, hl with | [_], _ => rfl⟩
theorem ck_datatext_DataReader_take : chkSs G MD.b_datatext_DataReader_take ⟨N_datatext_DataReader_take, L2.defScope s_datatext_DataReader_take, true⟩ (L2.defBody s_datatext_DataReader_take) = true := by decide +kernel
def d_datatext_DataReader_take : _root_.He.DefD := ⟨("DataReader", some "take"), "take", "DataReader.take", L2.defArgs s_datatext_DataReader_take, L2.defBody s_datatext_DataReader_take, L2.defScope s_datatext_DataReader_take, [], []⟩
theorem ds_datatext_DataReader_take : DefS G d_datatext_DataReader_take MD.f_datatext_DataReader_take := ⟨N_datatext_DataReader_take, ["self", "piece"], ck_datatext_DataReader_take, by decide +kernel, rfl, rfl, rfl, rfl, fun _ _ _ _ _ _ us hl => match us, hl with | [_, _], _ => rfl⟩
def fn : List (Nat × _root_.He.DefD) := [(0, d_sentence_is_whole), (1, d_datatext_is_word), (2, d_datatext_is_short), (3, d_datatext_write_data), (4, d_datatext_read_whole), (5, d_datatext_pieces_of), (6, d_datatext_read_data), (7, d_law_draw), (8, d_law_take), (9, d_law_data), (10, d_law_word), (11, d_law_written), (12, d_law_number), (13, d_law_read), (14, d_law_told), (15, d_law_k53), (16, d_datatext_DataReader_init), (17, d_datatext_DataReader_item), (18, d_datatext_DataReader_open_one), (19, d_datatext_DataReader_close_one), (20, d_datatext_DataReader_comma), (21, d_datatext_DataReader_take)]
theorem dss : DefsS G fn P.fns := .cons ds_sentence_is_whole (.cons ds_datatext_is_word (.cons ds_datatext_is_short (.cons ds_datatext_write_data (.cons ds_datatext_read_whole (.cons ds_datatext_pieces_of (.cons ds_datatext_read_data (.cons ds_law_draw (.cons ds_law_take (.cons ds_law_data (.cons ds_law_word (.cons ds_law_written (.cons ds_law_number (.cons ds_law_read (.cons ds_law_told (.cons ds_law_k53 (.cons ds_datatext_DataReader_init (.cons ds_datatext_DataReader_item (.cons ds_datatext_DataReader_open_one (.cons ds_datatext_DataReader_close_one (.cons ds_datatext_DataReader_comma (.cons ds_datatext_DataReader_take (.nil))))))))))))))))))))))
def cls : List (Nat × PySem.Str) := [(0, "Fault"), (1, "Malformed")]
def kl : List (Nat × PySem.Str × List PySem.Str) := [(0, "DataReader", ["tuples", "ready", "told"])]
def names : List PySem.Str := ["Fault", "Malformed", "LETTERS", "DIGITS", "is_whole", "MOST_WORD", "MOST_DEPTH", "MOST_DIGITS", "is_word", "is_short", "write_data", "read_whole", "pieces_of", "DataReader", "read_data", "_law_draw", "_law_take", "_law_data", "_law_word", "_law_written", "_law_number", "_law_read", "_law_told"]
def sups : List SupD := []
def chk (K : PySem.W.Frag) : Bool := facB MD.cs G fn cls kl K
abbrev R : PySem.W.OpenRow := PySem.W.OpenLaw.row PySem.Challenge.rw_twohandswon_k53_whole_plain_data
abbrev hk : PySem.W.Hook := hookM 5 chk (dOf fn) sups
def ob (s : PySem.W.SharedT) : AlM := obsMG 5 chk (dOf fn) sups (HandSHeadRun.getT s)
theorem ob_eq (s : PySem.W.SharedT) : ob s = hk.obs s.abs := obsMG_eq (HandSHeadRun.getT_eq s)
theorem run (w : World) : HandSHeadRun.RunEq R (PySem.W.view R.prog [27]) hk ob 8000 names w := by
  intro os
  kernel_rfl
end K53
end
section
set_option linter.all false
set_option autoImplicit false
set_option maxRecDepth 100000
set_option maxHeartbeats 1000000
namespace K53
open PySem PySem.Spec PyProof.Rows L2 _root_.He Mini
abbrev pwP : Program := PySem.Challenge.pw_twohandswon_k53_whole_plain_data
abbrev rw_ := PySem.Challenge.rw_twohandswon_k53_whole_plain_data
theorem ats : atsB G fn = true := by decide +kernel
theorem progK (w : World) (K : PySem.W.Frag) (mg : Str → Option Value) (base : Heap) (X : K.In base) (Gn : base.Ns mainGlobals mg) (nl : base.NoLimit) (c : obsM chk (dOf fn) sups K = valM (dOf fn) sups) : ProgOk pwP w K mg base (rcOf K fn cls kl) P G :=
  progOk X Gn nl c (fun h => h) dss (ats_ok ats) fun x ci h => by
    have hz := lookup_mem h
    cases hz
end K53
open PySem PySem.W PySem.Calls PyProof.Rows
theorem K53.holds_of (plain : ∀ zs : List Int, zs.length ≤ 63 → (∀ z ∈ zs, Builtin.Int.intBits z ≤ 1048576) → ∃ st, Mini.callF K53.P 13 15 [.ro (zs.map .int)] [] = .ok (.bl true) st) : PySem.Challenge.rw_twohandswon_k53_whole_plain_data.Holds := by
  w_on; o_law
  refine HandSHeadRun.head_any (r := OpenLaw.row PySem.Challenge.rw_twohandswon_k53_whole_plain_data) (q := view (OpenLaw.row PySem.Challenge.rw_twohandswon_k53_whole_plain_data).prog [27]) (H := K53.hk) (ob := K53.ob) (M := 8000) (loose := K53.names)
    (d := HandSHeadRun.topDef (OpenLaw.row PySem.Challenge.rw_twohandswon_k53_whole_plain_data).prog 27) (kwd := []) K53.ob_eq
    (by kernel_rfl) (fun s => by kernel_rfl) K53.run (by kernel_rfl) (by kernel_rfl) (by kernel_rfl) (by rfl) (by first | assumption | decide +kernel) (by decide +kernel) ⟨rfl, rfl, rfl, rfl, rfl, by decide +kernel⟩ ?hw ?hc
  case hw => w_witness2
  case hc =>
    refine Mini.walkM (l := PySem.Challenge.rw_twohandswon_k53_whole_plain_data) (n := 63) (k := 13) (i := 15) (P := K53.P) (fn := MD.f_law_k53) rfl (by decide) (by kernel_rfl) ⟨rfl, by decide, by decide⟩ rfl rfl (fun w mg fa h Y Gn hmg => ?_) plain
    obtain ⟨K, KX, c⟩ := Y
    refine ⟨K, Mini.rcOf K K53.fn K53.cls K53.kl, K53.G, KX, ?_, fun base kb nb nl => K53.progK w K mg base kb nb nl c⟩
    have e : (HandSHeadRun.topDef (OpenLaw.row PySem.Challenge.rw_twohandswon_k53_whole_plain_data).prog 27).name = ("law" : PySem.Str) := by kernel_rfl
    rw [e] at hmg
    have hc : K53.chk K = true := (_root_.He.ba (show (K53.chk K && (Mini.dOf K53.fn).all fun d => d.ok K) = true from congrArg (fun z : Mini.AlM => z.1.1) c)).1
    have f := hc
    unfold K53.chk Mini.facB at f
    simp only [Bool.and_eq_true, List.all_eq_true] at f
    have g := _root_.He.glo_ok KX Gn (f.1.1.1.1.1.1.1.1.1.1 (("law" : PySem.Str), 15) (by decide +kernel))
    rw [hmg] at g
    cases g
    rfl
end
section
set_option linter.all false
set_option autoImplicit false
set_option maxRecDepth 100000
set_option maxHeartbeats 1000000
/-! Lemmas to run the small language by simp. -/
namespace Mini
open PySem
theorem canCut_refl (st : Sto) : canCut st st := ⟨Nat.le_refl _, fun _ _ => .inl rfl⟩
@[simp] theorem finish_ret (st : Sto) (d : D) : finish st (.ret d st) = .ok d st := by
  simp only [finish]
  split
  · rw [List.take_length]
  · rfl
@[simp] theorem finish_nx (st : Sto) (env : Env) : finish st (.nx env st) = .ok .non st := by
  simp only [finish]
  split
  · rw [List.take_length]
  · rfl
@[simp] theorem finish_exc (st : Sto) (x : Exc) (env : Env) : finish st (.exc x env st) = .exc x st := by
  simp only [finish]
  split
  · rw [List.take_length]
  · rfl
theorem callF_at {P : Prog} {k f : Nat} {fn : Fn} {ds : List D} {st : Sto} (h : P.fn f = some fn) (hl : ds.length = fn.np) : callF P (k + 1) f ds st = finish st (exSs P.cs (callF P k) fn.body (startE fn.nn ds) st) := by
  simp only [callF, h, hl, if_true]
/-! values -/
@[simp] theorem truR_bl' (b : Bool) (st : Sto) : truR (.bl b) st = .ok b st := rfl
@[simp] theorem truR_int (i : Int) (st : Sto) : truR (.int i) st = .ok (i != 0) st := rfl
@[simp] theorem tr_ret (d : D) (st : Sto) (h : Exc → Env → Sto → Out) : (Out.ret d st).tr h = .ret d st := rfl
@[simp] theorem tr_exc (x : Exc) (env : Env) (st : Sto) (h : Exc → Env → Sto → Out) : (Out.exc x env st).tr h = h x env st := rfl
@[simp] theorem noExc_ok' {α : Type} (a : α) (st : Sto) : noExc (.ok a st) = .ok a st := rfl
/-! while -/
theorem loopN_up {c : Env → Sto → Res Bool} {b : Env → Sto → Out} : ∀ {n : Nat} {env : Env} {st : Sto}, loopN c b n env st ≠ .bad → loopN c b (n + 1) env st = loopN c b n env st
  | 0, env, st, h => absurd rfl h
  | n + 1, env, st, h => by
    unfold loopN at h
    rw [loopN]
    conv => rhs; rw [loopN]
    cases e : c env st with
    | bad => rfl
    | exc x s => rfl
    | ok x s =>
      rw [e] at h
      cases x with
      | false => rfl
      | true =>
        dsimp only at h ⊢
        cases eb : b env s with
        | nx env' s' =>
          rw [eb] at h
          exact loopN_up h
        | cont env' s' =>
          rw [eb] at h
          exact loopN_up h
        | brk env' s' => rfl
        | ret d s' => rfl
        | exc x env' s' => rfl
        | bad => rfl
theorem loopN_add {c : Env → Sto → Res Bool} {b : Env → Sto → Out} {n : Nat} {env : Env} {st : Sto} (h : loopN c b n env st ≠ .bad) (k : Nat) : loopN c b (n + k) env st = loopN c b n env st := by
  induction k with
  | zero => rfl
  | succ k ih => rw [Nat.add_succ, loopN_up (by rw [ih]; exact h), ih]
theorem loopN_one {c : Env → Sto → Res Bool} {b : Env → Sto → Out} {n m : Nat} {env : Env} {st : Sto} (h1 : loopN c b n env st ≠ .bad) (h2 : loopN c b m env st ≠ .bad) : loopN c b n env st = loopN c b m env st := by
  rcases Nat.le_total n m with h | h
  · obtain ⟨k, rfl⟩ := Nat.exists_eq_add_of_le h
    rw [loopN_add h1]
  · obtain ⟨k, rfl⟩ := Nat.exists_eq_add_of_le h
    rw [loopN_add h2]
/-- a loop by its steps -/
theorem loopW_of {c : Env → Sto → Res Bool} {b : Env → Sto → Out} {env : Env} {st : Sto} {o : Out} (n : Nat) (h : loopN c b n env st = o) (ho : o ≠ .bad) : loopW c b env st = o := by
  have ex : ∃ n, loopN c b n env st ≠ .bad := ⟨n, by rw [h]; exact ho⟩
  unfold loopW
  rw [dif_pos ex, loopN_one ex.choose_spec (show loopN c b n env st ≠ .bad by rw [h]; exact ho), h]
theorem loopW_done {c : Env → Sto → Res Bool} {b : Env → Sto → Out} {env : Env} {st st' : Sto} (h : c env st = .ok false st') : loopW c b env st = .nx env st' := loopW_of 1 (by rw [loopN, h]) (by simp)
theorem loopW_step {c : Env → Sto → Res Bool} {b : Env → Sto → Out} {env env' : Env} {st st1 st' : Sto} {o : Out} (h : c env st = .ok true st1) (hb : b env st1 = .nx env' st') (k : loopW c b env' st' = o) (ho : o ≠ .bad) : loopW c b env st = o := by
  unfold loopW at k
  split at k
  · rename_i ex
    refine loopW_of (ex.choose + 1) ?_ ho
    rw [loopN, h]
    dsimp only
    rw [hb]
    exact k
  · exact absurd k.symm ho
/-! for -/
theorem forL_cons {t : Tg} {b : Env → Sto → Out} {d : D} {ds : List D} {env : Env} {st : Sto} : forL [] t b (d :: ds) env st = match setT t d env with
      | some env => match b env st with
        | .nx env st => forL [] t b ds env st
        | .cont env st => forL [] t b ds env st
        | .brk env st => .nx env st
        | o => o
      | none => .bad := by
  rw [forL]
  exact if_pos (srcOK_nil _)
@[simp] theorem forL_nil {t : Tg} {b : Env → Sto → Out} {env : Env} {st : Sto} : forL [] t b [] env st = .nx env st := by
  rw [forL]
  exact if_pos (srcOK_nil _)
/-- a loop whose turns go on -/
theorem forL_go {t : Tg} {b : Env → Sto → Out} (I : Nat → Env → Sto → Prop) : ∀ (ds : List D) (i : Nat) (env : Env) (st : Sto), I i env st → (∀ j d env st, ds[j]? = some d → I (i + j) env st → ∃ env1, setT t d env = some env1 ∧ ∃ env2 st2, b env1 st = .nx env2 st2 ∧ I (i + j + 1) env2 st2) →
    ∃ env' st', forL [] t b ds env st = .nx env' st' ∧ I (i + ds.length) env' st'
  | [], i, env, st, h, _ => ⟨env, st, forL_nil, h⟩
  | d :: ds, i, env, st, h, s => by
    obtain ⟨env1, e1, env2, st2, e2, h2⟩ := s 0 d env st rfl h
    obtain ⟨env', st', e3, h3⟩ := forL_go I ds (i + 1) env2 st2 h2 fun j d env st hj hI => by
      have := s (j + 1) d env st (by simpa using hj) (by simpa [Nat.add_assoc, Nat.add_comm, Nat.add_left_comm] using hI)
      simpa [Nat.add_assoc, Nat.add_comm, Nat.add_left_comm] using this
    refine ⟨env', st', ?_, by simpa [Nat.add_assoc, Nat.add_comm, Nat.add_left_comm] using h3⟩
    rw [forL_cons, e1]
    dsimp only
    rw [e2]
    exact e3
end Mini
namespace Mini
open PySem
/-! == by data -/
abbrev sOk (a : Chs) : Prop := PyData.strOk ⟨a.toArray⟩ = true
@[simp] theorem eqv_int (st : Sto) (a b : Int) : eqvD st (.int a) (.int b) = some (a == b) := rfl
@[simp] theorem eqv_str (st : Sto) (a b : Chs) : eqvD st (.str a) (.str b) = some (a == b) := rfl
@[simp] theorem eqv_bl (st : Sto) (a b : Bool) : eqvD st (.bl a) (.bl b) = some (a == b) := rfl
@[simp] theorem eqv_str_int (st : Sto) (a : Chs) (c : Int) : eqvD st (.str a) (.int c) = some false := rfl
@[simp] theorem eqv_int_str (st : Sto) (a : Chs) (c : Int) : eqvD st (.int c) (.str a) = some false := rfl
@[simp] theorem eqv_non (st : Sto) : eqvD st .non .non = some true := rfl
@[simp] theorem eqv_non_int (st : Sto) (c : Int) : eqvD st .non (.int c) = some false := rfl
@[simp] theorem eqv_non_str (st : Sto) (c : Chs) : eqvD st .non (.str c) = some false := rfl
@[simp] theorem eqv_int_non (st : Sto) (c : Int) : eqvD st (.int c) .non = some false := rfl
@[simp] theorem eqv_str_non (st : Sto) (c : Chs) : eqvD st (.str c) .non = some false := rfl
theorem eqv_deep {st : Sto} {x y : D} {a b : PyData} (h : scalB x y = false) (h1 : toPD st 65 x = some a) (h2 : toPD st 65 y = some b) (h3 : SeqAt.shaped a = true) (h4 : SeqAt.shaped b = true) : eqvD st x y = some (PyData.eqv a b) := by
  unfold eqvD
  rw [h, h1, h2]
  simp [h3, h4]
theorem str_beq (a b : Chs) : ((⟨a.toArray⟩ : Str) == ⟨b.toArray⟩) = (a == b) := by
  by_cases h : a = b
  · subst h
    simp
  · have h1 : (a == b) = false := by simpa using h
    rw [h1]
    have h2 : (⟨a.toArray⟩ : Str) ≠ ⟨b.toArray⟩ := fun z => h (by
      have := congrArg (fun s : Str => s.cps.toList) z
      simpa using this)
    simpa using h2
theorem eqv_pair (st : Sto) (a b c d : Int) : eqvD st (.tup [.int a, .int b]) (.tup [.int c, .int d]) = some (a == c && b == d) := by
  rw [eqv_deep (a := .tuple [.int a, .int b]) (b := .tuple [.int c, .int d]) rfl rfl rfl (by rfl) (by rfl)]
  simp [PyData.eqv, PyData.eqvAll]
end Mini
namespace Mini
open PySem
section
variable (st : Sto) (i j : Int) (a b : Chs) (x y : D) (xs ys : List D)
@[simp] theorem p_add_ii : prim .add [.int i, .int j] st = some (.int (i + j), st) := rfl
@[simp] theorem p_add_ss : prim .add [.str a, .str b] st = guardR (decide (a.length + b.length ≤ sizeLine)) (some (.str (a ++ b), st)) := rfl
@[simp] theorem p_add_ll : prim .add [.lst xs, .lst ys] st = guardR (decide (xs.length + ys.length ≤ sizeLine)) (some (.lst (xs ++ ys), st)) := rfl
@[simp] theorem p_sub : prim .sub [.int i, .int j] st = some (.int (i - j), st) := rfl
@[simp] theorem p_mul_ii : prim .mul [.int i, .int j] st = guardR (wide i j) (some (.int (i * j), st)) := rfl
@[simp] theorem p_mul_li : prim .mul [.lst xs, .int j] st = guardR (decide (-(2 ^ 63) ≤ j) && decide (j < 2 ^ 63) && decide (xs.length * j.toNat ≤ sizeLine)) (some (.lst (List.replicate j.toNat xs).flatten, st)) := rfl
@[simp] theorem p_fdiv : prim .fdiv [.int i, .int j] st = guardR (decide (j ≠ 0) && decide (j.natAbs.log2 < 9000)) (some (.int (i.fdiv j), st)) := rfl
@[simp] theorem p_mod : prim .mod [.int i, .int j] st = guardR (decide (j ≠ 0)) (some (.int (i.fmod j), st)) := rfl
@[simp] theorem p_pow : prim .pow [.int i, .int j] st = guardR (decide (0 ≤ j) && decide (j ≤ 1000000) && decide (i.natAbs < 2 ^ 64)) (some (.int (i ^ j.toNat), st)) := rfl
@[simp] theorem p_neg : prim .neg [.int i] st = some (.int (-i), st) := rfl
@[simp] theorem p_eq : prim .eq [x, y] st = boolR st (eqvD st x y) := rfl
@[simp] theorem p_ne : prim .ne [x, y] st = boolR st ((eqvD st x y).map not) := rfl
@[simp] theorem p_lt : prim .lt [.int i, .int j] st = some (.bl (decide (i < j)), st) := rfl
@[simp] theorem p_le : prim .le [.int i, .int j] st = some (.bl (decide (i ≤ j)), st) := rfl
@[simp] theorem p_gt : prim .gt [.int i, .int j] st = some (.bl (decide (j < i)), st) := rfl
@[simp] theorem p_ge : prim .ge [.int i, .int j] st = some (.bl (decide (j ≤ i)), st) := rfl
@[simp] theorem p_isin : prim .isin [x, y] st = boolR st (inD st x y) := rfl
@[simp] theorem p_notin : prim .notin [x, y] st = boolR st ((inD st x y).map not) := rfl
@[simp] theorem p_ix : prim .ix [x, .int i] st = oneR st (atD st x i) := rfl
@[simp] theorem p_sl00 : prim (.sl false false) [x] st = oneR st (slD st x none none) := rfl
@[simp] theorem p_sl10 : prim (.sl true false) [x, .int i] st = oneR st (slD st x (some i) none) := rfl
@[simp] theorem p_sl01 : prim (.sl false true) [x, .int i] st = oneR st (slD st x none (some i)) := rfl
@[simp] theorem p_sl11 : prim (.sl true true) [x, .int i, .int j] st = oneR st (slD st x (some i) (some j)) := rfl
@[simp] theorem p_len : prim .len [x] st = oneR st (lenD st x) := rfl
@[simp] theorem p_abs : prim .abs [.int i] st = some (.int (if i < 0 then -i else i), st) := rfl
@[simp] theorem p_int : prim .int [x] st = oneR st (intD x) := rfl
@[simp] theorem p_str : prim .str [x] st = oneR st (strD x) := rfl
@[simp] theorem p_tuple : prim .tuple [x] st = oneR st (tupD st x) := rfl
@[simp] theorem p_list : prim .list [x] st = oneR st (lisD st x) := rfl
@[simp] theorem p_all : prim .all [x] st = boolR st (((listOf st x).bind bools).map fun bs => bs.all id) := rfl
@[simp] theorem p_any : prim .any [x] st = boolR st (((listOf st x).bind bools).map fun bs => bs.any id) := rfl
@[simp] theorem p_isi (ts : List Ty) : prim (.isi ts) [x] st = boolR st (isiD st ts x) := rfl
@[simp] theorem p_repr : prim .repr [x] st = oneR st (reprD st x) := rfl
@[simp] theorem p_split : prim .split [.str a, .str b] st = guardR (!b.isEmpty && decide (a.length + 2 ≤ sizeLine)) (some (.lst ((splitC a b).map .str), st)) := rfl
@[simp] theorem p_partition : prim .partition [.str a, .str b] st = guardR (!b.isEmpty && decide (a.length ≤ sizeLine)) (some (.tup [.str (partC a b).1, .str (partC a b).2.1, .str (partC a b).2.2], st)) := rfl
@[simp] theorem boolR_some' (k : Bool) : boolR st (some k) = some (.bl k, st) := rfl
@[simp] theorem oneR_some' : oneR st (some x) = some (x, st) := rfl
@[simp] theorem guardR_true (r : Pm) : guardR true r = r := rfl
@[simp] theorem at_tup : atD st (.tup xs) i = L2.atI xs i := rfl
@[simp] theorem at_lst : atD st (.lst xs) i = L2.atI xs i := rfl
theorem at_ref (n : Nat) : atD st (.ref n) i = (listOf st (.ref n)).bind fun xs => L2.atI xs i := rfl
@[simp] theorem len_tup : lenD st (.tup xs) = some (.int xs.length) := rfl
@[simp] theorem len_lst : lenD st (.lst xs) = some (.int xs.length) := rfl
@[simp] theorem listOf_lst : listOf st (.lst xs) = some xs := rfl
@[simp] theorem listOf_ro : listOf st (.ro xs) = some xs := rfl
@[simp] theorem getV_0 (o : Option D) (env : Env) : getV (o :: env) 0 = o := by simp [getV]
@[simp] theorem getV_s (o : Option D) (env : Env) (n : Nat) : getV (o :: env) (n + 1) = getV env n := by simp [getV]
@[simp] theorem nxO_some' (env : Env) : nxO (some env) st = .nx env st := rfl
@[simp] theorem setT_nm (n : Nat) (d : D) (env : Env) : setT (.nm n) d env = some (env.set n (some d)) := by simp only [setT]
@[simp] theorem setT_tp (ts : Tgs) (env : Env) : setT (.tp ts) (.tup xs) env = setTs ts xs env := by simp only [setT]
@[simp] theorem setTs_nil (env : Env) : setTs .nil [] env = some env := by simp only [setTs]
@[simp] theorem setTs_cons (t : Tg) (ts : Tgs) (env : Env) : setTs (.cons t ts) (x :: xs) env = (setT t x env).bind (setTs ts xs) := by simp only [setTs]
@[simp] theorem setN_nil (env : Env) : setN [] [] env = some env := rfl
@[simp] theorem setN_cons (n : Nat) (is : List Nat) (env : Env) : setN (n :: is) (x :: xs) env = setN is xs (env.set n (some x)) := rfl
end
theorem sl_str {st : Sto} {s : Chs} (lo hi : Option Int) (h : s.length ≤ sizeLine) : slD st (.str s) lo hi = some (.str (cutL s lo hi)) := by
  simp only [slD]
  rw [if_pos h]
theorem len_str' {st : Sto} {s : Chs} (h : s.length ≤ sizeLine) : lenD st (.str s) = some (.int s.length) := by
  simp only [lenD]
  rw [if_pos h]
theorem at_str {st : Sto} {s : Chs} (i : Int) (h : s.length ≤ sizeLine) : atD st (.str s) i = (L2.atI s i).map fun c => .str [c] := by
  simp only [atD]
  rw [if_pos h]
theorem compL_map {f : D → Sto → Res (Option D)} {g : D → D} {st : Sto} : ∀ (ds acc : List D), (∀ d ∈ ds, f d st = .ok (some (g d)) st) → acc.length + ds.length ≤ sizeLine → compL [] f ds acc st = .ok (acc ++ ds.map g) st
  | [], acc, _, _ => by
    rw [compL, if_pos (srcOK_nil _)]
    simp
  | d :: ds, acc, h, hl => by
    rw [compL, if_pos (srcOK_nil _), h d List.mem_cons_self]
    dsimp only
    rw [List.length_cons] at hl
    rw [if_pos (by omega), compL_map ds (acc ++ [g d]) (fun e he => h e (List.mem_cons_of_mem _ he)) (by simp only [List.length_append, List.length_singleton]; omega)]
    simp
theorem bools_map (l : List Bool) : bools (l.map .bl) = some l := by
  induction l with
  | nil => rfl
  | cons b l ih =>
    rw [List.map_cons]
    show (bools (l.map .bl)).map (b :: ·) = _
    rw [ih]
    rfl
/-- one turn of a comprehension -/
noncomputable def turnC (cl : Call) (wp : List Nat) (t : Tg) (cs : Exs) (y : Ex) (env : Env) (d : D) (st : Sto) : Res (Option D) := match setT t d (wipeE wp env) with
        | some env' => noExc ((evC cl cs env' st).bnd fun b st => if b = true then (evE cl y env' st).bnd fun z st => .ok (some z) st else .ok none st)
        | none => .bad
theorem comp_eq (cl : Call) (v : Bool) (wp : List Nat) (t : Tg) (it : It) (cs : Exs) (y : Ex) (env : Env) (st : Sto) : evE cl (.comp v wp t it cs y) env st = (evI cl it env st).bnd fun ig st =>
      (compL ig.2 (turnC cl wp t cs y env) ig.1 [] st).bnd fun ys st => if v then .ok (.lst ys) st else .ok (.ref st.length) (st ++ [.lst ys]) := by
  simp only [evE]
  rfl
theorem turnC_of {cl : Call} {wp : List Nat} {t : Tg} {cs : Exs} {y : Ex} {env env' : Env} {d : D} {st : Sto} (h : setT t d (wipeE wp env) = some env') : turnC cl wp t cs y env d st = noExc ((evC cl cs env' st).bnd fun b st => if b = true then (evE cl y env' st).bnd fun z st => .ok (some z) st else .ok none st) := by
  unfold turnC
  rw [h]
theorem while_eq (cs : Clss) (cl : Call) (c : Ex) (b : Sms) (env : Env) (st : Sto) : exS cs cl (.while_ c b) env st = loopW (evT cl c) (exSs cs cl b) env st := by simp only [exS]
end Mini
namespace Mini
open PySem
/-! stores behind a call -/
theorem take_pre {st0 st : Sto} (hl : st0.length ≤ st.length) (h : ∀ i, i < st0.length → st[i]? = st0[i]?) : st.take st0.length = st0 := by
  apply List.ext_getElem?
  intro i
  rw [List.getElem?_take]
  split
  · rename_i hi
    exact h i hi
  · rename_i hi
    rw [List.getElem?_eq_none (by omega)]
theorem finish_same {st0 st : Sto} {d : D} (h : st.length = st0.length) : finish st0 (.ret d st) = .ok d st := by
  simp only [finish]
  split
  · rw [← h, List.take_length]
  · rfl
theorem finish_sameN {st0 st : Sto} {env : Env} (h : st.length = st0.length) : finish st0 (.nx env st) = .ok .non st := by
  simp only [finish]
  split
  · rw [← h, List.take_length]
  · rfl
theorem finish_sameX {st0 st : Sto} {x : Exc} {env : Env} (h : st.length = st0.length) : finish st0 (.exc x env st) = .exc x st := by
  simp only [finish]
  split
  · rw [← h, List.take_length]
  · rfl
/-- what it made for itself goes -/
theorem finish_pre {st0 st : Sto} {d : D} (hl : st0.length ≤ st.length) (h : ∀ i, i < st0.length → st[i]? = st0[i]?) (hd : below st0.length d = true) : finish st0 (.ret d st) = .ok d st0 := by
  simp only [finish]
  rw [if_pos ⟨⟨hl, fun i hi => .inl (h i hi)⟩, hd⟩, take_pre hl h]
theorem finish_preX {st0 st : Sto} {x : Exc} {env : Env} (hl : st0.length ≤ st.length) (h : ∀ i, i < st0.length → st[i]? = st0[i]?) (hd : belows st0.length (x.flds.map (·.2)) = true) : finish st0 (.exc x env st) = .exc x st0 := by
  simp only [finish]
  rw [if_pos ⟨⟨hl, fun i hi => .inl (h i hi)⟩, hd⟩, take_pre hl h]
theorem finish_keep {st0 st : Sto} {d : D} (h : ¬ canCut st0 st ∨ below st0.length d = false) : finish st0 (.ret d st) = .ok d st := by
  simp only [finish]
  rw [if_neg]
  rintro ⟨h1, h2⟩
  rcases h with h | h
  · exact h h1
  · rw [h] at h2
    cases h2
theorem finish_keepN {st0 st : Sto} {env : Env} (h : ¬ canCut st0 st) : finish st0 (.nx env st) = .ok .non st := by
  simp only [finish]
  rw [if_neg h]
theorem not_cut {st0 st : Sto} {i : Nat} {o : SO} (hi : i < st0.length) (h : st[i]? = some o) (hn : st0[i]? ≠ some o) (hb : soBelow st0.length o = false) : ¬ canCut st0 st := fun c => by
  rcases c.2 i hi with z | ⟨o', z, z2⟩
  · rw [h] at z
    exact hn z.symm
  · rw [h] at z
    cases z
    rw [hb] at z2
    cases z2
/-! while, by runs -/
inductive Run (c : Env → Sto → Res Bool) (b : Env → Sto → Out) : Env → Sto → Env → Sto → Prop where
  | refl (env : Env) (st : Sto) : Run c b env st env st
  | step {env : Env} {st st1 : Sto} {env1 : Env} {st2 : Sto} {env' : Env} {st' : Sto} : c env st = .ok true st1 → b env st1 = .nx env1 st2 → Run c b env1 st2 env' st' → Run c b env st env' st'
theorem Run.trans {c : Env → Sto → Res Bool} {b : Env → Sto → Out} {e1 e2 e3 : Env} {s1 s2 s3 : Sto} (h : Run c b e1 s1 e2 s2) (k : Run c b e2 s2 e3 s3) : Run c b e1 s1 e3 s3 := by
  induction h with
  | refl => exact k
  | step h1 h2 _ ih => exact .step h1 h2 (ih k)
theorem loopW_run {c : Env → Sto → Res Bool} {b : Env → Sto → Out} {e1 e2 : Env} {s1 s2 : Sto} {o : Out} (h : Run c b e1 s1 e2 s2) (k : loopW c b e2 s2 = o) (ho : o ≠ .bad) : loopW c b e1 s1 = o := by
  induction h with
  | refl => exact k
  | step h1 h2 _ ih => exact loopW_step h1 h2 (ih k) ho
/-- a turn that raises -/
theorem loopW_exc {c : Env → Sto → Res Bool} {b : Env → Sto → Out} {env env' : Env} {st st1 st' : Sto} {x : Exc} (h : c env st = .ok true st1) (hb : b env st1 = .exc x env' st') : loopW c b env st = .exc x env' st' := by
  refine loopW_of 1 ?_ (by simp)
  rw [loopN, h]
  dsimp only
  rw [hb]
/-! a comprehension over the signs of a text, over a list's items -/
theorem comp_seq (cl : Call) (i : Nat) (e : Ex) (env : Env) (st : Sto) (d0 : D) (ds : List D) (el : Ex) (g : D → D) (he : evE cl e env st = .ok d0 st) (hit : itemsOf st d0 = some ds) (hs : srcOf st d0 = [])
    (hl : ds.length ≤ sizeLine) (hg : ∀ d ∈ ds, evE cl el ((wipeE [i] env).set i (some d)) st = .ok (g d) st) :
    evE cl (.comp true [i] (.nm i) (.seq e) .nil el) env st = .ok (.lst (ds.map g)) st := by
  rw [comp_eq]
  simp only [evI, he, bnd_ok, hit, hs]
  rw [compL_map (g := g)]
  · simp
  · intro d hd
    rw [turnC_of (setT_nm _ _ _)]
    simp only [evC, bnd_ok, if_true, hg d hd]
    rfl
  · simpa using hl
theorem comp_str (cl : Call) (i j : Nat) (env : Env) (st : Sto) (b : Chs) (el : Ex) (g : Nat → D) (hj : getV env j = some (.str b)) (hl : b.length ≤ sizeLine) (hg : ∀ c ∈ b, evE cl el ((wipeE [i] env).set i (some (.str [c]))) st = .ok (g c) st) :
    evE cl (.comp true [i] (.nm i) (.seq (.var j)) .nil el) env st = .ok (.lst (b.map g)) st := by
  have := comp_seq cl i (.var j) env st (.str b) (b.map fun c => .str [c]) el (fun d => match d with
    | .str [c] => g c
    | d => d) (by simp only [evE, hj]) rfl rfl (by simpa using hl) (fun d hd => by
      obtain ⟨c, hc, rfl⟩ := List.mem_map.mp hd
      exact hg c hc)
  rw [this]
  simp [List.map_map, Function.comp_def]
theorem bools_mapf {α : Type} (f : α → Bool) (l : List α) : bools (l.map fun x => .bl (f x)) = some (l.map f) := by
  have := bools_map (l.map f)
  rw [List.map_map] at this
  exact this
end Mini
namespace Mini
open PySem
/-! the store ahead, and what was made -/
section
variable (st l : Sto)
theorem get_app (i : Nat) : (st ++ l)[st.length + i]? = l[i]? := by
  rw [List.getElem?_append_right (Nat.le_add_right _ _), Nat.add_sub_cancel_left]
theorem get_app0 : (st ++ l)[st.length]? = l[0]? := get_app st l 0
theorem set_app (i : Nat) (o : SO) : (st ++ l).set (st.length + i) o = st ++ l.set i o := by
  rw [List.set_append_right _ _ (Nat.le_add_right _ _), Nat.add_sub_cancel_left]
theorem set_app0 (o : SO) : (st ++ l).set st.length o = st ++ l.set 0 o := set_app st l 0 o
theorem pre_app (i : Nat) (h : i < st.length) : (st ++ l)[i]? = st[i]? := List.getElem?_append_left h
theorem len_app : st.length ≤ (st ++ l).length := by simp
theorem finish_app {d : D} (h : below st.length d = true) : finish st (.ret d (st ++ l)) = .ok d st := finish_pre (len_app st l) (fun i hi => pre_app st l i hi) h
theorem finish_appX {x : Exc} {env : Env} (h : belows st.length (x.flds.map (·.2)) = true) : finish st (.exc x env (st ++ l)) = .exc x st := finish_preX (len_app st l) (fun i hi => pre_app st l i hi) h
end
theorem atI_last {α : Type} (xs : List α) (y : α) : L2.atI (xs ++ [y]) (-1) = some y := by
  have e : L2.ixN (xs ++ [y]).length (-1) = some xs.length := by
    unfold L2.ixN
    rw [if_neg (by omega), List.length_append, List.length_singleton, if_pos (by omega)]
    congr 1
    omega
  unfold L2.atI
  rw [e]
  simp
theorem atI_nat {α : Type} (xs : List α) (i : Nat) : L2.atI xs (i : Int) = xs[i]? := by
  unfold L2.atI L2.ixN
  by_cases h : i < xs.length
  · simp [h]
  · have z : xs[i]? = none := List.getElem?_eq_none (by omega)
    simp [h]
theorem append_at {st : Sto} {n : Nat} {xs : List D} (y : D) (h : st[n]? = some (.lst xs)) (hl : xs.length < sizeLine) : prim .append [.ref n, y] st = some (.non, st.set n (.lst (xs ++ [y]))) := by
  show appendD (.ref n) y st = _
  simp only [appendD, h]
  rw [decide_eq_true hl]
  rfl
theorem rcv_append {st : Sto} {n : Nat} {xs : List D} (h : st[n]? = some (.lst xs)) : rcv .append (.ref n) st = true := by
  simp only [rcv, h]
theorem rcv_pop {st : Sto} {n : Nat} {xs : List D} (h : st[n]? = some (.lst xs)) : rcv .pop (.ref n) st = true := by
  simp only [rcv, h]
theorem pop_at {st : Sto} {n : Nat} {xs : List D} {y : D} (h : st[n]? = some (.lst (xs ++ [y]))) : prim .pop [.ref n] st = some (y, st.set n (.lst xs)) := by
  show popD (.ref n) st = _
  simp only [popD, h]
  simp
theorem listOf_at' {st : Sto} {n : Nat} {xs : List D} (h : st[n]? = some (.lst xs)) : listOf st (.ref n) = some xs := by
  simp only [listOf, h]
theorem cut11 {α : Type} (s : List α) (a b : Nat) (h : a ≤ b) (h2 : b ≤ s.length) : cutL s (some (a : Int)) (some (b : Int)) = (s.drop a).take (b - a) := by
  unfold cutL
  rw [HT.sIx_nat, HT.sIx_nat, Nat.min_eq_left h2, Nat.min_eq_left (Nat.le_trans h h2)]
theorem cut1 {α : Type} (s : List α) (a : Nat) (h : a ≤ s.length) : cutL s (some (a : Int)) none = s.drop a := by
  unfold cutL
  rw [HT.sIx_nat, HT.sIx_none, Nat.min_eq_left h, List.take_of_length_le (by simp)]
theorem cut2 {α : Type} (s : List α) (a : Nat) : cutL s none (some (a : Int)) = s.take a := by
  unfold cutL
  rw [HT.sIx_nat, HT.sIx_none, List.drop_zero, Nat.sub_zero]
  by_cases h : a ≤ s.length
  · rw [Nat.min_eq_left h]
  · rw [Nat.min_eq_right (by omega), List.take_of_length_le (by omega), List.take_of_length_le (by omega)]
theorem belows_str (n : Nat) (xs : List Chs) : belows n (xs.map .str) = true := by
  induction xs with
  | nil => rw [List.map_nil, belows]
  | cons x xs ih =>
    rw [List.map_cons, belows, ih]
    simp only [below, Bool.and_self]
end Mini
namespace Mini
open PySem
/-! fields -/
theorem ev_fld_at {st : Sto} {n c j : Nat} {vs : List D} {v : D} (h : st[n]? = some (.ins c vs)) (hv : vs[j]? = some v) : fldR c j (.ref n) st = .ok v st := by
  simp only [fldR, h, hv, if_true]
theorem setFld_at {st : Sto} {n c j : Nat} {vs : List D} (v : D) (h : st[n]? = some (.ins c vs)) (hv : j < vs.length) : setFld c j (.ref n) v st = some (st.set n (.ins c (vs.set j v))) := by
  simp only [setFld, h, hv, if_true]
theorem setFld_new {st : Sto} {n c : Nat} {vs : List D} (v : D) (h : st[n]? = some (.ins c vs)) : setFld c vs.length (.ref n) v st = some (st.set n (.ins c (vs ++ [v]))) := by
  simp only [setFld, h, if_true, Nat.lt_irrefl, if_false]
theorem ev_insB_at {st : Sto} {n c : Nat} {vs : List D} (h : st[n]? = some (.ins c vs)) : insB c (.ref n) st = true := by
  simp only [insB, h, decide_true]
theorem len_at {st : Sto} {n : Nat} {xs : List D} (h : st[n]? = some (.lst xs)) : lenD st (.ref n) = some (.int xs.length) := by
  simp only [lenD, listOf, h]
theorem set_get {st : Sto} {i j : Nat} {o o' : SO} (h : st[j]? = some o') (hn : i ≠ j) : (st.set i o)[j]? = some o' := by
  rw [List.getElem?_set_ne hn, h]
theorem set_get_self {st : Sto} {i : Nat} {o o' : SO} (h : st[i]? = some o') : (st.set i o)[i]? = some o := List.getElem?_set_self (List.getElem?_eq_some_iff.mp h).1
end Mini
namespace Mini
open PySem
/-- a comprehension whose turns change the store -/
theorem compL_go {f : D → Sto → Res (Option D)} (I : Sto → Prop) (G : D → Prop) : ∀ (ds acc : List D) (st : Sto), I st → (∀ d ∈ ds, ∀ st, I st → ∃ y st', f d st = .ok (some y) st' ∧ I st' ∧ G y) → acc.length + ds.length ≤ sizeLine →
    ∃ ys st', compL [] f ds acc st = .ok (acc ++ ys) st' ∧ I st' ∧ ys.length = ds.length ∧ ∀ y ∈ ys, G y
  | [], acc, st, h, _, _ => ⟨[], st, by rw [compL, if_pos (srcOK_nil _), List.append_nil], h, rfl, fun y hy => nomatch hy⟩
  | d :: ds, acc, st, h, s, hl => by
    obtain ⟨y, st1, e1, h1, g1⟩ := s d List.mem_cons_self st h
    rw [List.length_cons] at hl
    obtain ⟨ys, st', e2, h2, l2, g2⟩ := compL_go I G ds (acc ++ [y]) st1 h1 (fun d hd => s d (List.mem_cons_of_mem _ hd)) (by simp only [List.length_append, List.length_singleton]; omega)
    refine ⟨y :: ys, st', ?_, h2, by rw [List.length_cons, List.length_cons, l2], fun z hz => ?_⟩
    · rw [compL, if_pos (srcOK_nil _), e1]
      dsimp only
      rw [if_pos (by omega), e2]
      simp
    · rcases List.mem_cons.mp hz with rfl | z'
      · exact g1
      · exact g2 z z'
end Mini
end
section
set_option linter.all false
set_option autoImplicit false
set_option maxRecDepth 100000
set_option maxHeartbeats 1000000
/-! Numbers as text, plainly. -/
namespace Mini
open PySem
theorem cut01 {α : Type} (s : List α) : cutL s none (some 1) = s.take 1 := by
  unfold cutL HT.sIx
  cases s <;> simp
theorem cut10 {α : Type} (s : List α) : cutL s (some 1) none = s.drop 1 := by
  unfold cutL HT.sIx
  cases s <;> simp
theorem strI_nat (n : Nat) : strI (n : Int) = TL.numL n := TL.tl_num n
theorem strI_neg (n : Nat) (h : 0 < n) : strI (-(n : Int)) = 45 :: TL.numL n := by
  have e := PyProof.Rows.toString_neg (n := -(n : Int)) (by omega)
  have z : 0 - -(n : Int) = n := by omega
  rw [z] at e
  unfold strI
  rw [e, ← strI_nat]
  unfold strI
  simp [Str.ofString_eq_toList]
def isDig (c : Nat) : Bool := decide (48 ≤ c) && decide (c ≤ 57)
theorem isDig_iff (c : Nat) : isDig c = true ↔ 48 ≤ c ∧ c ≤ 57 := by simp [isDig]
/-- behind a minus -/
def bodyT (t : Chs) : Chs := if t.take 1 = [45] then t.drop 1 else t
/-- a whole number as it is written -/
def numB (t : Chs) : Bool := !(bodyT t).isEmpty && (bodyT t).all isDig && !((bodyT t).head? == some 48 && t != [48])
def valT (t : Chs) : Int := if t.take 1 = [45] then -((NumText.digitsVal (t.drop 1) : Nat) : Int) else ((NumText.digitsVal t : Nat) : Int)
theorem bodyT_le (t : Chs) : (bodyT t).length ≤ t.length := by
  unfold bodyT
  split
  · simp
  · exact Nat.le_refl _
theorem allDigits_of {b : Chs} (h : b.all isDig = true) : NumText.AllDigits b := fun c hc => (isDig_iff c).mp (List.all_eq_true.mp h c hc)
theorem intText_at {t : Chs} (hl : t.length ≤ 4300) (h1 : (bodyT t).isEmpty = false) (h2 : (bodyT t).all isDig = true) : intText? ⟨t.toArray⟩ = some (valT t) := by
  unfold bodyT at h1 h2
  unfold valT
  split at h1
  · rename_i h0
    rw [if_pos h0] at h2
    rw [if_pos h0]
    refine PySem.intText_neg (x := ⟨t.toArray⟩) (cs := t.drop 1) ?_ (allDigits_of h2) (by simpa using h1) (by rw [len_str]; omega)
    cases t with
    | nil => cases h0
    | cons c r =>
      simp at h0
      simp [h0]
  · rename_i h0
    rw [if_neg h0] at h2
    rw [if_neg h0]
    have z := PySem.intText_digits (x := ⟨t.toArray⟩) (by simpa using allDigits_of h2) (by simpa using h1) (by rw [len_str]; omega)
    simpa using z
theorem fold_lt : ∀ (cs : List Nat) (a : Nat), NumText.AllDigits cs → cs.foldl (fun acc c => acc * 10 + (c - 48)) a < (a + 1) * 10 ^ cs.length
  | [], a, _ => by simp
  | c :: cs, a, h => by
    have hc := h.head
    have := fold_lt cs (a * 10 + (c - 48)) h.tail
    rw [List.foldl_cons, List.length_cons, Nat.pow_succ]
    have z : a * 10 + (c - 48) + 1 ≤ (a + 1) * 10 := by omega
    calc _ < (a * 10 + (c - 48) + 1) * 10 ^ cs.length := this
      _ ≤ ((a + 1) * 10) * 10 ^ cs.length := Nat.mul_le_mul_right _ z
      _ = _ := by rw [Nat.mul_assoc, Nat.mul_comm 10]
theorem digitsVal_lt {cs : List Nat} (h : NumText.AllDigits cs) : NumText.digitsVal cs < 10 ^ cs.length := by
  have := fold_lt cs 0 h
  unfold NumText.digitsVal
  omega
theorem valT_lt {t : Chs} (h : (bodyT t).all isDig = true) : (valT t).natAbs < 10 ^ (bodyT t).length := by
  unfold bodyT at h ⊢
  unfold valT
  split at h
  · rename_i h0
    rw [if_pos h0, if_pos h0, Int.natAbs_neg, Int.natAbs_natCast]
    exact digitsVal_lt (allDigits_of h)
  · rename_i h0
    rw [if_neg h0, if_neg h0, Int.natAbs_natCast]
    exact digitsVal_lt (allDigits_of h)
theorem num_head : ∀ (k n : Nat), n ≤ k → 0 < n → (TL.numL n).head? ≠ some 48
  | k, n, hk, h => by
    by_cases c : n < 10
    · rw [TL.numL_lt c]
      simp
      omega
    · match k, hk with
      | 0, hk => omega
      | k + 1, hk =>
        rw [TL.numL_step (by omega)]
        have ne := TL.numL_ne (n / 10)
        have ih := num_head k (n / 10) (by omega) (by omega)
        cases q : TL.numL (n / 10) with
        | nil => exact absurd q ne
        | cons x l =>
          rw [q] at ih
          simpa using ih
theorem num_dig (n : Nat) : (TL.numL n).all isDig = true := by
  rw [List.all_eq_true]
  exact fun c hc => (isDig_iff c).mpr (TL.numL_digits n c hc)
theorem num_take (n : Nat) : (TL.numL n).take 1 ≠ [45] := by
  have d := TL.numL_digits n
  cases q : TL.numL n with
  | nil => simp
  | cons x l =>
    have := d x (by rw [q]; exact List.mem_cons_self)
    simp
    omega
theorem body_num (n : Nat) : bodyT (TL.numL n) = TL.numL n := by
  unfold bodyT
  rw [if_neg (num_take n)]
theorem body_neg (t : Chs) : bodyT (45 :: t) = t := by
  unfold bodyT
  simp
theorem num_ne' (n : Nat) : (TL.numL n).isEmpty = false := by
  cases q : TL.numL n with
  | nil => exact absurd q (TL.numL_ne n)
  | cons x l => rfl
theorem num_zero : TL.numL 0 = [48] := TL.numL_lt (by decide)
theorem int_split (i : Int) : (∃ n : Nat, i = (n : Int)) ∨ ∃ n : Nat, 0 < n ∧ i = -(n : Int) := by
  rcases Int.le_total 0 i with h | h
  · exact .inl (Int.eq_ofNat_of_zero_le h)
  · by_cases z : i = 0
    · exact .inl ⟨0, z⟩
    · exact .inr ⟨i.natAbs, by omega, by omega⟩
theorem numB_int (i : Int) : numB (strI i) = true := by
  rcases int_split i with ⟨n, rfl⟩ | ⟨n, h, rfl⟩
  · rw [strI_nat]
    unfold numB
    rw [body_num, num_ne', num_dig]
    by_cases z : n = 0
    · subst z
      rw [num_zero]
      rfl
    · have hd := num_head n n (Nat.le_refl _) (by omega)
      have : ((TL.numL n).head? == some 48) = false := by simpa using hd
      rw [this]
      rfl
  · rw [strI_neg n h]
    unfold numB
    rw [body_neg, num_ne', num_dig]
    have hd := num_head n n (Nat.le_refl _) h
    have : ((TL.numL n).head? == some 48) = false := by simpa using hd
    rw [this]
    rfl
theorem valT_int (i : Int) : valT (strI i) = i := by
  rcases int_split i with ⟨n, rfl⟩ | ⟨n, h, rfl⟩
  · rw [strI_nat]
    unfold valT
    rw [if_neg (num_take n), TL.numL_val]
  · rw [strI_neg n h]
    unfold valT
    simp [TL.numL_val]
theorem strI_ch (i : Int) : ∀ c ∈ strI i, c = 45 ∨ (48 ≤ c ∧ c ≤ 57) := fun c hc => by
  rcases int_split i with ⟨n, rfl⟩ | ⟨n, h, rfl⟩
  · rw [strI_nat] at hc
    exact .inr (TL.numL_digits n c hc)
  · rw [strI_neg n h] at hc
    rcases List.mem_cons.mp hc with z | z
    · exact .inl z
    · exact .inr (TL.numL_digits n c z)
/-- the digits of a number are its text -/
theorem digitsVal_snoc (t : Chs) (c : Nat) : NumText.digitsVal (t ++ [c]) = NumText.digitsVal t * 10 + (c - 48) := by
  unfold NumText.digitsVal
  rw [List.foldl_append]
  rfl
theorem numL_of : ∀ (k : Nat) (t : Chs), t.length = k → t ≠ [] → t.all isDig = true → (t.head? = some 48 → t = [48]) → TL.numL (NumText.digitsVal t) = t
  | 0, t, hk, hn, _, _ => absurd (List.eq_nil_of_length_eq_zero hk) hn
  | k + 1, t, hk, hn, hd, hz => by
    obtain ⟨u, c, rfl⟩ : ∃ u c, t = u ++ [c] := ⟨t.dropLast, t.getLast hn, (List.dropLast_concat_getLast hn).symm⟩
    rw [List.all_append, Bool.and_eq_true] at hd
    have hc : 48 ≤ c ∧ c ≤ 57 := by
      have := hd.2
      simp at this
      exact (isDig_iff c).mp this
    rw [digitsVal_snoc]
    cases u with
    | nil =>
      have e : NumText.digitsVal [] * 10 + (c - 48) = c - 48 := by
        unfold NumText.digitsVal
        simp
      rw [e, TL.numL_lt (by omega)]
      simp
      omega
    | cons x r =>
      have hx : x ≠ 48 := fun z => by
        subst z
        have := hz rfl
        simp at this
      have ih := numL_of k (x :: r) (by simpa using hk) (by simp) hd.1 (fun z => absurd (by simpa using z) hx)
      have hp : 0 < NumText.digitsVal (x :: r) := by
        rcases Nat.eq_zero_or_pos (NumText.digitsVal (x :: r)) with z | z
        · rw [z, num_zero] at ih
          injection ih with a b
          exact absurd a.symm hx
        · exact z
      rw [TL.numL_step (by omega)]
      have e1 : (NumText.digitsVal (x :: r) * 10 + (c - 48)) / 10 = NumText.digitsVal (x :: r) := by omega
      have e2 : 48 + (NumText.digitsVal (x :: r) * 10 + (c - 48)) % 10 = c := by omega
      rw [e1, e2, ih]
theorem strI_val {t : Chs} (h : numB t = true) : strI (valT t) = t := by
  unfold numB at h
  simp only [Bool.and_eq_true, Bool.not_eq_true', Bool.and_eq_false_iff] at h
  obtain ⟨⟨h1, h2⟩, h3⟩ := h
  unfold valT
  by_cases h0 : t.take 1 = [45]
  · have hb : bodyT t = t.drop 1 := by
      unfold bodyT
      rw [if_pos h0]
    rw [hb] at h1 h2 h3
    rw [if_pos h0]
    have et : t = 45 :: t.drop 1 := by
      cases t with
      | nil => cases h0
      | cons c r =>
        simp at h0
        simp [h0]
    have h4 : (t.drop 1).head? ≠ some 48 := by
      rcases h3 with h3 | h3
      · simpa using h3
      · intro _
        rw [et] at h3
        simp at h3
    have hn := numL_of _ (t.drop 1) rfl (by simpa using h1) h2 (fun z => absurd z h4)
    have hp : 0 < NumText.digitsVal (t.drop 1) := by
      rcases Nat.eq_zero_or_pos (NumText.digitsVal (t.drop 1)) with z | z
      · rw [z, num_zero] at hn
        rw [← hn] at h4
        simp at h4
      · exact z
    rw [strI_neg _ hp, hn]
    exact et.symm
  · have hb : bodyT t = t := by
      unfold bodyT
      rw [if_neg h0]
    rw [hb] at h1 h2 h3
    rw [if_neg h0, strI_nat]
    refine numL_of _ t rfl (by simpa using h1) h2 fun z => ?_
    rcases h3 with h3 | h3
    · simp [z] at h3
    · simpa using h3
theorem sOk_iff (t : Chs) : sOk t ↔ ∀ c ∈ t, c < 1114112 := by
  show (⟨t.toArray⟩ : Str).cps.all (· < 0x110000) = true ↔ _
  rw [← Array.all_toList, List.all_eq_true]
  simp
theorem sOk_sub {t u : Chs} (h : sOk t) (s : ∀ c ∈ u, c ∈ t) : sOk u := by
  rw [sOk_iff] at h ⊢
  exact fun c hc => h c (s c hc)
theorem sOk_app {t u : Chs} (h : sOk t) (k : sOk u) : sOk (t ++ u) := by
  rw [sOk_iff] at h k ⊢
  intro c hc
  rcases List.mem_append.mp hc with z | z
  · exact h c z
  · exact k c z
theorem sOk_strI (i : Int) : sOk (strI i) := by
  rw [sOk_iff]
  intro c hc
  have := strI_ch i c hc
  omega
theorem strI_len {i : Int} {k : Nat} (hk : 0 < k) (h : i.natAbs < 10 ^ k) : (strI i).length ≤ k + 1 := by
  rcases int_split i with ⟨n, rfl⟩ | ⟨n, hn, rfl⟩
  · rw [strI_nat]
    have := TL.numL_len hk (by simpa using h)
    omega
  · rw [strI_neg n hn, List.length_cons]
    have := TL.numL_len hk (n := n) (by simpa using h)
    omega
/-! texts joined -/
def joinL (a : Chs) : List Chs → Chs
  | [] => []
  | x :: xs => match xs with
    | [] => x
    | _ => x ++ a ++ joinL a xs
theorem joinC_eq (a : Chs) (ys : List Chs) : joinC a ys = joinL a ys := by
  have key : ∀ ys : List Chs, (Str.join ⟨a.toArray⟩ (ys.map fun y => (⟨y.toArray⟩ : Str))).cps.toList = joinL a ys := by
    intro ys
    induction ys with
    | nil => rfl
    | cons x xs ih =>
      cases xs with
      | nil => simp [Str.join, joinL]
      | cons y r =>
        rw [List.map_cons] at ih ⊢
        rw [List.map_cons]
        show ((⟨x.toArray⟩ : Str) ++ ⟨a.toArray⟩ ++ Str.join ⟨a.toArray⟩ (⟨y.toArray⟩ :: r.map fun y => (⟨y.toArray⟩ : Str))).cps.toList = x ++ a ++ joinL a (y :: r)
        rw [← ih]
        show ((x.toArray ++ a.toArray) ++ (Str.join ⟨a.toArray⟩ (⟨y.toArray⟩ :: r.map fun y => (⟨y.toArray⟩ : Str))).cps).toList = _
        simp
  unfold joinC
  rw [show Txt.join = Txt.join from rfl]
  unfold Txt.join
  rw [StrLaws.glued_eq_join]
  exact key ys
theorem joinL_nil : ∀ ys : List Chs, joinL [] ys = ys.flatten
  | [] => rfl
  | [x] => by simp [joinL]
  | x :: y :: r => by
    have := joinL_nil (y :: r)
    rw [List.flatten_cons, ← this]
    simp [joinL]
theorem chars_map (ys : List Chs) : chars (ys.map .str) = some ys := by
  induction ys with
  | nil => rfl
  | cons y ys ih =>
    rw [List.map_cons]
    show (chars (ys.map .str)).map (y :: ·) = _
    rw [ih]
    rfl
theorem rangeL_len (lo c : Int) (n : Nat) : (rangeL lo c n).length = n := by simp [rangeL]
theorem rangeL_at (lo c : Int) (n i : Nat) (h : i < n) : (rangeL lo c n)[i]? = some (.int (lo + (i : Nat) * c)) := by
  unfold rangeL
  rw [List.getElem?_map, List.getElem?_range h]
  rfl
/-- range(n - 1, -1, -1) -/
theorem rng_down (n : Nat) (h : n ≤ 16777216) : rngD 3 [.int ((n : Int) - 1), .int (-1), .int (-1)] = some (rangeL ((n : Int) - 1) (-1) n) := by
  have e1 : Builtin.Range.small ((n : Int) - 1) (-1) (-1) = true := PySem.W.small_down (by omega) (by omega) (by omega) (by omega)
  have e2 : Builtin.Range.rangeSize ((n : Int) - 1) (-1) (-1) = n := by
    rw [PySem.W.rangeSize_downNat]
    omega
  simp only [rngD, e1, e2]
  simp
end Mini
end
section
set_option linter.all false
set_option autoImplicit false
set_option maxRecDepth 100000
set_option maxHeartbeats 1000000
/-! Plain data as text: pieces, the machine that reads them, the written form. -/
namespace K53
open PySem Mini
def delim (c : Nat) : Bool := c == 91 || c == 93 || c == 44
/-- brackets, commas, longest other pieces -/
def pcs (tok : Chs) : Chs → List Chs
  | [] => if tok = [] then [] else [tok]
  | c :: cs => if delim c = true then (if tok = [] then [] else [tok]) ++ [c] :: pcs [] cs else pcs (tok ++ [c]) cs
/-- the state: open rows, the innermost first; an item that is ready to be put -/
abbrev RS := List (List D) × Option D
def step (at' : Chs → Option D) (fu : Nat → Bool) (s : RS) (p : Chs) : Option RS :=
    if p = [91] then (match s.2 with
      | none => if fu s.1.length = true then none else some ([] :: s.1, none)
      | some _ => none)
    else if p = [44] then (match s.1, s.2 with
      | r :: rows, some d => some ((r ++ [d]) :: rows, none)
      | _, _ => none)
    else if p = [93] then (match s.1, s.2 with
      | [] :: rows, none => some (rows, some (.tup []))
      | r :: rows, some d => some (rows, some (.tup (r ++ [d])))
      | _, _ => none)
    else match s.2 with
      | none => (at' p).map fun d => (s.1, some d)
      | some _ => none
def fin : RS → Option D
  | ([], some d) => some d
  | _ => none
def runs (at' : Chs → Option D) (fu : Nat → Bool) : List Chs → RS → Option RS
  | [], s => some s
  | p :: ps, s => (step at' fu s p).bind (runs at' fu ps)
def rd (at' : Chs → Option D) (fu : Nat → Bool) (t : Chs) : Option D := (runs at' fu (pcs [] t) ([], none)).bind fin
theorem runs_app {at' : Chs → Option D} {fu : Nat → Bool} : ∀ (ps qs : List Chs) (s : RS), runs at' fu (ps ++ qs) s = (runs at' fu ps s).bind (runs at' fu qs)
  | [], qs, s => rfl
  | p :: ps, qs, s => by
    rw [List.cons_append, runs, runs]
    cases step at' fu s p with
    | none => rfl
    | some s => exact runs_app ps qs s
/-! ### atoms -/
def isLow (c : Nat) : Bool := decide (97 ≤ c) && decide (c ≤ 122)
def wordB (s : Chs) : Bool := !s.isEmpty && decide (s.length ≤ 12) && (s.head?.map isLow).getD false && s.all fun c => isLow c || isDig c
/-- what a piece tells, numbers by a bound of signs -/
def atm (m : Nat) (t : Chs) : Option D := if wordB t = true then some (.str t) else if numB t = true ∧ (bodyT t).length ≤ m then some (.int (valT t)) else none
/-! ### the written form -/
mutual
def W : D → Chs
  | .str s => s
  | .int i => strI i
  | .tup xs => 91 :: (Wl xs ++ [93])
  | _ => []
/-- items with commas between -/
def Wl : List D → Chs
  | [] => []
  | x :: xs => W x ++ Wt xs
/-- .. each with a comma ahead -/
def Wt : List D → Chs
  | [] => []
  | x :: xs => 44 :: (W x ++ Wt xs)
end
/-- each with a comma behind -/
def Wc (xs : List D) : Chs := xs.flatMap fun x => W x ++ [44]
theorem Wc_snoc (xs : List D) (d : D) : Wc (xs ++ [d]) = Wc xs ++ (W d ++ [44]) := by simp [Wc]
theorem Wt_app (xs : List D) (d : D) : 44 :: Wc (xs) ++ W d = Wt (xs ++ [d]) := by
  induction xs with
  | nil => simp [Wc, Wt]
  | cons x xs ih =>
    have e : Wt (x :: xs ++ [d]) = 44 :: (W x ++ Wt (xs ++ [d])) := by rw [List.cons_append, Wt]
    rw [e, ← ih]
    simp [Wc]
theorem Wl_app (xs : List D) (d : D) : Wl (xs ++ [d]) = Wc xs ++ W d := by
  cases xs with
  | nil => simp [Wl, Wt, Wc]
  | cons x xs =>
    have e : Wl (x :: xs ++ [d]) = W x ++ Wt (xs ++ [d]) := by rw [List.cons_append, Wl]
    rw [e, ← Wt_app]
    simp [Wc]
theorem W_tup (xs : List D) (d : D) : W (.tup (xs ++ [d])) = 91 :: (Wc xs ++ W d ++ [93]) := by rw [W, Wl_app]
theorem W_nil : W (.tup []) = [91, 93] := by
  rw [W, Wl]
  rfl
/-! ### what is read is written so -/
def rend : List (List D) → Chs
  | [] => []
  | r :: rs => rend rs ++ 91 :: Wc r
def rendS (s : RS) : Chs := rend s.1 ++ (match s.2 with
  | some d => W d
  | none => [])
theorem atm_W {m : Nat} {t : Chs} {d : D} (h : atm m t = some d) : W d = t := by
  unfold atm at h
  split at h
  · cases h
    rw [W]
  · split at h
    · rename_i h2
      cases h
      rw [W]
      exact strI_val h2.1
    · cases h
theorem step_rend {at' : Chs → Option D} {fu : Nat → Bool} (ha : ∀ t d, at' t = some d → W d = t) {s s' : RS} {p : Chs} (h : step at' fu s p = some s') : rendS s' = rendS s ++ p := by
  obtain ⟨rows, d⟩ := s
  unfold step at h
  dsimp only at h
  split at h
  · rename_i e
    subst e
    cases d with
    | some d => cases h
    | none =>
      dsimp only at h
      split at h
      · cases h
      · cases h
        simp [rendS, rend, Wc]
  · split at h
    · rename_i e
      subst e
      cases rows with
      | nil => cases h
      | cons r rows =>
        cases d with
        | none => cases h
        | some d =>
          cases h
          simp [rendS, rend, Wc_snoc]
    · split at h
      · rename_i e
        subst e
        cases rows with
        | nil => cases h
        | cons r rows =>
          cases d with
          | none =>
            cases r with
            | nil =>
              cases h
              simp [rendS, rend, W_nil, Wc]
            | cons x r => cases h
          | some d =>
            have h : some (rows, some (.tup (r ++ [d]))) = some s' := by
              cases r with
              | nil => exact h
              | cons x r => exact h
            cases h
            simp [rendS, rend, W_tup]
      · cases d with
        | some d => cases h
        | none =>
          dsimp only at h
          obtain ⟨d, e, rfl⟩ := Option.map_eq_some_iff.mp h
          simp [rendS, ha _ _ e]
theorem runs_rend {at' : Chs → Option D} {fu : Nat → Bool} (ha : ∀ t d, at' t = some d → W d = t) : ∀ (ps : List Chs) (s s' : RS), runs at' fu ps s = some s' → rendS s' = rendS s ++ ps.flatten
  | [], s, s', h => by
    cases h
    simp
  | p :: ps, s, s', h => by
    rw [runs] at h
    obtain ⟨s1, h1, h2⟩ := Option.bind_eq_some_iff.mp h
    rw [runs_rend ha ps s1 s' h2, step_rend ha h1]
    simp
theorem pcs_flat : ∀ (cs tok : Chs), (pcs tok cs).flatten = tok ++ cs
  | [], tok => by
    unfold pcs
    split
    · rename_i e
      subst e
      rfl
    · simp
  | c :: cs, tok => by
    unfold pcs
    split
    · rw [List.flatten_append, List.flatten_cons, pcs_flat cs []]
      split
      · rename_i e
        subst e
        simp
      · simp
    · rw [pcs_flat cs]
      simp
theorem rd_W {at' : Chs → Option D} {fu : Nat → Bool} (ha : ∀ t d, at' t = some d → W d = t) {t : Chs} {d : D} (h : rd at' fu t = some d) : W d = t := by
  unfold rd at h
  obtain ⟨s, h1, h2⟩ := Option.bind_eq_some_iff.mp h
  have e := runs_rend ha _ _ _ h1
  rw [pcs_flat] at e
  obtain ⟨rows, o⟩ := s
  cases rows with
  | cons r rows => cases h2
  | nil =>
    cases o with
    | none => cases h2
    | some d' =>
      cases h2
      simpa [rendS, rend] using e
/-! ### what is written is read so -/
mutual
/-- data: words, whole numbers of at most n digits, tuples, m deep -/
def wd (n : Nat) : Nat → D → Bool
  | _, .str s => wordB s
  | _, .int i => decide (i.natAbs < 10 ^ n)
  | m, .tup xs => decide (0 < m) && wds n (m - 1) xs
  | _, _ => false
def wds (n : Nat) : Nat → List D → Bool
  | _, [] => true
  | m, x :: xs => wd n m x && wds n m xs
end
mutual
def pw : D → List Chs
  | .str s => [s]
  | .int i => [strI i]
  | .tup xs => [91] :: (pwl xs ++ [[93]])
  | _ => []
def pwl : List D → List Chs
  | [] => []
  | x :: xs => pw x ++ pwt xs
def pwt : List D → List Chs
  | [] => []
  | x :: xs => [44] :: (pw x ++ pwt xs)
end
def bare (a : Chs) : Prop := a ≠ [] ∧ ∀ c ∈ a, delim c = false
/-- it is at its end, or a bracket or comma comes -/
def stop : Chs → Prop
  | [] => True
  | c :: _ => delim c = true
theorem pcs_bare : ∀ (a tok rest : Chs), (∀ c ∈ a, delim c = false) → pcs tok (a ++ rest) = pcs (tok ++ a) rest
  | [], tok, rest, _ => by simp
  | c :: a, tok, rest, h => by
    rw [List.cons_append, pcs, if_neg (by rw [h c List.mem_cons_self]; exact Bool.false_ne_true), pcs_bare a _ rest fun c hc => h c (List.mem_cons_of_mem _ hc)]
    simp
theorem pcs_stop {tok rest : Chs} (ht : tok ≠ []) (h : stop rest) : pcs tok rest = tok :: pcs [] rest := by
  cases rest with
  | nil =>
    unfold pcs
    rw [if_neg ht, if_pos rfl]
  | cons c r =>
    have h : delim c = true := h
    rw [pcs, pcs, if_pos h, if_pos h, if_neg ht, if_pos rfl]
    rfl
theorem pcs_at {a rest : Chs} (h : bare a) (k : stop rest) : pcs [] (a ++ rest) = a :: pcs [] rest := by
  rw [pcs_bare a [] rest h.2, List.nil_append, pcs_stop h.1 k]
theorem pcs_d {c : Nat} {r : Chs} (h : delim c = true) : pcs [] (c :: r) = [c] :: pcs [] r := by
  rw [pcs, if_pos h, if_pos rfl]
  rfl
theorem low_dig {s : Chs} (h : wordB s = true) : ∀ c ∈ s, isLow c = true ∨ isDig c = true := by
  unfold wordB at h
  simp only [Bool.and_eq_true, List.all_eq_true, Bool.or_eq_true] at h
  exact h.2
theorem bare_word {s : Chs} (h : wordB s = true) : bare s := by
  refine ⟨fun z => ?_, fun c hc => ?_⟩
  · subst z
    cases h
  · have := low_dig h c hc
    simp only [isLow, isDig, Bool.and_eq_true, decide_eq_true_eq] at this
    simp [delim]
    omega
theorem bare_int (i : Int) : bare (strI i) := by
  refine ⟨fun z => ?_, fun c hc => ?_⟩
  · have := numB_int i
    rw [z] at this
    cases this
  · have := strI_ch i c hc
    simp [delim]
    omega
theorem delim_not {a : Chs} (h : bare a) : a ≠ [91] ∧ a ≠ [44] ∧ a ≠ [93] := by
  refine ⟨?_, ?_, ?_⟩ <;> (intro z; subst z; have := h.2 _ List.mem_cons_self; simp [delim] at this)
theorem not_word_num {t : Chs} (h : numB t = true) : wordB t = false := by
  cases t with
  | nil => rfl
  | cons c r =>
    have hc : c = 45 ∨ isDig c = true := by
      unfold numB bodyT at h
      simp only [Bool.and_eq_true] at h
      by_cases z : c = 45
      · exact .inl z
      · have e : (c :: r).take 1 ≠ [45] := by simpa using z
        rw [if_neg e] at h
        have := h.1.2
        simp only [List.all_cons, Bool.and_eq_true] at this
        exact .inr this.1
    have hl : isLow c = false := by
      rcases hc with rfl | hc
      · decide
      · rw [isDig_iff] at hc
        simp [isLow]
        omega
    simp [wordB, hl]
theorem body_strI {i : Int} {n : Nat} (hn : 0 < n) (h : i.natAbs < 10 ^ n) : (bodyT (strI i)).length ≤ n := by
  rcases int_split i with ⟨k, rfl⟩ | ⟨k, hk, rfl⟩
  · rw [strI_nat, body_num]
    exact TL.numL_len hn (by simpa using h)
  · rw [strI_neg k hk, body_neg]
    exact TL.numL_len hn (by simpa using h)
theorem atm_word {m : Nat} {s : Chs} (h : wordB s = true) : atm m s = some (.str s) := by
  unfold atm
  rw [if_pos h]
theorem atm_int {m : Nat} {i : Int} (hn : 0 < m) (h : i.natAbs < 10 ^ m) : atm m (strI i) = some (.int i) := by
  unfold atm
  rw [if_neg (by rw [not_word_num (numB_int i)]; exact Bool.false_ne_true), if_pos ⟨numB_int i, body_strI hn h⟩, valT_int]
mutual
theorem pcs_W (n : Nat) : ∀ (d : D) (m : Nat) (rest : Chs), wd n m d = true → stop rest → pcs [] (W d ++ rest) = pw d ++ pcs [] rest
  | .str s, m, rest, h, k => by
    rw [wd] at h
    rw [W, pw, pcs_at (bare_word h) k]
    rfl
  | .int i, m, rest, h, k => by
    rw [W, pw, pcs_at (bare_int i) k]
    rfl
  | .tup xs, m, rest, h, k => by
    rw [wd, Bool.and_eq_true] at h
    have e : W (.tup xs) ++ rest = 91 :: (Wl xs ++ (93 :: rest)) := by
      rw [W]
      simp
    rw [e, pcs_d rfl, pcs_Wl n xs (m - 1) (93 :: rest) h.2 rfl, pcs_d rfl, pw]
    simp
  | .non, m, rest, h, k => by simp [wd] at h
  | .bl b, m, rest, h, k => by simp [wd] at h
  | .lst xs, m, rest, h, k => by simp [wd] at h
  | .ro xs, m, rest, h, k => by simp [wd] at h
  | .ref i, m, rest, h, k => by simp [wd] at h
  | .fn i, m, rest, h, k => by simp [wd] at h
  | .dic t ks vs, m, rest, h, k => by simp [wd] at h
  | .ct xs, m, rest, h, k => by simp [wd] at h
theorem pcs_Wl (n : Nat) : ∀ (xs : List D) (m : Nat) (rest : Chs), wds n m xs = true → stop rest → pcs [] (Wl xs ++ rest) = pwl xs ++ pcs [] rest
  | [], m, rest, h, k => by
    rw [Wl, pwl]
    rfl
  | x :: xs, m, rest, h, k => by
    rw [wds, Bool.and_eq_true] at h
    have ks : stop (Wt xs ++ rest) := by
      cases xs with
      | nil =>
        rw [Wt]
        exact k
      | cons y ys =>
        rw [Wt]
        rfl
    rw [Wl, pwl, List.append_assoc, pcs_W n x m _ h.1 ks, pcs_Wt n xs m rest h.2 k]
    simp
theorem pcs_Wt (n : Nat) : ∀ (xs : List D) (m : Nat) (rest : Chs), wds n m xs = true → stop rest → pcs [] (Wt xs ++ rest) = pwt xs ++ pcs [] rest
  | [], m, rest, h, k => by
    rw [Wt, pwt]
    rfl
  | x :: xs, m, rest, h, k => by
    rw [wds, Bool.and_eq_true] at h
    have ks : stop (Wt xs ++ rest) := by
      cases xs with
      | nil =>
        rw [Wt]
        exact k
      | cons y ys =>
        rw [Wt]
        rfl
    have e : Wt (x :: xs) ++ rest = 44 :: (W x ++ (Wt xs ++ rest)) := by
      rw [Wt]
      simp
    rw [e, pcs_d rfl, pcs_W n x m _ h.1 ks, pcs_Wt n xs m rest h.2 k, pwt]
    simp
end
mutual
theorem runs_W {at' : Chs → Option D} {fu : Nat → Bool} {n L : Nat} (hw : ∀ s, wordB s = true → at' s = some (.str s)) (hi : ∀ i : Int, i.natAbs < 10 ^ n → at' (strI i) = some (.int i)) (hf : ∀ k, k < L → fu k = false) :
    ∀ (d : D) (m : Nat) (rows : List (List D)) (qs : List Chs), wd n m d = true → rows.length + m ≤ L → runs at' fu (pw d ++ qs) (rows, none) = runs at' fu qs (rows, some d)
  | .str s, m, rows, qs, h, k => by
    rw [wd] at h
    obtain ⟨n1, n2, n3⟩ := delim_not (bare_word h)
    rw [pw, List.cons_append, List.nil_append, runs, step, if_neg n1, if_neg n2, if_neg n3]
    dsimp only
    rw [hw s h]
    rfl
  | .int i, m, rows, qs, h, k => by
    rw [wd, decide_eq_true_eq] at h
    obtain ⟨n1, n2, n3⟩ := delim_not (bare_int i)
    rw [pw, List.cons_append, List.nil_append, runs, step, if_neg n1, if_neg n2, if_neg n3]
    dsimp only
    rw [hi i h]
    rfl
  | .tup xs, m, rows, qs, h, k => by
    rw [wd, Bool.and_eq_true, decide_eq_true_eq] at h
    rw [pw, List.cons_append, runs, step, if_pos rfl]
    dsimp only
    rw [hf _ (by omega), if_neg Bool.false_ne_true, Option.bind_some, List.append_assoc]
    cases xs with
    | nil =>
      rw [pwl]
      simp [runs, step]
    | cons x xs =>
      rw [wds, Bool.and_eq_true] at h
      rw [pwl, List.append_assoc, runs_W hw hi hf x (m - 1) ([] :: rows) _ h.2.1 (by simp; omega), runs_Wt hw hi hf xs (m - 1) [] x rows _ h.2.2 (by omega)]
      simp [runs]
  | .non, m, rows, qs, h, k => by simp [wd] at h
  | .bl b, m, rows, qs, h, k => by simp [wd] at h
  | .lst xs, m, rows, qs, h, k => by simp [wd] at h
  | .ro xs, m, rows, qs, h, k => by simp [wd] at h
  | .ref i, m, rows, qs, h, k => by simp [wd] at h
  | .fn i, m, rows, qs, h, k => by simp [wd] at h
  | .dic t ks vs, m, rows, qs, h, k => by simp [wd] at h
  | .ct xs, m, rows, qs, h, k => by simp [wd] at h
theorem runs_Wt {at' : Chs → Option D} {fu : Nat → Bool} {n L : Nat} (hw : ∀ s, wordB s = true → at' s = some (.str s)) (hi : ∀ i : Int, i.natAbs < 10 ^ n → at' (strI i) = some (.int i)) (hf : ∀ k, k < L → fu k = false) :
    ∀ (xs : List D) (m : Nat) (r : List D) (d : D) (rows : List (List D)) (qs : List Chs), wds n m xs = true → rows.length + 1 + m ≤ L → runs at' fu (pwt xs ++ ([[93]] ++ qs)) (r :: rows, some d) = runs at' fu qs (rows, some (.tup (r ++ d :: xs)))
  | [], m, r, d, rows, qs, h, k => by
    rw [pwt]
    cases r <;> simp [runs, step]
  | x :: xs, m, r, d, rows, qs, h, k => by
    rw [wds, Bool.and_eq_true] at h
    rw [pwt, List.cons_append, runs, step, if_neg (by decide), if_pos rfl, List.append_assoc]
    dsimp only
    rw [Option.bind_some, runs_W hw hi hf x m ((r ++ [d]) :: rows) _ h.1 (by simp; omega), runs_Wt hw hi hf xs m (r ++ [d]) x rows qs h.2 k]
    simp
end
theorem rd_of {at' : Chs → Option D} {fu : Nat → Bool} {n m L : Nat} (hw : ∀ s, wordB s = true → at' s = some (.str s)) (hi : ∀ i : Int, i.natAbs < 10 ^ n → at' (strI i) = some (.int i)) (hf : ∀ k, k < L → fu k = false) {d : D} (h : wd n m d = true) (hm : m ≤ L) : rd at' fu (W d) = some d := by
  have e := pcs_W n d m [] h trivial
  rw [List.append_nil] at e
  unfold rd
  rw [e, runs_W hw hi hf d m [] _ h (by simpa using hm)]
  rfl
end K53
end
section
set_option linter.all false
set_option autoImplicit false
set_option maxRecDepth 100000
set_option maxHeartbeats 1000000
/-! datatext: words, short numbers, whole numbers of texts. -/
namespace K53
open PySem Mini
/-- the program has these -/
structure DT (P : Prog) : Prop where
  cs : P.cs = MD.cs
  f0 : P.fn 0 = some MD.f_sentence_is_whole
  f1 : P.fn 1 = some MD.f_datatext_is_word
  f2 : P.fn 2 = some MD.f_datatext_is_short
  f3 : P.fn 3 = some MD.f_datatext_write_data
  f4 : P.fn 4 = some MD.f_datatext_read_whole
  f5 : P.fn 5 = some MD.f_datatext_pieces_of
  f6 : P.fn 6 = some MD.f_datatext_read_data
  f16 : P.fn 16 = some MD.f_datatext_DataReader_init
  f17 : P.fn 17 = some MD.f_datatext_DataReader_item
  f18 : P.fn 18 = some MD.f_datatext_DataReader_open_one
  f19 : P.fn 19 = some MD.f_datatext_DataReader_close_one
  f20 : P.fn 20 = some MD.f_datatext_DataReader_comma
  f21 : P.fn 21 = some MD.f_datatext_DataReader_take
/-- a value by its content -/
def val : D → Bool
  | .fn _ => false
  | .dic _ _ _ => false
  | .ref _ => false
  | _ => true
theorem isi_val {d : D} (st : Sto) (ts : List Ty) (h : val d = true) : isiD st ts d = some (ts.any (isK (kindD d))) := by
  cases d <;> first | rfl | cases h
def intB : D → Bool
  | .int _ => true
  | _ => false
variable {P : Prog}
theorem is_whole_is (h : DT P) (k : Nat) (st : Sto) (d : D) (hd : val d = true) : callF P (k + 1) 0 [d] st = .ok (.bl (intB d)) st := by
  rw [callF_at h.f0 rfl]
  cases d <;> first | (cases hd; done) | simp [exSs, exS, evE, evEs, evT, evC, evI, sizeLine_eq, L2.atI, L2.ixN, MD.f_sentence_is_whole, MD.b_sentence_is_whole, startE, isiD, isK, kindD, intB]
theorem low_mem (c : Nat) : decide (c ∈ ([97, 98, 99, 100, 101, 102, 103, 104, 105, 106, 107, 108, 109, 110, 111, 112, 113, 114, 115, 116, 117, 118, 119, 120, 121, 122] : Chs)) = isLow c := by
  rw [Bool.eq_iff_iff]
  simp [exSs, exS, evE, evEs, evT, evC, evI, sizeLine_eq, L2.atI, L2.ixN, isLow]
  omega
theorem dig_mem (c : Nat) : decide (c ∈ ([48, 49, 50, 51, 52, 53, 54, 55, 56, 57] : Chs)) = isDig c := by
  rw [Bool.eq_iff_iff]
  simp [exSs, exS, evE, evEs, evT, evC, evI, sizeLine_eq, L2.atI, L2.ixN, isDig]
  omega
def wordD : D → Bool
  | .str s => wordB s
  | _ => false
theorem in_sign {st : Sto} {c : Nat} {z : Chs} : inD st (.str [c]) (.str z) = some (decide (c ∈ z)) := rfl
theorem in_low {st : Sto} {c : Nat} : inD st (.str [c]) (.str [97, 98, 99, 100, 101, 102, 103, 104, 105, 106, 107, 108, 109, 110, 111, 112, 113, 114, 115, 116, 117, 118, 119, 120, 121, 122]) = some (isLow c) := by rw [in_sign, low_mem]
theorem in_dig {st : Sto} {c : Nat} : inD st (.str [c]) (.str [48, 49, 50, 51, 52, 53, 54, 55, 56, 57]) = some (isDig c) := by rw [in_sign, dig_mem]
theorem is_word_is (h : DT P) (k : Nat) (st : Sto) (d : D) (hd : val d = true) (hl : ∀ s, d = .str s → s.length ≤ sizeLine) : callF P (k + 1) 1 [d] st = .ok (.bl (wordD d)) st := by
  rw [callF_at h.f1 rfl]
  by_cases hs : ∃ s, d = .str s
  · obtain ⟨s, rfl⟩ := hs
    have hl := hl s rfl
    have e1 := len_str' (st := st) hl
    simp only [MD.f_datatext_is_word, MD.b_datatext_is_word, show startE 2 [D.str s] = [some (.str s), none] from rfl]
    have comp : evE (callF P k) MD.l_datatext_is_word_0q [some (.str s), none] st = .ok (.lst (s.map fun c => .bl (isLow c || isDig c))) st := comp_str (callF P k) 1 0 [some (.str s), none] st s MD.l_datatext_is_word_0e (fun c => .bl (isLow c || isDig c)) rfl hl (fun c hc => by
      cases q : isLow c <;> simp [exSs, exS, evE, evEs, evT, evC, evI, sizeLine_eq, L2.atI, L2.ixN, MD.l_datatext_is_word_0e, wipeE, in_low, in_dig, q])
    rcases s with _ | ⟨c, r⟩
    · have e0 : lenD st (.str []) = some (.int 0) := len_str' (by simp [exSs, exS, evE, evEs, evT, evC, evI, sizeLine_eq, L2.atI, L2.ixN])
      simp [exSs, exS, evE, evEs, evT, evC, evI, sizeLine_eq, L2.atI, L2.ixN, MD.l_datatext_is_word_1i, isiD, isK, kindD, e0, wordD, wordB]
    · have a0 := at_str (st := st) (s := c :: r) 0 hl
      by_cases c1 : (c :: r).length ≤ 12
      · have l1 : ((r.length : Nat) : Int) + 1 ≤ 12 := by simp [exSs, exS, evE, evEs, evT, evC, evI, sizeLine_eq, L2.atI, L2.ixN] at c1; omega
        have l0 : (1 : Int) ≤ (r.length : Int) + 1 := by omega
        by_cases c2 : isLow c = true
        · simp [exSs, exS, evE, evEs, evT, evC, evI, sizeLine_eq, L2.atI, L2.ixN, MD.l_datatext_is_word_1i, isiD, isK, kindD, e1, a0, l1, l0, in_low, c2]
          rw [comp]
          have bm := bools_mapf (fun c => isLow c || isDig c) (c :: r)
          simp only [bnd_ok, p_all, listOf_lst, Option.bind_some, bm, Option.map_some, boolR_some', liftP_some, out_ok, sq_ret, finish_ret]
          simp [exSs, exS, evE, evEs, evT, evC, evI, sizeLine_eq, L2.atI, L2.ixN, wordD, wordB, c2]
          intro _
          simp [exSs, exS, evE, evEs, evT, evC, evI, sizeLine_eq, L2.atI, L2.ixN] at c1
          omega
        · have c2 : isLow c = false := by simpa [exSs, exS, evE, evEs, evT, evC, evI, sizeLine_eq, L2.atI, L2.ixN] using c2
          simp [exSs, exS, evE, evEs, evT, evC, evI, sizeLine_eq, L2.atI, L2.ixN, MD.l_datatext_is_word_1i, isiD, isK, kindD, e1, a0, l1, l0, in_low, c2, wordD, wordB]
      · have l1 : ¬ ((r.length : Nat) : Int) + 1 ≤ 12 := by simp [exSs, exS, evE, evEs, evT, evC, evI, sizeLine_eq, L2.atI, L2.ixN] at c1; omega
        have l0 : (1 : Int) ≤ (r.length : Int) + 1 := by omega
        simp [exSs, exS, evE, evEs, evT, evC, evI, sizeLine_eq, L2.atI, L2.ixN, MD.l_datatext_is_word_1i, isiD, isK, kindD, e1, a0, l1, l0, wordD, wordB]
        simp [exSs, exS, evE, evEs, evT, evC, evI, sizeLine_eq, L2.atI, L2.ixN] at c1
        intro z
        omega
  · cases d <;> first | (cases hd; done) | exact absurd ⟨_, rfl⟩ hs | simp [exSs, exS, evE, evEs, evT, evC, evI, sizeLine_eq, L2.atI, L2.ixN, MD.f_datatext_is_word, MD.b_datatext_is_word, MD.l_datatext_is_word_1i, startE, isiD, isK, kindD, wordD]
/-! short numbers -/
def lim (n : Nat) (i : Int) : Bool := decide (i.natAbs < 10 ^ n)
def e32 : Int := 100000000000000000000000000000000
theorem e32_eq (j : Nat) : e32 ^ j = ((10 ^ (32 * j) : Nat) : Int) := by
  rw [Nat.pow_mul, Int.natCast_pow]
  rfl
theorem log_10 (n : Nat) : Nat.log2 (10 ^ n) < 4 * n + 1 := by
  have h : 10 ^ n < 2 ^ (4 * n + 1) := by
    have h1 : (10 : Nat) ^ n ≤ (2 ^ 4) ^ n := Nat.pow_le_pow_left (by decide) n
    rw [← Nat.pow_mul] at h1
    have h2 : (2 : Nat) ^ (4 * n) < 2 ^ (4 * n + 1) := Nat.pow_lt_pow_right (by decide) (by omega)
    omega
  exact (Nat.log2_lt (by exact Nat.ne_of_gt (Nat.pow_pos (by decide)))).mpr h
theorem wide32 (j : Nat) (hj : j ≤ 200) : wide (e32 ^ j) e32 = true := by
  unfold wide
  rw [e32_eq, Int.natAbs_natCast]
  have h := log_10 (32 * j)
  have h2 : Nat.log2 e32.natAbs = 106 := by decide +kernel
  rw [decide_eq_true_eq, h2]
  omega
theorem between (i : Int) (n : Nat) (hn : 0 < 10 ^ n) : (decide (-((10 ^ n : Nat) : Int) < i) && decide (i < ((10 ^ n : Nat) : Int))) = lim n i := by
  unfold lim
  rw [Bool.eq_iff_iff, Bool.and_eq_true, decide_eq_true_eq, decide_eq_true_eq, decide_eq_true_eq]
  generalize 10 ^ n = m at *
  omega
theorem range_len (n : Nat) : (rangeL 0 1 n).length = n := by simp [exSs, exS, evE, evEs, evT, evC, evI, sizeLine_eq, L2.atI, L2.ixN, rangeL]
theorem pow32 (cl : Call) (env : Mini.Env) (st : Sto) : evE cl (.pr .pow (.cons (.lit (.int 10)) (.cons (.lit (.int 32)) .nil))) env st = .ok (.int e32) st := by
  simp [exSs, exS, evE, evEs, evT, evC, evI, sizeLine_eq, L2.atI, L2.ixN, e32]
theorem imul32 (j : Nat) (hj : j ≤ 199) (st : Sto) : prim .imul [.int (e32 ^ j), .int e32] st = some (.int (e32 ^ (j + 1)), st) := by
  show guardR (wide (e32 ^ j) e32) (some (.int (e32 ^ j * e32), st)) = _
  rw [wide32 j (by omega), guardR_true, Int.pow_succ]
theorem short_body (cs : Clss) (cl : Call) (i : Int) (j : Nat) (hj : j ≤ 199) (x : Option D) (st : Sto) : exSs cs cl MD.l_datatext_is_short_0b [some (.int i), some (.int (e32 ^ j)), x] st = .nx [some (.int i), some (.int (e32 ^ (j + 1))), x] st := by
  have pe := pow32 cl [some (.int i), some (.int (e32 ^ j)), x] st
  simp only [MD.l_datatext_is_short_0b, exSs, exS, getV_s, getV_0, pe, out_ok, imul32 j hj, liftP_some, sq_nx, List.set_cons_succ, List.set_cons_zero]
theorem short_loop (cs : Clss) (cl : Call) (i : Int) (st : Sto) : ∃ x, forL [] (.nm 2) (exSs cs cl MD.l_datatext_is_short_0b) (rangeL 0 1 124) [some (.int i), some (.int (e32 ^ 1)), none] st = .nx [some (.int i), some (.int (e32 ^ 125)), x] st := by
  obtain ⟨env', st', l1, rfl, x, rfl⟩ := forL_go (t := .nm 2) (b := exSs cs cl MD.l_datatext_is_short_0b) (fun j env st' => st' = st ∧ ∃ x, env = [some (.int i), some (.int (e32 ^ (j + 1))), x]) (rangeL 0 1 124) 0 [some (.int i), some (.int (e32 ^ 1)), none] st ⟨rfl, none, rfl⟩
      (fun j d' env st' hj hI => by
        obtain ⟨rfl, x, rfl⟩ := hI
        have hlt : j < 124 := by
          have := (List.getElem?_eq_some_iff.mp hj).1
          rwa [range_len] at this
        refine ⟨_, setT_nm _ _ _, [some (.int i), some (.int (e32 ^ (0 + j + 1 + 1))), some d'], st', ?_, rfl, some d', rfl⟩
        exact short_body cs cl i (0 + j + 1) (by omega) (some d') st')
  refine ⟨x, ?_⟩
  rw [l1, range_len]
theorem short_rng (cl : Call) (env : Mini.Env) (st : Sto) : evI cl (.rng (.cons (.pr .sub (.cons (.pr .fdiv (.cons (.lit (.int 4000)) (.cons (.lit (.int 32)) .nil))) (.cons (.lit (.int 1)) .nil))) .nil)) env st = .ok (rangeL 0 1 124, []) st := by
  have e0 : prim .fdiv [.int 4000, .int 32] st = some (.int 125, st) := by
    rw [p_fdiv]
    have e1 : (decide ((32 : Int) ≠ 0) && decide ((32 : Int).natAbs.log2 < 9000)) = true := by decide +kernel
    rw [e1, guardR_true]
    rfl
  simp only [evI, evEs, evE, bnd_ok, e0, liftP_some, p_sub]
  rfl
theorem short_cmp (cl : Call) (i : Int) (n : Nat) (m : Int) (hm : m = ((10 ^ n : Nat) : Int)) (x : Option D) (st : Sto) : evE cl (.chain .lt .lt (.pr .neg (.cons (.var 1) .nil)) (.var 0) (.var 1)) [some (.int i), some (.int m), x] st = .ok (.bl (lim n i)) st := by
  have b := between i n (Nat.pow_pos (by decide))
  rw [← hm] at b
  rw [← b]
  cases q : decide (-m < i) <;> simp [exSs, exS, evE, evEs, evT, evC, evI, sizeLine_eq, L2.atI, L2.ixN, q]
theorem short_cmpT (cl : Call) (i : Int) (n : Nat) (m : Int) (hm : m = ((10 ^ n : Nat) : Int)) (x : Option D) (st : Sto) : evT cl MD.l_datatext_is_short_1i [some (.int i), some (.int m), x] st = .ok (lim n i) st := by
  have b := between i n (Nat.pow_pos (by decide))
  rw [← hm] at b
  rw [← b]
  cases q : decide (-m < i) <;> simp [exSs, exS, evE, evEs, evT, evC, evI, sizeLine_eq, L2.atI, L2.ixN, MD.l_datatext_is_short_1i, q]
theorem lim_mono {m n : Nat} (h : m ≤ n) {i : Int} (c : lim m i = true) : lim n i = true := by
  unfold lim at c ⊢
  rw [decide_eq_true_eq] at c ⊢
  exact Nat.lt_of_lt_of_le c (Nat.pow_le_pow_right (by decide) h)
theorem is_short_int (h : DT P) (k : Nat) (st : Sto) (i : Int) (n : Nat) (hn : n = 32 * 125) : callF P (k + 2) 2 [.int i] st = .ok (.bl (lim n i)) st := by
  rw [callF_at h.f2 rfl]
  have w : callF P (k + 1) 0 [.int i] st = .ok (.bl true) st := is_whole_is h k st (.int i) rfl
  have t1 : evT (callF P (k + 1)) MD.l_datatext_is_short_2i [some (.int i), none, none] st = .ok false st := by simp [exSs, exS, evE, evEs, evT, evC, evI, sizeLine_eq, L2.atI, L2.ixN, MD.l_datatext_is_short_2i, w]
  have p1 := fun env => pow32 (callF P (k + 1)) env st
  have t2 := fun x => short_cmpT (callF P (k + 1)) i 32 (e32 ^ 1) (e32_eq 1) x st
  obtain ⟨x, l1⟩ := short_loop P.cs (callF P (k + 1)) i st
  have it := fun env => short_rng (callF P (k + 1)) env st
  have t3 := short_cmp (callF P (k + 1)) i n (e32 ^ 125) (by rw [e32_eq, hn]) x st
  have e1 : e32 = e32 ^ 1 := (Int.pow_one e32).symm
  have p1 := fun env => (p1 env).trans (congrArg (fun z => Res.ok (D.int z) st) e1)
  generalize e32 ^ 125 = m at *
  generalize e32 ^ 1 = m1 at *
  simp only [MD.f_datatext_is_short, MD.b_datatext_is_short, show startE 3 [D.int i] = [some (.int i), none, none] from rfl]
  rw [exSs, exS, t1, out_ok, if_neg Bool.false_ne_true, exSs, sq_nx, exSs, exS, p1, out_ok]
  simp only [setT_nm, nxO_some', sq_nx, List.set_cons_succ, List.set_cons_zero]
  rw [exSs, exS, t2, out_ok]
  by_cases c : lim 32 i = true
  · have c2 : lim n i = true := lim_mono (by omega) c
    rw [if_pos c, c2]
    simp [exSs, exS, evE, evEs, evT, evC, evI, sizeLine_eq, L2.atI, L2.ixN]
  · rw [if_neg c, exSs, sq_nx, exSs, exS, it, out_ok, l1, sq_nx, exSs, exS, t3, out_ok, sq_ret, finish_ret]
theorem is_short_no (h : DT P) (k : Nat) (st : Sto) (d : D) (hd : val d = true) (hi : intB d = false) : callF P (k + 2) 2 [d] st = .ok (.bl false) st := by
  rw [callF_at h.f2 rfl]
  have w := is_whole_is h k st d hd
  rw [hi] at w
  simp [exSs, exS, evE, evEs, evT, evC, evI, sizeLine_eq, L2.atI, L2.ixN, MD.f_datatext_is_short, MD.b_datatext_is_short, MD.l_datatext_is_short_2i, startE, w]
/-! read_whole -/
def malf : Exc := ⟨1, []⟩
theorem raise1 (h : DT P) (st : Sto) (env : Mini.Env) (cl : Call) : exS P.cs cl (.raise 1 .nil) env st = .exc malf env st := by
  rw [h.cs]
  simp [exSs, exS, evE, evEs, evT, evC, evI, sizeLine_eq, L2.atI, L2.ixN, MD.cs, numOk, zipF, malf]
theorem read_whole_is (h : DT P) (k : Nat) (st : Sto) (t : Chs) (hl : t.length ≤ sizeLine) : callF P (k + 1) 4 [.str t] st = if numB t = true ∧ (bodyT t).length ≤ 4000 then .ok (.int (valT t)) st else .exc malf st := by
  rw [callF_at h.f4 rfl]
  have lb := bodyT_le t
  have hzb : (bodyT t).length ≤ sizeLine := by omega
  have e1 := sl_str (st := st) (s := t) none (some 1) hl
  have e2 := sl_str (st := st) (s := t) (some 1) none hl
  rw [cut01] at e1
  rw [cut10] at e2
  have len1 := len_str' (st := st) hzb
  have q2 : evE (callF P k) (.ife (.pr .eq (.cons (.pr (.sl false true) (.cons (.var 0) (.cons (.lit (.int 1)) .nil))) (.cons (.lit (.str [45])) .nil))) (.pr (.sl true false) (.cons (.var 0) (.cons (.lit (.int 1)) .nil))) (.var 0)) [some (.str t), none, none] st = .ok (.str (bodyT t)) st := by
    simp only [List.drop_one] at e2
    simp [exSs, exS, evE, evEs, evT, evC, evI, sizeLine_eq, L2.atI, L2.ixN, e1, e2]
    unfold bodyT
    split
    · rw [List.drop_one]
    · rfl
  have sg : evE (callF P k) MD.l_datatext_read_whole_1q [some (.str t), some (.str (bodyT t)), none] st = .ok (.lst ((bodyT t).map fun c => .bl (isDig c))) st :=
    comp_str (callF P k) 2 1 [some (.str t), some (.str (bodyT t)), none] st (bodyT t) MD.l_datatext_read_whole_1e (fun c => .bl (isDig c)) rfl hzb (fun c hc => by
      simp [exSs, exS, evE, evEs, evT, evC, evI, sizeLine_eq, L2.atI, L2.ixN, MD.l_datatext_read_whole_1e, wipeE, in_dig])
  have q3 : evT (callF P k) MD.l_datatext_read_whole_2i [some (.str t), some (.str (bodyT t)), none] st = .ok ((bodyT t).isEmpty || !decide ((bodyT t).length ≤ 4000) || !(bodyT t).all isDig) st := by
    by_cases c1 : bodyT t = []
    · have l0 : lenD st (.str []) = some (.int 0) := len_str' (by simp [exSs, exS, evE, evEs, evT, evC, evI, sizeLine_eq, L2.atI, L2.ixN])
      simp [exSs, exS, evE, evEs, evT, evC, evI, sizeLine_eq, L2.atI, L2.ixN, MD.l_datatext_read_whole_2i, c1, l0]
    · have c0 : (1 : Int) ≤ ((bodyT t).length : Int) := by
        have := List.length_pos_iff.mpr c1
        omega
      have c3 : (bodyT t).isEmpty = false := by simpa [exSs, exS, evE, evEs, evT, evC, evI, sizeLine_eq, L2.atI, L2.ixN] using c1
      have bm := bools_mapf isDig (bodyT t)
      by_cases c2 : (bodyT t).length ≤ 4000
      · have c2' : ((bodyT t).length : Int) ≤ 4000 := by omega
        simp [exSs, exS, evE, evEs, evT, evC, evI, sizeLine_eq, L2.atI, L2.ixN, MD.l_datatext_read_whole_2i, len1, c0, c2', c2, sg, bm, c3]
      · have c2' : ¬ ((bodyT t).length : Int) ≤ 4000 := by omega
        simp [exSs, exS, evE, evEs, evT, evC, evI, sizeLine_eq, L2.atI, L2.ixN, MD.l_datatext_read_whole_2i, len1, c0, c2', c2, c3]
  have q4 : (bodyT t).isEmpty = false → (bodyT t).all isDig = true → evT (callF P k) MD.l_datatext_read_whole_0i [some (.str t), some (.str (bodyT t)), none] st = .ok ((bodyT t).head? == some 48 && t != [48]) st := by
    intro c1 c3
    cases q : bodyT t with
    | nil =>
      rw [q] at c1
      cases c1
    | cons x l =>
      have a0 := at_str (st := st) (s := x :: l) 0 (by rw [← q]; exact hzb)
      simp [exSs, exS, evE, evEs, evT, evC, evI, sizeLine_eq, L2.atI, L2.ixN, MD.l_datatext_read_whole_0i, a0]
      by_cases hx : x = 48
      · subst hx
        cases hh : t == [48] <;> simp [exSs, exS, evE, evEs, evT, evC, evI, sizeLine_eq, L2.atI, L2.ixN, hh, bne]
      · simp [exSs, exS, evE, evEs, evT, evC, evI, sizeLine_eq, L2.atI, L2.ixN, hx]
  simp only [MD.f_datatext_read_whole, MD.b_datatext_read_whole, show startE 3 [D.str t] = [some (.str t), none, none] from rfl, exSs, exS, out_ok, sq_nx, Bool.false_eq_true, if_false, q2, nxO_some', setT_nm, List.set_cons_succ, List.set_cons_zero, q3]
  by_cases c1 : (bodyT t).isEmpty = true
  · have k0 : numB t = false := by simp [exSs, exS, evE, evEs, evT, evC, evI, sizeLine_eq, L2.atI, L2.ixN, numB, c1]
    simp [exSs, exS, evE, evEs, evT, evC, evI, sizeLine_eq, L2.atI, L2.ixN, c1, k0, h.cs, MD.cs, numOk, zipF, malf]
  · have c1 : (bodyT t).isEmpty = false := by simpa [exSs, exS, evE, evEs, evT, evC, evI, sizeLine_eq, L2.atI, L2.ixN] using c1
    by_cases c2 : (bodyT t).length ≤ 4000
    · by_cases c3 : (bodyT t).all isDig = true
      · have q5 := q4 c1 c3
        simp only [c1, c2, c3, decide_true, Bool.not_true, Bool.or_false, Bool.false_eq_true, if_false, sq_nx, q5, out_ok]
        cases hh : ((bodyT t).head? == some 48 && t != [48]) with
        | true =>
          have k0 : numB t = false := by simp only [numB, hh]; simp [exSs, exS, evE, evEs, evT, evC, evI, sizeLine_eq, L2.atI, L2.ixN]
          simp [exSs, exS, evE, evEs, evT, evC, evI, sizeLine_eq, L2.atI, L2.ixN, k0, h.cs, MD.cs, numOk, zipF, malf]
        | false =>
          have k0 : numB t = true := by simp only [numB, hh, c1, c3]; simp [exSs, exS, evE, evEs, evT, evC, evI, sizeLine_eq, L2.atI, L2.ixN]
          have tl : t.length ≤ 4001 := by
            unfold bodyT at c2
            split at c2
            · rw [List.length_drop] at c2
              omega
            · omega
          have iv : intD (.str t) = some (.int (valT t)) := by
            simp only [intD]
            rw [if_pos hl, intText_at (by omega) c1 c3]
            rfl
          simp [exSs, exS, evE, evEs, evT, evC, evI, sizeLine_eq, L2.atI, L2.ixN, k0, iv, c2]
      · have c3 : (bodyT t).all isDig = false := by simpa [exSs, exS, evE, evEs, evT, evC, evI, sizeLine_eq, L2.atI, L2.ixN] using c3
        have k0 : numB t = false := by simp only [numB, c3]; simp [exSs, exS, evE, evEs, evT, evC, evI, sizeLine_eq, L2.atI, L2.ixN]
        simp [exSs, exS, evE, evEs, evT, evC, evI, sizeLine_eq, L2.atI, L2.ixN, c1, c2, c3, k0, h.cs, MD.cs, numOk, zipF, malf]
    · simp [exSs, exS, evE, evEs, evT, evC, evI, sizeLine_eq, L2.atI, L2.ixN, c1, c2, h.cs, MD.cs, numOk, zipF, malf]
end K53
end
section
set_option linter.all false
set_option autoImplicit false
set_option maxRecDepth 100000
set_option maxHeartbeats 1000000
/-! datatext: write_data. -/
namespace K53
open PySem Mini
variable {P : Prog}
mutual
/-- values by their content, texts not too long -/
def valA : D → Bool
  | .fn _ => false
  | .dic _ _ _ => false
  | .ref _ => false
  | .ct _ => false
  | .str s => decide (s.length ≤ 16777216)
  | .tup xs => valAs xs
  | _ => true
def valAs : List D → Bool
  | [] => true
  | x :: xs => valA x && valAs xs
end
mutual
/-- how many pieces it may come to -/
def cst : D → Nat
  | .tup xs => 2 + csts xs
  | _ => 1
def csts : List D → Nat
  | [] => 0
  | x :: xs => 2 + cst x + csts xs
end
theorem val_of {d : D} (h : valA d = true) : val d = true := by
  cases d <;> first | rfl | (simp [exSs, exS, evE, evEs, evT, evC, evI, sizeLine_eq, valA] at h)
theorem valAs_get : ∀ {xs : List D} {i : Nat} {d : D}, valAs xs = true → xs[i]? = some d → valA d = true
  | [], i, d, h, e => by simp [exSs, exS, evE, evEs, evT, evC, evI, sizeLine_eq] at e
  | x :: xs, 0, d, h, e => by
    rw [valAs, Bool.and_eq_true] at h
    simp [exSs, exS, evE, evEs, evT, evC, evI, sizeLine_eq] at e
    rw [← e]
    exact h.1
  | x :: xs, i + 1, d, h, e => by
    rw [valAs, Bool.and_eq_true] at h
    exact valAs_get h.2 (by simpa [exSs, exS, evE, evEs, evT, evC, evI, sizeLine_eq] using e)
theorem csts_len : ∀ xs : List D, 2 * xs.length ≤ csts xs
  | [] => Nat.zero_le _
  | x :: xs => by
    have := csts_len xs
    rw [csts, List.length_cons]
    omega
/-- what waits -/
def wt (d : D) (k : Nat) : D := .tup [d, .int k]
def comma : D := wt (.str [44]) 0
/-- items with commas, the first on top -/
def pshT (k : Nat) : List D → List D
  | [] => []
  | y :: ys => pshT k ys ++ [wt y k, comma]
def psh (k : Nat) : List D → List D
  | [] => []
  | y :: ys => pshT k ys ++ [wt y k]
theorem pshT_len (k : Nat) : ∀ xs, (pshT k xs).length = 2 * xs.length
  | [] => rfl
  | x :: xs => by
    rw [pshT, List.length_append, pshT_len k xs, List.length_cons]
    simp [exSs, exS, evE, evEs, evT, evC, evI, sizeLine_eq]
    omega
section
variable (st : Sto) (d0 : D)
abbrev wE (one dp kk : Option D) : Mini.Env := [some d0, some (.ref st.length), some (.ref (st.length + 1)), one, dp, kk]
abbrev wS (w : List D) (f : List Chs) : Sto := st ++ [.lst w, .lst (f.map .str)]
theorem w0 (w : List D) (f : List Chs) : (wS st w f)[st.length]? = some (.lst w) := get_app0 st _
theorem w1 (w : List D) (f : List Chs) : (wS st w f)[st.length + 1]? = some (.lst (f.map .str)) := get_app st _ 1
theorem apW (w : List D) (f : List Chs) (x : D) (h : w.length < 16777216) : prim .append [.ref st.length, x] (wS st w f) = some (.non, wS st (w ++ [x]) f) := by
  rw [append_at x (w0 st w f) (by rw [sizeLine_eq]; exact h), set_app0]
  rfl
theorem apF (w : List D) (f : List Chs) (x : Chs) (h : f.length < 16777216) : prim .append [.ref (st.length + 1), .str x] (wS st w f) = some (.non, wS st w (f ++ [x])) := by
  rw [append_at (.str x) (w1 st w f) (by rw [sizeLine_eq]; simpa [exSs, exS, evE, evEs, evT, evC, evI, sizeLine_eq] using h), set_app]
  simp [exSs, exS, evE, evEs, evT, evC, evI, sizeLine_eq, wS]
theorem poW (w : List D) (f : List Chs) (x : D) : prim .pop [.ref st.length] (wS st (w ++ [x]) f) = some (x, wS st w f) := by
  rw [pop_at (w0 st (w ++ [x]) f), set_app0]
  rfl
/-- one item of a tuple goes on the stack -/
theorem push_body (cs : Clss) (cl : Call) (xs : List D) (k j : Nat) (y : D) (w : List D) (f : List Chs) (hy : xs[j]? = some y) (hw : w.length + 1 < 16777216) :
    exSs cs cl MD.l_datatext_write_data_3b (wE st d0 (some (.tup xs)) (some (.int k)) (some (.int j))) (wS st w f) = .nx (wE st d0 (some (.tup xs)) (some (.int k)) (some (.int j))) (wS st (w ++ (if j = 0 then [wt y (k + 1)] else [wt y (k + 1), comma])) f) := by
  have a0 : ∀ s, atD s (.tup xs) (j : Int) = some y := fun s => by rw [at_tup, atI_nat, hy]
  have r0 := fun w f => rcv_append (w0 st w f)
  have a1 := apW st w f (wt y (k + 1)) (by omega)
  have a2 := apW st (w ++ [wt y (k + 1)]) f comma (by simp [exSs, exS, evE, evEs, evT, evC, evI, sizeLine_eq]; omega)
  have e1 : (D.tup [y, .int ((k : Int) + 1)]) = wt y (k + 1) := rfl
  have e2 : (D.tup [.str [44], .int 0]) = comma := rfl
  simp only [MD.l_datatext_write_data_3b, exSs, exS, evE, evEs, getV_0, getV_s, bnd_ok, r0, if_true, p_ix, a0, oneR_some', liftP_some, p_add_ii, List.length_cons, List.length_nil, sizeLine_eq, Nat.reduceAdd, Nat.reduceLeDiff, e1, e2, a1, out_ok, sq_nx]
  by_cases c : j = 0
  · subst c
    have t : evT cl MD.l_datatext_write_data_2i (wE st d0 (some (.tup xs)) (some (.int k)) (some (.int ((0 : Nat) : Int)))) (wS st (w ++ [wt y (k + 1)]) f) = .ok false (wS st (w ++ [wt y (k + 1)]) f) := by
      simp [exSs, exS, evE, evEs, evT, evC, evI, sizeLine_eq, MD.l_datatext_write_data_2i, wE]
    rw [t, out_ok, if_neg Bool.false_ne_true, if_pos rfl, sq_nx]
  · have t : evT cl MD.l_datatext_write_data_2i (wE st d0 (some (.tup xs)) (some (.int k)) (some (.int j))) (wS st (w ++ [wt y (k + 1)]) f) = .ok true (wS st (w ++ [wt y (k + 1)]) f) := by
      have : (0 : Int) < (j : Int) := by omega
      simp [exSs, exS, evE, evEs, evT, evC, evI, sizeLine_eq, MD.l_datatext_write_data_2i, wE, this]
      omega
    rw [t, out_ok, if_pos rfl, if_neg c]
    simp only [r0, if_true, a2, liftP_some, out_ok, sq_nx, List.append_assoc, List.cons_append, List.nil_append]
theorem push_loop (cs : Clss) (cl : Call) (xs : List D) (k : Nat) (w : List D) (f : List Chs) (kk : Option D) (hw : w.length + 2 * xs.length + 2 < 16777216) :
    ∃ kk', forL [] (.nm 5) (exSs cs cl MD.l_datatext_write_data_3b) (rangeL ((xs.length : Int) - 1) (-1) xs.length) (wE st d0 (some (.tup xs)) (some (.int k)) kk) (wS st w f) = .nx (wE st d0 (some (.tup xs)) (some (.int k)) kk') (wS st (w ++ psh (k + 1) xs) f) := by
  obtain ⟨env', st', l1, kk', rfl, I1, I2⟩ := forL_go (t := .nm 5) (b := exSs cs cl MD.l_datatext_write_data_3b)
    (fun j env s => ∃ kk', env = wE st d0 (some (.tup xs)) (some (.int k)) kk' ∧ (j < xs.length → s = wS st (w ++ pshT (k + 1) (xs.drop (xs.length - j))) f) ∧ (j = xs.length → s = wS st (w ++ psh (k + 1) xs) f))
    (rangeL ((xs.length : Int) - 1) (-1) xs.length) 0 (wE st d0 (some (.tup xs)) (some (.int k)) kk) (wS st w f)
    ⟨kk, rfl, fun _ => by simp [exSs, exS, evE, evEs, evT, evC, evI, sizeLine_eq, pshT], fun e => by
      have : xs = [] := List.eq_nil_of_length_eq_zero e.symm
      subst this
      simp [exSs, exS, evE, evEs, evT, evC, evI, sizeLine_eq, psh]⟩
    (fun j d env s hj hI => by
      obtain ⟨kk', rfl, I1, _⟩ := hI
      rw [Nat.zero_add] at I1 ⊢
      have jl : j < xs.length := by
        have := (List.getElem?_eq_some_iff.mp hj).1
        rwa [rangeL_len] at this
      have e := rangeL_at ((xs.length : Int) - 1) (-1) xs.length j jl
      rw [e] at hj
      have ed : d = .int ((xs.length - 1 - j : Nat) : Int) := by
        rw [← Option.some.inj hj]
        congr 1
        omega
      subst ed
      have hs := I1 jl
      subst hs
      obtain ⟨y, hy⟩ : ∃ y, xs[xs.length - 1 - j]? = some y := ⟨_, List.getElem?_eq_getElem (by omega)⟩
      have dr : xs.drop (xs.length - (j + 1)) = y :: xs.drop (xs.length - j) := by
        have e1 : xs.length - (j + 1) = xs.length - 1 - j := by omega
        have e2 : xs.length - j = xs.length - 1 - j + 1 := by omega
        rw [e1, e2, List.drop_eq_getElem_cons (by omega)]
        congr 1
        exact (List.getElem?_eq_some_iff.mp hy).2
      have pl := pshT_len (k + 1) (xs.drop (xs.length - j))
      have b := push_body st d0 cs cl xs k (xs.length - 1 - j) y (w ++ pshT (k + 1) (xs.drop (xs.length - j))) f hy (by
        rw [List.length_append, pl, List.length_drop]
        omega)
      refine ⟨_, setT_nm _ _ _, _, _, b, _, rfl, fun hlt => ?_, fun he => ?_⟩
      · rw [if_neg (by omega), dr, pshT, List.append_assoc]
      · rw [if_pos (by omega)]
        have e0 : xs = y :: xs.drop (xs.length - j) := by
          rw [← dr, he]
          simp [exSs, exS, evE, evEs, evT, evC, evI, sizeLine_eq]
        have e3 : psh (k + 1) xs = pshT (k + 1) (xs.drop (xs.length - j)) ++ [wt y (k + 1)] := by
          conv => lhs; rw [e0]
          rw [psh]
        rw [e3, List.append_assoc])
  refine ⟨kk', ?_⟩
  rw [l1, I2 (by rw [rangeL_len, Nat.zero_add])]
end
end K53
end
section
set_option linter.all false
set_option autoImplicit false
set_option maxRecDepth 100000
set_option maxHeartbeats 1000000
/-! datatext: write_data, the stack. -/
namespace K53
open PySem Mini
variable {P : Prog}
def limD : D → Bool
  | .int i => lim 4000 i
  | _ => false
def atomB (d : D) : Bool := wordD d || limD d
section
variable (st : Sto) (d0 : D) (q : Nat)
noncomputable abbrev wc (P : Prog) (q : Nat) : Mini.Env → Sto → Res Bool := evT (callF P (q + 2)) MD.l_datatext_write_data_5c
noncomputable abbrev wb (P : Prog) (q : Nat) : Mini.Env → Sto → Out := exSs P.cs (callF P (q + 2)) MD.l_datatext_write_data_5b
theorem wr_c (w : List D) (x : D) (f : List Chs) (one dp kk : Option D) : wc P q (wE st d0 one dp kk) (wS st (w ++ [x]) f) = .ok true (wS st (w ++ [x]) f) := by
  have l := len_at (w0 st (w ++ [x]) f)
  have : (0 : Int) < (w.length : Int) + 1 := by omega
  simp [exSs, exS, evE, evEs, evT, evC, evI, sizeLine_eq, wc, MD.l_datatext_write_data_5c, wE, l, this]
/-- behind the pop -/
theorem wr_pop (w : List D) (d : D) (k : Nat) (f : List Chs) (one dp kk : Option D) : wb P q (wE st d0 one dp kk) (wS st (w ++ [wt d k]) f) = (exS P.cs (callF P (q + 2))
  (.ife MD.l_datatext_write_data_0i (.cons 
   (.ex (.mth .append (.var 2) (.cons (.var 3) .nil))) .nil) (.cons 
   (.ife MD.l_datatext_write_data_1i (.cons 
    (.ex (.mth .append (.var 2) (.cons (.lit (.str [91])) .nil))) (.cons 
    (.ex (.mth .append (.var 1) (.cons (.tup (.cons (.lit (.str [93])) (.cons (.lit (.int 0)) .nil))) .nil))) (.cons 
    (.for_ (.nm 5) (.rng (.cons (.pr .sub (.cons (.pr .len (.cons (.var 3) .nil)) (.cons (.lit (.int 1)) .nil))) (.cons (.pr .neg (.cons (.lit (.int 1)) .nil)) (.cons (.pr .neg (.cons (.lit (.int 1)) .nil)) .nil)))) MD.l_datatext_write_data_3b) .nil))) (.cons 
    (.ife MD.l_datatext_write_data_4i (.cons 
     (.ex (.mth .append (.var 2) (.cons (.pr .str (.cons (.var 3) .nil)) .nil))) .nil) (.cons 
     (.raise 1 .nil) .nil)) .nil)) .nil)) (wE st d0 (some d) (some (.int k)) kk) (wS st w f)).sq fun env st => .nx env st := by
  have e : evE (callF P (q + 2)) (.mth .pop (.var 1) .nil) (wE st d0 one dp kk) (wS st (w ++ [wt d k]) f) = .ok (wt d k) (wS st w f) := by
    simp only [evE, evEs, wE, getV_s, getV_0, bnd_ok, rcv_pop (w0 st (w ++ [wt d k]) f), if_true, poW st w f (wt d k), liftP_some]
  show exSs P.cs (callF P (q + 2)) MD.l_datatext_write_data_5b _ _ = _
  unfold MD.l_datatext_write_data_5b
  rw [exSs, exS, e, out_ok]
  have e2 : setT (.tp (.cons (.nm 3) (.cons (.nm 4) .nil))) (wt d k) (wE st d0 one dp kk) = some (wE st d0 (some d) (some (.int k)) kk) := by
    simp [exSs, exS, evE, evEs, evT, evC, evI, sizeLine_eq, wt, wE]
  rw [e2, nxO_some', sq_nx, exSs, show exSs P.cs (callF P (q + 2)) .nil = fun env st => Out.nx env st from by funext env st; rw [exSs]]
theorem wr_0 (w : List D) (s : Chs) (f : List Chs) (one dp kk : Option D) (h : f.length < 16777216) : wb P q (wE st d0 one dp kk) (wS st (w ++ [wt (.str s) 0]) f) = .nx (wE st d0 (some (.str s)) (some (.int 0)) kk) (wS st w (f ++ [s])) := by
  rw [wr_pop]
  have t0 : evT (callF P (q + 2)) MD.l_datatext_write_data_0i (wE st d0 (some (.str s)) (some (.int ((0 : Nat) : Int))) kk) (wS st w f) = .ok true (wS st w f) := by
    simp [exSs, exS, evE, evEs, evT, evC, evI, sizeLine_eq, MD.l_datatext_write_data_0i, wE]
  rw [exS, t0, out_ok, if_pos rfl]
  simp only [exSs, exS, evE, evEs, wE, getV_s, getV_0, bnd_ok, rcv_append (w1 st w f), if_true, apF st w f s h, liftP_some, out_ok, sq_nx]
  rfl
theorem wr_tup (w : List D) (xs : List D) (k : Nat) (f : List Chs) (one dp kk : Option D) (hk : 1 ≤ k) (hk2 : k ≤ 1000) (h : f.length < 16777216) (hw : w.length + 2 * xs.length + 3 < 16777216) :
    ∃ kk', wb P q (wE st d0 one dp kk) (wS st (w ++ [wt (.tup xs) k]) f) = .nx (wE st d0 (some (.tup xs)) (some (.int k)) kk') (wS st ((w ++ [wt (.str [93]) 0]) ++ psh (k + 1) xs) (f ++ [[91]])) := by
  rw [wr_pop]
  have t0 : evT (callF P (q + 2)) MD.l_datatext_write_data_0i (wE st d0 (some (.tup xs)) (some (.int (k : Int))) kk) (wS st w f) = .ok false (wS st w f) := by
    have : ¬ (k : Int) = 0 := by omega
    simp [exSs, exS, evE, evEs, evT, evC, evI, sizeLine_eq, MD.l_datatext_write_data_0i, wE]
    omega
  have t1 : evT (callF P (q + 2)) MD.l_datatext_write_data_1i (wE st d0 (some (.tup xs)) (some (.int (k : Int))) kk) (wS st w f) = .ok true (wS st w f) := by
    have : (k : Int) ≤ 1000 := by omega
    simp [exSs, exS, evE, evEs, evT, evC, evI, sizeLine_eq, MD.l_datatext_write_data_1i, wE, isiD, isK, kindD, this]
  obtain ⟨kk', pl⟩ := push_loop st d0 P.cs (callF P (q + 2)) xs k (w ++ [wt (.str [93]) 0]) (f ++ [[91]]) kk (by simp [exSs, exS, evE, evEs, evT, evC, evI, sizeLine_eq]; omega)
  refine ⟨kk', ?_⟩
  have a1 := apF st w f [91] h
  have a2 := apW st w (f ++ [[91]]) (wt (.str [93]) 0) (by omega)
  have e2 : (D.tup [.str [93], .int 0]) = wt (.str [93]) 0 := rfl
  have it : ∀ s, evI (callF P (q + 2)) (.rng (.cons (.pr .sub (.cons (.pr .len (.cons (.var 3) .nil)) (.cons (.lit (.int 1)) .nil))) (.cons (.pr .neg (.cons (.lit (.int 1)) .nil)) (.cons (.pr .neg (.cons (.lit (.int 1)) .nil)) .nil)))) (wE st d0 (some (.tup xs)) (some (.int (k : Int))) kk) s = .ok (rangeL ((xs.length : Int) - 1) (-1) xs.length, []) s := fun s => by
    have r := rng_down xs.length (by omega)
    simp only [evI, evEs, evE, wE, getV_s, getV_0, bnd_ok, p_len, len_tup, oneR_some', liftP_some, p_sub, p_neg, Exs.len, Nat.zero_add, Nat.reduceAdd, r]
  rw [exS, t0, out_ok, if_neg Bool.false_ne_true, exSs, exS, t1, out_ok, if_pos rfl]
  simp only [wE] at it pl ⊢
  simp only [exSs, exS, evE, evEs, getV_s, getV_0, bnd_ok, rcv_append (w1 st w f), rcv_append (w0 st w (f ++ [[91]])), if_true, a1, a2, liftP_some, out_ok, sq_nx, List.length_cons, List.length_nil, sizeLine_eq, Nat.reduceAdd, Nat.reduceLeDiff, e2, it, pl]
theorem wr_t4 (h : DT P) (d : D) (hv : valA d = true) (k : Nat) (kk : Option D) (s : Sto) : evT (callF P (q + 2)) MD.l_datatext_write_data_4i (wE st d0 (some d) (some (.int k)) kk) s = .ok (atomB d) s := by
  have iw := is_word_is h (q + 1) s d (val_of hv) (fun x e => by
    subst e
    rw [sizeLine_eq]
    simpa [exSs, exS, evE, evEs, evT, evC, evI, sizeLine_eq, valA] using hv)
  unfold atomB
  by_cases hi : ∃ i, d = .int i
  · obtain ⟨i, rfl⟩ := hi
    have iw : callF P (q + 2) 1 [.int i] s = .ok (.bl false) s := iw
    have is := is_short_int h q s i 4000 (by decide)
    simp [exSs, exS, evE, evEs, evT, evC, evI, sizeLine_eq, MD.l_datatext_write_data_4i, wE, iw, is, wordD, limD]
  · have hb : intB d = false := by cases d <;> first | rfl | exact absurd ⟨_, rfl⟩ hi
    have is := is_short_no h q s d (val_of hv) hb
    have e : limD d = false := by cases d <;> first | rfl | exact absurd ⟨_, rfl⟩ hi
    rw [e, Bool.or_false]
    cases z : wordD d <;> rw [z] at iw <;> simp [exSs, exS, evE, evEs, evT, evC, evI, sizeLine_eq, MD.l_datatext_write_data_4i, wE, iw, is]
theorem wr_at0 (h : DT P) (w : List D) (d : D) (hv : valA d = true) (k : Nat) (f : List Chs) (one dp kk : Option D) (hk : 1 ≤ k) (ht : k ≤ 1000 → kindD d ≠ .tuple) :
    wb P q (wE st d0 one dp kk) (wS st (w ++ [wt d k]) f) = if atomB d = true then (exSs P.cs (callF P (q + 2)) (.cons (.ex (.mth .append (.var 2) (.cons (.pr .str (.cons (.var 3) .nil)) .nil))) .nil) (wE st d0 (some d) (some (.int k)) kk) (wS st w f)) else .exc malf (wE st d0 (some d) (some (.int k)) kk) (wS st w f) := by
  rw [wr_pop]
  have t0 : evT (callF P (q + 2)) MD.l_datatext_write_data_0i (wE st d0 (some d) (some (.int (k : Int))) kk) (wS st w f) = .ok false (wS st w f) := by
    have : ¬ (k : Int) = 0 := by omega
    simp [exSs, exS, evE, evEs, evT, evC, evI, sizeLine_eq, MD.l_datatext_write_data_0i, wE]
    omega
  have t1 : evT (callF P (q + 2)) MD.l_datatext_write_data_1i (wE st d0 (some d) (some (.int (k : Int))) kk) (wS st w f) = .ok false (wS st w f) := by
    by_cases c : k ≤ 1000
    · have hk := ht c
      have i0 := isi_val (wS st w f) [.tuple] (val_of hv)
      have e : ([Ty.tuple].any (isK (kindD d))) = false := by
        cases z : kindD d <;> first | rfl | exact absurd z hk
      rw [e] at i0
      simp [exSs, exS, evE, evEs, evT, evC, evI, sizeLine_eq, MD.l_datatext_write_data_1i, wE, i0]
    · have c : ¬ (k : Int) ≤ 1000 := by omega
      have i0 := isi_val (wS st w f) [.tuple] (val_of hv)
      cases z : ([Ty.tuple].any (isK (kindD d))) <;> rw [z] at i0 <;> simp [exSs, exS, evE, evEs, evT, evC, evI, sizeLine_eq, MD.l_datatext_write_data_1i, wE, i0, c]
  rw [exS, t0, out_ok, if_neg Bool.false_ne_true, exSs, exS, t1, out_ok, if_neg Bool.false_ne_true, exSs, exS, wr_t4 st d0 q h d hv, out_ok]
  cases atomB d with
  | true =>
    rw [if_pos rfl, if_pos rfl]
    generalize exSs P.cs (callF P (q + 2)) (.cons (.ex (.mth .append (.var 2) (.cons (.pr .str (.cons (.var 3) .nil)) .nil))) .nil) (wE st d0 (some d) (some (.int k)) kk) (wS st w f) = o
    cases o <;> simp [exSs, exS, evE, evEs, evT, evC, evI, sizeLine_eq]
  | false =>
    rw [if_neg Bool.false_ne_true, if_neg Bool.false_ne_true, exSs, raise1 h]
    simp [exSs, exS, evE, evEs, evT, evC, evI, sizeLine_eq]
theorem lim_ten {i : Int} (h : lim 4000 i = true) : i.natAbs < tenK := by
  have h2 := lim_mono (m := 4000) (n := 4300) (by decide) h
  unfold lim at h2
  rw [decide_eq_true_eq] at h2
  unfold tenK
  exact h2
theorem wr_at (h : DT P) (w : List D) (d : D) (x : Chs) (hs : strD d = some (.str x)) (k : Nat) (kk : Option D) (f : List Chs) (hf : f.length < 16777216) :
    exSs P.cs (callF P (q + 2)) (.cons (.ex (.mth .append (.var 2) (.cons (.pr .str (.cons (.var 3) .nil)) .nil))) .nil) (wE st d0 (some d) (some (.int k)) kk) (wS st w f) = .nx (wE st d0 (some d) (some (.int k)) kk) (wS st w (f ++ [x])) := by
  simp only [exSs, exS, evE, evEs, wE, getV_s, getV_0, bnd_ok, rcv_append (w1 st w f), if_true, p_str, hs, oneR_some', apF st w f x hf, liftP_some, out_ok, sq_nx]
/-- the loop goes on to there, with so many pieces more -/
def Goes (P : Prog) (q : Nat) (st : Sto) (d0 : D) (w w' : List D) (f : List Chs) (t : Chs) (n : Nat) : Prop :=
  ∀ one dp kk, ∃ fs one' dp' kk', Run (wc P q) (wb P q) (wE st d0 one dp kk) (wS st w f) (wE st d0 one' dp' kk') (wS st w' (f ++ fs)) ∧ fs.flatten = t ∧ fs.length ≤ n
def Fails (P : Prog) (q : Nat) (st : Sto) (d0 : D) (w : List D) (f : List Chs) : Prop :=
  ∀ one dp kk, ∃ env' l', loopW (wc P q) (wb P q) (wE st d0 one dp kk) (wS st w f) = .exc malf env' (st ++ l')
theorem goes_one {w w' : List D} {f : List Chs} {x : D} {t : Chs} (h : ∀ one dp kk, ∃ one' dp' kk', wb P q (wE st d0 one dp kk) (wS st (w ++ [x]) f) = .nx (wE st d0 one' dp' kk') (wS st w' (f ++ [t]))) : Goes P q st d0 (w ++ [x]) w' f t 1 := by
  intro one dp kk
  obtain ⟨one', dp', kk', b⟩ := h one dp kk
  exact ⟨[t], one', dp', kk', .step (wr_c st d0 q w x f one dp kk) b (.refl _ _), by simp [exSs, exS, evE, evEs, evT, evC, evI, sizeLine_eq], Nat.le_refl _⟩
theorem goes_two {w w1 w2 : List D} {f : List Chs} {t1 t2 : Chs} {n1 n2 : Nat} (h : Goes P q st d0 w w1 f t1 n1) (k : ∀ fs : List Chs, fs.flatten = t1 → fs.length ≤ n1 → Goes P q st d0 w1 w2 (f ++ fs) t2 n2) : Goes P q st d0 w w2 f (t1 ++ t2) (n1 + n2) := by
  intro one dp kk
  obtain ⟨fs, one', dp', kk', r1, e1, z1⟩ := h one dp kk
  obtain ⟨gs, one2, dp2, kk2, r2, e2, z2⟩ := k fs e1 z1 one' dp' kk'
  refine ⟨fs ++ gs, one2, dp2, kk2, ?_, by rw [List.flatten_append, e1, e2], by rw [List.length_append]; omega⟩
  rw [← List.append_assoc]
  exact r1.trans r2
theorem fails_two {w w1 : List D} {f : List Chs} {t1 : Chs} {n1 : Nat} (h : Goes P q st d0 w w1 f t1 n1) (k : ∀ fs : List Chs, fs.flatten = t1 → fs.length ≤ n1 → Fails P q st d0 w1 (f ++ fs)) : Fails P q st d0 w f := by
  intro one dp kk
  obtain ⟨fs, one', dp', kk', r1, e1, z1⟩ := h one dp kk
  obtain ⟨env', l', e⟩ := k fs e1 z1 one' dp' kk'
  exact ⟨env', l', loopW_run r1 e (by simp [exSs, exS, evE, evEs, evT, evC, evI, sizeLine_eq])⟩
theorem fails_one {w : List D} {f : List Chs} {x : D} (h : ∀ one dp kk, ∃ env' l', wb P q (wE st d0 one dp kk) (wS st (w ++ [x]) f) = .exc malf env' (st ++ l')) : Fails P q st d0 (w ++ [x]) f := by
  intro one dp kk
  obtain ⟨env', l', b⟩ := h one dp kk
  exact ⟨env', l', loopW_exc (wr_c st d0 q w x f one dp kk) b⟩
theorem sign_goes (w : List D) (f : List Chs) (s : Chs) (hf : f.length < 16777216) : Goes P q st d0 (w ++ [wt (.str s) 0]) w f s 1 :=
  goes_one st d0 q fun one dp kk => ⟨_, _, _, wr_0 st d0 q w s f one dp kk hf⟩
theorem atom_goes (h : DT P) (w : List D) (f : List Chs) (d : D) (x : Chs) (hv : valA d = true) (hs : strD d = some (.str x)) (ha : atomB d = true) (k : Nat) (hk : 1 ≤ k) (ht : kindD d ≠ .tuple) (hf : f.length < 16777216) : Goes P q st d0 (w ++ [wt d k]) w f x 1 :=
  goes_one st d0 q fun one dp kk => ⟨some d, some (.int k), kk, by rw [wr_at0 st d0 q h w d hv k f one dp kk hk fun _ => ht, if_pos ha, wr_at st d0 q h w d x hs k kk f hf]⟩
theorem atom_fails (h : DT P) (w : List D) (f : List Chs) (d : D) (hv : valA d = true) (ha : atomB d = false) (k : Nat) (hk : 1 ≤ k) (ht : k ≤ 1000 → kindD d ≠ .tuple) : Fails P q st d0 (w ++ [wt d k]) f :=
  fails_one st d0 q fun one dp kk => ⟨wE st d0 (some d) (some (.int k)) kk, [.lst w, .lst (f.map .str)], by rw [wr_at0 st d0 q h w d hv k f one dp kk hk ht, if_neg (by rw [ha]; exact Bool.false_ne_true)]⟩
mutual
theorem wr_D (h : DT P) : ∀ (d : D) (k : Nat) (w : List D) (f : List Chs), valA d = true → 1 ≤ k → w.length + f.length + cst d < 16000000 →
    (wd 4000 (1001 - k) d = true → Goes P q st d0 (w ++ [wt d k]) w f (W d) (cst d)) ∧ (wd 4000 (1001 - k) d = false → Fails P q st d0 (w ++ [wt d k]) f)
  | .str s, k, w, f, hv, hk, hb => by
    rw [wd, W]
    refine ⟨fun e => ?_, fun e => ?_⟩
    · exact atom_goes st d0 q h w f _ s hv rfl (by simp [exSs, exS, evE, evEs, evT, evC, evI, sizeLine_eq, atomB, wordD, limD, e]) k hk (by simp [exSs, exS, evE, evEs, evT, evC, evI, sizeLine_eq, kindD]) (by omega)
    · exact atom_fails st d0 q h w f _ hv (by simp [exSs, exS, evE, evEs, evT, evC, evI, sizeLine_eq, atomB, wordD, limD, e]) k hk (by simp [exSs, exS, evE, evEs, evT, evC, evI, sizeLine_eq, kindD])
  | .int i, k, w, f, hv, hk, hb => by
    rw [wd, W]
    have el : decide (i.natAbs < 10 ^ 4000) = lim 4000 i := rfl
    rw [el]
    refine ⟨fun e => ?_, fun e => ?_⟩
    · refine atom_goes st d0 q h w f _ (strI i) hv ?_ (by simp [exSs, exS, evE, evEs, evT, evC, evI, sizeLine_eq, atomB, wordD, limD, e]) k hk (by simp [exSs, exS, evE, evEs, evT, evC, evI, sizeLine_eq, kindD]) (by omega)
      simp only [strD]
      rw [if_pos (lim_ten e)]
    · exact atom_fails st d0 q h w f _ hv (by simp [exSs, exS, evE, evEs, evT, evC, evI, sizeLine_eq, atomB, wordD, limD, e]) k hk (by simp [exSs, exS, evE, evEs, evT, evC, evI, sizeLine_eq, kindD])
  | .tup xs, k, w, f, hv, hk, hb => by
    rw [cst] at hb ⊢
    have hx := csts_len xs
    by_cases c : k ≤ 1000
    · have e : wd 4000 (1001 - k) (.tup xs) = wds 4000 (1001 - (k + 1)) xs := by
        rw [wd, decide_eq_true (by omega), Bool.true_and]
        congr 1
      rw [valA] at hv
      have t1 : Goes P q st d0 (w ++ [wt (.tup xs) k]) ((w ++ [wt (.str [93]) 0]) ++ psh (k + 1) xs) f [91] 1 := goes_one st d0 q fun one dp kk => by
        obtain ⟨kk', b⟩ := wr_tup (P := P) st d0 q w xs k f one dp kk hk c (by omega) (by omega)
        exact ⟨_, _, _, b⟩
      have ih := fun fs : List Chs => fun hl : fs.length ≤ 1 => wr_L h xs (k + 1) (w ++ [wt (.str [93]) 0]) (f ++ fs) hv (by omega) (by simp [exSs, exS, evE, evEs, evT, evC, evI, sizeLine_eq]; omega)
      rw [e]
      refine ⟨fun hd => ?_, fun hd => ?_⟩
      · have g := goes_two st d0 q t1 fun fs _ hl => goes_two st d0 q ((ih fs hl).1 hd) fun gs _ hg => sign_goes st d0 q w ((f ++ fs) ++ gs) [93] (by simp [exSs, exS, evE, evEs, evT, evC, evI, sizeLine_eq]; omega)
        have ew : W (.tup xs) = [91] ++ (Wl xs ++ [93]) := by rw [W]; rfl
        rw [ew]
        have en : 1 + (csts xs + 1) = 2 + csts xs := by omega
        rw [← en]
        exact g
      · exact fails_two st d0 q t1 fun fs _ hl => (ih fs hl).2 hd
    · have e : wd 4000 (1001 - k) (.tup xs) = false := by
        rw [wd, decide_eq_false (by omega), Bool.false_and]
      rw [e]
      exact ⟨(fun z => nomatch z), fun _ => atom_fails st d0 q h w f _ hv rfl k hk fun z => absurd z c⟩
  | .non, k, w, f, hv, hk, hb => ⟨fun z => by simp [exSs, exS, evE, evEs, evT, evC, evI, sizeLine_eq, wd] at z, fun _ => atom_fails st d0 q h w f _ hv rfl k hk (by simp [exSs, exS, evE, evEs, evT, evC, evI, sizeLine_eq, kindD])⟩
  | .bl b, k, w, f, hv, hk, hb => ⟨fun z => by simp [exSs, exS, evE, evEs, evT, evC, evI, sizeLine_eq, wd] at z, fun _ => atom_fails st d0 q h w f _ hv rfl k hk (by simp [exSs, exS, evE, evEs, evT, evC, evI, sizeLine_eq, kindD])⟩
  | .lst xs, k, w, f, hv, hk, hb => ⟨fun z => by simp [exSs, exS, evE, evEs, evT, evC, evI, sizeLine_eq, wd] at z, fun _ => atom_fails st d0 q h w f _ hv rfl k hk (by simp [exSs, exS, evE, evEs, evT, evC, evI, sizeLine_eq, kindD])⟩
  | .ro xs, k, w, f, hv, hk, hb => ⟨fun z => by simp [exSs, exS, evE, evEs, evT, evC, evI, sizeLine_eq, wd] at z, fun _ => atom_fails st d0 q h w f _ hv rfl k hk (by simp [exSs, exS, evE, evEs, evT, evC, evI, sizeLine_eq, kindD])⟩
  | .ref i, k, w, f, hv, hk, hb => by simp [exSs, exS, evE, evEs, evT, evC, evI, sizeLine_eq, valA] at hv
  | .fn i, k, w, f, hv, hk, hb => by simp [exSs, exS, evE, evEs, evT, evC, evI, sizeLine_eq, valA] at hv
  | .dic t ks vs, k, w, f, hv, hk, hb => by simp [exSs, exS, evE, evEs, evT, evC, evI, sizeLine_eq, valA] at hv
  | .ct xs, k, w, f, hv, hk, hb => by simp [exSs, exS, evE, evEs, evT, evC, evI, sizeLine_eq, valA] at hv
theorem wr_L (h : DT P) : ∀ (xs : List D) (k : Nat) (w : List D) (f : List Chs), valAs xs = true → 1 ≤ k → w.length + f.length + csts xs < 16000000 →
    (wds 4000 (1001 - k) xs = true → Goes P q st d0 (w ++ psh k xs) w f (Wl xs) (csts xs)) ∧ (wds 4000 (1001 - k) xs = false → Fails P q st d0 (w ++ psh k xs) f)
  | [], k, w, f, hv, hk, hb => by
    refine ⟨fun _ one dp kk => ⟨[], one, dp, kk, ?_, by rw [Wl]; rfl, Nat.zero_le _⟩, fun z => by simp [exSs, exS, evE, evEs, evT, evC, evI, sizeLine_eq, wds] at z⟩
    rw [psh, List.append_nil, List.append_nil]
    exact .refl _ _
  | x :: xs, k, w, f, hv, hk, hb => by
    rw [valAs, Bool.and_eq_true] at hv
    rw [csts] at hb
    have pl := pshT_len k xs
    have hx := csts_len xs
    have i1 := wr_D h x k (w ++ pshT k xs) f hv.1 hk (by simp [exSs, exS, evE, evEs, evT, evC, evI, sizeLine_eq, pl]; omega)
    have i2 := fun fs : List Chs => fun hl : fs.length ≤ cst x => wr_T h xs k w (f ++ fs) hv.2 hk (by simp [exSs, exS, evE, evEs, evT, evC, evI, sizeLine_eq]; omega)
    rw [psh, wds, ← List.append_assoc]
    refine ⟨fun hd => ?_, fun hd => ?_⟩
    · rw [Bool.and_eq_true] at hd
      have g := goes_two st d0 q (i1.1 hd.1) fun fs _ hl => (i2 fs hl).1 hd.2
      rw [Wl, csts]
      intro one dp kk
      obtain ⟨fs, a, b, c, r, e, l⟩ := g one dp kk
      exact ⟨fs, a, b, c, r, e, by omega⟩
    · cases hx1 : wd 4000 (1001 - k) x with
      | false => exact i1.2 hx1
      | true =>
        rw [hx1, Bool.true_and] at hd
        exact fails_two st d0 q (i1.1 hx1) fun fs _ hl => (i2 fs hl).2 hd
theorem wr_T (h : DT P) : ∀ (xs : List D) (k : Nat) (w : List D) (f : List Chs), valAs xs = true → 1 ≤ k → w.length + f.length + csts xs < 16000000 →
    (wds 4000 (1001 - k) xs = true → Goes P q st d0 (w ++ pshT k xs) w f (Wt xs) (csts xs)) ∧ (wds 4000 (1001 - k) xs = false → Fails P q st d0 (w ++ pshT k xs) f)
  | [], k, w, f, hv, hk, hb => by
    refine ⟨fun _ one dp kk => ⟨[], one, dp, kk, ?_, by rw [Wt]; rfl, Nat.zero_le _⟩, fun z => by simp [exSs, exS, evE, evEs, evT, evC, evI, sizeLine_eq, wds] at z⟩
    rw [pshT, List.append_nil, List.append_nil]
    exact .refl _ _
  | x :: xs, k, w, f, hv, hk, hb => by
    rw [valAs, Bool.and_eq_true] at hv
    rw [csts] at hb
    have pl := pshT_len k xs
    have hx := csts_len xs
    have e : w ++ (pshT k xs ++ [wt x k, comma]) = ((w ++ pshT k xs) ++ [wt x k]) ++ [wt (.str [44]) 0] := by simp [exSs, exS, evE, evEs, evT, evC, evI, sizeLine_eq, comma]
    have i0 := sign_goes (P := P) st d0 q ((w ++ pshT k xs) ++ [wt x k]) f [44] (by omega)
    have i1 := fun fs : List Chs => fun hl : fs.length ≤ 1 => wr_D h x k (w ++ pshT k xs) (f ++ fs) hv.1 hk (by simp [exSs, exS, evE, evEs, evT, evC, evI, sizeLine_eq, pl]; omega)
    have i2 := fun fs gs : List Chs => fun hl : fs.length ≤ 1 => fun hl2 : gs.length ≤ cst x => wr_T h xs k w ((f ++ fs) ++ gs) hv.2 hk (by simp [exSs, exS, evE, evEs, evT, evC, evI, sizeLine_eq]; omega)
    rw [pshT, wds, e]
    refine ⟨fun hd => ?_, fun hd => ?_⟩
    · rw [Bool.and_eq_true] at hd
      have g := goes_two st d0 q i0 fun fs _ hl => goes_two st d0 q ((i1 fs hl).1 hd.1) fun gs _ hg => (i2 fs gs hl hg).1 hd.2
      have ew : Wt (x :: xs) = [44] ++ (W x ++ Wt xs) := by rw [Wt]; rfl
      rw [ew, csts]
      intro one dp kk
      obtain ⟨fs, a, b, c, r, e, l⟩ := g one dp kk
      exact ⟨fs, a, b, c, r, e, by omega⟩
    · refine fails_two st d0 q i0 fun fs _ hl => ?_
      cases hx1 : wd 4000 (1001 - k) x with
      | false => exact (i1 fs hl).2 hx1
      | true =>
        rw [hx1, Bool.true_and] at hd
        exact fails_two st d0 q ((i1 fs hl).1 hx1) fun gs _ hg => (i2 fs gs hl hg).2 hd
end
end
theorem flat_len : ∀ (ys : List Chs), (ys.map (·.length)).sum = ys.flatten.length
  | [] => rfl
  | y :: ys => by
    rw [List.map_cons, List.sum_cons, flat_len ys, List.flatten_cons, List.length_append]
theorem write_data_is (h : DT P) (q : Nat) (st : Sto) (d : D) (hv : valA d = true) (hc : cst d < 15000000) (hl : wd 4000 1000 d = true → (W d).length ≤ 16000000) :
    callF P (q + 3) 3 [d] st = if wd 4000 1000 d = true then .ok (.str (W d)) st else .exc malf st := by
  rw [callF_at h.f3 rfl]
  have r := wr_D st d q h d 1 [] [] hv (Nat.le_refl _) (by simp [exSs, exS, evE, evEs, evT, evC, evI, sizeLine_eq]; omega)
  have e0 : (1001 - 1) = 1000 := rfl
  rw [e0, List.nil_append] at r
  simp only [MD.f_datatext_write_data, MD.b_datatext_write_data, show startE 6 [d] = [some d, none, none, none, none, none] from rfl]
  have par : exS P.cs (callF P (q + 2)) (.par [1, 2] (.cons (.lst (.cons (.tup (.cons (.var 0) (.cons (.lit (.int 1)) .nil))) .nil)) (.cons (.lst .nil) .nil))) [some d, none, none, none, none, none] st = .nx (wE st d none none none) (wS st [wt d 1] []) := by
    have l1 : (st ++ [SO.lst [D.tup [d, .int 1]]]).length = st.length + 1 := by simp [exSs, exS, evE, evEs, evT, evC, evI, sizeLine_eq]
    simp [exSs, exS, evE, evEs, evT, evC, evI, sizeLine_eq, wE, wS, wt]
  rw [exSs, par, sq_nx, exSs, while_eq]
  cases e : wd 4000 1000 d with
  | true =>
    obtain ⟨fs, one', dp', kk', rn, ef, lf⟩ := r.1 e none none none
    have dn : loopW (wc P q) (wb P q) (wE st d one' dp' kk') (wS st [] ([] ++ fs)) = .nx (wE st d one' dp' kk') (wS st [] ([] ++ fs)) := loopW_done (by
      have l := len_at (w0 st [] ([] ++ fs))
      rw [List.nil_append] at l
      simp [exSs, exS, evE, evEs, evT, evC, evI, sizeLine_eq, wc, MD.l_datatext_write_data_5c, wE, l])
    have lp := loopW_run rn dn (by simp [exSs, exS, evE, evEs, evT, evC, evI, sizeLine_eq])
    rw [if_pos rfl]
    rw [show loopW (evT (callF P (q + 2)) MD.l_datatext_write_data_5c) (exSs P.cs (callF P (q + 2)) MD.l_datatext_write_data_5b) (wE st d none none none) (wS st [wt d 1] []) = _ from lp, sq_nx, exSs, exS]
    have so : seqOf (wS st [] ([] ++ fs)) (.ref (st.length + 1)) = some (fs.map .str) := listOf_at' (w1 st [] ([] ++ fs))
    have hW := hl e
    have jn : prim .join [.str [], .ref (st.length + 1)] (wS st [] ([] ++ fs)) = some (.str (W d), wS st [] ([] ++ fs)) := by
      show joinD (.str []) (.ref (st.length + 1)) _ = _
      simp only [joinD, so, Option.bind_some, chars_map]
      rw [flat_len, ef, decide_eq_true (by simp [exSs, exS, evE, evEs, evT, evC, evI, sizeLine_eq]; omega), guardR_true, joinC_eq, joinL_nil, ef]
    simp only [evE, evEs, wE, getV_s, getV_0, bnd_ok, rcv, if_true, jn, liftP_some, out_ok, sq_ret]
    exact finish_app st _ (by simp only [below])
  | false =>
    obtain ⟨env', l', lp⟩ := r.2 e none none none
    rw [if_neg Bool.false_ne_true]
    rw [show loopW (evT (callF P (q + 2)) MD.l_datatext_write_data_5c) (exSs P.cs (callF P (q + 2)) MD.l_datatext_write_data_5b) (wE st d none none none) (wS st [wt d 1] []) = _ from lp, sq_exc]
    exact finish_appX st l' (by simp [exSs, exS, evE, evEs, evT, evC, evI, sizeLine_eq, malf, belows])
end K53
end
section
set_option linter.all false
set_option autoImplicit false
set_option maxRecDepth 100000
set_option maxHeartbeats 1000000
/-! How deep, how long: what a reader gives. -/
namespace K53
open PySem Mini
mutual
theorem wd_mono {n n' : Nat} (hn : n ≤ n') : ∀ (d : D) (m m' : Nat), m ≤ m' → wd n m d = true → wd n' m' d = true
  | .str s, m, m', h, e => by
    rw [wd] at e ⊢
    exact e
  | .int i, m, m', h, e => by
    rw [wd, decide_eq_true_eq] at e ⊢
    exact Nat.lt_of_lt_of_le e (Nat.pow_le_pow_right (by decide) hn)
  | .tup xs, m, m', h, e => by
    rw [wd, Bool.and_eq_true, decide_eq_true_eq] at e ⊢
    exact ⟨by omega, wds_mono hn xs (m - 1) (m' - 1) (by omega) e.2⟩
  | .non, m, m', h, e => by simp [wd] at e
  | .bl b, m, m', h, e => by simp [wd] at e
  | .lst xs, m, m', h, e => by simp [wd] at e
  | .ro xs, m, m', h, e => by simp [wd] at e
  | .ref i, m, m', h, e => by simp [wd] at e
  | .fn i, m, m', h, e => by simp [wd] at e
  | .dic t ks vs, m, m', h, e => by simp [wd] at e
  | .ct xs, m, m', h, e => by simp [wd] at e
theorem wds_mono {n n' : Nat} (hn : n ≤ n') : ∀ (xs : List D) (m m' : Nat), m ≤ m' → wds n m xs = true → wds n' m' xs = true
  | [], m, m', h, e => by rw [wds]
  | x :: xs, m, m', h, e => by
    rw [wds, Bool.and_eq_true] at e ⊢
    exact ⟨wd_mono hn x m m' h e.1, wds_mono hn xs m m' h e.2⟩
end
theorem wds_app {n m : Nat} (a b : List D) : wds n m (a ++ b) = (wds n m a && wds n m b) := by
  induction a with
  | nil => rw [List.nil_append, wds, Bool.true_and]
  | cons x a ih => rw [List.cons_append, wds, wds, ih, Bool.and_assoc]
/-! ### states -/
def okR (n L : Nat) : List (List D) → Prop
  | [] => True
  | r :: rs => rs.length + 1 ≤ L ∧ wds n (L - (rs.length + 1)) r = true ∧ okR n L rs
def okS (n L : Nat) (s : RS) : Prop := okR n L s.1 ∧ ∀ d, s.2 = some d → wd n (L - s.1.length) d = true
theorem step_ok {n L : Nat} {at' : Chs → Option D} {fu : Nat → Bool} {p : Chs} (ha : ∀ d m, at' p = some d → wd n m d = true) {s s' : RS} (ho : okS n L s) (h : step at' fu s p = some s') (hL : s'.1.length ≤ L) : okS n L s' := by
  obtain ⟨rows, o⟩ := s
  obtain ⟨h1, h2⟩ := ho
  unfold step at h
  dsimp only at h h1 h2
  split at h
  · cases o with
    | some d => cases h
    | none =>
      dsimp only at h
      split at h
      · cases h
      · cases h
        exact ⟨⟨hL, by rw [wds], h1⟩, fun d e => nomatch e⟩
  · split at h
    · cases rows with
      | nil => cases h
      | cons r rows =>
        cases o with
        | none => cases h
        | some d =>
          cases h
          obtain ⟨a, b, c⟩ := h1
          refine ⟨⟨a, ?_, c⟩, fun d e => nomatch e⟩
          rw [wds_app, b, Bool.true_and, wds, wds, Bool.and_true]
          exact h2 d rfl
    · split at h
      · cases rows with
        | nil => cases h
        | cons r rows =>
          obtain ⟨a, b, c⟩ := h1
          have key : ∀ q, wds n (L - (rows.length + 1)) q = true → okS n L (rows, some (.tup q)) := fun q hq => by
            refine ⟨c, fun d e => ?_⟩
            cases e
            rw [wd, decide_eq_true (by dsimp only; omega), Bool.true_and]
            have e2 : L - rows.length - 1 = L - (rows.length + 1) := by omega
            dsimp only
            rw [e2]
            exact hq
          cases o with
          | none =>
            cases r with
            | nil =>
              cases h
              exact key [] (by rw [wds])
            | cons x r => cases h
          | some d =>
            have h : some (rows, some (.tup (r ++ [d]))) = some s' := by
              cases r with
              | nil => exact h
              | cons x r => exact h
            cases h
            refine key _ ?_
            rw [wds_app, b, Bool.true_and, wds, wds, Bool.and_true]
            exact h2 d rfl
      · cases o with
        | some d => cases h
        | none =>
          dsimp only at h
          obtain ⟨d, e, rfl⟩ := Option.map_eq_some_iff.mp h
          exact ⟨h1, fun d' e' => by cases e'; exact ha d _ e⟩
/-! ### heights -/
def dl (c : Nat) : Int := if c = 91 then 1 else if c = 93 then -1 else 0
def hb (L : Int) : Int → Chs → Prop
  | h, [] => h ≤ L
  | h, c :: cs => h ≤ L ∧ hb L (h + dl c) cs
theorem hb_le {L h : Int} : ∀ {cs : Chs}, hb L h cs → h ≤ L
  | [], p => p
  | c :: cs, p => p.1
theorem hb_shift {L : Int} (k : Int) : ∀ {cs : Chs} {h : Int}, hb L h cs → hb (L + k) (h + k) cs
  | [], h, p => by
    unfold hb at p ⊢
    omega
  | c :: cs, h, p => by
    unfold hb at p ⊢
    refine ⟨by omega, ?_⟩
    have := hb_shift k p.2
    have e : h + dl c + k = h + k + dl c := by omega
    rwa [e] at this
theorem hb_mono {L L' : Int} (hl : L ≤ L') : ∀ {cs : Chs} {h : Int}, hb L h cs → hb L' h cs
  | [], h, p => by
    unfold hb at p ⊢
    omega
  | c :: cs, h, p => by
    unfold hb at p ⊢
    exact ⟨by omega, hb_mono hl p.2⟩
theorem dl_le (c : Nat) : -1 ≤ dl c ∧ dl c ≤ 1 := by
  unfold dl
  split
  · omega
  · split <;> omega
def dls (m : Chs) : Int := (m.map dl).sum
/-- one sign at most is put in, taken out, changed -/
theorem hb_bent {L : Int} {mid mid' suf : Chs} (h1 : mid.length ≤ 1) (h2 : mid'.length ≤ 1) : ∀ {pre : Chs} {h : Int}, hb L h (pre ++ (mid ++ suf)) → hb (L + 2) h (pre ++ (mid' ++ suf))
  | [], h, p => by
    rw [List.nil_append] at p ⊢
    have hL := hb_le p
    have key : ∀ a b : Int, b ≤ a + 2 → hb L a suf → hb (L + 2) b suf := fun a b hab q => by
      have := hb_shift (b - a) q
      have e : a + (b - a) = b := by omega
      rw [e] at this
      exact hb_mono (by omega) this
    rcases mid with _ | ⟨c, _ | ⟨c2, r⟩⟩
    · rcases mid' with _ | ⟨x, _ | ⟨x2, r2⟩⟩
      · exact key h h (by omega) p
      · have := dl_le x
        exact ⟨by omega, key h (h + dl x) (by omega) p⟩
      · simp at h2
    · have q := p.2
      have := dl_le c
      rcases mid' with _ | ⟨x, _ | ⟨x2, r2⟩⟩
      · exact key (h + dl c) h (by omega) q
      · have := dl_le x
        exact ⟨by omega, key (h + dl c) (h + dl x) (by omega) q⟩
      · simp at h2
    · simp at h1
  | c :: pre, h, p => by
    rw [List.cons_append] at p ⊢
    exact ⟨by have := p.1; omega, hb_bent h1 h2 p.2⟩
theorem hb_bare {L : Int} : ∀ {a rest : Chs} {h : Int}, (∀ c ∈ a, delim c = false) → hb L h rest → hb L h (a ++ rest)
  | [], rest, h, ha, p => p
  | c :: a, rest, h, ha, p => by
    have hc := ha c List.mem_cons_self
    have e : dl c = 0 := by
      simp [delim] at hc
      simp [dl, hc]
    have ih := hb_bare (fun c hc => ha c (List.mem_cons_of_mem _ hc)) p
    refine ⟨hb_le p, ?_⟩
    rw [e, Int.add_zero]
    exact ih
mutual
theorem hb_W (n : Nat) {L : Int} : ∀ (d : D) (m : Nat) (h : Int) (rest : Chs), wd n m d = true → h + m ≤ L → hb L h rest → hb L h (W d ++ rest)
  | .str s, m, h, rest, e, k, p => by
    rw [wd] at e
    rw [W]
    exact hb_bare (bare_word e).2 p
  | .int i, m, h, rest, e, k, p => by
    rw [W]
    exact hb_bare (bare_int i).2 p
  | .tup xs, m, h, rest, e, k, p => by
    rw [wd, Bool.and_eq_true, decide_eq_true_eq] at e
    have ew : W (.tup xs) ++ rest = 91 :: (Wl xs ++ (93 :: rest)) := by
      rw [W]
      simp
    rw [ew]
    have p' : hb L (h + dl 91) (93 :: rest) := ⟨by show h + 1 ≤ L; omega, by
      have e2 : h + dl 91 + dl 93 = h := by
        show h + 1 + -1 = h
        omega
      rw [e2]
      exact p⟩
    exact ⟨by omega, hb_Wl n xs (m - 1) (h + dl 91) (93 :: rest) e.2 (by show h + 1 + _ ≤ L; omega) p'⟩
  | .non, m, h, rest, e, k, p => by simp [wd] at e
  | .bl b, m, h, rest, e, k, p => by simp [wd] at e
  | .lst xs, m, h, rest, e, k, p => by simp [wd] at e
  | .ro xs, m, h, rest, e, k, p => by simp [wd] at e
  | .ref i, m, h, rest, e, k, p => by simp [wd] at e
  | .fn i, m, h, rest, e, k, p => by simp [wd] at e
  | .dic t ks vs, m, h, rest, e, k, p => by simp [wd] at e
  | .ct xs, m, h, rest, e, k, p => by simp [wd] at e
theorem hb_Wl (n : Nat) {L : Int} : ∀ (xs : List D) (m : Nat) (h : Int) (rest : Chs), wds n m xs = true → h + m ≤ L → hb L h rest → hb L h (Wl xs ++ rest)
  | [], m, h, rest, e, k, p => by
    rw [Wl]
    exact p
  | x :: xs, m, h, rest, e, k, p => by
    rw [wds, Bool.and_eq_true] at e
    rw [Wl, List.append_assoc]
    exact hb_W n x m h _ e.1 k (hb_Wt n xs m h rest e.2 k p)
theorem hb_Wt (n : Nat) {L : Int} : ∀ (xs : List D) (m : Nat) (h : Int) (rest : Chs), wds n m xs = true → h + m ≤ L → hb L h rest → hb L h (Wt xs ++ rest)
  | [], m, h, rest, e, k, p => by
    rw [Wt]
    exact p
  | x :: xs, m, h, rest, e, k, p => by
    rw [wds, Bool.and_eq_true] at e
    have ew : Wt (x :: xs) ++ rest = 44 :: (W x ++ (Wt xs ++ rest)) := by
      rw [Wt]
      simp
    rw [ew]
    refine ⟨by omega, ?_⟩
    have e2 : h + dl 44 = h := by
      show h + 0 = h
      omega
    rw [e2]
    exact hb_W n x m h _ e.1 k (hb_Wt n xs m h rest e.2 k p)
end
/-! ### how long a piece is -/
def rb (K : Nat) : Nat → Chs → Prop
  | r, [] => r ≤ K
  | r, c :: cs => if delim c = true then r ≤ K ∧ rb K 0 cs else rb K (r + 1) cs
theorem rb_le {K : Nat} : ∀ {cs : Chs} {r : Nat}, rb K r cs → r ≤ K
  | [], r, p => p
  | c :: cs, r, p => by
    unfold rb at p
    split at p
    · exact p.1
    · have := rb_le p
      omega
theorem rb_up {K : Nat} (j : Nat) : ∀ {cs : Chs} {a b : Nat}, rb K a cs → b ≤ a + j → rb (K + j) b cs
  | [], a, b, p, h => by
    unfold rb at p ⊢
    omega
  | c :: cs, a, b, p, h => by
    unfold rb at p ⊢
    split at p
    · rename_i hc
      rw [if_pos hc]
      exact ⟨by omega, rb_up j p.2 (by omega)⟩
    · rename_i hc
      rw [if_neg hc]
      exact rb_up j p (by omega)
theorem rb_bent {K : Nat} {mid mid' suf : Chs} (h1 : mid.length ≤ 1) (h2 : mid'.length ≤ 1) : ∀ {pre : Chs} {r : Nat}, rb K r (pre ++ (mid ++ suf)) → rb (K + (K + 1)) r (pre ++ (mid' ++ suf))
  | [], r, p => by
    rw [List.nil_append] at p ⊢
    have hr := rb_le p
    obtain ⟨a, q⟩ : ∃ a, rb K a suf := by
      rcases mid with _ | ⟨c, _ | ⟨c2, l⟩⟩
      · exact ⟨r, p⟩
      · rw [List.cons_append, List.nil_append, rb] at p
        split at p
        · exact ⟨_, p.2⟩
        · exact ⟨_, p⟩
      · simp at h1
    rcases mid' with _ | ⟨x, _ | ⟨x2, l2⟩⟩
    · exact rb_up (K + 1) q (by omega)
    · rw [List.cons_append, List.nil_append, rb]
      split
      · exact ⟨by omega, rb_up (K + 1) q (by omega)⟩
      · exact rb_up (K + 1) q (by omega)
    · simp at h2
  | c :: pre, r, p => by
    rw [List.cons_append, rb] at p ⊢
    split at p
    · rename_i hc
      rw [if_pos hc]
      exact ⟨by omega, rb_bent h1 h2 p.2⟩
    · rename_i hc
      rw [if_neg hc]
      exact rb_bent h1 h2 p
theorem rb_pcs {K : Nat} (hK : 1 ≤ K) : ∀ {cs tok : Chs}, rb K tok.length cs → ∀ p ∈ pcs tok cs, p.length ≤ K
  | [], tok, h, p, hp => by
    unfold pcs at hp
    split at hp
    · cases hp
    · rw [List.mem_singleton.mp hp]
      exact h
  | c :: cs, tok, h, p, hp => by
    unfold pcs at hp
    unfold rb at h
    split at hp
    · rename_i hc
      rw [if_pos hc] at h
      rcases List.mem_append.mp hp with z | z
      · split at z
        · cases z
        · rw [List.mem_singleton.mp z]
          exact h.1
      · rcases List.mem_cons.mp z with rfl | z
        · exact hK
        · exact rb_pcs (tok := []) hK h.2 p z
    · rename_i hc
      rw [if_neg hc] at h
      exact rb_pcs hK (by simpa using h) p hp
theorem rb_bare {K : Nat} : ∀ {a rest : Chs} {r : Nat}, (∀ c ∈ a, delim c = false) → rb K (r + a.length) rest → rb K r (a ++ rest)
  | [], rest, r, ha, p => p
  | c :: a, rest, r, ha, p => by
    rw [List.cons_append, rb, if_neg (by rw [ha c List.mem_cons_self]; exact Bool.false_ne_true)]
    refine rb_bare (fun c hc => ha c (List.mem_cons_of_mem _ hc)) ?_
    rw [List.length_cons] at p
    have e : r + 1 + a.length = r + (a.length + 1) := by omega
    rw [e]
    exact p
theorem rb_stop {K r : Nat} {rest : Chs} (hs : stop rest) (hr : r ≤ K) (p : rb K 0 rest) : rb K r rest := by
  cases rest with
  | nil => exact hr
  | cons c cs =>
    have hs : delim c = true := hs
    unfold rb at p ⊢
    rw [if_pos hs] at p ⊢
    exact ⟨hr, p.2⟩
mutual
theorem rb_W (n K : Nat) (hn : 0 < n) (hK : n + 1 ≤ K) (hK2 : 12 ≤ K) : ∀ (d : D) (m : Nat) (rest : Chs), wd n m d = true → stop rest → rb K 0 rest → rb K 0 (W d ++ rest)
  | .str s, m, rest, e, k, p => by
    rw [wd] at e
    rw [W]
    have hl : s.length ≤ 12 := by
      unfold wordB at e
      simp only [Bool.and_eq_true, decide_eq_true_eq] at e
      exact e.1.1.2
    exact rb_bare (bare_word e).2 (rb_stop k (by omega) p)
  | .int i, m, rest, e, k, p => by
    rw [wd, decide_eq_true_eq] at e
    rw [W]
    have := strI_len hn e
    exact rb_bare (bare_int i).2 (rb_stop k (by omega) p)
  | .tup xs, m, rest, e, k, p => by
    rw [wd, Bool.and_eq_true, decide_eq_true_eq] at e
    have ew : W (.tup xs) ++ rest = 91 :: (Wl xs ++ (93 :: rest)) := by
      rw [W]
      simp
    rw [ew, rb, if_pos (show delim 91 = true from rfl)]
    refine ⟨Nat.zero_le _, rb_Wl n K hn hK hK2 xs (m - 1) (93 :: rest) e.2 rfl ?_⟩
    rw [rb, if_pos (show delim 93 = true from rfl)]
    exact ⟨Nat.zero_le _, p⟩
  | .non, m, rest, e, k, p => by simp [wd] at e
  | .bl b, m, rest, e, k, p => by simp [wd] at e
  | .lst xs, m, rest, e, k, p => by simp [wd] at e
  | .ro xs, m, rest, e, k, p => by simp [wd] at e
  | .ref i, m, rest, e, k, p => by simp [wd] at e
  | .fn i, m, rest, e, k, p => by simp [wd] at e
  | .dic t ks vs, m, rest, e, k, p => by simp [wd] at e
  | .ct xs, m, rest, e, k, p => by simp [wd] at e
theorem rb_Wl (n K : Nat) (hn : 0 < n) (hK : n + 1 ≤ K) (hK2 : 12 ≤ K) : ∀ (xs : List D) (m : Nat) (rest : Chs), wds n m xs = true → stop rest → rb K 0 rest → rb K 0 (Wl xs ++ rest)
  | [], m, rest, e, k, p => by
    rw [Wl]
    exact p
  | x :: xs, m, rest, e, k, p => by
    rw [wds, Bool.and_eq_true] at e
    rw [Wl, List.append_assoc]
    refine rb_W n K hn hK hK2 x m _ e.1 ?_ (rb_Wt n K hn hK hK2 xs m rest e.2 k p)
    cases xs with
    | nil =>
      rw [Wt]
      exact k
    | cons y ys =>
      rw [Wt]
      rfl
theorem rb_Wt (n K : Nat) (hn : 0 < n) (hK : n + 1 ≤ K) (hK2 : 12 ≤ K) : ∀ (xs : List D) (m : Nat) (rest : Chs), wds n m xs = true → stop rest → rb K 0 rest → rb K 0 (Wt xs ++ rest)
  | [], m, rest, e, k, p => by
    rw [Wt]
    exact p
  | x :: xs, m, rest, e, k, p => by
    rw [wds, Bool.and_eq_true] at e
    have ew : Wt (x :: xs) ++ rest = 44 :: (W x ++ (Wt xs ++ rest)) := by
      rw [Wt]
      simp
    rw [ew, rb, if_pos (show delim 44 = true from rfl)]
    refine ⟨Nat.zero_le _, rb_W n K hn hK hK2 x m _ e.1 ?_ (rb_Wt n K hn hK hK2 xs m rest e.2 k p)⟩
    cases xs with
    | nil =>
      rw [Wt]
      exact k
    | cons y ys =>
      rw [Wt]
      rfl
end
/-- rows grow by brackets alone -/
theorem step_len {at' : Chs → Option D} {fu : Nat → Bool} {p : Chs} {s s' : RS} (h : step at' fu s p = some s') : (s'.1.length : Int) = s.1.length + (if p = [91] then 1 else if p = [93] then -1 else 0) := by
  obtain ⟨rows, o⟩ := s
  unfold step at h
  dsimp only at h
  split at h
  · rename_i e
    cases o with
    | some d => cases h
    | none =>
      dsimp only at h
      split at h
      · cases h
      · cases h
        rw [if_pos e]
        simp
  · rename_i n1
    rw [if_neg n1]
    split at h
    · rename_i e
      rw [if_neg (by rw [e]; decide)]
      cases rows with
      | nil => cases h
      | cons r rows =>
        cases o with
        | none => cases h
        | some d =>
          cases h
          simp
    · split at h
      · rename_i e
        rw [if_pos e]
        cases rows with
        | nil => cases h
        | cons r rows =>
          cases o with
          | none =>
            cases r with
            | nil =>
              cases h
              simp
              omega
            | cons x r => cases h
          | some d =>
            have h : some (rows, some (.tup (r ++ [d]))) = some s' := by
              cases r with
              | nil => exact h
              | cons x r => exact h
            cases h
            simp
            omega
      · rename_i e
        rw [if_neg e]
        cases o with
        | some d => cases h
        | none =>
          dsimp only at h
          obtain ⟨d, e, rfl⟩ := Option.map_eq_some_iff.mp h
          simp
theorem dl_piece {c : Nat} : (if ([c] : Chs) = [91] then (1 : Int) else if ([c] : Chs) = [93] then -1 else 0) = dl c := by
  unfold dl
  by_cases a : c = 91
  · subst a
    rfl
  · by_cases b : c = 93
    · subst b
      rfl
    · simp [a, b]
theorem flush_ok {n L : Nat} {at' : Chs → Option D} {fu : Nat → Bool} {tok : Chs} (ha : tok ≠ [] → ∀ d m, at' tok = some d → wd n m d = true) (hb' : tok ≠ [] → bare tok) {s s' : RS} (ho : okS n L s) (hL : s.1.length ≤ L)
    (h : runs at' fu (if tok = [] then [] else [tok]) s = some s') : okS n L s' ∧ s'.1.length = s.1.length := by
  split at h
  · cases h
    exact ⟨ho, rfl⟩
  · rename_i ht
    obtain ⟨n1, n2, n3⟩ := delim_not (hb' ht)
    rw [runs] at h
    obtain ⟨s1, h1, h2⟩ := Option.bind_eq_some_iff.mp h
    cases h2
    have e := step_len h1
    rw [if_neg n1, if_neg n3] at e
    have e2 : s'.1.length = s.1.length := by omega
    exact ⟨step_ok (ha ht) ho h1 (by omega), e2⟩
theorem runs_okH {n L : Nat} {at' : Chs → Option D} {fu : Nat → Bool} : ∀ (cs tok : Chs) (s s' : RS), okS n L s → hb L s.1.length cs → (∀ p ∈ pcs tok cs, ∀ d m, at' p = some d → wd n m d = true) → (∀ c ∈ tok, delim c = false) → runs at' fu (pcs tok cs) s = some s' → okS n L s'
  | [], tok, s, s', ho, hh, ha, ht, h => by
    unfold pcs at h ha
    exact (flush_ok (fun z d m e => ha tok (by rw [if_neg z]; exact List.mem_singleton_self _) d m e) (fun z => ⟨z, ht⟩) ho (by have := hb_le hh; omega) h).1
  | c :: cs, tok, s, s', ho, hh, ha, ht, h => by
    unfold pcs at h ha
    unfold hb at hh
    split at h
    · rename_i hc
      rw [if_pos hc] at ha
      rw [runs_app] at h
      obtain ⟨s1, h1, h2⟩ := Option.bind_eq_some_iff.mp h
      rw [runs] at h2
      obtain ⟨s2, h3, h4⟩ := Option.bind_eq_some_iff.mp h2
      have f1 := flush_ok (n := n) (L := L) (fun z d m e => ha tok (List.mem_append_left _ (by rw [if_neg z]; exact List.mem_singleton_self _)) d m e) (fun z => ⟨z, ht⟩) ho (by omega) h1
      have e := step_len h3
      rw [dl_piece, f1.2] at e
      have hle := hb_le hh.2
      have f2 := step_ok (n := n) (L := L) (fun d m e => ha [c] (List.mem_append_right _ List.mem_cons_self) d m e) f1.1 h3 (by omega)
      refine runs_okH cs [] s2 s' f2 (by rw [e]; exact hh.2) (fun p hp => ha p (List.mem_append_right _ (List.mem_cons_of_mem _ hp))) (fun c hc => nomatch hc) h4
    · rename_i hc
      rw [if_neg hc] at ha
      have hc : delim c = false := by simpa using hc
      have e : dl c = 0 := by
        simp [delim] at hc
        simp [dl, hc]
      rw [e, Int.add_zero] at hh
      refine runs_okH cs (tok ++ [c]) s s' ho hh.2 ha (fun x hx => ?_) h
      rcases List.mem_append.mp hx with z | z
      · exact ht x z
      · rw [List.mem_singleton.mp z]
        exact hc
theorem runs_okF {n L : Nat} {at' : Chs → Option D} {fu : Nat → Bool} (hf : ∀ k, L ≤ k → fu k = true) (ha : ∀ p d m, at' p = some d → wd n m d = true) : ∀ (ps : List Chs) (s s' : RS), okS n L s → s.1.length ≤ L → runs at' fu ps s = some s' → okS n L s'
  | [], s, s', ho, hl, h => by
    cases h
    exact ho
  | p :: ps, s, s', ho, hl, h => by
    rw [runs] at h
    obtain ⟨s1, h1, h2⟩ := Option.bind_eq_some_iff.mp h
    have e := step_len h1
    have hl1 : s1.1.length ≤ L := by
      split at e
      · rename_i e0
        unfold step at h1
        rw [if_pos e0] at h1
        cases q : s.2 with
        | some d =>
          rw [q] at h1
          cases h1
        | none =>
          rw [q] at h1
          dsimp only at h1
          split at h1
          · cases h1
          · rename_i hfu
            by_cases z : L ≤ s.1.length
            · exact absurd (hf _ z) hfu
            · omega
      · split at e <;> omega
    exact runs_okF hf ha ps s1 s' (step_ok (ha p) ho h1 hl1) hl1 h2
theorem fin_ok {n L : Nat} {s : RS} {d : D} (h : okS n L s) (f : fin s = some d) : wd n L d = true := by
  obtain ⟨rows, o⟩ := s
  cases rows with
  | cons r rows => cases f
  | nil =>
    cases o with
    | none => cases f
    | some d' =>
      cases f
      exact h.2 d rfl
theorem atm_wd {m n k : Nat} {p : Chs} {d : D} (h : atm m p = some d) (hp : (bodyT p).length ≤ n) : wd n k d = true := by
  unfold atm at h
  split at h
  · rename_i hw
    cases h
    rw [wd]
    exact hw
  · split at h
    · rename_i hw
      cases h
      rw [wd, decide_eq_true_eq]
      have h2 : (bodyT p).all isDig = true := by
        have := hw.1
        unfold numB at this
        simp only [Bool.and_eq_true] at this
        exact this.1.2
      exact Nat.lt_of_lt_of_le (valT_lt h2) (Nat.pow_le_pow_right (by decide) hp)
    · cases h
theorem atm_len {m : Nat} {p : Chs} {d : D} (h : atm m p = some d) (k : Nat) (hm : 12 ≤ m) : wd m k d = true := by
  refine atm_wd h ?_
  unfold atm at h
  split at h
  · rename_i hw
    have := bodyT_le p
    unfold wordB at hw
    simp only [Bool.and_eq_true, decide_eq_true_eq] at hw
    omega
  · split at h
    · rename_i hw
      exact hw.2
    · cases h
def full (j : Nat) : Bool := decide (1000 ≤ j)
def never (_ : Nat) : Bool := false
theorem ok0 (n L : Nat) : okS n L ([], none) := ⟨trivial, fun d e => nomatch e⟩
/-- what the reader of the program gives is data -/
theorem rd_prog {t : Chs} {d : D} (h : rd (atm 4000) full t = some d) : wd 4000 1000 d = true := by
  unfold rd at h
  obtain ⟨s, h1, h2⟩ := Option.bind_eq_some_iff.mp h
  exact fin_ok (runs_okF (L := 1000) (fun k hk => decide_eq_true hk) (fun p d m e => atm_len e m (by decide)) _ _ _ (ok0 _ _) (Nat.zero_le _) h1) h2
theorem rd_law {t : Chs} {d : D} {L K : Nat} (hh : hb L 0 t) (hr : rb K 0 t) (hK : 1 ≤ K) (h : rd (atm 5000) never t = some d) : wd K L d = true := by
  unfold rd at h
  obtain ⟨s, h1, h2⟩ := Option.bind_eq_some_iff.mp h
  refine fin_ok (runs_okH t [] _ _ (ok0 _ _) hh (fun p hp d m e => ?_) (fun c hc => nomatch hc) h1) h2
  have := rb_pcs (tok := []) hK hr p hp
  exact atm_wd e (Nat.le_trans (bodyT_le p) this)
theorem rd_W_prog {d : D} {n L : Nat} (h : wd n L d = true) (hn : n ≤ 4000) (hL : L ≤ 1000) : rd (atm 4000) full (W d) = some d :=
  rd_of (n := 4000) (m := 1000) (L := 1000) (fun s e => atm_word e) (fun i e => atm_int (by decide) e) (fun k hk => decide_eq_false (by omega)) (wd_mono hn d L 1000 hL h) (Nat.le_refl _)
theorem rd_W_law {d : D} (h : wd 4000 1000 d = true) : rd (atm 5000) never (W d) = some d :=
  rd_of (n := 4000) (m := 1000) (L := 1000) (fun s e => atm_word e) (fun i e => atm_int (by decide) (Nat.lt_of_lt_of_le e (Nat.pow_le_pow_right (by decide) (by decide)))) (fun k hk => rfl) h (Nat.le_refl _)
/-- both tell the same -/
theorem rd_same {t : Chs} {L K : Nat} (hh : hb L 0 t) (hr : rb K 0 t) (hK : 1 ≤ K) (hK2 : K ≤ 4000) (hL : L ≤ 1000) : rd (atm 4000) full t = rd (atm 5000) never t := by
  cases q : rd (atm 5000) never t with
  | some d =>
    have w := rd_law hh hr hK q
    have e := rd_W (fun t d e => atm_W e) q
    rw [← e]
    exact rd_W_prog w hK2 hL
  | none =>
    cases z : rd (atm 4000) full t with
    | none => rfl
    | some d =>
      have e := rd_W (fun t d e => atm_W e) z
      have := rd_W_law (rd_prog z)
      rw [e, q] at this
      cases this
end K53
end
section
set_option linter.all false
set_option autoImplicit false
set_option maxRecDepth 100000
set_option maxHeartbeats 1000000
/-! the law's own words, numbers, texts. -/
namespace K53
open PySem Mini
structure LW (P : Prog) : Prop extends DT P where
  f7 : P.fn 7 = some MD.f_law_draw
  f8 : P.fn 8 = some MD.f_law_take
  f9 : P.fn 9 = some MD.f_law_data
  f10 : P.fn 10 = some MD.f_law_word
  f11 : P.fn 11 = some MD.f_law_written
  f12 : P.fn 12 = some MD.f_law_number
  f13 : P.fn 13 = some MD.f_law_read
  f14 : P.fn 14 = some MD.f_law_told
variable {P : Prog}
theorem lt_one (a b : Nat) : ltC [a] [b] = decide (a < b) := by
  unfold ltC
  rw [Bool.eq_iff_iff, decide_eq_true_eq, decide_eq_true_eq]
  simp [exSs, exS, evE, evEs, evT, evC, evI, sizeLine_eq, L2.atI, L2.ixN, List.cons_lt_cons_iff]
theorem le_one (a b : Nat) (st : Sto) : prim .le [.str [a], .str [b]] st = some (.bl (decide (a ≤ b)), st) := by
  show boolR st (some (!ltC [b] [a])) = _
  rw [lt_one, boolR_some']
  congr 3
  rw [Bool.eq_iff_iff]
  simp [exSs, exS, evE, evEs, evT, evC, evI, sizeLine_eq, L2.atI, L2.ixN]
theorem law_word_is (h : LW P) (k : Nat) (st : Sto) (d : D) (hd : val d = true) (hl : ∀ s, d = .str s → s.length ≤ sizeLine) : callF P (k + 1) 10 [d] st = .ok (.bl (wordD d)) st := by
  rw [callF_at h.f10 rfl]
  by_cases hs : ∃ s, d = .str s
  · obtain ⟨s, rfl⟩ := hs
    have hl := hl s rfl
    have e1 := len_str' (st := st) hl
    simp only [MD.f_law_word, MD.b_law_word, show startE 2 [D.str s] = [some (.str s), none] from rfl]
    have comp : evE (callF P k) MD.l_law_word_0q [some (.str s), none] st = .ok (.lst (s.map fun c => .bl (isLow c || isDig c))) st := comp_str (callF P k) 1 0 [some (.str s), none] st s MD.l_law_word_0e (fun c => .bl (isLow c || isDig c)) rfl hl (fun c hc => by
      unfold isLow isDig
      cases q1 : decide (97 ≤ c) <;> cases q2 : decide (c ≤ 122) <;> cases q3 : decide (48 ≤ c) <;> cases q4 : decide (c ≤ 57) <;> simp [exSs, exS, evE, evEs, evT, evC, evI, sizeLine_eq, L2.atI, L2.ixN, MD.l_law_word_0e, wipeE, le_one, q1, q2, q3, q4])
    rcases s with _ | ⟨c, r⟩
    · have e0 : lenD st (.str []) = some (.int 0) := len_str' (by simp [exSs, exS, evE, evEs, evT, evC, evI, sizeLine_eq, L2.atI, L2.ixN])
      simp [exSs, exS, evE, evEs, evT, evC, evI, sizeLine_eq, L2.atI, L2.ixN, MD.l_law_word_1i, isiD, isK, kindD, e0, wordD, wordB]
    · have a0 := at_str (st := st) (s := c :: r) 0 hl
      by_cases c1 : (c :: r).length ≤ 12
      · have l1 : ((r.length : Nat) : Int) + 1 ≤ 12 := by simp [exSs, exS, evE, evEs, evT, evC, evI, sizeLine_eq, L2.atI, L2.ixN] at c1; omega
        have l0 : (1 : Int) ≤ (r.length : Int) + 1 := by omega
        have t1 : evT (callF P k) MD.l_law_word_1i [some (.str (c :: r)), none] st = .ok (!isLow c) st := by
          unfold isLow
          cases q1 : decide (97 ≤ c) <;> cases q2 : decide (c ≤ 122) <;> simp [exSs, exS, evE, evEs, evT, evC, evI, sizeLine_eq, L2.atI, L2.ixN, MD.l_law_word_1i, isiD, isK, kindD, e1, a0, l1, l0, le_one, q1, q2]
        rw [exSs, exS, t1, out_ok]
        by_cases c2 : isLow c = true
        · rw [c2, Bool.not_true, if_neg Bool.false_ne_true, exSs, sq_nx, exSs, exS, evE, evEs, comp]
          have bm := bools_mapf (fun c => isLow c || isDig c) (c :: r)
          simp only [evEs, bnd_ok, p_all, listOf_lst, Option.bind_some, bm, Option.map_some, boolR_some', liftP_some, out_ok, sq_ret, finish_ret]
          simp [exSs, exS, evE, evEs, evT, evC, evI, sizeLine_eq, L2.atI, L2.ixN, wordD, wordB, c2]
          intro _
          simp [exSs, exS, evE, evEs, evT, evC, evI, sizeLine_eq, L2.atI, L2.ixN] at c1
          omega
        · have c2 : isLow c = false := by simpa [exSs, exS, evE, evEs, evT, evC, evI, sizeLine_eq, L2.atI, L2.ixN] using c2
          simp [exSs, exS, evE, evEs, evT, evC, evI, sizeLine_eq, L2.atI, L2.ixN, c2, wordD, wordB]
      · have l1 : ¬ ((r.length : Nat) : Int) + 1 ≤ 12 := by simp [exSs, exS, evE, evEs, evT, evC, evI, sizeLine_eq, L2.atI, L2.ixN] at c1; omega
        have l0 : (1 : Int) ≤ (r.length : Int) + 1 := by omega
        simp [exSs, exS, evE, evEs, evT, evC, evI, sizeLine_eq, L2.atI, L2.ixN, MD.l_law_word_1i, isiD, isK, kindD, e1, a0, l1, l0, wordD, wordB]
        simp [exSs, exS, evE, evEs, evT, evC, evI, sizeLine_eq, L2.atI, L2.ixN] at c1
        intro z
        omega
  · cases d <;> first | (cases hd; done) | exact absurd ⟨_, rfl⟩ hs | simp [exSs, exS, evE, evEs, evT, evC, evI, sizeLine_eq, L2.atI, L2.ixN, MD.f_law_word, MD.b_law_word, MD.l_law_word_1i, startE, isiD, isK, kindD, wordD]
def optD : Option D → D
  | some d => d
  | none => .non
theorem law_number_is (h : LW P) (k : Nat) (st : Sto) (t : Chs) (hl : t.length ≤ 4300) : callF P (k + 1) 12 [.str t] st = .ok (if numB t = true then .int (valT t) else .non) st := by
  rw [callF_at h.f12 rfl]
  have hz : t.length ≤ sizeLine := by rw [sizeLine_eq]; omega
  have lb := bodyT_le t
  have hzb : (bodyT t).length ≤ sizeLine := by omega
  have e1 := sl_str (st := st) (s := t) none (some 1) hz
  have e2 := sl_str (st := st) (s := t) (some 1) none hz
  rw [cut01] at e1
  rw [cut10] at e2
  have q2 : evE (callF P k) (.ife (.pr .eq (.cons (.pr (.sl false true) (.cons (.var 0) (.cons (.lit (.int 1)) .nil))) (.cons (.lit (.str [45])) .nil))) (.pr (.sl true false) (.cons (.var 0) (.cons (.lit (.int 1)) .nil))) (.var 0)) [some (.str t), none, none] st = .ok (.str (bodyT t)) st := by
    simp only [List.drop_one] at e2
    simp [exSs, exS, evE, evEs, evT, evC, evI, sizeLine_eq, L2.atI, L2.ixN, e1, e2]
    unfold bodyT
    split
    · rw [List.drop_one]
    · rfl
  have sg : evE (callF P k) MD.l_law_number_0q [some (.str t), some (.str (bodyT t)), none] st = .ok (.lst ((bodyT t).map fun c => .bl (!isDig c))) st :=
    comp_str (callF P k) 2 1 [some (.str t), some (.str (bodyT t)), none] st (bodyT t) MD.l_law_number_0e (fun c => .bl (!isDig c)) rfl hzb (fun c hc => by
      simp [exSs, exS, evE, evEs, evT, evC, evI, sizeLine_eq, L2.atI, L2.ixN, MD.l_law_number_0e, wipeE, in_dig])
  have q3 : evT (callF P k) MD.l_law_number_1i [some (.str t), some (.str (bodyT t)), none] st = .ok (!numB t) st := by
    unfold numB
    cases q : bodyT t with
    | nil => simp [exSs, exS, evE, evEs, evT, evC, evI, sizeLine_eq, L2.atI, L2.ixN, MD.l_law_number_1i]
    | cons x l =>
      rw [q] at sg
      have bm := bools_mapf (fun c => !isDig c) (x :: l)
      have a0 := at_str (st := st) (s := x :: l) 0 (by rw [← q]; exact hzb)
      have an : ((x :: l).map fun c => !isDig c).any id = !(x :: l).all isDig := by
        rw [List.any_map]
        exact (List.not_all_eq_any_not (l := x :: l) (p := isDig)).symm
      have t1 : evT (callF P k) (.pr .any (.cons MD.l_law_number_0q .nil)) [some (.str t), some (.str (x :: l)), none] st = .ok (!(x :: l).all isDig) st := by
        rw [evT, evEs, sg]
        simp only [evEs, bnd_ok, p_any, listOf_lst, Option.bind_some, bm, Option.map_some, boolR_some', liftP_some, truR_bl', an]
      have t0 : evT (callF P k) (.pr .eq (.cons (.var 1) (.cons (.lit (.str [])) .nil))) [some (.str t), some (.str (x :: l)), none] st = .ok false st := by simp [exSs, exS, evE, evEs, evT, evC, evI, sizeLine_eq, L2.atI, L2.ixN]
      unfold MD.l_law_number_1i
      rw [evT, t0, bnd_ok, if_neg Bool.false_ne_true, evT, t1]
      cases c3 : (x :: l).all isDig with
      | false => simp [exSs, exS, evE, evEs, evT, evC, evI, sizeLine_eq, L2.atI, L2.ixN]
      | true =>
        simp [exSs, exS, evE, evEs, evT, evC, evI, sizeLine_eq, L2.atI, L2.ixN, a0]
        by_cases hx : x = 48
        · subst hx
          cases hh : t == [48] <;> simp [exSs, exS, evE, evEs, evT, evC, evI, sizeLine_eq, L2.atI, L2.ixN, hh, bne]
        · simp [exSs, exS, evE, evEs, evT, evC, evI, sizeLine_eq, L2.atI, L2.ixN, hx]
  simp only [MD.f_law_number, MD.b_law_number, show startE 3 [D.str t] = [some (.str t), none, none] from rfl]
  rw [exSs, exS, q2, out_ok]
  simp only [setT_nm, nxO_some', List.set_cons_succ, List.set_cons_zero, sq_nx]
  rw [exSs, exS, q3, out_ok]
  cases q : numB t with
  | false => simp [exSs, exS, evE, evEs, evT, evC, evI, sizeLine_eq, L2.atI, L2.ixN]
  | true =>
    have q' := q
    unfold numB at q'
    simp only [Bool.and_eq_true, Bool.not_eq_true'] at q'
    have iv : intD (.str t) = some (.int (valT t)) := by
      simp only [intD]
      rw [if_pos hz, intText_at (by omega) q'.1.1 q'.1.2]
      rfl
    simp [exSs, exS, evE, evEs, evT, evC, evI, sizeLine_eq, L2.atI, L2.ixN, iv]
/-- what the law tells of a token -/
theorem law_atom (h : LW P) (k : Nat) (st : Sto) (env : Mini.Env) (i : Nat) (t : Chs) (hi : getV env i = some (.str t)) (hl : t.length ≤ 4300) :
    evE (callF P (k + 1)) (.ife (.call 10 (.cons (.var i) .nil)) (.var i) (.call 12 (.cons (.var i) .nil))) env st = .ok (optD (atm 5000 t)) st := by
  have w := law_word_is h k st (.str t) rfl (fun s e => by cases e; rw [sizeLine_eq]; omega)
  have n := law_number_is h k st t hl
  have lb := bodyT_le t
  have wd : wordD (.str t) = wordB t := rfl
  rw [wd] at w
  unfold atm
  cases q : wordB t with
  | true =>
    rw [q] at w
    simp [exSs, exS, evE, evEs, evT, evC, evI, sizeLine_eq, L2.atI, L2.ixN, hi, w, optD]
  | false =>
    rw [q] at w
    cases z : numB t with
    | true =>
      rw [z] at n
      have l5 : (bodyT t).length ≤ 5000 := by omega
      simp [exSs, exS, evE, evEs, evT, evC, evI, sizeLine_eq, L2.atI, L2.ixN, hi, w, n, l5, optD]
    | false =>
      rw [z] at n
      simp [exSs, exS, evE, evEs, evT, evC, evI, sizeLine_eq, L2.atI, L2.ixN, hi, w, n, optD]
end K53
end
section
set_option linter.all false
set_option autoImplicit false
set_option maxRecDepth 100000
set_option maxHeartbeats 1000000
/-! data as plain data: ==, repr. -/
namespace K53
open PySem Mini
mutual
def pd : D → PyData
  | .str s => .str ⟨s.toArray⟩
  | .int i => .int i
  | .tup xs => .tuple (pds xs)
  | _ => .none
def pds : List D → List PyData
  | [] => []
  | x :: xs => pd x :: pds xs
end
mutual
theorem pd_is (st : Sto) (n : Nat) : ∀ (d : D) (m k : Nat), wd n m d = true → m < k → toPD st k d = some (pd d)
  | .str s, m, k + 1, e, h => by rw [toPD, pd]
  | .int i, m, k + 1, e, h => by rw [toPD, pd]
  | .tup xs, m, k + 1, e, h => by
    rw [wd, Bool.and_eq_true, decide_eq_true_eq] at e
    rw [toPD, pds_is st n xs (m - 1) k e.2 (by omega), pd]
    rfl
  | .non, m, k, e, h => by simp [wd] at e
  | .bl b, m, k, e, h => by simp [wd] at e
  | .lst xs, m, k, e, h => by simp [wd] at e
  | .ro xs, m, k, e, h => by simp [wd] at e
  | .ref i, m, k, e, h => by simp [wd] at e
  | .fn i, m, k, e, h => by simp [wd] at e
  | .dic t ks vs, m, k, e, h => by simp [wd] at e
  | .ct xs, m, k, e, h => by simp [wd] at e
theorem pds_is (st : Sto) (n : Nat) : ∀ (xs : List D) (m k : Nat), wds n m xs = true → m < k → xs.mapM (toPD st k) = some (pds xs)
  | [], m, k, e, h => by
    rw [pds]
    rfl
  | x :: xs, m, k, e, h => by
    rw [wds, Bool.and_eq_true] at e
    rw [List.mapM_cons, pd_is st n x m k e.1 h, pds_is st n xs m k e.2 h, pds]
    rfl
end
theorem word_sOk {s : Chs} (h : wordB s = true) : sOk s := by
  rw [sOk_iff]
  intro c hc
  have := low_dig h c hc
  simp only [isLow, isDig, Bool.and_eq_true, decide_eq_true_eq] at this
  omega
mutual
theorem pd_shape (n : Nat) : ∀ (d : D) (m : Nat), wd n m d = true → (pd d).canLay0 = true ∧ (pd d).depth ≤ m
  | .str s, m, e => by
    rw [wd] at e
    rw [pd, PyData.canLay0, PyData.depth]
    exact ⟨word_sOk e, Nat.zero_le _⟩
  | .int i, m, e => by
    rw [pd, PyData.canLay0, PyData.depth]
    exact ⟨rfl, Nat.zero_le _⟩
  | .tup xs, m, e => by
    rw [wd, Bool.and_eq_true, decide_eq_true_eq] at e
    have := pds_shape n xs (m - 1) e.2
    rw [pd, PyData.canLay0, PyData.depth]
    exact ⟨this.1, by omega⟩
  | .non, m, e => by simp [wd] at e
  | .bl b, m, e => by simp [wd] at e
  | .lst xs, m, e => by simp [wd] at e
  | .ro xs, m, e => by simp [wd] at e
  | .ref i, m, e => by simp [wd] at e
  | .fn i, m, e => by simp [wd] at e
  | .dic t ks vs, m, e => by simp [wd] at e
  | .ct xs, m, e => by simp [wd] at e
theorem pds_shape (n : Nat) : ∀ (xs : List D) (m : Nat), wds n m xs = true → PyData.canLayAll0 (pds xs) = true ∧ PyData.depthAll (pds xs) ≤ m
  | [], m, e => by
    rw [pds, PyData.canLayAll0, PyData.depthAll]
    exact ⟨rfl, Nat.zero_le _⟩
  | x :: xs, m, e => by
    rw [wds, Bool.and_eq_true] at e
    have h1 := pd_shape n x m e.1
    have h2 := pds_shape n xs m e.2
    rw [pds, PyData.canLayAll0, PyData.depthAll, h1.1, h2.1]
    exact ⟨rfl, Nat.max_le.mpr ⟨h1.2, h2.2⟩⟩
end
/-! ### repr -/
theorem cst_pos (d : D) : 1 ≤ cst d := by
  cases d <;> simp only [cst] <;> omega
theorem cst_str (s : Chs) : cst (.str s) = 1 := by simp only [cst]
theorem cst_int (i : Int) : cst (.int i) = 1 := by simp only [cst]
mutual
theorem shown_le : ∀ (d : D) (m : Nat), wd 100 m d = true → (pd d).showable = true ∧ (pd d).shown.length ≤ 130 * cst d
  | .str s, m, e => by
    rw [wd] at e
    have hl : s.length ≤ 12 := by
      unfold wordB at e
      simp only [Bool.and_eq_true, decide_eq_true_eq] at e
      exact e.1.1.2
    rw [pd, PyData.showable, PyData.shown, cst_str]
    refine ⟨rfl, ?_⟩
    have := PySem.StrLaws.reprText_len ⟨s.toArray⟩ (fun c hc => by
      have := (sOk_iff s).mp (word_sOk e) c (by simpa using hc)
      have : (1114112 : Nat) < 16 ^ 8 := by decide
      omega)
    have hl2 : (⟨s.toArray⟩ : Str).length = s.length := len_str _
    omega
  | .int i, m, e => by
    rw [wd, decide_eq_true_eq] at e
    rw [pd, PyData.showable, PyData.shown, cst_int]
    refine ⟨decide_eq_true ?_, ?_⟩
    · have h : i.natAbs < 2 ^ 1920 := Nat.lt_of_lt_of_le e (by decide +kernel)
      by_cases z : i.natAbs = 0
      · rw [z]
        decide
      · exact (Nat.log2_lt z).mpr h
    · have := strI_len (i := i) (k := 100) (by decide) e
      unfold strI at this
      have e2 : (toString i : Str).length = (toString i : Str).cps.toList.length := by simp [Str.length]
      show (toString i : Str).length ≤ _
      rw [e2]
      omega
  | .tup xs, m, e => by
    rw [wd, Bool.and_eq_true, decide_eq_true_eq] at e
    have ih := shown_all xs (m - 1) e.2
    rw [pd, PyData.showable, PyData.shown, cst]
    refine ⟨ih.1, ?_⟩
    have hp : (PySem.tupleText (PyData.shownAll (pds xs))).length ≤ PySem.piled (PyData.shownAll (pds xs)) + 3 := by
      unfold PySem.tupleText
      rw [strLen_append, strLen_append]
      have e1 : ((("(" : String) : Str)).length = 1 := rfl
      rw [e1]
      by_cases z : PyData.shownAll (pds xs) = []
      · rw [z]
        decide
      · have := PySem.join_length_add _ z
        split
        · have e2 : ((",)" : String) : Str).length = 2 := rfl
          rw [e2]
          omega
        · have e2 : ((")" : String) : Str).length = 1 := rfl
          rw [e2]
          omega
    have := ih.2
    omega
  | .non, m, e => by simp [wd] at e
  | .bl b, m, e => by simp [wd] at e
  | .lst xs, m, e => by simp [wd] at e
  | .ro xs, m, e => by simp [wd] at e
  | .ref i, m, e => by simp [wd] at e
  | .fn i, m, e => by simp [wd] at e
  | .dic t ks vs, m, e => by simp [wd] at e
  | .ct xs, m, e => by simp [wd] at e
theorem shown_all : ∀ (xs : List D) (m : Nat), wds 100 m xs = true → PyData.showableAll (pds xs) = true ∧ PySem.piled (PyData.shownAll (pds xs)) ≤ 130 * csts xs
  | [], m, e => by
    rw [pds, PyData.showableAll, PyData.shownAll, csts]
    exact ⟨rfl, Nat.le_refl _⟩
  | x :: xs, m, e => by
    rw [wds, Bool.and_eq_true] at e
    have h1 := shown_le x m e.1
    have h2 := shown_all xs m e.2
    rw [pds, PyData.showableAll, PyData.shownAll, csts, h1.1, h2.1, PySem.piled_cons]
    exact ⟨rfl, by have := h1.2; have := h2.2; omega⟩
end
mutual
theorem cst_W (n : Nat) : ∀ (d : D) (m : Nat), wd n m d = true → cst d ≤ 3 * (W d).length
  | .str s, m, e => by
    rw [wd] at e
    have := (bare_word e).1
    rw [cst_str, W]
    have := List.length_pos_iff.mpr this
    omega
  | .int i, m, e => by
    have := (bare_int i).1
    rw [cst_int, W]
    have := List.length_pos_iff.mpr this
    omega
  | .tup xs, m, e => by
    rw [wd, Bool.and_eq_true, decide_eq_true_eq] at e
    have := cst_Wl n xs (m - 1) e.2
    rw [cst, W, List.length_cons, List.length_append, List.length_singleton]
    omega
  | .non, m, e => by simp [wd] at e
  | .bl b, m, e => by simp [wd] at e
  | .lst xs, m, e => by simp [wd] at e
  | .ro xs, m, e => by simp [wd] at e
  | .ref i, m, e => by simp [wd] at e
  | .fn i, m, e => by simp [wd] at e
  | .dic t ks vs, m, e => by simp [wd] at e
  | .ct xs, m, e => by simp [wd] at e
theorem cst_Wl (n : Nat) : ∀ (xs : List D) (m : Nat), wds n m xs = true → csts xs ≤ 3 * (Wl xs).length + 2
  | [], m, e => by
    rw [csts]
    omega
  | x :: xs, m, e => by
    rw [wds, Bool.and_eq_true] at e
    have h1 := cst_W n x m e.1
    have h2 := cst_Wt n xs m e.2
    rw [csts, Wl, List.length_append]
    omega
theorem cst_Wt (n : Nat) : ∀ (xs : List D) (m : Nat), wds n m xs = true → csts xs ≤ 3 * (Wt xs).length
  | [], m, e => by
    rw [csts]
    omega
  | x :: xs, m, e => by
    rw [wds, Bool.and_eq_true] at e
    have h1 := cst_W n x m e.1
    have h2 := cst_Wt n xs m e.2
    rw [csts, Wt, List.length_cons, List.length_append]
    omega
end
/-- repr of one datum in a list -/
theorem repr_one (st : Sto) (d : D) (m : Nat) (h : wd 100 m d = true) (hm : m ≤ 60) (hl : (W d).length ≤ 40000) : ∃ s, reprD st (.lst [d]) = some (.str s) := by
  have e1 := pd_is st 100 d m 64 h (by omega)
  have e2 : toPD st 65 (.lst [d]) = some (.list [pd d]) := by
    rw [toPD]
    simp [e1]
  have s := shown_le d m h
  have c := cst_W 100 d m h
  have l : (PyData.list [pd d]).shown.length ≤ sizeLine := by
    rw [PyData.shown, PyData.shownAll, PyData.shownAll, sizeLine_eq]
    have e3 : (PySem.listText [(pd d).shown]).length = 2 + (pd d).shown.length := by
      show ((("[" : Str) ++ ("" : String) ++ (pd d).shown) ++ ("]" : Str)).length = _
      rw [strLen_append, strLen_append, strLen_append]
      have a1 : ((("[" : String) : Str)).length = 1 := rfl
      have a2 : ((("" : String) : Str)).length = 0 := rfl
      have a3 : ((("]" : String) : Str)).length = 1 := rfl
      rw [a1, a2, a3]
      omega
    rw [e3]
    have := s.2
    omega
  have sh : (PyData.list [pd d]).showable = true := by
    rw [PyData.showable, PyData.showableAll, PyData.showableAll, s.1]
    rfl
  unfold reprD
  rw [e2]
  dsimp only
  rw [sh, decide_eq_true l]
  exact ⟨_, rfl⟩
theorem repr_non (st : Sto) : ∃ s, reprD st .non = some (.str s) := by
  unfold reprD
  rw [toPD]
  dsimp only
  have e : (PyData.none.showable && decide (PyData.none.shown.length ≤ sizeLine)) = true := by
    rw [PyData.showable, PyData.shown]
    decide +kernel
  rw [e]
  exact ⟨_, rfl⟩
end K53
end
section
set_option linter.all false
set_option autoImplicit false
set_option maxRecDepth 100000
set_option maxHeartbeats 1000000
/-! datatext: the pieces of a text. -/
namespace K53
open PySem Mini
variable {P : Prog}
theorem in_delim {st : Sto} {c : Nat} : inD st (.str [c]) (.str [91, 93, 44]) = some (delim c) := by
  rw [in_sign]
  congr 1
  rw [Bool.eq_iff_iff]
  simp [exSs, exS, evE, evEs, evT, evC, evI, sizeLine_eq, delim, or_assoc]
/-- text[a:b] -/
def cutT (t : Chs) (a b : Nat) : Chs := (t.drop a).take (b - a)
theorem cutT_snoc {t : Chs} {a j c : Nat} (h : t[j]? = some c) (ha : a ≤ j) : cutT t a (j + 1) = cutT t a j ++ [c] := by
  unfold cutT
  have hj := (List.getElem?_eq_some_iff.mp h).1
  have e : j + 1 - a = (j - a) + 1 := by omega
  rw [e, List.take_succ]
  congr 1
  rw [List.getElem?_drop]
  have e2 : a + (j - a) = j := by omega
  rw [e2, h]
  rfl
theorem cutT_self (t : Chs) (a : Nat) : cutT t a a = [] := by
  unfold cutT
  simp [exSs, exS, evE, evEs, evT, evC, evI, sizeLine_eq]
theorem cutT_nil {t : Chs} {a j : Nat} (ha : a ≤ j) (hj : j ≤ t.length) : (cutT t a j = []) ↔ a = j := by
  unfold cutT
  constructor
  · intro h
    have := congrArg List.length h
    simp [exSs, exS, evE, evEs, evT, evC, evI, sizeLine_eq] at this
    omega
  · rintro rfl
    simp [exSs, exS, evE, evEs, evT, evC, evI, sizeLine_eq]
/-- one more sign: the pieces so far, where the next begins -/
def pstep (t : Chs) (j c : Nat) (fs : List Chs) (a : Nat) : List Chs × Nat := if delim c = true then ((if a < j then fs ++ [cutT t a j] else fs) ++ [[c]], j + 1) else (fs, a)
theorem pieces_body (cs : Clss) (cl : Call) (st : Sto) (t : Chs) (fs : List Chs) (a j c : Nat) (hj : t[j]? = some c) (ha : a ≤ j) (hl : t.length ≤ 1000000) (hf : fs.length ≤ 2 * j) :
    exSs cs cl MD.l_datatext_pieces_of_2b [some (.str t), some (.ref st.length), some (.int a), some (.int j), some (.str [c])] (st ++ [.lst (fs.map .str)]) =
      .nx [some (.str t), some (.ref st.length), some (.int ((pstep t j c fs a).2 : Nat)), some (.int j), some (.str [c])] (st ++ [.lst ((pstep t j c fs a).1.map .str)]) := by
  have jl := (List.getElem?_eq_some_iff.mp hj).1
  have hz : t.length ≤ sizeLine := by rw [sizeLine_eq]; omega
  have t0 : ∀ (s : Sto), evT cl MD.l_datatext_pieces_of_0i [some (.str t), some (.ref st.length), some (.int a), some (.int j), some (.str [c])] s = .ok (delim c) s := fun s => by
    simp [exSs, exS, evE, evEs, evT, evC, evI, sizeLine_eq, MD.l_datatext_pieces_of_0i, in_delim]
  unfold pstep
  cases hd : delim c with
  | false =>
    simp [exSs, exS, evE, evEs, evT, evC, evI, sizeLine_eq, MD.l_datatext_pieces_of_2b, t0, hd]
  | true =>
    have ap : ∀ (gs : List Chs) (y : Chs), gs.length < 16777216 → prim .append [.ref st.length, .str y] (st ++ [.lst (gs.map .str)]) = some (.non, st ++ [.lst ((gs ++ [y]).map .str)]) := fun gs y hg => by
      rw [append_at (.str y) (get_app0 st _) (by rw [sizeLine_eq]; simpa [exSs, exS, evE, evEs, evT, evC, evI, sizeLine_eq] using hg), set_app0]
      simp [exSs, exS, evE, evEs, evT, evC, evI, sizeLine_eq]
    have rc : ∀ (gs : List Chs), rcv .append (.ref st.length) (st ++ [.lst (gs.map .str)]) = true := fun gs => rcv_append (get_app0 st _)
    by_cases c1 : a < j
    · have t1 : ∀ (s : Sto), evT cl MD.l_datatext_pieces_of_1i [some (.str t), some (.ref st.length), some (.int a), some (.int j), some (.str [c])] s = .ok true s := fun s => by
        simp [exSs, exS, evE, evEs, evT, evC, evI, sizeLine_eq, MD.l_datatext_pieces_of_1i, c1]
      have sl : ∀ s, slD s (.str t) (some (a : Int)) (some (j : Int)) = some (.str (cutT t a j)) := fun s => by
        rw [sl_str _ _ hz, cut11 t a j ha (by omega)]
        rfl
      have ap1 := ap fs (cutT t a j) (by omega)
      have ap2 := ap (fs ++ [cutT t a j]) [c] (by simp [exSs, exS, evE, evEs, evT, evC, evI, sizeLine_eq]; omega)
      simp only [MD.l_datatext_pieces_of_2b, exSs, exS, evE, evEs, getV_0, getV_s, bnd_ok, t0, hd, t1, out_ok, if_true, rc, p_sl11, sl, oneR_some', liftP_some, ap1, ap2, sq_nx, p_add_ii, setT_nm, nxO_some', List.set_cons_succ, List.set_cons_zero, if_pos c1]
      rfl
    · have t1 : ∀ (s : Sto), evT cl MD.l_datatext_pieces_of_1i [some (.str t), some (.ref st.length), some (.int a), some (.int j), some (.str [c])] s = .ok false s := fun s => by
        simp [exSs, exS, evE, evEs, evT, evC, evI, sizeLine_eq, MD.l_datatext_pieces_of_1i]
        omega
      have ap2 := ap fs [c] (by omega)
      simp only [MD.l_datatext_pieces_of_2b, exSs, exS, evE, evEs, getV_0, getV_s, bnd_ok, t0, hd, t1, out_ok, if_true, Bool.false_eq_true, if_false, rc, oneR_some', liftP_some, ap2, sq_nx, p_add_ii, setT_nm, nxO_some', List.set_cons_succ, List.set_cons_zero, if_neg c1]
      rfl
theorem pstep_ok {t : Chs} {j c a : Nat} {fs : List Chs} (hj : t[j]? = some c) (ha : a ≤ j) (h : pcs [] t = fs ++ pcs (cutT t a j) (t.drop j)) :
    (pstep t j c fs a).2 ≤ j + 1 ∧ (pstep t j c fs a).1.length ≤ fs.length + 2 ∧ pcs [] t = (pstep t j c fs a).1 ++ pcs (cutT t (pstep t j c fs a).2 (j + 1)) (t.drop (j + 1)) := by
  have jl := (List.getElem?_eq_some_iff.mp hj).1
  have ed : t.drop j = c :: t.drop (j + 1) := by
    rw [List.drop_eq_getElem_cons jl]
    congr 1
    exact (List.getElem?_eq_some_iff.mp hj).2
  rw [ed, pcs] at h
  unfold pstep
  split
  · rename_i hd
    rw [if_pos hd] at h
    dsimp only
    refine ⟨Nat.le_refl _, by split <;> simp [exSs, exS, evE, evEs, evT, evC, evI, sizeLine_eq], ?_⟩
    rw [cutT_self, h]
    by_cases c1 : a < j
    · rw [if_pos c1, if_neg (by rw [cutT_nil ha (by omega)]; omega)]
      simp [exSs, exS, evE, evEs, evT, evC, evI, sizeLine_eq]
    · have e : a = j := by omega
      rw [if_neg c1, if_pos (by rw [cutT_nil ha (by omega)]; exact e)]
      simp [exSs, exS, evE, evEs, evT, evC, evI, sizeLine_eq]
  · rename_i hd
    rw [if_neg hd] at h
    refine ⟨by dsimp only; omega, by simp [exSs, exS, evE, evEs, evT, evC, evI, sizeLine_eq], ?_⟩
    dsimp only
    rw [h, cutT_snoc hj ha]
theorem enum_at {t : Chs} {j : Nat} {d : D} (h : (enumL (t.map fun c => .str [c]))[j]? = some d) : ∃ c, t[j]? = some c ∧ d = .tup [.int j, .str [c]] := by
  unfold enumL at h
  rw [List.getElem?_map, List.getElem?_zipIdx, List.getElem?_map] at h
  cases q : t[j]? with
  | none =>
    rw [q] at h
    cases h
  | some c =>
    rw [q] at h
    refine ⟨c, rfl, ?_⟩
    simpa [exSs, exS, evE, evEs, evT, evC, evI, sizeLine_eq] using h.symm
theorem enum_len (t : Chs) : (enumL (t.map fun c => .str [c])).length = t.length := by simp [exSs, exS, evE, evEs, evT, evC, evI, sizeLine_eq, enumL]
theorem pieces_is (h : DT P) (k : Nat) (st : Sto) (t : Chs) (hl : t.length ≤ 1000000) : callF P (k + 1) 5 [.str t] st = .ok (.lst ((pcs [] t).map .str)) st := by
  rw [callF_at h.f5 rfl]
  have hz : t.length ≤ sizeLine := by rw [sizeLine_eq]; omega
  obtain ⟨env', st', l1, fs, a, x, y, ha, hf, hp, rfl, rfl⟩ := forL_go (t := .tp (.cons (.nm 3) (.cons (.nm 4) .nil))) (b := exSs P.cs (callF P k) MD.l_datatext_pieces_of_2b)
    (fun j env st' => ∃ (fs : List Chs) (a : Nat) (x y : Option D), a ≤ j ∧ fs.length ≤ 2 * j ∧ pcs [] t = fs ++ pcs (cutT t a j) (t.drop j) ∧ st' = st ++ [.lst (fs.map .str)] ∧ env = [some (.str t), some (.ref st.length), some (.int a), x, y])
    (enumL (t.map fun c => .str [c])) 0 [some (.str t), some (.ref st.length), some (.int 0), none, none] (st ++ [.lst []])
    ⟨[], 0, none, none, Nat.le_refl _, Nat.le_refl _, by simp [exSs, exS, evE, evEs, evT, evC, evI, sizeLine_eq, cutT], rfl, rfl⟩
    (fun j d env st' hj hI => by
      obtain ⟨fs, a, x, y, ha, hf, hp, rfl, rfl⟩ := hI
      rw [Nat.zero_add] at ha hf hp ⊢
      obtain ⟨c, hc, rfl⟩ := enum_at hj
      have ok := pstep_ok hc ha hp
      refine ⟨[some (.str t), some (.ref st.length), some (.int a), some (.int j), some (.str [c])], by simp [exSs, exS, evE, evEs, evT, evC, evI, sizeLine_eq], _, _, pieces_body P.cs (callF P k) st t fs a j c hc ha hl hf, ?_⟩
      exact ⟨_, _, _, _, ok.1, by omega, ok.2.2, rfl, rfl⟩)
  rw [Nat.zero_add, enum_len] at ha hf hp
  have lt : lenD (st ++ [.lst (fs.map .str)]) (.str t) = some (.int t.length) := len_str' hz
  have lo : listOf (st ++ [.lst (fs.map .str)]) (.ref st.length) = some (fs.map .str) := listOf_at' (get_app0 st _)
  have hr : fs ++ (if a < t.length then [cutT t a t.length] else []) = pcs [] t := by
    rw [hp, List.drop_length, pcs]
    congr 1
    by_cases c1 : a < t.length
    · rw [if_pos c1, if_neg (by rw [cutT_nil ha (Nat.le_refl _)]; omega)]
    · rw [if_neg c1, if_pos (by rw [cutT_nil ha (Nat.le_refl _)]; omega)]
  have ev : evI (callF P k) (.enum (.var 0)) [some (.str t), some (.ref st.length), some (.int 0), none, none] (st ++ [.lst []]) = .ok (enumL (t.map fun c => .str [c]), []) (st ++ [.lst []]) := by
    simp [exSs, exS, evE, evEs, evT, evC, evI, sizeLine_eq, enumOf, srcOf]
  have add : ∀ ys : List Chs, ys.length ≤ 1 → prim .add [.ref st.length, .lst (ys.map .str)] (st ++ [.lst (fs.map .str)]) = some (.lst ((fs ++ ys).map .str), st ++ [.lst (fs.map .str)]) := fun ys hy => by
    show addD _ (.ref st.length) (.lst _) = _
    simp only [addD, lo, listOf_lst]
    rw [List.length_map, List.length_map, decide_eq_true (by rw [sizeLine_eq]; omega), guardR_true, List.map_append]
  have fin : ∀ ys : List Chs, Mini.finish st (.ret (.lst (ys.map .str)) (st ++ [.lst (fs.map .str)])) = .ok (.lst (ys.map .str)) st := fun ys => finish_app st _ (by simp only [below]; exact belows_str _ _)
  simp only [MD.f_datatext_pieces_of, MD.b_datatext_pieces_of, show startE 5 [D.str t] = [some (.str t), none, none, none, none] from rfl]
  rw [exSs, exS]
  simp only [evEs, evE, bnd_ok, List.length_nil, Nat.zero_le, if_true, out_ok, setN_cons, setN_nil, List.set_cons_succ, List.set_cons_zero, nxO_some', sq_nx]
  rw [exSs, exS, ev, out_ok, l1, sq_nx, exSs, exS]
  by_cases c1 : a < t.length
  · have c1' : (a : Int) < (t.length : Int) := by omega
    rw [if_pos c1] at hr
    have sl : ∀ s, slD s (.str t) (some (a : Int)) none = some (.str (cutT t a t.length)) := fun s => by
      rw [sl_str _ _ hz, cut1 t a (by omega)]
      unfold cutT
      rw [List.take_of_length_le (by simp [exSs, exS, evE, evEs, evT, evC, evI, sizeLine_eq])]
    have ad := add [cutT t a t.length] (by simp [exSs, exS, evE, evEs, evT, evC, evI, sizeLine_eq])
    rw [hr] at ad
    simp [exSs, exS, evE, evEs, evT, evC, evI, sizeLine_eq, lt, c1', sl]
    simp only [List.map_cons, List.map_nil] at ad
    rw [ad]
    simp [exSs, exS, evE, evEs, evT, evC, evI, sizeLine_eq, fin]
  · have c1' : ¬ (a : Int) < (t.length : Int) := by omega
    rw [if_neg c1, List.append_nil] at hr
    have ad := add [] (by simp [exSs, exS, evE, evEs, evT, evC, evI, sizeLine_eq])
    rw [List.append_nil] at ad
    rw [← hr]
    simp [exSs, exS, evE, evEs, evT, evC, evI, sizeLine_eq, lt, c1']
    simp only [List.map_nil] at ad
    rw [ad]
    simp [exSs, exS, evE, evEs, evT, evC, evI, sizeLine_eq, fin]
end K53
end
section
set_option linter.all false
set_option autoImplicit false
set_option maxRecDepth 100000
set_option maxHeartbeats 1000000
/-! datatext: the reader of pieces. -/
namespace K53
open PySem Mini
variable {P : Prog}
def told : RS → List D
  | ([], some d) => [d]
  | _ => []
/-- the rows as the reader keeps them -/
def prow : RS → List (List D)
  | (r :: rs, some d) => (r ++ [d]) :: rs
  | (rows, _) => rows
inductive Rows (b : Nat) (l : Sto) : List Nat → List (List D) → Prop where
  | nil : Rows b l [] []
  | cons {i : Nat} {is : List Nat} {r : List D} {rs : List (List D)} : b ≤ i → l[i]? = some (.lst r) → Rows b l is rs → Rows b l (i :: is) (r :: rs)
theorem Rows.len {b : Nat} {l : Sto} {is : List Nat} {rs : List (List D)} (h : Rows b l is rs) : is.length = rs.length := by
  induction h with
  | nil => rfl
  | cons _ _ _ ih => rw [List.length_cons, List.length_cons, ih]
theorem Rows.set {b : Nat} {l : Sto} {is : List Nat} {rs : List (List D)} (h : Rows b l is rs) {j : Nat} (o : SO) (hj : j ∉ is) : Rows b (l.set j o) is rs := by
  induction h with
  | nil => exact .nil
  | cons h1 h2 _ ih => exact .cons h1 (set_get h2 fun z => hj (by rw [z]; exact List.mem_cons_self)) (ih fun z => hj (List.mem_cons_of_mem _ z))
theorem Rows.app {b : Nat} {l : Sto} {is : List Nat} {rs : List (List D)} (h : Rows b l is rs) (x : Sto) : Rows b (l ++ x) is rs := by
  induction h with
  | nil => exact .nil
  | cons h1 h2 _ ih => exact .cons h1 (by rw [List.getElem?_append_left (List.getElem?_eq_some_iff.mp h2).1]; exact h2) ih
theorem Rows.lt {b : Nat} {l : Sto} {is : List Nat} {rs : List (List D)} (h : Rows b l is rs) : ∀ i ∈ is, b ≤ i ∧ i < l.length := by
  induction h with
  | nil => intro i hi; cases hi
  | cons h1 h2 _ ih =>
    intro i hi
    rcases List.mem_cons.mp hi with rfl | z
    · exact ⟨h1, (List.getElem?_eq_some_iff.mp h2).1⟩
    · exact ih i z
/-- the reader in the store, behind what stood ahead -/
structure RD (n m : Nat) (l : Sto) (s : RS) (is : List Nat) : Prop where
  ins : l[0]? = some (.ins 0 [.ref (n + 1), .bl s.2.isNone, .ref (n + 2)])
  tups : l[1]? = some (.lst (is.reverse.map fun i => .ref (n + i)))
  told : l[2]? = some (.lst (told s))
  nd : is.Nodup
  rows : Rows 3 l is (prow s)
  rl : ∀ r ∈ prow s, r.length ≤ m
  il : is.length ≤ m
theorem RD.lens {n m : Nat} {l : Sto} {s : RS} {is : List Nat} (R : RD n m l s is) : is.length = s.1.length := by
  rw [R.rows.len]
  obtain ⟨rows, o⟩ := s
  cases rows with
  | nil => cases o <;> rfl
  | cons r rs => cases o <;> rfl
section
variable {st l : Sto} {s : RS} {m : Nat} {is : List Nat}
theorem RD.l3 {n : Nat} (R : RD n m l s is) : 3 ≤ l.length := (List.getElem?_eq_some_iff.mp R.told).1
theorem item_is (h : DT P) (k : Nat) (v : D) (rows : List (List D)) (R : RD st.length m l (rows, none) is) (hm : m < 10000000) :
    ∃ l', callF P (k + 1) 17 [.ref st.length, v] (st ++ l) = .ok .non (st ++ l') ∧ l'.length = l.length ∧ RD st.length (m + 1) l' (rows, some v) is := by
  have g0 : (st ++ l)[st.length]? = some (.ins 0 [.ref (st.length + 1), .bl true, .ref (st.length + 2)]) := by rw [get_app0, R.ins]; rfl
  have g1 : (st ++ l)[st.length + 1]? = some (.lst (is.reverse.map fun i => .ref (st.length + i))) := by rw [get_app, R.tups]
  have g2 : (st ++ l)[st.length + 2]? = some (.lst []) := by
    rw [get_app, R.told]
    cases rows <;> rfl
  have f0 := ev_fld_at (j := 0) g0 rfl
  have f1 := ev_fld_at (j := 1) g0 rfl
  have f2 := ev_fld_at (j := 2) g0 rfl
  rw [callF_at h.f17 rfl]
  have t1 : evT (callF P k) MD.l_datatext_DataReader_item_1i [some (.ref st.length), some v] (st ++ l) = .ok false (st ++ l) := by
    simp [exSs, exS, evE, evEs, evT, evC, evI, sizeLine_eq, MD.l_datatext_DataReader_item_1i, f1]
  have t0 : evT (callF P k) MD.l_datatext_DataReader_item_0i [some (.ref st.length), some v] (st ++ l) = .ok (decide (0 < is.length)) (st ++ l) := by
    simp [exSs, exS, evE, evEs, evT, evC, evI, sizeLine_eq, MD.l_datatext_DataReader_item_0i, f0, len_at g1]
  cases rows with
  | nil =>
    have e0 : is = [] := List.eq_nil_of_length_eq_zero R.lens
    subst e0
    have ap := append_at v g2 (by simp [exSs, exS, evE, evEs, evT, evC, evI, sizeLine_eq])
    refine ⟨(l.set 2 (.lst [v])).set 0 (.ins 0 [.ref (st.length + 1), .bl false, .ref (st.length + 2)]), ?_, by simp [exSs, exS, evE, evEs, evT, evC, evI, sizeLine_eq], ⟨?_, ?_, ?_, R.nd, .nil, (fun r hr => nomatch hr), by simp [exSs, exS, evE, evEs, evT, evC, evI, sizeLine_eq]⟩⟩
    · have g3 : ((st ++ l).set (st.length + 2) (.lst ([] ++ [v])))[st.length]? = some (.ins 0 [.ref (st.length + 1), .bl true, .ref (st.length + 2)]) := set_get g0 (by omega)
      have sf := setFld_at (j := 1) (.bl false) g3 (by simp [exSs, exS, evE, evEs, evT, evC, evI, sizeLine_eq])
      simp only [MD.f_datatext_DataReader_item, MD.b_datatext_DataReader_item, show startE 2 [.ref st.length, v] = [some (.ref st.length), some v] from rfl]
      rw [exSs, exS, t1, out_ok, if_neg Bool.false_ne_true, exSs, sq_nx, exSs, exS, t0, out_ok]
      simp only [List.length_nil, Nat.lt_irrefl, decide_false, Bool.false_eq_true, if_false, exSs, exS, evE, evEs, getV_0, getV_s, bnd_ok, f2, rcv_append g2, if_true, ap, liftP_some, out_ok, sq_nx, sf, stO]
      rw [finish_sameN (by simp [exSs, exS, evE, evEs, evT, evC, evI, sizeLine_eq]), set_app, set_app0]
      rfl
    · exact set_get_self (set_get R.ins (by omega))
    · exact set_get (set_get R.tups (by omega)) (by omega)
    · exact set_get (set_get_self R.told) (by omega)
  | cons r rs =>
    cases is with
    | nil => cases R.rows
    | cons i is =>
      have rw_ := R.rows
      cases rw_ with
      | cons i3 hi hr =>
        have nd := R.nd
        rw [List.nodup_cons] at nd
        have g4 : (st ++ l)[st.length + i]? = some (.lst r) := by rw [get_app, hi]
        have hrl := R.rl r List.mem_cons_self
        have ap := append_at v g4 (by rw [sizeLine_eq]; omega)
        have la : atD (st ++ l) (.ref (st.length + 1)) (-1) = some (.ref (st.length + i)) := by
          rw [at_ref, listOf_at' g1, Option.bind_some, List.reverse_cons, List.map_append]
          exact atI_last _ _
        refine ⟨(l.set i (.lst (r ++ [v]))).set 0 (.ins 0 [.ref (st.length + 1), .bl false, .ref (st.length + 2)]), ?_, by simp [exSs, exS, evE, evEs, evT, evC, evI, sizeLine_eq], ⟨?_, ?_, ?_, R.nd, ?_, ?_, by have := R.il; omega⟩⟩
        · have g3 : ((st ++ l).set (st.length + i) (.lst (r ++ [v])))[st.length]? = some (.ins 0 [.ref (st.length + 1), .bl true, .ref (st.length + 2)]) := set_get g0 (by omega)
          have sf := setFld_at (j := 1) (.bl false) g3 (by simp [exSs, exS, evE, evEs, evT, evC, evI, sizeLine_eq])
          simp only [MD.f_datatext_DataReader_item, MD.b_datatext_DataReader_item, show startE 2 [.ref st.length, v] = [some (.ref st.length), some v] from rfl]
          rw [exSs, exS, t1, out_ok, if_neg Bool.false_ne_true, exSs, sq_nx, exSs, exS, t0, out_ok]
          simp only [List.length_cons, Nat.zero_lt_succ, decide_true, if_true, exSs, exS, evE, evEs, getV_0, getV_s, bnd_ok, f0, p_neg, liftP_some, p_ix, la, oneR_some', rcv_append g4, ap, out_ok, sq_nx, sf, stO]
          rw [finish_sameN (by simp [exSs, exS, evE, evEs, evT, evC, evI, sizeLine_eq]), set_app, set_app0]
          rfl
        · exact set_get_self (set_get R.ins (by omega))
        · exact set_get (set_get R.tups (by omega)) (by omega)
        · exact set_get (set_get R.told (by omega)) (by omega)
        · refine .cons i3 (set_get (set_get_self hi) (by omega)) ?_
          refine (hr.set _ nd.1).set _ fun z => ?_
          have := (hr.lt 0 z).1
          omega
        · intro r' hr'
          rcases List.mem_cons.mp hr' with rfl | z
          · rw [List.length_append, List.length_singleton]
            omega
          · have := R.rl r' (List.mem_cons_of_mem _ z)
            omega
theorem item_no (h : DT P) (k : Nat) (v d : D) (rows : List (List D)) (R : RD st.length m l (rows, some d) is) : callF P (k + 1) 17 [.ref st.length, v] (st ++ l) = .exc malf (st ++ l) := by
  have g0 : (st ++ l)[st.length]? = some (.ins 0 [.ref (st.length + 1), .bl false, .ref (st.length + 2)]) := by rw [get_app0, R.ins]; rfl
  have f1 := ev_fld_at (j := 1) g0 rfl
  rw [callF_at h.f17 rfl]
  simp [exSs, exS, evE, evEs, evT, evC, evI, sizeLine_eq, MD.f_datatext_DataReader_item, MD.b_datatext_DataReader_item, startE, MD.l_datatext_DataReader_item_1i, f1, h.cs, MD.cs, numOk, zipF, malf]
end
end K53
end
section
set_option linter.all false
set_option autoImplicit false
set_option maxRecDepth 100000
set_option maxHeartbeats 1000000
/-! datatext: brackets and commas; a piece taken. -/
namespace K53
open PySem Mini
variable {P : Prog}
theorem prow_none (rows : List (List D)) : prow (rows, none) = rows := by cases rows <;> rfl
theorem belows_app (n : Nat) (a b : List D) : belows n (a ++ b) = (belows n a && belows n b) := by
  induction a with
  | nil => rw [List.nil_append, belows, Bool.true_and]
  | cons x a ih => rw [List.cons_append, belows, belows, ih, Bool.and_assoc]
section
variable {st l : Sto} {s : RS} {m : Nat} {is : List Nat}
theorem RD.g0 (R : RD st.length m l s is) : (st ++ l)[st.length]? = some (.ins 0 [.ref (st.length + 1), .bl s.2.isNone, .ref (st.length + 2)]) := by rw [get_app0, R.ins]
theorem RD.g1 (R : RD st.length m l s is) : (st ++ l)[st.length + 1]? = some (SO.lst (is.reverse.map fun i => D.ref (st.length + i))) := by rw [get_app, R.tups]
theorem RD.f0 (R : RD st.length m l s is) : fldR 0 0 (.ref st.length) (st ++ l) = .ok (.ref (st.length + 1)) (st ++ l) := ev_fld_at (j := 0) R.g0 rfl
theorem RD.f1 (R : RD st.length m l s is) : fldR 0 1 (.ref st.length) (st ++ l) = .ok (.bl s.2.isNone) (st ++ l) := ev_fld_at (j := 1) R.g0 rfl
theorem RD.f2 (R : RD st.length m l s is) : fldR 0 2 (.ref st.length) (st ++ l) = .ok (.ref (st.length + 2)) (st ++ l) := ev_fld_at (j := 2) R.g0 rfl
theorem open_is (h : DT P) (k : Nat) (rows : List (List D)) (R : RD st.length m l (rows, none) is) (hm : m < 10000000) (hr : rows.length < 1000) :
    ∃ l', callF P (k + 1) 18 [.ref st.length] (st ++ l) = .ok .non (st ++ l') ∧ ¬ canCut (st ++ l) (st ++ l') ∧ RD st.length (m + 1) l' ([] :: rows, none) (l.length :: is) := by
  have el : is.length = rows.length := R.lens
  have l3 := R.l3
  rw [callF_at h.f18 rfl]
  have t0 : evT (callF P k) MD.l_datatext_DataReader_open_one_0i [some (.ref st.length)] (st ++ l) = .ok false (st ++ l) := by
    have c : ¬ (1000 : Int) ≤ (is.length : Int) := by omega
    simp [exSs, exS, evE, evEs, evT, evC, evI, sizeLine_eq, MD.l_datatext_DataReader_open_one_0i, R.f1, R.f0, len_at R.g1, c]
  have g1' : ((st ++ l) ++ [SO.lst []])[st.length + 1]? = some (SO.lst (is.reverse.map fun i => D.ref (st.length + i))) := by
    rw [List.getElem?_append_left (by simp [exSs, exS, evE, evEs, evT, evC, evI, sizeLine_eq]; omega), R.g1]
  have ap := append_at (.ref (st ++ l).length) g1' (by rw [sizeLine_eq]; simp [exSs, exS, evE, evEs, evT, evC, evI, sizeLine_eq]; omega)
  have e : ((st ++ l) ++ [SO.lst []]).set (st.length + 1) (SO.lst ((is.reverse.map fun i => D.ref (st.length + i)) ++ [D.ref (st ++ l).length])) = st ++ (l ++ [SO.lst []]).set 1 (SO.lst ((is.reverse.map fun i => D.ref (st.length + i)) ++ [D.ref (st ++ l).length])) := by
    rw [List.append_assoc, set_app]
  have nc : ¬ canCut (st ++ l) (st ++ (l ++ [SO.lst []]).set 1 (SO.lst ((is.reverse.map fun i => D.ref (st.length + i)) ++ [D.ref (st ++ l).length]))) := by
    refine not_cut (i := st.length + 1) (o := SO.lst ((is.reverse.map fun i => D.ref (st.length + i)) ++ [D.ref (st ++ l).length])) (by simp [exSs, exS, evE, evEs, evT, evC, evI, sizeLine_eq]; omega) ?_ ?_ ?_
    · rw [get_app]
      refine set_get_self (o' := .lst (is.reverse.map fun i => .ref (st.length + i))) ?_
      rw [List.getElem?_append_left (by omega), R.tups]
    · rw [R.g1]
      intro z
      have z2 := SO.lst.inj (Option.some.inj z)
      have := congrArg List.length z2
      simp [exSs, exS, evE, evEs, evT, evC, evI, sizeLine_eq] at this
    · simp only [soBelow, belows_app, belows, below, Nat.lt_irrefl, decide_false, Bool.false_and, Bool.and_false]
  refine ⟨_, ?_, nc, ⟨?_, ?_, ?_, ?_, ?_, ?_, ?_⟩⟩
  · simp only [MD.f_datatext_DataReader_open_one, MD.b_datatext_DataReader_open_one, show startE 1 [.ref st.length] = [some (.ref st.length)] from rfl]
    rw [exSs, exS, t0, out_ok, if_neg Bool.false_ne_true, exSs, sq_nx]
    simp only [exSs, exS, evE, evEs, getV_0, bnd_ok, R.f0, rcv_append R.g1, if_true, List.length_nil, Nat.zero_le, ap, liftP_some, out_ok, sq_nx]
    rw [e]
    exact finish_keepN nc
  · refine set_get ?_ (by omega)
    rw [List.getElem?_append_left (by omega), R.ins]
  · have q := set_get_self (st := l ++ [SO.lst []]) (o := SO.lst ((is.reverse.map fun i => D.ref (st.length + i)) ++ [D.ref (st ++ l).length])) (i := 1) (o' := .lst (is.reverse.map fun i => .ref (st.length + i))) (by rw [List.getElem?_append_left (by omega), R.tups])
    rw [q]
    simp [exSs, exS, evE, evEs, evT, evC, evI, sizeLine_eq]
  · refine set_get ?_ (by omega)
    rw [List.getElem?_append_left (by omega), R.told]
    cases rows <;> rfl
  · rw [List.nodup_cons]
    refine ⟨fun z => ?_, R.nd⟩
    have := (R.rows.lt _ z).2
    omega
  · refine .cons l3 (set_get ?_ (by omega)) ?_
    · rw [List.getElem?_append_right (Nat.le_refl _), Nat.sub_self]
      rfl
    · have rr := R.rows
      rw [prow_none] at rr
      refine (rr.app _).set _ fun z => ?_
      have := (R.rows.lt _ z).1
      omega
  · intro r hr
    rw [prow_none] at hr
    rcases List.mem_cons.mp hr with rfl | z
    · simp [exSs, exS, evE, evEs, evT, evC, evI, sizeLine_eq]
    · have := R.rl r (by rw [prow_none]; exact z)
      omega
  · have := R.il
    simp [exSs, exS, evE, evEs, evT, evC, evI, sizeLine_eq]
    omega
theorem open_no (h : DT P) (k : Nat) (R : RD st.length m l s is) (hr : s.2 ≠ none ∨ 1000 ≤ s.1.length) : callF P (k + 1) 18 [.ref st.length] (st ++ l) = .exc malf (st ++ l) := by
  have el : is.length = s.1.length := R.lens
  rw [callF_at h.f18 rfl]
  have t0 : evT (callF P k) MD.l_datatext_DataReader_open_one_0i [some (.ref st.length)] (st ++ l) = .ok true (st ++ l) := by
    cases q : s.2 with
    | some d => simp [exSs, exS, evE, evEs, evT, evC, evI, sizeLine_eq, MD.l_datatext_DataReader_open_one_0i, R.f1, q]
    | none =>
      rw [q] at hr
      have hr : 1000 ≤ s.1.length := hr.resolve_left fun z => z rfl
      have c : (1000 : Int) ≤ (is.length : Int) := by omega
      simp [exSs, exS, evE, evEs, evT, evC, evI, sizeLine_eq, MD.l_datatext_DataReader_open_one_0i, R.f1, R.f0, len_at R.g1, q, c]
  simp only [MD.f_datatext_DataReader_open_one, MD.b_datatext_DataReader_open_one, show startE 1 [.ref st.length] = [some (.ref st.length)] from rfl]
  rw [exSs, exS, t0, out_ok, if_pos rfl, exSs, raise1 h, sq_exc, sq_exc, finish_exc]
theorem comma_is (h : DT P) (k : Nat) (r : List D) (rows : List (List D)) (d : D) (R : RD st.length m l (r :: rows, some d) is) :
    ∃ l', callF P (k + 1) 20 [.ref st.length] (st ++ l) = .ok .non (st ++ l') ∧ l'.length = l.length ∧ RD st.length (m + 1) l' ((r ++ [d]) :: rows, none) is := by
  have el : is.length = rows.length + 1 := R.lens
  rw [callF_at h.f20 rfl]
  have t0 : evT (callF P k) MD.l_datatext_DataReader_comma_0i [some (.ref st.length)] (st ++ l) = .ok false (st ++ l) := by
    have c : ¬ (is.length : Int) = 0 := by omega
    simp [exSs, exS, evE, evEs, evT, evC, evI, sizeLine_eq, MD.l_datatext_DataReader_comma_0i, R.f1, R.f0, len_at R.g1, c]
    intro z
    subst z
    cases el
  have sf := setFld_at (j := 1) (.bl true) R.g0 (by simp [exSs, exS, evE, evEs, evT, evC, evI, sizeLine_eq])
  refine ⟨l.set 0 (.ins 0 [.ref (st.length + 1), .bl true, .ref (st.length + 2)]), ?_, by simp [exSs, exS, evE, evEs, evT, evC, evI, sizeLine_eq], ⟨?_, ?_, ?_, R.nd, ?_, ?_, ?_⟩⟩
  · simp only [MD.f_datatext_DataReader_comma, MD.b_datatext_DataReader_comma, show startE 1 [.ref st.length] = [some (.ref st.length)] from rfl]
    rw [exSs, exS, t0, out_ok, if_neg Bool.false_ne_true, exSs, sq_nx]
    simp only [exSs, exS, evE, evEs, getV_0, bnd_ok, out_ok, sq_nx, sf, stO]
    rw [finish_sameN (by simp [exSs, exS, evE, evEs, evT, evC, evI, sizeLine_eq]), set_app0]
    rfl
  · exact set_get_self R.ins
  · exact set_get R.tups (by omega)
  · exact set_get R.told (by omega)
  · rw [prow_none]
    refine R.rows.set _ fun z => ?_
    have := (R.rows.lt _ z).1
    omega
  · rw [prow_none]
    exact fun r' hr' => Nat.le_succ_of_le (R.rl r' hr')
  · exact Nat.le_succ_of_le R.il
theorem comma_no (h : DT P) (k : Nat) (R : RD st.length m l s is) (hr : s.2 = none ∨ s.1 = []) : callF P (k + 1) 20 [.ref st.length] (st ++ l) = .exc malf (st ++ l) := by
  have el : is.length = s.1.length := R.lens
  rw [callF_at h.f20 rfl]
  have t0 : evT (callF P k) MD.l_datatext_DataReader_comma_0i [some (.ref st.length)] (st ++ l) = .ok true (st ++ l) := by
    cases q : s.2 with
    | none => simp [exSs, exS, evE, evEs, evT, evC, evI, sizeLine_eq, MD.l_datatext_DataReader_comma_0i, R.f1, q]
    | some d =>
      rw [q] at hr
      have hr : s.1 = [] := hr.resolve_left fun z => nomatch z
      rw [hr] at el
      have e0 : is = [] := List.eq_nil_of_length_eq_zero el
      have g1 := R.g1
      subst e0
      simp [exSs, exS, evE, evEs, evT, evC, evI, sizeLine_eq, MD.l_datatext_DataReader_comma_0i, R.f1, R.f0, len_at g1, q]
  simp only [MD.f_datatext_DataReader_comma, MD.b_datatext_DataReader_comma, show startE 1 [.ref st.length] = [some (.ref st.length)] from rfl]
  rw [exSs, exS, t0, out_ok, if_pos rfl, exSs, raise1 h, sq_exc, sq_exc, finish_exc]
theorem close_is (h : DT P) (k : Nat) (q : List D) (rows : List (List D)) (R : RD st.length m l s is) (hm : m < 9000000) (hp : prow s = q :: rows) (h1 : s.1.length = rows.length + 1) (hs : s.2 = none → q = []) :
    ∃ l' is', callF P (k + 2) 19 [.ref st.length] (st ++ l) = .ok .non (st ++ l') ∧ l'.length = l.length ∧ RD st.length (m + 1) l' (rows, some (.tup q)) is' := by
  have el : is.length = s.1.length := R.lens
  have rw_ := R.rows
  rw [hp] at rw_
  cases rw_ with
  | @cons i is r rs i3 hi hr =>
  have nd := R.nd
  rw [List.nodup_cons] at nd
  have g4 : (st ++ l)[st.length + i]? = some (.lst q) := by rw [get_app, hi]
  have g1 := R.g1
  rw [List.reverse_cons, List.map_append] at g1
  have la : atD (st ++ l) (.ref (st.length + 1)) (-1) = some (.ref (st.length + i)) := by
    rw [at_ref, listOf_at' g1, Option.bind_some]
    exact atI_last _ _
  rw [callF_at h.f19 rfl]
  have t0 : evT (callF P (k + 1)) MD.l_datatext_DataReader_close_one_0i [some (.ref st.length), none] (st ++ l) = .ok false (st ++ l) := by
    have ln := len_at R.g1
    have lq := len_at g4
    cases o : s.2 with
    | some d => 
      simp [exSs, exS, evE, evEs, evT, evC, evI, sizeLine_eq, MD.l_datatext_DataReader_close_one_0i, R.f1, R.f0, ln, o]
      omega
    | none =>
      have e0 := hs o
      subst e0
      simp [exSs, exS, evE, evEs, evT, evC, evI, sizeLine_eq, MD.l_datatext_DataReader_close_one_0i, R.f1, R.f0, ln, o, la, lq]
      omega
  have pp := pop_at (st := st ++ l) (n := st.length + 1) (xs := is.reverse.map fun i => .ref (st.length + i)) (y := .ref (st.length + i)) g1
  have g4' : ((st ++ l).set (st.length + 1) (SO.lst (is.reverse.map fun i => D.ref (st.length + i))))[st.length + i]? = some (.lst q) := set_get g4 (by omega)
  have g0' : ((st ++ l).set (st.length + 1) (SO.lst (is.reverse.map fun i => D.ref (st.length + i))))[st.length]? = some (.ins 0 [.ref (st.length + 1), .bl s.2.isNone, .ref (st.length + 2)]) := set_get R.g0 (by omega)
  have sf := setFld_at (j := 1) (.bl true) g0' (by simp [exSs, exS, evE, evEs, evT, evC, evI, sizeLine_eq])
  have es : ((st ++ l).set (st.length + 1) (SO.lst (is.reverse.map fun i => D.ref (st.length + i)))).set st.length (.ins 0 [.ref (st.length + 1), .bl true, .ref (st.length + 2)]) = st ++ (l.set 1 (SO.lst (is.reverse.map fun i => D.ref (st.length + i)))).set 0 (.ins 0 [.ref (st.length + 1), .bl true, .ref (st.length + 2)]) := by
    rw [set_app, set_app0]
  have R2 : RD st.length m ((l.set 1 (SO.lst (is.reverse.map fun i => D.ref (st.length + i)))).set 0 (.ins 0 [.ref (st.length + 1), .bl true, .ref (st.length + 2)])) (rows, none) is := by
    refine ⟨set_get_self (set_get R.ins (by omega)), set_get (set_get_self R.tups) (by omega), ?_, nd.2, ?_, ?_, ?_⟩
    · refine set_get (set_get ?_ (by omega)) (by omega)
      rw [R.told]
      obtain ⟨rr, oo⟩ := s
      cases rr with
      | nil => cases h1
      | cons a b => cases rows <;> rfl
    · rw [prow_none]
      refine (hr.set _ fun z => ?_).set _ fun z => ?_
      · have := (hr.lt _ z).1
        omega
      · have := (hr.lt _ z).1
        omega
    · intro r' hr'
      exact R.rl r' (by rw [hp]; exact List.mem_cons_of_mem _ (by cases rows <;> exact hr'))
    · have := R.il
      simp [exSs, exS, evE, evEs, evT, evC, evI, sizeLine_eq] at this
      omega
  obtain ⟨l', c1, c2, c3⟩ := item_is h k (.tup q) rows R2 (by omega)
  have ins' := ev_insB_at R2.g0
  refine ⟨l', is, ?_, by rw [c2]; simp [exSs, exS, evE, evEs, evT, evC, evI, sizeLine_eq], c3⟩
  simp only [MD.f_datatext_DataReader_close_one, MD.b_datatext_DataReader_close_one, show startE 2 [.ref st.length] = [some (.ref st.length), none] from rfl]
  rw [exSs, exS, t0, out_ok, if_neg Bool.false_ne_true, exSs, sq_nx]
  have tp : tupD ((st ++ l).set (st.length + 1) (SO.lst (is.reverse.map fun i => D.ref (st.length + i)))) (.ref (st.length + i)) = some (.tup q) := by
    simp only [tupD, listOf_at' g4', Option.map_some]
  simp only [exSs, exS, evE, evEs, getV_0, getV_s, bnd_ok, R.f0, rcv_pop R.g1, if_true, pp, liftP_some, p_tuple, tp, oneR_some', out_ok, setT_nm, nxO_some', List.set_cons_succ, List.set_cons_zero, sq_nx, sf, stO, es, ins', c1]
  rw [finish_sameN]
  simp [exSs, exS, evE, evEs, evT, evC, evI, sizeLine_eq, c2]
theorem close_no (h : DT P) (k : Nat) (R : RD st.length m l s is) (hr : s.1 = [] ∨ ∃ x r rows, s = ((x :: r) :: rows, none)) : callF P (k + 1) 19 [.ref st.length] (st ++ l) = .exc malf (st ++ l) := by
  have el : is.length = s.1.length := R.lens
  rw [callF_at h.f19 rfl]
  have t0 : evT (callF P k) MD.l_datatext_DataReader_close_one_0i [some (.ref st.length), none] (st ++ l) = .ok true (st ++ l) := by
    rcases hr with hr | ⟨x, r, rows, rfl⟩
    · rw [hr] at el
      have e0 : is = [] := List.eq_nil_of_length_eq_zero el
      have g1 := R.g1
      subst e0
      simp [exSs, exS, evE, evEs, evT, evC, evI, sizeLine_eq, MD.l_datatext_DataReader_close_one_0i, R.f0, len_at g1]
    · have rw_ := R.rows
      have ln := len_at R.g1
      cases rw_ with
      | @cons i is r' rs i3 hi hr =>
      have g4 : (st ++ l)[st.length + i]? = some (.lst (x :: r)) := by rw [get_app, hi]
      have g1 := R.g1
      rw [List.reverse_cons, List.map_append] at g1
      have la : atD (st ++ l) (.ref (st.length + 1)) (-1) = some (.ref (st.length + i)) := by
        rw [at_ref, listOf_at' g1, Option.bind_some]
        exact atI_last _ _
      have lq := len_at g4
      simp [exSs, exS, evE, evEs, evT, evC, evI, sizeLine_eq, MD.l_datatext_DataReader_close_one_0i, R.f1, R.f0, ln, la, lq]
  simp only [MD.f_datatext_DataReader_close_one, MD.b_datatext_DataReader_close_one, show startE 2 [.ref st.length] = [some (.ref st.length), none] from rfl]
  rw [exSs, exS, t0, out_ok, if_pos rfl, exSs, raise1 h, sq_exc, sq_exc, finish_exc]
end
end K53
end
section
set_option linter.all false
set_option autoImplicit false
set_option maxRecDepth 100000
set_option maxHeartbeats 1000000
/-! the law's own reader. -/
namespace K53
open PySem Mini
variable {P : Prog}
theorem mapM_good {f : D → Option PyData} (g : PyData → Prop) : ∀ xs : List D, (∀ x ∈ xs, ∃ p, f x = some p ∧ g p) → ∃ ps, xs.mapM f = some ps ∧ ps.length = xs.length ∧ ∀ p ∈ ps, g p
  | [], _ => ⟨[], rfl, rfl, fun p hp => nomatch hp⟩
  | x :: xs, h => by
    obtain ⟨p, h1, h2⟩ := h x List.mem_cons_self
    obtain ⟨ps, h3, h4, h5⟩ := mapM_good g xs fun y hy => h y (List.mem_cons_of_mem _ hy)
    refine ⟨p :: ps, ?_, by rw [List.length_cons, List.length_cons, h4], fun q hq => ?_⟩
    · rw [List.mapM_cons, h1, h3]
      rfl
    · rcases List.mem_cons.mp hq with rfl | z
      · exact h2
      · exact h5 q z
theorem lay_all (k : Nat) : ∀ ps : List PyData, (∀ p ∈ ps, p.canLay0 = true ∧ p.depth ≤ k) → PyData.canLayAll0 ps = true ∧ PyData.depthAll ps ≤ k
  | [], _ => by
    rw [PyData.canLayAll0, PyData.depthAll]
    exact ⟨rfl, Nat.zero_le _⟩
  | p :: ps, h => by
    have h1 := h p List.mem_cons_self
    have h2 := lay_all k ps fun q hq => h q (List.mem_cons_of_mem _ hq)
    rw [PyData.canLayAll0, PyData.depthAll, h1.1, h2.1]
    exact ⟨rfl, Nat.max_le.mpr ⟨h1.2, h2.2⟩⟩
/-- x == [] -/
theorem eqv_empty {S : Sto} {x : D} {ps : List PyData} (hs : scalB x (.lst []) = false) (h : toPD S 65 x = some (.list ps)) (hg : ∀ p ∈ ps, p.canLay0 = true ∧ p.depth ≤ 63) : eqvD S x (.lst []) = some ps.isEmpty := by
  have l := lay_all 63 ps hg
  have e : toPD S 65 (.lst []) = some (.list []) := by
    rw [toPD]
    rfl
  have sh : SeqAt.shaped (.list ps) = true := by
    unfold SeqAt.shaped
    rw [PyData.canLay0, PyData.depth, l.1, decide_eq_true (by omega)]
    rfl
  rw [eqv_deep hs h e sh (by decide)]
  cases ps with
  | nil => simp [exSs, exS, evE, evEs, evT, evC, evI, sizeLine_eq, PyData.eqv, PyData.eqvAll]
  | cons p ps => simp [exSs, exS, evE, evEs, evT, evC, evI, sizeLine_eq, PyData.eqv, PyData.eqvAll]
/-- the law's rows in the store -/
structure LR (n K L m : Nat) (l : Sto) (s : RS) (is : List Nat) : Prop where
  r0 : l[0]? = some (.lst (is.reverse.map fun i => .ref (n + i)))
  nd : is.Nodup
  rows : Rows 1 l is s.1
  ok : okS K L s
  rl : ∀ r ∈ s.1, r.length ≤ m
  il : is.length ≤ m
theorem okR_mem {K L : Nat} : ∀ {rs : List (List D)} {r : List D}, okR K L rs → r ∈ rs → ∃ k, k ≤ L ∧ wds K k r = true
  | r :: rs, r', h, e => by
    obtain ⟨h1, h2, h3⟩ := h
    rcases List.mem_cons.mp e with rfl | z
    · exact ⟨_, Nat.sub_le _ _, h2⟩
    · exact okR_mem h3 z
theorem Rows.mem {b : Nat} {l : Sto} {is : List Nat} {rs : List (List D)} (h : Rows b l is rs) : ∀ i ∈ is, ∃ r ∈ rs, l[i]? = some (.lst r) := by
  induction h with
  | nil => intro i hi; cases hi
  | @cons j js r rs h1 h2 _ ih =>
    intro i hi
    rcases List.mem_cons.mp hi with rfl | z
    · exact ⟨r, List.mem_cons_self, h2⟩
    · obtain ⟨r', a, b⟩ := ih i z
      exact ⟨r', List.mem_cons_of_mem _ a, b⟩
section
variable {st l : Sto} {s : RS} {K L m : Nat} {is : List Nat}
theorem LR.lens {n : Nat} (R : LR n K L m l s is) : is.length = s.1.length := R.rows.len
theorem LR.g0 (R : LR st.length K L m l s is) : (st ++ l)[st.length]? = some (.lst (is.reverse.map fun i => .ref (st.length + i))) := by rw [get_app0, R.r0]
theorem row_pd (hL : L ≤ 60) {i k : Nat} {r : List D} (hi : l[i]? = some (.lst r)) (hk : k ≤ L) (hr : wds K k r = true) (f : Nat) (hf : 62 ≤ f) : toPD (st ++ l) (f + 1) (.ref (st.length + i)) = some (.list (pds r)) := by
  rw [toPD, get_app, hi]
  dsimp only
  rw [pds_is (st ++ l) K r k f hr (by omega)]
  rfl
theorem rows_eqv (hL : L ≤ 60) (R : LR st.length K L m l s is) : eqvD (st ++ l) (.ref st.length) (.lst []) = some s.1.isEmpty := by
  obtain ⟨ps, h1, h2, h3⟩ := mapM_good (f := toPD (st ++ l) 64) (fun p => p.canLay0 = true ∧ p.depth ≤ 63) (is.reverse.map fun i => D.ref (st.length + i)) (fun x hx => by
    obtain ⟨i, hi, rfl⟩ := List.mem_map.mp hx
    rw [List.mem_reverse] at hi
    obtain ⟨r, hr, e⟩ := R.rows.mem i hi
    obtain ⟨k, hk, hw⟩ := okR_mem R.ok.1 hr
    refine ⟨.list (pds r), row_pd hL e hk hw 63 (by omega), ?_⟩
    have sh := pds_shape K r k hw
    rw [PyData.canLay0, PyData.depth]
    exact ⟨sh.1, by omega⟩)
  have e : toPD (st ++ l) 65 (.ref st.length) = some (.list ps) := by
    rw [toPD, R.g0]
    dsimp only
    rw [h1]
    rfl
  rw [eqv_empty rfl e h3]
  have : ps.length = s.1.length := by rw [h2, List.length_map, List.length_reverse, R.lens]
  have key : ∀ (a : List PyData) (b : List (List D)), a.length = b.length → a.isEmpty = b.isEmpty := by
    intro a b h
    cases a <;> cases b <;> first | rfl | (simp [exSs, exS, evE, evEs, evT, evC, evI, sizeLine_eq] at h; done)
  rw [key _ _ this]
theorem row_eqv (hL : L ≤ 60) {i k : Nat} {r : List D} (hi : l[i]? = some (.lst r)) (hk : k ≤ L) (hr : wds K k r = true) : eqvD (st ++ l) (.ref (st.length + i)) (.lst []) = some r.isEmpty := by
  have sh := pds_shape K r k hr
  rw [eqv_empty (ps := pds r) rfl (row_pd hL hi hk hr 64 (by omega)) fun p hp => ?_]
  · cases r <;> rfl
  · have key : ∀ ps : List PyData, PyData.canLayAll0 ps = true → PyData.depthAll ps ≤ 63 → ∀ p ∈ ps, p.canLay0 = true ∧ p.depth ≤ 63 := by
      intro ps
      induction ps with
      | nil => intro _ _ p hp; cases hp
      | cons q qs ih =>
        intro h1 h2 p hp
        rw [PyData.canLayAll0, Bool.and_eq_true] at h1
        rw [PyData.depthAll] at h2
        rcases List.mem_cons.mp hp with rfl | z
        · exact ⟨h1.1, Nat.le_trans (Nat.le_max_left _ _) h2⟩
        · exact ih h1.2 (Nat.le_trans (Nat.le_max_right _ _) h2) p z
    exact key _ sh.1 (by omega) p hp
/-! the loop -/
abbrev LE (t : Chs) (n : Nat) (done : D) (tok : Chs) (ah : Bool) (sg at' rw' : Option D) : Mini.Env := [some (.str t), some (.ref n), some done, some (.str tok), some (.bl ah), sg, at', rw']
def doneOk (s : RS) (done : D) : Prop := ∀ d, s.2 = some d → done = .lst [d]
/-- the token is taken -/
theorem l_flush (h : LW P) (k : Nat) (t tok : Chs) (done : D) (c : Nat) (at' rw' : Option D) (s : RS) (hd : doneOk s done) (hb : tok ≠ [] → bare tok) (hl : tok.length ≤ 4300) (S : Sto) :
    match runs (atm 5000) never (if tok = [] then [] else [tok]) s with
    | some s' => s'.1 = s.1 ∧ ∃ done' at2, exS P.cs (callF P (k + 2)) (.ife MD.l_law_read_7i (.cons 
    (.asg (.nm 6) (.ife (.call 10 (.cons (.var 3) .nil)) (.var 3) (.call 12 (.cons (.var 3) .nil)))) (.cons 
    (.ife MD.l_law_read_8i (.cons 
     (.ret (.lit (.non))) .nil) .nil) (.cons 
    (.par [2, 4, 3] (.cons (.vlst (.cons (.var 6) .nil)) (.cons (.lit (.bl false)) (.cons (.lit (.str [])) .nil)))) .nil))) .nil) (LE t st.length done tok s.2.isNone (some (.str [c])) at' rw') S = .nx (LE t st.length done' [] s'.2.isNone (some (.str [c])) at2 rw') S ∧ doneOk s' done'
    | none => exS P.cs (callF P (k + 2)) (.ife MD.l_law_read_7i (.cons 
    (.asg (.nm 6) (.ife (.call 10 (.cons (.var 3) .nil)) (.var 3) (.call 12 (.cons (.var 3) .nil)))) (.cons 
    (.ife MD.l_law_read_8i (.cons 
     (.ret (.lit (.non))) .nil) .nil) (.cons 
    (.par [2, 4, 3] (.cons (.vlst (.cons (.var 6) .nil)) (.cons (.lit (.bl false)) (.cons (.lit (.str [])) .nil)))) .nil))) .nil) (LE t st.length done tok s.2.isNone (some (.str [c])) at' rw') S = .ret .non S := by
  by_cases ht : tok = []
  · subst ht
    rw [if_pos rfl, runs]
    refine ⟨rfl, done, at', ?_, hd⟩
    have t7 : evT (callF P (k + 2)) MD.l_law_read_7i (LE t st.length done [] s.2.isNone (some (.str [c])) at' rw') S = .ok false S := by
      simp [exSs, exS, evE, evEs, evT, evC, evI, sizeLine_eq, MD.l_law_read_7i]
    rw [exS, t7, out_ok, if_neg Bool.false_ne_true, exSs]
  · rw [if_neg ht]
    obtain ⟨n1, n2, n3⟩ := delim_not (hb ht)
    have t7 : evT (callF P (k + 2)) MD.l_law_read_7i (LE t st.length done tok s.2.isNone (some (.str [c])) at' rw') S = .ok true S := by
      simp [exSs, exS, evE, evEs, evT, evC, evI, sizeLine_eq, MD.l_law_read_7i, ht]
    have at1 := law_atom h (k + 1) S (LE t st.length done tok s.2.isNone (some (.str [c])) at' rw') 3 tok rfl hl
    rw [exS, t7, out_ok, if_pos rfl, exSs, exS, at1, out_ok]
    have e1 : setT (.nm 6) (optD (atm 5000 tok)) (LE t st.length done tok s.2.isNone (some (.str [c])) at' rw') = some (LE t st.length done tok s.2.isNone (some (.str [c])) (some (optD (atm 5000 tok))) rw') := by simp [exSs, exS, evE, evEs, evT, evC, evI, sizeLine_eq]
    rw [e1, nxO_some', sq_nx, runs, step, if_neg n1, if_neg n2, if_neg n3]
    cases q : atm 5000 tok with
    | none =>
      have t8 : ∀ b, evT (callF P (k + 2)) MD.l_law_read_8i (LE t st.length done tok b (some (.str [c])) (some (optD none)) rw') S = .ok true S := fun b => by
        simp [exSs, exS, evE, evEs, evT, evC, evI, sizeLine_eq, MD.l_law_read_8i, optD, prim, isND]
      cases z : s.2 with
      | none =>
        dsimp only
        rw [Option.map_none, Option.bind_none]
        dsimp only
        rw [exSs, exS, t8, out_ok, if_pos rfl, exSs, exS, evE, out_ok, sq_ret, sq_ret]
      | some d =>
        dsimp only
        rw [Option.bind_none]
        dsimp only
        rw [exSs, exS, t8, out_ok, if_pos rfl, exSs, exS, evE, out_ok, sq_ret, sq_ret]
    | some d =>
      have hn : ∀ m, wd 5000 m d = true := fun m => atm_len q m (by decide)
      have nd : isND d S = some (.bl false, S) := by
        have := hn 0
        cases d <;> first | rfl | (simp [exSs, exS, evE, evEs, evT, evC, evI, sizeLine_eq, wd] at this; done)
      cases z : s.2 with
      | some d2 =>
        have t8 : evT (callF P (k + 2)) MD.l_law_read_8i (LE t st.length done tok (some d2).isNone (some (.str [c])) (some (optD (some d))) rw') S = .ok true S := by
          simp [exSs, exS, evE, evEs, evT, evC, evI, sizeLine_eq, MD.l_law_read_8i, optD, prim, nd]
        dsimp only
        rw [Option.bind_none]
        dsimp only
        rw [exSs, exS, t8, out_ok, if_pos rfl, exSs, exS, evE, out_ok, sq_ret, sq_ret]
      | none =>
        have t8 : evT (callF P (k + 2)) MD.l_law_read_8i (LE t st.length done tok (none : Option D).isNone (some (.str [c])) (some (optD (some d))) rw') S = .ok false S := by
          simp [exSs, exS, evE, evEs, evT, evC, evI, sizeLine_eq, MD.l_law_read_8i, optD, prim, nd]
        dsimp only
        rw [Option.map_some, Option.bind_some, runs]
        dsimp only
        refine ⟨rfl, .lst [d], some d, ?_, fun d' e => by cases e; rfl⟩
        rw [exSs, exS, t8, out_ok, if_neg Bool.false_ne_true, exSs, sq_nx, exSs, exS]
        simp [exSs, exS, evE, evEs, evT, evC, evI, sizeLine_eq, optD]
end
end K53
end
section
set_option linter.all false
set_option autoImplicit false
set_option maxRecDepth 100000
set_option maxHeartbeats 1000000
/-! the law's own reader: brackets and commas. -/
namespace K53
open PySem Mini
variable {P : Prog}
def Bs : Sm := (.ife MD.l_law_read_1i (.cons 
    (.ife MD.l_law_read_2i (.cons 
     (.ret (.lit (.non))) .nil) .nil) (.cons 
    (.ex (.mth .append (.var 1) (.cons (.lst .nil) .nil))) .nil)) (.cons 
    (.ife MD.l_law_read_3i (.cons 
     (.ife MD.l_law_read_4i (.cons 
      (.ret (.lit (.non))) .nil) .nil) (.cons 
     (.ex (.mth .append (.pr .ix (.cons (.var 1) (.cons (.pr .neg (.cons (.lit (.int 1)) .nil)) .nil))) (.cons (.pr .ix (.cons (.var 2) (.cons (.lit (.int 0)) .nil))) .nil))) (.cons 
     (.asg (.nm 4) (.lit (.bl true))) .nil))) (.cons 
     (.ife MD.l_law_read_5i (.cons 
      (.ife MD.l_law_read_6i (.cons 
       (.ret (.lit (.non))) .nil) .nil) (.cons 
      (.asg (.nm 7) (.mth .pop (.var 1) .nil)) (.cons 
      (.par [2, 4] (.cons (.vlst (.cons (.pr .tuple (.cons (.pr .add (.cons (.var 7) (.cons (.ife (.var 4) (.vlst .nil) (.vlst (.cons (.pr .ix (.cons (.var 2) (.cons (.lit (.int 0)) .nil))) .nil))) .nil))) .nil)) .nil)) (.cons (.lit (.bl false)) .nil))) .nil))) .nil) .nil)) .nil))
section
variable {st l : Sto} {s : RS} {K L m : Nat} {is : List Nat}
def LStep (P : Prog) (k : Nat) (st l : Sto) (t : Chs) (K L m c : Nat) (done : D) (at' rw' : Option D) (s : RS) : Prop :=
  match step (atm 5000) never s [c] with
    | some s' => s'.1.length ≤ L → ∃ l' is' done' rw2, exS P.cs (callF P k) Bs (LE t st.length done [] s.2.isNone (some (.str [c])) at' rw') (st ++ l) = .nx (LE t st.length done' [] s'.2.isNone (some (.str [c])) at' rw2) (st ++ l') ∧ LR st.length K L (m + 1) l' s' is' ∧ doneOk s' done'
    | none => exS P.cs (callF P k) Bs (LE t st.length done [] s.2.isNone (some (.str [c])) at' rw') (st ++ l) = .ret .non (st ++ l)
theorem l_open (k : Nat) (t : Chs) (done : D) (at' rw' : Option D) (hL : L ≤ 60) (hK : 5000 ≤ K) (R : LR st.length K L m l s is) (hm : m < 9000000) (hd : doneOk s done) : LStep P k st l t K L m 91 done at' rw' s := by
  unfold LStep
  obtain ⟨rows, o⟩ := s
  have l1 : 1 ≤ l.length := (List.getElem?_eq_some_iff.mp R.r0).1
  have t1 : ∀ S, evT (callF P k) MD.l_law_read_1i (LE t st.length done [] o.isNone (some (.str [91])) at' rw') S = .ok true S := fun S => by simp [exSs, exS, evE, evEs, evT, evC, evI, sizeLine_eq, MD.l_law_read_1i]
  have t2 : ∀ S, evT (callF P k) MD.l_law_read_2i (LE t st.length done [] o.isNone (some (.str [91])) at' rw') S = .ok (!o.isNone) S := fun S => by simp [exSs, exS, evE, evEs, evT, evC, evI, sizeLine_eq, MD.l_law_read_2i]
  cases o with
  | some d =>
    have e : step (atm 5000) never (rows, some d) [91] = none := rfl
    rw [e]
    dsimp only
    unfold Bs
    rw [exS, t1, out_ok, if_pos rfl, exSs, exS, t2, out_ok]
    simp [exSs, exS, evE, evEs, evT, evC, evI, sizeLine_eq]
  | none =>
    have e : step (atm 5000) never (rows, none) [91] = some ([] :: rows, none) := rfl
    have so := fun h => step_ok (n := K) (L := L) (fun d m e => wd_mono hK d m m (Nat.le_refl _) (atm_len e m (by decide))) R.ok e h
    rw [e]
    dsimp only
    intro hlen
    have g1' : ((st ++ l) ++ [SO.lst []])[st.length]? = some (.lst (is.reverse.map fun i => .ref (st.length + i))) := by
      rw [List.getElem?_append_left (by simp [exSs, exS, evE, evEs, evT, evC, evI, sizeLine_eq]; omega), R.g0]
    have il := R.il
    have ap := append_at (.ref (st ++ l).length) g1' (by rw [sizeLine_eq]; simp [exSs, exS, evE, evEs, evT, evC, evI, sizeLine_eq]; omega)
    have es : ((st ++ l) ++ [SO.lst []]).set st.length (SO.lst ((is.reverse.map fun i => D.ref (st.length + i)) ++ [D.ref (st ++ l).length])) = st ++ (l ++ [SO.lst []]).set 0 (SO.lst ((is.reverse.map fun i => D.ref (st.length + i)) ++ [D.ref (st ++ l).length])) := by
      rw [List.append_assoc, set_app0]
    refine ⟨(l ++ [SO.lst []]).set 0 (SO.lst ((is.reverse.map fun i => D.ref (st.length + i)) ++ [D.ref (st ++ l).length])), l.length :: is, done, rw', ?_, ⟨?_, ?_, ?_, so hlen, ?_, by simp [exSs, exS, evE, evEs, evT, evC, evI, sizeLine_eq]; omega⟩, fun d e => nomatch e⟩
    · unfold Bs
      rw [exS, t1, out_ok, if_pos rfl, exSs, exS, t2, out_ok]
      simp only [Option.isNone_none, Bool.not_true, Bool.false_eq_true, if_false, exSs, sq_nx, exS, evE, evEs, getV_0, getV_s, bnd_ok, rcv_append R.g0, if_true, List.length_nil, Nat.zero_le, ap, liftP_some, out_ok, es]
    · have q := set_get_self (st := l ++ [SO.lst []]) (o := SO.lst ((is.reverse.map fun i => D.ref (st.length + i)) ++ [D.ref (st ++ l).length])) (i := 0) (o' := .lst (is.reverse.map fun i => .ref (st.length + i))) (by rw [List.getElem?_append_left (by omega), R.r0])
      rw [q]
      simp [exSs, exS, evE, evEs, evT, evC, evI, sizeLine_eq]
    · rw [List.nodup_cons]
      refine ⟨fun z => ?_, R.nd⟩
      have := (R.rows.lt _ z).2
      omega
    · refine .cons l1 (set_get ?_ (by omega)) ?_
      · rw [List.getElem?_append_right (Nat.le_refl _), Nat.sub_self]
        rfl
      · refine (R.rows.app _).set _ fun z => ?_
        have := (R.rows.lt _ z).1
        omega
    · intro r hr
      rcases List.mem_cons.mp hr with rfl | z
      · simp [exSs, exS, evE, evEs, evT, evC, evI, sizeLine_eq]
      · have := R.rl r z
        omega
theorem l_comma (k : Nat) (t : Chs) (done : D) (at' rw' : Option D) (hL : L ≤ 60) (hK : 5000 ≤ K) (R : LR st.length K L m l s is) (hm : m < 9000000) (hd : doneOk s done) : LStep P k st l t K L m 44 done at' rw' s := by
  unfold LStep
  obtain ⟨rows, o⟩ := s
  have t1 : ∀ S, evT (callF P k) MD.l_law_read_1i (LE t st.length done [] o.isNone (some (.str [44])) at' rw') S = .ok false S := fun S => by simp [exSs, exS, evE, evEs, evT, evC, evI, sizeLine_eq, MD.l_law_read_1i]
  have t3 : ∀ S, evT (callF P k) MD.l_law_read_3i (LE t st.length done [] o.isNone (some (.str [44])) at' rw') S = .ok true S := fun S => by simp [exSs, exS, evE, evEs, evT, evC, evI, sizeLine_eq, MD.l_law_read_3i]
  have re := rows_eqv hL R
  have t4 : evT (callF P k) MD.l_law_read_4i (LE t st.length done [] o.isNone (some (.str [44])) at' rw') (st ++ l) = .ok (o.isNone || rows.isEmpty) (st ++ l) := by
    cases o <;> simp [exSs, exS, evE, evEs, evT, evC, evI, sizeLine_eq, MD.l_law_read_4i, re]
  have pre : exS P.cs (callF P k) Bs (LE t st.length done [] o.isNone (some (.str [44])) at' rw') (st ++ l) = (if (o.isNone || rows.isEmpty) = true then Out.ret .non (st ++ l) else ((exSs P.cs (callF P k) (.cons (.ex (.mth .append (.pr .ix (.cons (.var 1) (.cons (.pr .neg (.cons (.lit (.int 1)) .nil)) .nil))) (.cons (.pr .ix (.cons (.var 2) (.cons (.lit (.int 0)) .nil))) .nil))) (.cons 
     (.asg (.nm 4) (.lit (.bl true))) .nil)) (LE t st.length done [] o.isNone (some (.str [44])) at' rw') (st ++ l)).sq fun env st => .nx env st)) := by
    unfold Bs
    rw [exS, t1, out_ok, if_neg Bool.false_ne_true, exSs, exS, t3, out_ok, if_pos rfl, exSs, exS, t4, out_ok]
    have en : exSs P.cs (callF P k) .nil = fun env st => Out.nx env st := by
      funext env st
      rw [exSs]
    rw [en]
    cases (o.isNone || rows.isEmpty) with
    | true =>
      rw [if_pos rfl, if_pos rfl, exSs, exS, evE, out_ok, sq_ret, sq_ret, sq_ret]
    | false =>
      rw [if_neg Bool.false_ne_true, if_neg Bool.false_ne_true, sq_nx]
  rw [pre]
  cases rows with
  | nil =>
    have e : step (atm 5000) never ([], o) [44] = none := by cases o <;> rfl
    rw [e]
    dsimp only
    rw [if_pos (by simp [exSs, exS, evE, evEs, evT, evC, evI, sizeLine_eq])]
  | cons r rows =>
    cases o with
    | none =>
      have e : step (atm 5000) never (r :: rows, none) [44] = none := rfl
      rw [e]
      dsimp only
      rw [if_pos (by simp [exSs, exS, evE, evEs, evT, evC, evI, sizeLine_eq])]
    | some d =>
      have e : step (atm 5000) never (r :: rows, some d) [44] = some ((r ++ [d]) :: rows, none) := rfl
      have so := fun h => step_ok (n := K) (L := L) (fun d m e => wd_mono hK d m m (Nat.le_refl _) (atm_len e m (by decide))) R.ok e h
      rw [e]
      dsimp only
      intro hlen
      have hdn := hd d rfl
      subst hdn
      rw [if_neg (by simp [exSs, exS, evE, evEs, evT, evC, evI, sizeLine_eq])]
      have rw_ := R.rows
      cases rw_ with
      | @cons i is r' rs i3 hi hr =>
      have nd := R.nd
      rw [List.nodup_cons] at nd
      have g4 : (st ++ l)[st.length + i]? = some (.lst r) := by rw [get_app, hi]
      have g1 := R.g0
      rw [List.reverse_cons, List.map_append] at g1
      have la : atD (st ++ l) (.ref st.length) (-1) = some (.ref (st.length + i)) := by
        rw [at_ref, listOf_at' g1, Option.bind_some]
        exact atI_last _ _
      have hrl := R.rl r List.mem_cons_self
      have ap := append_at d g4 (by rw [sizeLine_eq]; omega)
      have a0 : atD (st ++ l) (.lst [d]) 0 = some d := by
        rw [at_lst]
        exact atI_nat [d] 0
      refine ⟨l.set i (.lst (r ++ [d])), i :: is, .lst [d], rw', ?_, ⟨set_get R.r0 (by omega), R.nd, .cons i3 (set_get_self hi) (hr.set _ nd.1), so hlen, ?_, by have := R.il; omega⟩, fun d e => nomatch e⟩
      · simp only [exSs, exS, evE, evEs, getV_0, getV_s, bnd_ok, p_neg, liftP_some, p_ix, la, oneR_some', rcv_append g4, if_true, a0, ap, out_ok, sq_nx, setT_nm, nxO_some', List.set_cons_succ, List.set_cons_zero]
        rw [set_app]
        rfl
      · intro r' hr'
        rcases List.mem_cons.mp hr' with rfl | z
        · rw [List.length_append, List.length_singleton]
          omega
        · have := R.rl r' (List.mem_cons_of_mem _ z)
          omega
theorem l_close (k : Nat) (t : Chs) (done : D) (at' rw' : Option D) (hL : L ≤ 60) (hK : 5000 ≤ K) (R : LR st.length K L m l s is) (hm : m < 9000000) (hd : doneOk s done) : LStep P k st l t K L m 93 done at' rw' s := by
  unfold LStep
  obtain ⟨rows, o⟩ := s
  have t1 : ∀ S, evT (callF P k) MD.l_law_read_1i (LE t st.length done [] o.isNone (some (.str [93])) at' rw') S = .ok false S := fun S => by simp [exSs, exS, evE, evEs, evT, evC, evI, sizeLine_eq, MD.l_law_read_1i]
  have t3 : ∀ S, evT (callF P k) MD.l_law_read_3i (LE t st.length done [] o.isNone (some (.str [93])) at' rw') S = .ok false S := fun S => by simp [exSs, exS, evE, evEs, evT, evC, evI, sizeLine_eq, MD.l_law_read_3i]
  have t5 : ∀ S, evT (callF P k) MD.l_law_read_5i (LE t st.length done [] o.isNone (some (.str [93])) at' rw') S = .ok true S := fun S => by simp [exSs, exS, evE, evEs, evT, evC, evI, sizeLine_eq, MD.l_law_read_5i]
  have re := rows_eqv hL R
  have pre : ∀ b, evT (callF P k) MD.l_law_read_6i (LE t st.length done [] o.isNone (some (.str [93])) at' rw') (st ++ l) = .ok b (st ++ l) → exS P.cs (callF P k) Bs (LE t st.length done [] o.isNone (some (.str [93])) at' rw') (st ++ l) = (if b = true then Out.ret .non (st ++ l) else ((((exSs P.cs (callF P k) (.cons 
      (.asg (.nm 7) (.mth .pop (.var 1) .nil)) (.cons 
      (.par [2, 4] (.cons (.vlst (.cons (.pr .tuple (.cons (.pr .add (.cons (.var 7) (.cons (.ife (.var 4) (.vlst .nil) (.vlst (.cons (.pr .ix (.cons (.var 2) (.cons (.lit (.int 0)) .nil))) .nil))) .nil))) .nil)) .nil)) (.cons (.lit (.bl false)) .nil))) .nil)) (LE t st.length done [] o.isNone (some (.str [93])) at' rw') (st ++ l)).sq fun env st => .nx env st)).sq fun env st => .nx env st)) := by
    intro b t6
    unfold Bs
    rw [exS, t1, out_ok, if_neg Bool.false_ne_true, exSs, exS, t3, out_ok, if_neg Bool.false_ne_true, exSs, exS, t5, out_ok, if_pos rfl, exSs, exS, t6, out_ok]
    have en : exSs P.cs (callF P k) .nil = fun env st => Out.nx env st := by
      funext env st
      rw [exSs]
    rw [en]
    cases b with
    | true =>
      rw [if_pos rfl, if_pos rfl, exSs, exS, evE, out_ok, sq_ret, sq_ret, sq_ret, sq_ret]
    | false =>
      rw [if_neg Bool.false_ne_true, if_neg Bool.false_ne_true, sq_nx]
  cases rows with
  | nil =>
    have e : step (atm 5000) never ([], o) [93] = none := by cases o <;> rfl
    have t6 : evT (callF P k) MD.l_law_read_6i (LE t st.length done [] o.isNone (some (.str [93])) at' rw') (st ++ l) = .ok true (st ++ l) := by
      simp [exSs, exS, evE, evEs, evT, evC, evI, sizeLine_eq, MD.l_law_read_6i, re]
    rw [e, pre _ t6]
    dsimp only
    rw [if_pos rfl]
  | cons r rows =>
    have rw_ := R.rows
    cases rw_ with
    | @cons i is r' rs i3 hi hr =>
    have nd := R.nd
    rw [List.nodup_cons] at nd
    have g4 : (st ++ l)[st.length + i]? = some (.lst r) := by rw [get_app, hi]
    have g1 := R.g0
    rw [List.reverse_cons, List.map_append] at g1
    have la : atD (st ++ l) (.ref st.length) (-1) = some (.ref (st.length + i)) := by
      rw [at_ref, listOf_at' g1, Option.bind_some]
      exact atI_last _ _
    have rq := row_eqv (st := st) hL hi (Nat.sub_le L (rows.length + 1)) R.ok.1.2.1
    have t6 : evT (callF P k) MD.l_law_read_6i (LE t st.length done [] o.isNone (some (.str [93])) at' rw') (st ++ l) = .ok (o.isNone && !r.isEmpty) (st ++ l) := by
      cases o <;> simp [exSs, exS, evE, evEs, evT, evC, evI, sizeLine_eq, MD.l_law_read_6i, re, la, rq]
    rw [pre _ t6]
    have pp := pop_at (st := st ++ l) (n := st.length) (xs := is.reverse.map fun i => .ref (st.length + i)) (y := .ref (st.length + i)) g1
    have g4' : ((st ++ l).set st.length (SO.lst (is.reverse.map fun i => D.ref (st.length + i))))[st.length + i]? = some (.lst r) := set_get g4 (by omega)
    have key : ∀ x : List D, (o = none ∧ x = [] ∨ ∃ d, o = some d ∧ x = [d]) → step (atm 5000) never (r :: rows, o) [93] = some (rows, some (.tup (r ++ x))) → (o.isNone && !r.isEmpty) = false → rows.length ≤ L →
        ∃ l' is' done' rw2, (((exSs P.cs (callF P k) (.cons 
      (.asg (.nm 7) (.mth .pop (.var 1) .nil)) (.cons 
      (.par [2, 4] (.cons (.vlst (.cons (.pr .tuple (.cons (.pr .add (.cons (.var 7) (.cons (.ife (.var 4) (.vlst .nil) (.vlst (.cons (.pr .ix (.cons (.var 2) (.cons (.lit (.int 0)) .nil))) .nil))) .nil))) .nil)) .nil)) (.cons (.lit (.bl false)) .nil))) .nil)) (LE t st.length done [] o.isNone (some (.str [93])) at' rw') (st ++ l)).sq fun env st => .nx env st)).sq (fun env st => .nx env st) = .nx (LE t st.length done' [] false (some (.str [93])) at' rw2) (st ++ l') ∧ LR st.length K L (m + 1) l' (rows, some (.tup (r ++ x))) is' ∧ doneOk (rows, some (.tup (r ++ x))) done' := by
      intro x hx e _ hlen
      have so := step_ok (n := K) (L := L) (fun d m e => wd_mono hK d m m (Nat.le_refl _) (atm_len e m (by decide))) R.ok e hlen
      refine ⟨l.set 0 (SO.lst (is.reverse.map fun i => D.ref (st.length + i))), is, .lst [.tup (r ++ x)], some (.ref (st.length + i)), ?_, ⟨set_get_self R.r0, nd.2, hr.set _ (fun z => by have := (hr.lt _ z).1; omega), so, fun r' hr' => by have := R.rl r' (List.mem_cons_of_mem _ hr'); omega, by have := R.il; simp [exSs, exS, evE, evEs, evT, evC, evI, sizeLine_eq] at this; omega⟩, fun d e => by cases e; rfl⟩
      have hxl : x.length ≤ 1 := by
        rcases hx with ⟨_, rfl⟩ | ⟨d, _, rfl⟩ <;> simp [exSs, exS, evE, evEs, evT, evC, evI, sizeLine_eq]
      have hrl := R.rl r List.mem_cons_self
      have add : prim .add [.ref (st.length + i), .lst x] ((st ++ l).set st.length (SO.lst (is.reverse.map fun i => D.ref (st.length + i)))) = some (.lst (r ++ x), (st ++ l).set st.length (SO.lst (is.reverse.map fun i => D.ref (st.length + i)))) := by
        show addD _ (.ref _) (.lst _) = _
        simp only [addD, listOf_at' g4', listOf_lst]
        rw [decide_eq_true (by rw [sizeLine_eq]; omega), guardR_true]
      have ei : evE (callF P k) (.ife (.var 4) (.vlst .nil) (.vlst (.cons (.pr .ix (.cons (.var 2) (.cons (.lit (.int 0)) .nil))) .nil))) [some (.str t), some (.ref st.length), some done, some (.str []), some (.bl o.isNone), some (.str [93]), at', some (.ref (st.length + i))] ((st ++ l).set st.length (SO.lst (is.reverse.map fun i => D.ref (st.length + i)))) = .ok (.lst x) ((st ++ l).set st.length (SO.lst (is.reverse.map fun i => D.ref (st.length + i)))) := by
        rcases hx with ⟨rfl, rfl⟩ | ⟨d, rfl, rfl⟩
        · simp [exSs, exS, evE, evEs, evT, evC, evI, sizeLine_eq]
        · have hdn := hd d rfl
          subst hdn
          have a0 : ∀ S, atD S (.lst [d]) 0 = some d := fun S => by
            rw [at_lst]
            exact atI_nat [d] 0
          simp [exSs, exS, evE, evEs, evT, evC, evI, sizeLine_eq, a0]
      generalize (Ex.ife (.var 4) (.vlst .nil) (.vlst (.cons (.pr .ix (.cons (.var 2) (.cons (.lit (.int 0)) .nil))) .nil))) = ie at ei ⊢
      have tp : ∀ S, tupD S (.lst (r ++ x)) = some (.tup (r ++ x)) := fun S => rfl
      simp only [exSs, exS, evE, evEs, getV_0, getV_s, bnd_ok, rcv_pop R.g0, if_true, pp, liftP_some, out_ok, setT_nm, nxO_some', sq_nx, List.set_cons_succ, List.set_cons_zero, ei, add, p_tuple, tp, oneR_some', List.length_cons, List.length_nil, sizeLine_eq, Nat.reduceAdd, Nat.reduceLeDiff, setN_cons, setN_nil]
      rw [set_app0]
    cases o with
    | none =>
      cases r with
      | nil =>
        have e : step (atm 5000) never ([] :: rows, none) [93] = some (rows, some (.tup [])) := rfl
        rw [e]
        dsimp only
        intro hlen
        rw [if_neg (by simp [exSs, exS, evE, evEs, evT, evC, evI, sizeLine_eq])]
        exact key [] (.inl ⟨rfl, rfl⟩) e rfl hlen
      | cons y r =>
        have e : step (atm 5000) never ((y :: r) :: rows, none) [93] = none := rfl
        rw [e]
        dsimp only
        rw [if_pos (by simp [exSs, exS, evE, evEs, evT, evC, evI, sizeLine_eq])]
    | some d =>
      have e : step (atm 5000) never (r :: rows, some d) [93] = some (rows, some (.tup (r ++ [d]))) := by cases r <;> rfl
      rw [e]
      dsimp only
      intro hlen
      rw [if_neg (by simp [exSs, exS, evE, evEs, evT, evC, evI, sizeLine_eq])]
      exact key [d] (.inr ⟨d, rfl, rfl⟩) e rfl hlen
end
end K53
end
section
set_option linter.all false
set_option autoImplicit false
set_option maxRecDepth 100000
set_option maxHeartbeats 1000000
/-! the law's own reader: the loop. -/
namespace K53
open PySem Mini
variable {P : Prog}
theorem in_semi {st : Sto} {c : Nat} : inD st (.str [c]) (.str [91, 93, 44, 59]) = some (delim c || c == 59) := by
  rw [in_sign]
  congr 1
  rw [Bool.eq_iff_iff]
  simp [exSs, exS, evE, evEs, evT, evC, evI, sizeLine_eq, delim, or_assoc]
def As : Sm := (.ife MD.l_law_read_7i (.cons 
    (.asg (.nm 6) (.ife (.call 10 (.cons (.var 3) .nil)) (.var 3) (.call 12 (.cons (.var 3) .nil)))) (.cons 
    (.ife MD.l_law_read_8i (.cons 
     (.ret (.lit (.non))) .nil) .nil) (.cons 
    (.par [2, 4, 3] (.cons (.vlst (.cons (.var 6) .nil)) (.cons (.lit (.bl false)) (.cons (.lit (.str [])) .nil)))) .nil))) .nil)
section
variable {st : Sto} {K L : Nat}
theorem body_d (P : Prog) (k : Nat) (t tok : Chs) (done : D) (ah : Bool) (c : Nat) (at' rw' : Option D) (S : Sto) (hc : (delim c || c == 59) = true) :
    exSs P.cs (callF P k) MD.l_law_read_9b (LE t st.length done tok ah (some (.str [c])) at' rw') S = ((exS P.cs (callF P k) As (LE t st.length done tok ah (some (.str [c])) at' rw') S).sq fun env S => (exS P.cs (callF P k) Bs env S).sq fun env S => .nx env S).sq fun env S => .nx env S := by
  have t0 : evT (callF P k) MD.l_law_read_0i (LE t st.length done tok ah (some (.str [c])) at' rw') S = .ok true S := by
    simp [exSs, exS, evE, evEs, evT, evC, evI, sizeLine_eq, MD.l_law_read_0i, in_semi, hc]
  have en : exSs P.cs (callF P k) .nil = fun env st => Out.nx env st := by
    funext env st
    rw [exSs]
  unfold MD.l_law_read_9b As Bs
  rw [exSs, exS, t0, out_ok, if_pos rfl, exSs, en]
  congr 1
theorem body_n (P : Prog) (k : Nat) (t tok : Chs) (done : D) (ah : Bool) (c : Nat) (at' rw' : Option D) (S : Sto) (hc : (delim c || c == 59) = false) (hl : tok.length < 16777216) :
    exSs P.cs (callF P k) MD.l_law_read_9b (LE t st.length done tok ah (some (.str [c])) at' rw') S = .nx (LE t st.length done (tok ++ [c]) ah (some (.str [c])) at' rw') S := by
  have t0 : evT (callF P k) MD.l_law_read_0i (LE t st.length done tok ah (some (.str [c])) at' rw') S = .ok false S := by
    simp [exSs, exS, evE, evEs, evT, evC, evI, sizeLine_eq, MD.l_law_read_0i, in_semi, hc]
  have g : decide (tok.length + [c].length ≤ sizeLine) = true := decide_eq_true (by rw [sizeLine_eq]; simp [exSs, exS, evE, evEs, evT, evC, evI, sizeLine_eq]; omega)
  unfold MD.l_law_read_9b
  rw [exSs, exS, t0, out_ok, if_neg Bool.false_ne_true]
  simp only [exSs, exS, evE, evEs, getV_0, getV_s, bnd_ok, p_add_ss, g, guardR_true, liftP_some, out_ok, setT_nm, nxO_some', List.set_cons_succ, List.set_cons_zero, sq_nx]
theorem semi_B (P : Prog) (k : Nat) (t : Chs) (done : D) (ah : Bool) (at' rw' : Option D) (S : Sto) : exS P.cs (callF P k) Bs (LE t st.length done [] ah (some (.str [59])) at' rw') S = .nx (LE t st.length done [] ah (some (.str [59])) at' rw') S := by
  unfold Bs
  simp [exSs, exS, evE, evEs, evT, evC, evI, sizeLine_eq, MD.l_law_read_1i, MD.l_law_read_3i, MD.l_law_read_5i]
def LoopOk (P : Prog) (k : Nat) (st : Sto) (t : Chs) (K L : Nat) (r : Option RS) (o : Out) : Prop :=
  match r with
  | some s' => ∃ l' is' m' done' sg at2 rw2, o = .nx (LE t st.length done' [] s'.2.isNone sg at2 rw2) (st ++ l') ∧ LR st.length K L m' l' s' is' ∧ doneOk s' done'
  | none => ∃ l', o = .ret .non (st ++ l')
theorem l_loop (h : LW P) (k : Nat) (hL : L ≤ 60) (hK : 5000 ≤ K) (t : Chs) : ∀ (cs tok : Chs) (s : RS) (l : Sto) (is : List Nat) (m : Nat) (done : D) (sg at' rw' : Option D), LR st.length K L m l s is → doneOk s done → hb L s.1.length cs → rb 4300 tok.length cs → (∀ c ∈ tok, delim c = false) → (∀ c ∈ cs, c ≠ 59) → m + cs.length < 9000000 →
    LoopOk P k st t K L (runs (atm 5000) never (pcs tok cs) s) (forL [] (.nm 5) (exSs P.cs (callF P (k + 2)) MD.l_law_read_9b) ((cs ++ [59]).map fun c => .str [c]) (LE t st.length done tok s.2.isNone sg at' rw') (st ++ l))
  | [], tok, s, l, is, m, done, sg, at', rw', R, hd, hh, hr, ht, hc, hm => by
    have fl := l_flush (st := st) h k t tok done 59 at' rw' s hd (fun z => ⟨z, ht⟩) (rb_le hr) (st ++ l)
    have e1 : pcs tok [] = if tok = [] then [] else [tok] := by rw [pcs]
    rw [e1, List.nil_append, List.map_cons, List.map_nil, forL_cons, setT_nm]
    dsimp only
    have e2 : (LE t st.length done tok s.2.isNone sg at' rw').set 5 (some (.str [59])) = LE t st.length done tok s.2.isNone (some (.str [59])) at' rw' := rfl
    rw [e2, body_d P (k + 2) t tok done s.2.isNone 59 at' rw' (st ++ l) rfl]
    unfold LoopOk
    cases q : runs (atm 5000) never (if tok = [] then [] else [tok]) s with
    | none =>
      rw [q] at fl
      have fl : exS P.cs (callF P (k + 2)) As (LE t st.length done tok s.2.isNone (some (.str [59])) at' rw') (st ++ l) = .ret .non (st ++ l) := fl
      rw [fl, sq_ret, sq_ret]
      exact ⟨l, rfl⟩
    | some s' =>
      rw [q] at fl
      obtain ⟨f1, done', at2, f2, f3⟩ := fl
      have f2 : exS P.cs (callF P (k + 2)) As (LE t st.length done tok s.2.isNone (some (.str [59])) at' rw') (st ++ l) = _ := f2
      rw [f2, sq_nx, semi_B, sq_nx, sq_nx]
      dsimp only
      rw [forL_nil]
      have fo := flush_ok (fun _ d m e => wd_mono hK d m m (Nat.le_refl _) (atm_len e m (by decide))) (fun z => ⟨z, ht⟩) R.ok (by have := hb_le hh; omega) q
      exact ⟨l, is, m, done', _, _, _, rfl, ⟨R.r0, R.nd, by rw [f1]; exact R.rows, fo.1, by rw [f1]; exact R.rl, R.il⟩, f3⟩
  | c :: cs, tok, s, l, is, m, done, sg, at', rw', R, hd, hh, hr, ht, hc, hm => by
    rw [List.length_cons] at hm
    have hc59 := hc c List.mem_cons_self
    have hcs : ∀ x ∈ cs, x ≠ 59 := fun x hx => hc x (List.mem_cons_of_mem _ hx)
    rw [List.cons_append, List.map_cons, forL_cons, setT_nm]
    dsimp only
    have e2 : (LE t st.length done tok s.2.isNone sg at' rw').set 5 (some (.str [c])) = LE t st.length done tok s.2.isNone (some (.str [c])) at' rw' := rfl
    rw [e2]
    have htl := rb_le hr
    by_cases dc : delim c = true
    · rw [body_d P (k + 2) t tok done s.2.isNone c at' rw' (st ++ l) (by rw [dc]; rfl)]
      have fl := l_flush (st := st) h k t tok done c at' rw' s hd (fun z => ⟨z, ht⟩) htl (st ++ l)
      have e1 : pcs tok (c :: cs) = (if tok = [] then [] else [tok]) ++ [c] :: pcs [] cs := by rw [pcs, if_pos dc]
      rw [e1, runs_app]
      unfold hb at hh
      unfold rb at hr
      rw [if_pos dc] at hr
      cases q : runs (atm 5000) never (if tok = [] then [] else [tok]) s with
      | none =>
        rw [q] at fl
        have fl : exS P.cs (callF P (k + 2)) As (LE t st.length done tok s.2.isNone (some (.str [c])) at' rw') (st ++ l) = .ret .non (st ++ l) := fl
        rw [fl, sq_ret, sq_ret, Option.bind_none]
        exact ⟨l, rfl⟩
      | some s1 =>
        rw [q] at fl
        obtain ⟨f1, done1, at2, f2, f3⟩ := fl
        have f2 : exS P.cs (callF P (k + 2)) As (LE t st.length done tok s.2.isNone (some (.str [c])) at' rw') (st ++ l) = _ := f2
        have fo := flush_ok (fun _ d m e => wd_mono hK d m m (Nat.le_refl _) (atm_len e m (by decide))) (fun z => ⟨z, ht⟩) R.ok (by omega) q
        have R1 : LR st.length K L m l s1 is := ⟨R.r0, R.nd, by rw [f1]; exact R.rows, fo.1, by rw [f1]; exact R.rl, R.il⟩
        rw [f2, sq_nx, Option.bind_some, runs]
        have ls : LStep P (k + 2) st l t K L m c done1 at2 rw' s1 := by
          have d3 : c = 91 ∨ c = 93 ∨ c = 44 := by
            simp [exSs, exS, evE, evEs, evT, evC, evI, sizeLine_eq, delim, or_assoc] at dc
            exact dc
          rcases d3 with rfl | rfl | rfl
          · exact l_open (k + 2) t done1 at2 rw' hL hK R1 (by omega) f3
          · exact l_close (k + 2) t done1 at2 rw' hL hK R1 (by omega) f3
          · exact l_comma (k + 2) t done1 at2 rw' hL hK R1 (by omega) f3
        unfold LStep at ls
        cases z : step (atm 5000) never s1 [c] with
        | none =>
          rw [z] at ls
          dsimp only at ls
          rw [ls, sq_ret, sq_ret, Option.bind_none]
          exact ⟨l, rfl⟩
        | some s2 =>
          rw [z] at ls
          have sl := step_len z
          rw [dl_piece, f1] at sl
          have hle := hb_le hh.2
          obtain ⟨l2, is2, done2, rw2, g1, g2, g3⟩ := ls (by omega)
          rw [g1, sq_nx, sq_nx, Option.bind_some]
          dsimp only
          exact l_loop h k hL hK t cs [] s2 l2 is2 (m + 1) done2 _ at2 rw2 g2 g3 (by rw [sl]; exact hh.2) hr.2 (fun x hx => nomatch hx) hcs (by omega)
    · have dc : delim c = false := by simpa [exSs, exS, evE, evEs, evT, evC, evI, sizeLine_eq] using dc
      have e1 : pcs tok (c :: cs) = pcs (tok ++ [c]) cs := by rw [pcs, if_neg (by rw [dc]; exact Bool.false_ne_true)]
      rw [body_n P (k + 2) t tok done s.2.isNone c at' rw' (st ++ l) (by rw [dc]; simpa [exSs, exS, evE, evEs, evT, evC, evI, sizeLine_eq] using hc59) (by omega), e1]
      dsimp only
      unfold hb at hh
      unfold rb at hr
      rw [if_neg (by rw [dc]; exact Bool.false_ne_true)] at hr
      have e : dl c = 0 := by
        simp [exSs, exS, evE, evEs, evT, evC, evI, sizeLine_eq, delim] at dc
        simp [exSs, exS, evE, evEs, evT, evC, evI, sizeLine_eq, dl, dc]
      rw [e, Int.add_zero] at hh
      exact l_loop h k hL hK t cs (tok ++ [c]) s l is m done _ at' rw' R hd hh.2 (by simpa [exSs, exS, evE, evEs, evT, evC, evI, sizeLine_eq] using hr) (fun x hx => by
        rcases List.mem_append.mp hx with z | z
        · exact ht x z
        · rw [List.mem_singleton.mp z]
          exact dc) hcs (by omega)
end
mutual
theorem below_wd (n k : Nat) : ∀ (d : D) (m : Nat), wd n m d = true → below k d = true
  | .str s, m, e => by simp only [below]
  | .int i, m, e => by simp only [below]
  | .tup xs, m, e => by
    rw [wd, Bool.and_eq_true] at e
    rw [below]
    exact belows_wd n k xs (m - 1) e.2
  | .non, m, e => by simp [exSs, exS, evE, evEs, evT, evC, evI, sizeLine_eq, wd] at e
  | .bl b, m, e => by simp [exSs, exS, evE, evEs, evT, evC, evI, sizeLine_eq, wd] at e
  | .lst xs, m, e => by simp [exSs, exS, evE, evEs, evT, evC, evI, sizeLine_eq, wd] at e
  | .ro xs, m, e => by simp [exSs, exS, evE, evEs, evT, evC, evI, sizeLine_eq, wd] at e
  | .ref i, m, e => by simp [exSs, exS, evE, evEs, evT, evC, evI, sizeLine_eq, wd] at e
  | .fn i, m, e => by simp [exSs, exS, evE, evEs, evT, evC, evI, sizeLine_eq, wd] at e
  | .dic t ks vs, m, e => by simp [exSs, exS, evE, evEs, evT, evC, evI, sizeLine_eq, wd] at e
  | .ct xs, m, e => by simp [exSs, exS, evE, evEs, evT, evC, evI, sizeLine_eq, wd] at e
theorem belows_wd (n k : Nat) : ∀ (xs : List D) (m : Nat), wds n m xs = true → belows k xs = true
  | [], m, e => by rw [belows]
  | x :: xs, m, e => by
    rw [wds, Bool.and_eq_true] at e
    rw [belows, below_wd n k x m e.1, belows_wd n k xs m e.2]
    rfl
end
def oneD : Option D → D
  | some d => .lst [d]
  | none => .non
theorem law_read_is (h : LW P) (k : Nat) (st : Sto) (t : Chs) {L : Nat} (hL : L ≤ 60) (hh : hb L 0 t) (hr : rb 4300 0 t) (h59 : 59 ∉ t) (hl : t.length ≤ 1000000) :
    callF P (k + 3) 13 [.str t] st = .ok (oneD (rd (atm 5000) never t)) st := by
  rw [callF_at h.f13 rfl]
  have hz : t.length ≤ sizeLine := by rw [sizeLine_eq]; omega
  have R0 : LR st.length 5000 L 0 [.lst []] ([], none) [] := ⟨rfl, List.nodup_nil, .nil, ok0 _ _, (fun r hr => nomatch hr), Nat.le_refl _⟩
  have lp := l_loop h k hL (Nat.le_refl _) t t [] ([], none) [.lst []] [] 0 (.lst []) none none none R0 (fun d e => nomatch e) hh hr (fun c hc => nomatch hc) (fun c hc z => h59 (z ▸ hc)) (by omega)
  simp only [MD.f_law_read, MD.b_law_read, show startE 8 [D.str t] = [some (.str t), none, none, none, none, none, none, none] from rfl]
  have e0 : exS P.cs (callF P (k + 2)) (.asg (.tp (.cons (.nm 1) (.cons (.nm 2) (.cons (.nm 3) (.cons (.nm 4) .nil))))) (.tup (.cons (.lst .nil) (.cons (.vlst .nil) (.cons (.lit (.str [])) (.cons (.lit (.bl true)) .nil)))))) [some (.str t), none, none, none, none, none, none, none] st = .nx (LE t st.length (.lst []) [] true none none none) (st ++ [.lst []]) := by
    simp [exSs, exS, evE, evEs, evT, evC, evI, sizeLine_eq]
  have it : evI (callF P (k + 2)) (.seq (.pr .add (.cons (.var 0) (.cons (.lit (.str [59])) .nil)))) (LE t st.length (.lst []) [] true none none none) (st ++ [.lst []]) = .ok ((t ++ [59]).map fun c => .str [c], []) (st ++ [.lst []]) := by
    have g : decide (t.length + [59].length ≤ sizeLine) = true := decide_eq_true (by rw [sizeLine_eq]; simp [exSs, exS, evE, evEs, evT, evC, evI, sizeLine_eq]; omega)
    simp only [evI, evE, evEs, getV_0, bnd_ok, p_add_ss, g, guardR_true, liftP_some, itemsOf, srcOf]
  rw [exSs, e0, sq_nx, exSs, exS, it, out_ok]
  unfold rd
  unfold LoopOk at lp
  cases q : runs (atm 5000) never (pcs [] t) ([], none) with
  | none =>
    rw [q] at lp
    obtain ⟨l', e1⟩ := lp
    have e1 : forL [] (.nm 5) (exSs P.cs (callF P (k + 2)) MD.l_law_read_9b) ((t ++ [59]).map fun c => .str [c]) (LE t st.length (.lst []) [] true none none none) (st ++ [.lst []]) = _ := e1
    rw [e1, sq_ret, Option.bind_none]
    exact finish_app st l' (by simp only [below])
  | some s' =>
    rw [q] at lp
    obtain ⟨l', is', m', done', sg, at2, rw2, e1, R', hd⟩ := lp
    have e1 : forL [] (.nm 5) (exSs P.cs (callF P (k + 2)) MD.l_law_read_9b) ((t ++ [59]).map fun c => .str [c]) (LE t st.length (.lst []) [] true none none none) (st ++ [.lst []]) = _ := e1
    rw [e1, sq_nx, Option.bind_some, exSs, exS]
    have re := rows_eqv hL R'
    have ni : ∀ S, inD S (.str [59]) (.str t) = some false := fun S => by
      rw [in_sign, decide_eq_false h59]
    obtain ⟨rows, o⟩ := s'
    cases rows with
    | cons r rows =>
      have ev : evE (callF P (k + 2)) (.ife (.andE (.pr .eq (.cons (.var 1) (.cons (.vlst .nil) .nil))) (.andE (.notE (.var 4)) (.pr .notin (.cons (.lit (.str [59])) (.cons (.var 0) .nil))))) (.var 2) (.lit (.non))) (LE t st.length done' [] o.isNone sg at2 rw2) (st ++ l') = .ok .non (st ++ l') := by
        simp [exSs, exS, evE, evEs, evT, evC, evI, sizeLine_eq, re]
      rw [ev, out_ok, sq_ret]
      exact finish_app st l' (by simp only [below])
    | nil =>
      cases o with
      | none =>
        have ev : evE (callF P (k + 2)) (.ife (.andE (.pr .eq (.cons (.var 1) (.cons (.vlst .nil) .nil))) (.andE (.notE (.var 4)) (.pr .notin (.cons (.lit (.str [59])) (.cons (.var 0) .nil))))) (.var 2) (.lit (.non))) (LE t st.length done' [] (none : Option D).isNone sg at2 rw2) (st ++ l') = .ok .non (st ++ l') := by
          simp [exSs, exS, evE, evEs, evT, evC, evI, sizeLine_eq, re]
        rw [ev, out_ok, sq_ret]
        exact finish_app st l' (by simp only [below])
      | some d =>
        have hdn := hd d rfl
        subst hdn
        have ev : evE (callF P (k + 2)) (.ife (.andE (.pr .eq (.cons (.var 1) (.cons (.vlst .nil) .nil))) (.andE (.notE (.var 4)) (.pr .notin (.cons (.lit (.str [59])) (.cons (.var 0) .nil))))) (.var 2) (.lit (.non))) (LE t st.length (.lst [d]) [] (some d : Option D).isNone sg at2 rw2) (st ++ l') = .ok (.lst [d]) (st ++ l') := by
          simp [exSs, exS, evE, evEs, evT, evC, evI, sizeLine_eq, re, ni]
        rw [ev, out_ok, sq_ret]
        have w := R'.ok.2 d rfl
        exact finish_app st l' (by rw [below, belows, belows, below_wd _ _ d _ w]; rfl)
end K53
end
section
set_option linter.all false
set_option autoImplicit false
set_option maxRecDepth 100000
set_option maxHeartbeats 1000000
/-! datatext: read_data. -/
namespace K53
open PySem Mini
variable {P : Prog}
section
variable {st l : Sto} {s : RS} {m : Nat} {is : List Nat}
theorem call_item (cl : Call) (env : Mini.Env) (v : D) (l : Sto) (r : Res D) (e : Ex) (he : evE cl e env (st ++ l) = .ok v (st ++ l)) (h0 : getV env 0 = some (.ref st.length)) (hi : insB 0 (.ref st.length) (st ++ l) = true) (hc : cl 17 [.ref st.length, v] (st ++ l) = r) :
    evE cl (.mcall 0 17 (.var 0) (.cons e .nil)) env (st ++ l) = r := by
  simp [exSs, exS, evE, evEs, evT, evC, evI, sizeLine_eq, h0, he, hi, hc]
theorem call_itemX (cl : Call) (env : Mini.Env) (l : Sto) (x : Exc) (e : Ex) (he : evE cl e env (st ++ l) = .exc x (st ++ l)) (h0 : getV env 0 = some (.ref st.length)) (hi : insB 0 (.ref st.length) (st ++ l) = true) :
    evE cl (.mcall 0 17 (.var 0) (.cons e .nil)) env (st ++ l) = .exc x (st ++ l) := by
  simp [exSs, exS, evE, evEs, evT, evC, evI, sizeLine_eq, h0, he, hi]
/-- what take does with a piece that is no bracket, no comma -/
theorem take_atom (h : DT P) (k : Nat) (p : Chs) (hl : p.length ≤ sizeLine) (env : Mini.Env) (h1 : getV env 1 = some (.str p)) (st : Sto) :
    evE (callF P (k + 2)) (.ife (.call 1 (.cons (.var 1) .nil)) (.var 1) (.call 4 (.cons (.var 1) .nil))) env st = match atm 4000 p with
      | some d => .ok d st
      | none => .exc malf st := by
  have w := is_word_is h (k + 1) st (.str p) rfl (fun s e => by cases e; exact hl)
  have r := read_whole_is h (k + 1) st p hl
  have wd : wordD (.str p) = wordB p := rfl
  rw [wd] at w
  unfold atm
  cases q : wordB p with
  | true =>
    rw [q] at w
    simp [exSs, exS, evE, evEs, evT, evC, evI, sizeLine_eq, h1, w]
  | false =>
    rw [q] at w
    by_cases c : numB p = true ∧ (bodyT p).length ≤ 4000
    · rw [if_pos c] at r
      simp [exSs, exS, evE, evEs, evT, evC, evI, sizeLine_eq, h1, w, r, c]
    · rw [if_neg c] at r
      simp [exSs, exS, evE, evEs, evT, evC, evI, sizeLine_eq, h1, w, r, c]
theorem take_is (h : DT P) (k : Nat) (p : Chs) (hl : p.length ≤ sizeLine) (R : RD st.length m l s is) (hm : m < 9000000) :
    match step (atm 4000) full s p with
    | some s' => ∃ l' is', callF P (k + 4) 21 [.ref st.length, .str p] (st ++ l) = .ok .non (st ++ l') ∧ RD st.length (m + 1) l' s' is'
    | none => callF P (k + 4) 21 [.ref st.length, .str p] (st ++ l) = .exc malf (st ++ l) := by
  obtain ⟨rows, o⟩ := s
  have hi := ev_insB_at R.g0
  have cf : callF P (k + 4) 21 [.ref st.length, .str p] (st ++ l) = Mini.finish (st ++ l) (exSs P.cs (callF P (k + 3)) MD.b_datatext_DataReader_take [some (.ref st.length), some (.str p)] (st ++ l)) := callF_at h.f21 rfl
  rw [cf]
  unfold step
  by_cases p1 : p = [91]
  · subst p1
    rw [if_pos rfl]
    have body : exSs P.cs (callF P (k + 3)) MD.b_datatext_DataReader_take [some (.ref st.length), some (.str [91])] (st ++ l) = ((callF P (k + 3) 18 [.ref st.length] (st ++ l)).out [some (.ref st.length), some (.str [91])] fun _ s => .nx [some (.ref st.length), some (.str [91])] s) := by
      cases q : callF P (k + 3) 18 [.ref st.length] (st ++ l) <;> simp [exSs, exS, evE, evEs, evT, evC, evI, sizeLine_eq, MD.b_datatext_DataReader_take, MD.l_datatext_DataReader_take_0i, hi, q]
    rw [body]
    cases o with
    | some d =>
      rw [open_no h (k + 2) R (.inl (by simp [exSs, exS, evE, evEs, evT, evC, evI, sizeLine_eq]))]
      exact finish_exc ..
    | none =>
      dsimp only
      by_cases c : full rows.length = true
      · rw [if_pos c, open_no h (k + 2) R (.inr (of_decide_eq_true c))]
        exact finish_exc ..
      · rw [if_neg c]
        have c : rows.length < 1000 := by
          unfold full at c
          simpa [exSs, exS, evE, evEs, evT, evC, evI, sizeLine_eq] using c
        obtain ⟨l', c1, c2, c3⟩ := open_is h (k + 2) rows R (by omega) c
        refine ⟨l', _, ?_, c3⟩
        rw [c1]
        exact finish_keepN c2
  · rw [if_neg p1]
    by_cases p3 : p = [93]
    · subst p3
      rw [if_neg (by decide), if_pos rfl]
      have body : exSs P.cs (callF P (k + 3)) MD.b_datatext_DataReader_take [some (.ref st.length), some (.str [93])] (st ++ l) = ((callF P (k + 3) 19 [.ref st.length] (st ++ l)).out [some (.ref st.length), some (.str [93])] fun _ s => .nx [some (.ref st.length), some (.str [93])] s) := by
        cases q : callF P (k + 3) 19 [.ref st.length] (st ++ l) <;> simp [exSs, exS, evE, evEs, evT, evC, evI, sizeLine_eq, MD.b_datatext_DataReader_take, MD.l_datatext_DataReader_take_0i, MD.l_datatext_DataReader_take_1i, hi, q]
      rw [body]
      cases rows with
      | nil =>
        rw [close_no h (k + 2) R (.inl rfl)]
        exact finish_exc ..
      | cons r rows =>
        cases o with
        | some d =>
          obtain ⟨l', is', c1, c2, c3⟩ := close_is h (k + 1) (r ++ [d]) rows R hm rfl rfl (fun z => nomatch z)
          have key : ∃ l' is', Mini.finish (st ++ l) ((callF P (k + 3) 19 [.ref st.length] (st ++ l)).out [some (.ref st.length), some (.str [93])] fun _ s => .nx [some (.ref st.length), some (.str [93])] s) = .ok .non (st ++ l') ∧ RD st.length (m + 1) l' (rows, some (D.tup (r ++ [d]))) is' := by
            refine ⟨l', is', ?_, c3⟩
            rw [c1]
            exact finish_sameN (by simp [exSs, exS, evE, evEs, evT, evC, evI, sizeLine_eq, c2])
          cases r <;> exact key
        | none =>
          cases r with
          | nil =>
            obtain ⟨l', is', c1, c2, c3⟩ := close_is h (k + 1) [] rows R hm rfl rfl (fun _ => rfl)
            refine ⟨l', is', ?_, c3⟩
            rw [c1]
            exact finish_sameN (by simp [exSs, exS, evE, evEs, evT, evC, evI, sizeLine_eq, c2])
          | cons x r =>
            rw [close_no h (k + 2) R (.inr ⟨x, r, rows, rfl⟩)]
            exact finish_exc ..
    · by_cases p2 : p = [44]
      · subst p2
        rw [if_pos rfl]
        have body : exSs P.cs (callF P (k + 3)) MD.b_datatext_DataReader_take [some (.ref st.length), some (.str [44])] (st ++ l) = ((callF P (k + 3) 20 [.ref st.length] (st ++ l)).out [some (.ref st.length), some (.str [44])] fun _ s => .nx [some (.ref st.length), some (.str [44])] s) := by
          cases q : callF P (k + 3) 20 [.ref st.length] (st ++ l) <;> simp [exSs, exS, evE, evEs, evT, evC, evI, sizeLine_eq, MD.b_datatext_DataReader_take, MD.l_datatext_DataReader_take_0i, MD.l_datatext_DataReader_take_1i, MD.l_datatext_DataReader_take_2i, hi, q]
        rw [body]
        cases rows with
        | nil =>
          rw [comma_no h (k + 2) R (.inr rfl)]
          exact finish_exc ..
        | cons r rows =>
          cases o with
          | none =>
            rw [comma_no h (k + 2) R (.inl rfl)]
            exact finish_exc ..
          | some d =>
            obtain ⟨l', c1, c2, c3⟩ := comma_is h (k + 2) r rows d R
            refine ⟨l', is, ?_, c3⟩
            rw [c1]
            exact finish_sameN (by simp [exSs, exS, evE, evEs, evT, evC, evI, sizeLine_eq, c2])
      · rw [if_neg p2, if_neg p3]
        have at' := take_atom h (k + 1) p hl [some (.ref st.length), some (.str p)] rfl (st ++ l)
        have body : ∀ r, evE (callF P (k + 3)) (.mcall 0 17 (.var 0) (.cons (.ife (.call 1 (.cons (.var 1) .nil)) (.var 1) (.call 4 (.cons (.var 1) .nil))) .nil)) [some (.ref st.length), some (.str p)] (st ++ l) = r →
            exSs P.cs (callF P (k + 3)) MD.b_datatext_DataReader_take [some (.ref st.length), some (.str p)] (st ++ l) = (r.out [some (.ref st.length), some (.str p)] fun _ s => .nx [some (.ref st.length), some (.str p)] s) := fun r hr => by
          have a1 : evT (callF P (k + 3)) MD.l_datatext_DataReader_take_0i [some (.ref st.length), some (.str p)] (st ++ l) = .ok false (st ++ l) := by simp [exSs, exS, evE, evEs, evT, evC, evI, sizeLine_eq, MD.l_datatext_DataReader_take_0i, p1]
          have a2 : evT (callF P (k + 3)) MD.l_datatext_DataReader_take_1i [some (.ref st.length), some (.str p)] (st ++ l) = .ok false (st ++ l) := by simp [exSs, exS, evE, evEs, evT, evC, evI, sizeLine_eq, MD.l_datatext_DataReader_take_1i, p3]
          have a3 : evT (callF P (k + 3)) MD.l_datatext_DataReader_take_2i [some (.ref st.length), some (.str p)] (st ++ l) = .ok false (st ++ l) := by simp [exSs, exS, evE, evEs, evT, evC, evI, sizeLine_eq, MD.l_datatext_DataReader_take_2i, p2]
          unfold MD.b_datatext_DataReader_take
          rw [exSs, exS, a1, out_ok, if_neg Bool.false_ne_true, exSs, exS, a2, out_ok, if_neg Bool.false_ne_true, exSs, exS, a3, out_ok, if_neg Bool.false_ne_true, exSs, exS, hr]
          cases r <;> simp [exSs, exS, evE, evEs, evT, evC, evI, sizeLine_eq]
        cases q : atm 4000 p with
        | none =>
          rw [q] at at'
          have at' : evE (callF P (k + 3)) (.ife (.call 1 (.cons (.var 1) .nil)) (.var 1) (.call 4 (.cons (.var 1) .nil))) [some (.ref st.length), some (.str p)] (st ++ l) = .exc malf (st ++ l) := at'
          have ex : Mini.finish (st ++ l) (exSs P.cs (callF P (k + 3)) MD.b_datatext_DataReader_take [some (.ref st.length), some (.str p)] (st ++ l)) = .exc malf (st ++ l) := by
            rw [body (.exc malf (st ++ l)) (call_itemX _ _ _ _ _ at' (getV_0 _ _) hi)]
            exact finish_exc ..
          cases o with
          | none => exact ex
          | some d => exact ex
        | some d =>
          rw [q] at at'
          have at' : evE (callF P (k + 3)) (.ife (.call 1 (.cons (.var 1) .nil)) (.var 1) (.call 4 (.cons (.var 1) .nil))) [some (.ref st.length), some (.str p)] (st ++ l) = .ok d (st ++ l) := at'
          cases o with
          | some d2 =>
            rw [body _ (call_item _ _ _ _ _ _ at' (getV_0 _ _) hi (item_no h (k + 2) d d2 rows R))]
            exact finish_exc ..
          | none =>
            obtain ⟨l', c1, c2, c3⟩ := item_is h (k + 2) d rows R (by omega)
            refine ⟨l', is, ?_, c3⟩
            rw [body _ (call_item _ _ _ _ _ _ at' (getV_0 _ _) hi c1)]
            exact finish_sameN (by simp [exSs, exS, evE, evEs, evT, evC, evI, sizeLine_eq, c2])
/-- piece by piece -/
theorem feed (h : DT P) (k : Nat) (v0 : Option D) : ∀ (ps : List Chs) (l : Sto) (s : RS) (m : Nat) (is : List Nat) (x : Option D), (∀ p ∈ ps, p.length ≤ sizeLine) → RD st.length m l s is → m + ps.length < 9000000 →
    match runs (atm 4000) full ps s with
    | some s' => ∃ l' m' is' x', forL [] (.nm 2) (exSs P.cs (callF P (k + 4)) MD.l_datatext_read_data_1b) (ps.map .str) [v0, some (.ref st.length), x] (st ++ l) = .nx [v0, some (.ref st.length), x'] (st ++ l') ∧ RD st.length m' l' s' is'
    | none => ∃ l' env', forL [] (.nm 2) (exSs P.cs (callF P (k + 4)) MD.l_datatext_read_data_1b) (ps.map .str) [v0, some (.ref st.length), x] (st ++ l) = .exc malf env' (st ++ l')
  | [], l, s, m, is, x, _, R, _ => ⟨l, m, is, x, forL_nil, R⟩
  | p :: ps, l, s, m, is, x, hp, R, hm => by
    rw [List.length_cons] at hm
    have hl := hp p List.mem_cons_self
    have tk := take_is h k p hl R (by omega)
    have hi := ev_insB_at R.g0
    have bd : exSs P.cs (callF P (k + 4)) MD.l_datatext_read_data_1b [v0, some (.ref st.length), some (.str p)] (st ++ l) = ((callF P (k + 4) 21 [.ref st.length, .str p] (st ++ l)).out [v0, some (.ref st.length), some (.str p)] fun _ s => .nx [v0, some (.ref st.length), some (.str p)] s) := by
      unfold MD.l_datatext_read_data_1b
      cases q : callF P (k + 4) 21 [.ref st.length, .str p] (st ++ l) <;> simp [exSs, exS, evE, evEs, evT, evC, evI, sizeLine_eq, hi, q]
    rw [runs, List.map_cons]
    cases q : step (atm 4000) full s p with
    | none =>
      rw [q] at tk
      dsimp only at tk
      refine ⟨l, [v0, some (.ref st.length), some (.str p)], ?_⟩
      rw [forL_cons]
      simp only [setT_nm, List.set_cons_succ, List.set_cons_zero]
      rw [bd, tk]
      rfl
    | some s1 =>
      rw [q] at tk
      obtain ⟨l1, is1, t1, R1⟩ := tk
      have ih := feed h k v0 ps l1 s1 (m + 1) is1 (some (.str p)) (fun p' h' => hp p' (List.mem_cons_of_mem _ h')) R1 (by omega)
      have fc : forL [] (.nm 2) (exSs P.cs (callF P (k + 4)) MD.l_datatext_read_data_1b) (.str p :: ps.map .str) [v0, some (.ref st.length), x] (st ++ l) = forL [] (.nm 2) (exSs P.cs (callF P (k + 4)) MD.l_datatext_read_data_1b) (ps.map .str) [v0, some (.ref st.length), some (.str p)] (st ++ l1) := by
        rw [forL_cons]
        simp only [setT_nm, List.set_cons_succ, List.set_cons_zero]
        rw [bd, t1]
        rfl
      rw [Option.bind_some, fc]
      exact ih
end
theorem pcs_len : ∀ (cs tok : Chs), (∀ p ∈ pcs tok cs, p.length ≤ tok.length + cs.length) ∧ (pcs tok cs).length ≤ 2 * cs.length + 1
  | [], tok => by
    unfold pcs
    split
    · exact ⟨fun p hp => (nomatch hp), by simp [exSs, exS, evE, evEs, evT, evC, evI, sizeLine_eq]⟩
    · exact ⟨fun p hp => by rw [List.mem_singleton.mp hp]; simp [exSs, exS, evE, evEs, evT, evC, evI, sizeLine_eq], by simp [exSs, exS, evE, evEs, evT, evC, evI, sizeLine_eq]⟩
  | c :: cs, tok => by
    unfold pcs
    split
    · obtain ⟨i1, i2⟩ := pcs_len cs []
      refine ⟨fun p hp => ?_, ?_⟩
      · rcases List.mem_append.mp hp with z | z
        · split at z
          · cases z
          · rw [List.mem_singleton.mp z]
            simp [exSs, exS, evE, evEs, evT, evC, evI, sizeLine_eq]
        · rcases List.mem_cons.mp z with rfl | z
          · simp [exSs, exS, evE, evEs, evT, evC, evI, sizeLine_eq]
            omega
          · have := i1 p z
            simp [exSs, exS, evE, evEs, evT, evC, evI, sizeLine_eq] at this ⊢
            omega
      · rw [List.length_append, List.length_cons]
        split
        · simp [exSs, exS, evE, evEs, evT, evC, evI, sizeLine_eq]
          omega
        · simp [exSs, exS, evE, evEs, evT, evC, evI, sizeLine_eq]
          omega
    · obtain ⟨i1, i2⟩ := pcs_len cs (tok ++ [c])
      refine ⟨fun p hp => ?_, ?_⟩
      · have := i1 p hp
        simp [exSs, exS, evE, evEs, evT, evC, evI, sizeLine_eq] at this ⊢
        omega
      · simp [exSs, exS, evE, evEs, evT, evC, evI, sizeLine_eq]
        omega
theorem read_data_no (h : DT P) (k : Nat) (st : Sto) (d : D) (hd : val d = true) (hs : kindD d ≠ .str) : callF P (k + 1) 6 [d] st = .exc malf st := by
  rw [callF_at h.f6 rfl]
  cases d <;> first | (cases hd; done) | exact absurd rfl hs | simp [exSs, exS, evE, evEs, evT, evC, evI, sizeLine_eq, MD.f_datatext_read_data, MD.b_datatext_read_data, startE, MD.l_datatext_read_data_2i, isiD, isK, kindD, h.cs, MD.cs, numOk, zipF, malf]
theorem read_data_is (h : DT P) (k : Nat) (st : Sto) (t : Chs) (hl : t.length ≤ 1000000) (hb : ∀ d, rd (atm 4000) full t = some d → below st.length d = true) :
    callF P (k + 5) 6 [.str t] st = match rd (atm 4000) full t with
      | some d => .ok d st
      | none => .exc malf st := by
  rw [callF_at h.f6 rfl]
  have hz : t.length ≤ sizeLine := by rw [sizeLine_eq]; omega
  have pl := pcs_len t []
  -- the reader is made
  have ini : callF P (k + 4) 16 [.ref st.length] (st ++ [.ins 0 []]) = .ok .non (st ++ [.ins 0 [.ref (st.length + 1), .bl true, .ref (st.length + 2)], .lst [], .lst []]) := by
    rw [callF_at h.f16 rfl]
    have e1 : (st ++ [SO.ins 0 []] ++ [SO.lst []]) = st ++ [SO.ins 0 [], SO.lst []] := by simp [exSs, exS, evE, evEs, evT, evC, evI, sizeLine_eq]
    have g1 : (st ++ [SO.ins 0 [], SO.lst []])[st.length]? = some (.ins 0 []) := get_app0 st _
    have s1 := setFld_new (.ref (st.length + 1)) g1
    rw [set_app0] at s1
    have g2 : (st ++ [SO.ins 0 [.ref (st.length + 1)], SO.lst []])[st.length]? = some (.ins 0 [.ref (st.length + 1)]) := get_app0 st _
    have s2 := setFld_new (.bl true) g2
    rw [set_app0] at s2
    have e3 : (st ++ [SO.ins 0 [.ref (st.length + 1), .bl true], SO.lst []] ++ [SO.lst []]) = st ++ [SO.ins 0 [.ref (st.length + 1), .bl true], SO.lst [], SO.lst []] := by simp [exSs, exS, evE, evEs, evT, evC, evI, sizeLine_eq]
    have g3 : (st ++ [SO.ins 0 [.ref (st.length + 1), .bl true], SO.lst [], SO.lst []])[st.length]? = some (.ins 0 [.ref (st.length + 1), .bl true]) := get_app0 st _
    have s3 := setFld_new (.ref (st.length + 2)) g3
    rw [set_app0] at s3
    have nc : ¬ canCut (st ++ [.ins 0 []]) (st ++ [.ins 0 [.ref (st.length + 1), .bl true, .ref (st.length + 2)], .lst [], .lst []]) := by
      refine not_cut (i := st.length) (o := .ins 0 [.ref (st.length + 1), .bl true, .ref (st.length + 2)]) (by simp [exSs, exS, evE, evEs, evT, evC, evI, sizeLine_eq]) (get_app0 st _) (by rw [get_app0]; simp [exSs, exS, evE, evEs, evT, evC, evI, sizeLine_eq]) ?_
      simp [exSs, exS, evE, evEs, evT, evC, evI, sizeLine_eq, soBelow, belows, below]
    have l1 : (st ++ [SO.ins 0 []]).length = st.length + 1 := by simp [exSs, exS, evE, evEs, evT, evC, evI, sizeLine_eq]
    have l2 : (st ++ [SO.ins 0 [.ref (st.length + 1), .bl true], SO.lst []]).length = st.length + 2 := by simp [exSs, exS, evE, evEs, evT, evC, evI, sizeLine_eq]
    have b : exSs P.cs (callF P (k + 3)) MD.b_datatext_DataReader_init [some (.ref st.length)] (st ++ [.ins 0 []]) = .nx [some (.ref st.length)] (st ++ [.ins 0 [.ref (st.length + 1), .bl true, .ref (st.length + 2)], .lst [], .lst []]) := by
      unfold MD.b_datatext_DataReader_init
      simp only [List.length_nil, List.length_singleton, List.length_cons, List.nil_append, List.set_cons_zero, List.cons_append, Nat.zero_add, Nat.reduceAdd] at s1 s2 s3
      simp only [exSs, exS, evE, evEs, getV_0, bnd_ok, List.length_nil, Nat.zero_le, if_true, out_ok, e1, l1, s1, stO, sq_nx, s2, e3, l2, s3]
    have st' : startE 1 [D.ref st.length] = [some (.ref st.length)] := rfl
    show Mini.finish _ (exSs P.cs (callF P (k + 3)) MD.b_datatext_DataReader_init (startE 1 [D.ref st.length]) _) = _
    rw [st', b]
    exact finish_keepN nc
  have R0 : RD st.length 0 [.ins 0 [.ref (st.length + 1), .bl true, .ref (st.length + 2)], .lst [], .lst []] ([], none) [] := ⟨rfl, rfl, rfl, List.nodup_nil, .nil, (fun r hr => nomatch hr), Nat.le_refl _⟩
  have pi := pieces_is h (k + 3) (st ++ [.ins 0 [.ref (st.length + 1), .bl true, .ref (st.length + 2)], .lst [], .lst []]) t hl
  have fd := feed (st := st) h k (some (.str t)) (pcs [] t) _ ([], none) 0 [] none (fun p hp => by have := pl.1 p hp; rw [sizeLine_eq]; simp [exSs, exS, evE, evEs, evT, evC, evI, sizeLine_eq] at this; omega) R0 (by omega)
  have t2 : ∀ s, evT (callF P (k + 4)) MD.l_datatext_read_data_2i [some (.str t), none, none] s = .ok false s := fun s => by simp [exSs, exS, evE, evEs, evT, evC, evI, sizeLine_eq, MD.l_datatext_read_data_2i, isiD, isK, kindD]
  have nw : evE (callF P (k + 4)) (.new 0 16 .nil) [some (.str t), none, none] st = .ok (.ref st.length) (st ++ [.ins 0 [.ref (st.length + 1), .bl true, .ref (st.length + 2)], .lst [], .lst []]) := by
    simp only [evE, evEs, bnd_ok, ini]
  have it : evI (callF P (k + 4)) (.seq (.call 5 (.cons (.var 0) .nil))) [some (.str t), some (.ref st.length), none] (st ++ [.ins 0 [.ref (st.length + 1), .bl true, .ref (st.length + 2)], .lst [], .lst []]) = .ok ((pcs [] t).map .str, []) (st ++ [.ins 0 [.ref (st.length + 1), .bl true, .ref (st.length + 2)], .lst [], .lst []]) := by
    simp [exSs, exS, evE, evEs, evT, evC, evI, sizeLine_eq, pi, itemsOf, srcOf]
  simp only [MD.f_datatext_read_data, MD.b_datatext_read_data, show startE 3 [D.str t] = [some (.str t), none, none] from rfl]
  rw [exSs, exS, t2, out_ok, if_neg Bool.false_ne_true, exSs, sq_nx, exSs, exS, nw, out_ok]
  simp only [setT_nm, nxO_some', List.set_cons_succ, List.set_cons_zero, sq_nx]
  rw [exSs, exS, it, out_ok]
  unfold rd at hb ⊢
  cases q : runs (atm 4000) full (pcs [] t) ([], none) with
  | none =>
    rw [q] at fd
    obtain ⟨l', env', f1⟩ := fd
    rw [f1, sq_exc, Option.bind_none]
    exact finish_appX st l' (by simp [exSs, exS, evE, evEs, evT, evC, evI, sizeLine_eq, malf, belows])
  | some s' =>
    rw [q] at fd hb
    obtain ⟨l', m', is', x', f1, R'⟩ := fd
    rw [f1, sq_nx, Option.bind_some]
    rw [Option.bind_some] at hb
    have g2 : (st ++ l')[st.length + 2]? = some (.lst (told s')) := by rw [get_app, R'.told]
    have ln := len_at R'.g1
    have lt := len_at g2
    have il := R'.lens
    have rz : ∀ env s, exS P.cs (callF P (k + 4)) (.raise 1 .nil) env s = .exc malf env s := fun env s => raise1 h s env _
    obtain ⟨rows, o⟩ := s'
    cases rows with
    | cons r rows =>
      have c : (0 : Int) < (is'.length : Int) := by
        simp [exSs, exS, evE, evEs, evT, evC, evI, sizeLine_eq] at il
        omega
      have t0 : evT (callF P (k + 4)) MD.l_datatext_read_data_0i [some (.str t), some (.ref st.length), x'] (st ++ l') = .ok true (st ++ l') := by
        simp [exSs, exS, evE, evEs, evT, evC, evI, sizeLine_eq, MD.l_datatext_read_data_0i, R'.f0, ln]
        simp [exSs, exS, evE, evEs, evT, evC, evI, sizeLine_eq] at il
        intro z
        subst z
        cases il
      rw [exSs, exS, t0, out_ok, if_pos rfl, exSs, rz, sq_exc, sq_exc]
      exact finish_appX st l' (by simp [exSs, exS, evE, evEs, evT, evC, evI, sizeLine_eq, malf, belows])
    | nil =>
      have e0 : is' = [] := List.eq_nil_of_length_eq_zero il
      subst e0
      cases o with
      | none =>
        have t0 : evT (callF P (k + 4)) MD.l_datatext_read_data_0i [some (.str t), some (.ref st.length), x'] (st ++ l') = .ok true (st ++ l') := by
          simp [exSs, exS, evE, evEs, evT, evC, evI, sizeLine_eq, MD.l_datatext_read_data_0i, R'.f0, R'.f2, ln, lt, told]
        rw [exSs, exS, t0, out_ok, if_pos rfl, exSs, rz, sq_exc, sq_exc]
        exact finish_appX st l' (by simp [exSs, exS, evE, evEs, evT, evC, evI, sizeLine_eq, malf, belows])
      | some d =>
        have t0 : evT (callF P (k + 4)) MD.l_datatext_read_data_0i [some (.str t), some (.ref st.length), x'] (st ++ l') = .ok false (st ++ l') := by
          simp [exSs, exS, evE, evEs, evT, evC, evI, sizeLine_eq, MD.l_datatext_read_data_0i, R'.f0, R'.f2, ln, lt, told]
        have at0 : atD (st ++ l') (.ref (st.length + 2)) 0 = some d := by
          rw [at_ref, listOf_at' g2, Option.bind_some]
          exact atI_nat [d] 0
        rw [exSs, exS, t0, out_ok, if_neg Bool.false_ne_true, exSs, sq_nx, exSs, exS]
        simp only [evE, evEs, getV_0, getV_s, bnd_ok, R'.f2, p_ix, at0, oneR_some', liftP_some, out_ok, sq_ret]
        exact finish_app st l' (hb d rfl)
end K53
end
section
set_option linter.all false
set_option autoImplicit false
set_option maxRecDepth 100000
set_option maxHeartbeats 1000000
/-! the law's own text; what it is told. -/
namespace K53
open PySem Mini
variable {P : Prog}
theorem join_Wt : ∀ xs : List D, (match xs with
    | [] => []
    | _ => 44 :: joinL [44] (xs.map W)) = Wt xs
  | [] => by rw [Wt]
  | [x] => by
    rw [Wt, Wt]
    simp [exSs, exS, evE, evEs, evT, evC, evI, sizeLine_eq, joinL]
  | x :: y :: r => by
    have ih := join_Wt (y :: r)
    dsimp only at ih ⊢
    rw [Wt, ← ih]
    simp [exSs, exS, evE, evEs, evT, evC, evI, sizeLine_eq, joinL]
theorem join_W (xs : List D) : joinL [44] (xs.map W) = Wl xs := by
  cases xs with
  | nil => rw [Wl]; rfl
  | cons x r =>
    rw [Wl, ← join_Wt r]
    cases r with
    | nil => simp [exSs, exS, evE, evEs, evT, evC, evI, sizeLine_eq, joinL]
    | cons y ys => simp [exSs, exS, evE, evEs, evT, evC, evI, sizeLine_eq, joinL]
theorem sum_W : ∀ xs : List D, (((xs.map W)).map (·.length)).sum + xs.length ≤ (Wl xs).length + 1
  | [] => by simp [exSs, exS, evE, evEs, evT, evC, evI, sizeLine_eq]
  | [x] => by
    rw [Wl, Wt]
    simp [exSs, exS, evE, evEs, evT, evC, evI, sizeLine_eq]
  | x :: y :: r => by
    have ih := sum_W (y :: r)
    have e : Wl (x :: y :: r) = W x ++ 44 :: Wl (y :: r) := by rw [Wl, Wt, Wl]
    rw [e]
    simp only [List.map_cons, List.sum_cons, List.length_cons, List.length_append] at ih ⊢
    omega
theorem wl_mem {xs : List D} {x : D} (h : x ∈ xs) : (W x).length ≤ (Wl xs).length := by
  have key : ∀ xs : List D, x ∈ xs → (W x).length ≤ (Wt xs).length := by
    intro xs
    induction xs with
    | nil => intro h; cases h
    | cons y ys ih =>
      intro h
      rw [Wt, List.length_cons, List.length_append]
      rcases List.mem_cons.mp h with rfl | z
      · omega
      · have := ih z
        omega
  cases xs with
  | nil => cases h
  | cons y ys =>
    rw [Wl, List.length_append]
    rcases List.mem_cons.mp h with rfl | z
    · omega
    · have := key ys z
      omega
theorem wds_mem {n m : Nat} {xs : List D} {x : D} (h : wds n m xs = true) (hx : x ∈ xs) : wd n m x = true := by
  induction xs with
  | nil => cases hx
  | cons y ys ih =>
    rw [wds, Bool.and_eq_true] at h
    rcases List.mem_cons.mp hx with rfl | z
    · exact h.1
    · exact ih h.2 z
theorem non_in (st : Sto) (ys : List Chs) : inD st .non (.lst (ys.map .str)) = some false := by
  have h : ∀ ys : List Chs, (ys.map D.str).all flatD = true ∧ ((ys.map D.str).any fun z => eqD z .non) = false := by
    intro ys
    induction ys with
    | nil => exact ⟨rfl, rfl⟩
    | cons y ys ih => exact ⟨by rw [List.map_cons, List.all_cons, ih.1]; rfl, by rw [List.map_cons, List.any_cons, ih.2]; rfl⟩
  show (if flatD .non && (ys.map D.str).all flatD then some ((ys.map D.str).any fun z => eqD z .non) else none) = _
  rw [(h ys).1, (h ys).2]
  rfl
theorem written_is (h : LW P) (st : Sto) (n : Nat) (hn : n ≤ 4300) : ∀ (m : Nat) (d : D) (k : Nat), wd n m d = true → (W d).length ≤ 10000000 → callF P (k + m + 2) 11 [d] st = .ok (.str (W d)) st
  | m, .str s, k, e, hl => by
    rw [wd] at e
    rw [W] at hl ⊢
    rw [callF_at h.f11 rfl]
    have w := law_word_is h (k + m) st (.str s) rfl (fun x e => by cases e; rw [sizeLine_eq]; omega)
    have wd : wordD (.str s) = true := e
    rw [wd] at w
    simp [exSs, exS, evE, evEs, evT, evC, evI, sizeLine_eq, MD.f_law_written, MD.b_law_written, startE, MD.l_law_written_1i, MD.l_law_written_0i, isiD, isK, kindD, w]
  | m, .int i, k, e, hl => by
    rw [wd, decide_eq_true_eq] at e
    rw [W]
    rw [callF_at h.f11 rfl]
    have w := law_word_is h (k + m) st (.int i) rfl (fun x e => nomatch e)
    have wd : wordD (.int i) = false := rfl
    rw [wd] at w
    have sd : strD (.int i) = some (.str (strI i)) := by
      simp only [strD]
      rw [if_pos]
      unfold tenK
      exact Nat.lt_of_lt_of_le e (Nat.pow_le_pow_right (by decide) hn)
    simp [exSs, exS, evE, evEs, evT, evC, evI, sizeLine_eq, MD.f_law_written, MD.b_law_written, startE, MD.l_law_written_1i, MD.l_law_written_0i, isiD, isK, kindD, w, sd]
  | 0, .tup xs, k, e, hl => by simp [exSs, exS, evE, evEs, evT, evC, evI, sizeLine_eq, wd] at e
  | m + 1, .tup xs, k, e, hl => by
    rw [wd, Bool.and_eq_true, decide_eq_true_eq, Nat.add_sub_cancel] at e
    have hl0 := hl
    rw [W, List.length_cons, List.length_append, List.length_singleton] at hl
    have ih := fun x (hx : x ∈ xs) => written_is h st n hn m x k (wds_mem e.2 hx) (by have := wl_mem hx; omega)
    have sw := sum_W xs
    have hc : xs.length ≤ 10000001 := by omega
    rw [show k + (m + 1) + 2 = (k + m + 2) + 1 from by omega, callF_at h.f11 rfl]
    have cmp : evE (callF P (k + m + 2)) MD.l_law_written_2q [some (.tup xs), none, none] st = .ok (.lst (xs.map fun d => .str (W d))) st :=
      comp_seq (callF P (k + m + 2)) 2 (.var 0) [some (.tup xs), none, none] st (.tup xs) xs MD.l_law_written_2e (fun d => .str (W d)) (by simp [exSs, exS, evE, evEs, evT, evC, evI, sizeLine_eq]) rfl rfl (by rw [sizeLine_eq]; omega) (fun d hd => by
        have := ih d hd
        simp [exSs, exS, evE, evEs, evT, evC, evI, sizeLine_eq, MD.l_law_written_2e, wipeE, this])
    have em : (xs.map fun d => D.str (W d)) = (xs.map W).map .str := by simp [exSs, exS, evE, evEs, evT, evC, evI, sizeLine_eq]
    rw [em] at cmp
    have jn : prim .join [.str [44], .lst ((xs.map W).map .str)] st = some (.str (Wl xs), st) := by
      show joinD (.str [44]) (.lst _) _ = _
      simp only [joinD, seqOf, listOf_lst, Option.bind_some, chars_map]
      rw [decide_eq_true (by simp [exSs, exS, evE, evEs, evT, evC, evI, sizeLine_eq] at sw ⊢; omega), guardR_true, joinC_eq, join_W]
    have a1 : prim .add [.str [91], .str (Wl xs)] st = some (.str ([91] ++ Wl xs), st) := by
      rw [p_add_ss, decide_eq_true (by rw [sizeLine_eq]; simp [exSs, exS, evE, evEs, evT, evC, evI, sizeLine_eq]; omega), guardR_true]
    have a2 : prim .add [.str ([91] ++ Wl xs), .str [93]] st = some (.str ([91] ++ Wl xs ++ [93]), st) := by
      rw [p_add_ss, decide_eq_true (by rw [sizeLine_eq]; simp [exSs, exS, evE, evEs, evT, evC, evI, sizeLine_eq]; omega), guardR_true]
    have ni := non_in st (xs.map W)
    have t1 : evT (callF P (k + m + 2)) MD.l_law_written_1i [some (.tup xs), none, none] st = .ok true st := by simp [exSs, exS, evE, evEs, evT, evC, evI, sizeLine_eq, MD.l_law_written_1i, isiD, isK, kindD]
    have ew : [91] ++ Wl xs ++ [93] = W (.tup xs) := by
      rw [W]
      simp [exSs, exS, evE, evEs, evT, evC, evI, sizeLine_eq]
    rw [ew] at a2
    simp only [MD.f_law_written, MD.b_law_written, show startE 3 [D.tup xs] = [some (.tup xs), none, none] from rfl]
    rw [exSs, exS, t1, out_ok, if_pos rfl, exSs, exS, cmp, out_ok]
    simp only [setT_nm, nxO_some', sq_nx, List.set_cons_succ, List.set_cons_zero, exSs, exS, evE, evT, evEs, getV_0, getV_s, bnd_ok, p_isin, ni, boolR_some', liftP_some, truR_bl', Bool.false_eq_true, if_false, rcv, if_true, jn, a1, a2, out_ok, sq_ret, finish_ret]
  | m, .non, k, e, hl => by simp [exSs, exS, evE, evEs, evT, evC, evI, sizeLine_eq, wd] at e
  | m, .bl b, k, e, hl => by simp [exSs, exS, evE, evEs, evT, evC, evI, sizeLine_eq, wd] at e
  | m, .lst xs, k, e, hl => by simp [exSs, exS, evE, evEs, evT, evC, evI, sizeLine_eq, wd] at e
  | m, .ro xs, k, e, hl => by simp [exSs, exS, evE, evEs, evT, evC, evI, sizeLine_eq, wd] at e
  | m, .ref i, k, e, hl => by simp [exSs, exS, evE, evEs, evT, evC, evI, sizeLine_eq, wd] at e
  | m, .fn i, k, e, hl => by simp [exSs, exS, evE, evEs, evT, evC, evI, sizeLine_eq, wd] at e
  | m, .dic t ks vs, k, e, hl => by simp [exSs, exS, evE, evEs, evT, evC, evI, sizeLine_eq, wd] at e
  | m, .ct xs, k, e, hl => by simp [exSs, exS, evE, evEs, evT, evC, evI, sizeLine_eq, wd] at e
/-! told -/
theorem told_of (h : LW P) (k : Nat) (st : Sto) (w : Int) (d : D) (r : Option D)
    (hr : (if w = 0 then callF P (k + 1) 3 [d] st else callF P (k + 1) 6 [d] st) = match r with
      | some x => .ok x st
      | none => .exc malf st) : callF P (k + 2) 14 [.int w, d] st = .ok (oneD r) st := by
  rw [callF_at h.f14 rfl]
  have lit : ∀ x : D, (D.lst [x]) = D.lst [x] := fun _ => rfl
  by_cases hw : w = 0
  · subst hw
    rw [if_pos rfl] at hr
    cases r with
    | some x => simp [exSs, exS, evE, evEs, evT, evC, evI, sizeLine_eq, MD.f_law_told, MD.b_law_told, startE, hr, oneD]
    | none => simp [exSs, exS, evE, evEs, evT, evC, evI, sizeLine_eq, MD.f_law_told, MD.b_law_told, startE, hr, oneD, malf, hands, h.cs, MD.cs, isA, slotOk, evH]
  · rw [if_neg hw] at hr
    cases r with
    | some x => simp [exSs, exS, evE, evEs, evT, evC, evI, sizeLine_eq, MD.f_law_told, MD.b_law_told, startE, hr, oneD, hw]
    | none => simp [exSs, exS, evE, evEs, evT, evC, evI, sizeLine_eq, MD.f_law_told, MD.b_law_told, startE, hr, oneD, malf, hands, h.cs, MD.cs, isA, slotOk, evH, hw]
theorem told0 (h : LW P) (q : Nat) (st : Sto) (d : D) (hv : valA d = true) (hc : cst d < 15000000) (hl : wd 4000 1000 d = true → (W d).length ≤ 16000000) :
    callF P (q + 4) 14 [.int 0, d] st = .ok (oneD (if wd 4000 1000 d = true then some (.str (W d)) else none)) st := by
  refine told_of h (q + 2) st 0 d _ ?_
  rw [if_pos rfl, write_data_is h.toDT q st d hv hc hl]
  all_goals (cases wd 4000 1000 d <;> rfl)
theorem told1 (h : LW P) (k : Nat) (st : Sto) (t : Chs) (hl : t.length ≤ 1000000) : callF P (k + 6) 14 [.int 1, .str t] st = .ok (oneD (rd (atm 4000) full t)) st := by
  refine told_of h (k + 4) st 1 (.str t) _ ?_
  rw [if_neg (by decide), read_data_is h.toDT k st t hl (fun d e => below_wd _ _ d _ (rd_prog e))]
  all_goals (cases rd (atm 4000) full t <;> rfl)
theorem told1_no (h : LW P) (k : Nat) (st : Sto) (d : D) (hd : val d = true) (hs : kindD d ≠ .str) : callF P (k + 2) 14 [.int 1, d] st = .ok .non st := by
  refine told_of h k st 1 d none ?_
  rw [if_neg (by decide), read_data_no h.toDT k st d hd hs]
end K53
end
section
set_option linter.all false
set_option autoImplicit false
set_option maxRecDepth 100000
set_option maxHeartbeats 1000000
/-! the law's draws. -/
namespace K53
open PySem Mini
variable {P : Prog}
/-- a draw -/
structure Dr where
  c : List Int
  p : Int
  d : Int
  s : Int
def Dr.so (x : Dr) : SO := .lst [.lst (x.c.map .int), .int x.p, .int x.d, .int x.s]
structure Dr.Ok (x : Dr) : Prop where
  c : ∀ i ∈ x.c, 0 ≤ i
  p : -1 ≤ x.p
  d : 0 ≤ x.d
  s : 0 ≤ x.s ∧ x.s < 2147483647
theorem wide_small {i : Int} (h0 : 0 ≤ i) (h : i < 2147483647) : wide i 48271 = true := by
  unfold wide
  have h1 : i.natAbs.log2 < 32 := by
    by_cases z : i.natAbs = 0
    · rw [z]
      decide
    · exact (Nat.log2_lt z).mpr (by omega)
  have h2 : (48271 : Int).natAbs.log2 = 15 := by decide +kernel
  rw [decide_eq_true_eq, h2]
  omega
theorem ix4 (S : Sto) (x : Dr) (h : S[0]? = some x.so) : atD S (.ref 0) 0 = some (.lst (x.c.map .int)) ∧ atD S (.ref 0) 1 = some (.int x.p) ∧ atD S (.ref 0) 2 = some (.int x.d) ∧ atD S (.ref 0) 3 = some (.int x.s) := by
  have e : ∀ i, atD S (.ref 0) i = L2.atI [D.lst (x.c.map .int), .int x.p, .int x.d, .int x.s] i := fun i => by
    rw [at_ref, listOf_at' h, Option.bind_some]
  refine ⟨?_, ?_, ?_, ?_⟩
  · rw [e]; exact atI_nat _ 0
  · rw [e]; exact atI_nat _ 1
  · rw [e]; exact atI_nat _ 2
  · rw [e]; exact atI_nat _ 3
theorem set4 (x : Dr) (v : Int) : setIx (.ref 0) (.int 1) (.int v) [x.so] = some [Dr.so { x with p := v }] ∧ setIx (.ref 0) (.int 2) (.int v) [x.so] = some [Dr.so { x with d := v }] ∧ setIx (.ref 0) (.int 3) (.int v) [x.so] = some [Dr.so { x with s := v }] := by
  refine ⟨?_, ?_, ?_⟩ <;> rfl
abbrev TE (many : Int) (f : Option D) : Mini.Env := [some (.ref 0), some (.int many), f]
theorem fmod_nn {a b : Int} (hb : 0 < b) : 0 ≤ a.fmod b ∧ a.fmod b < b := by
  rw [Int.fmod_eq_emod_of_nonneg a (by omega)]
  exact ⟨Int.emod_nonneg a (by omega), Int.emod_lt_of_pos a hb⟩
/-- the digit stands: what take gives -/
theorem take_end (cs : Clss) (cl : Call) (x : Dr) (many : Int) (hm : 0 < many) (hm2 : many.natAbs.log2 < 9000) :
    exSs cs cl (.cons (.asg (.nm 2) (.pr .mod (.cons (.pr .int (.cons (.pr .ix (.cons (.var 0) (.cons (.lit (.int 2)) .nil))) .nil)) (.cons (.var 1) .nil)))) (.cons 
  (.asgIx (.var 0) (.lit (.int 2)) (.pr .fdiv (.cons (.pr .ix (.cons (.var 0) (.cons (.lit (.int 2)) .nil))) (.cons (.var 1) .nil)))) (.cons 
  (.ret (.var 2)) .nil))) (TE many none) [x.so] = .ret (.int (x.d.fmod many)) [Dr.so { x with d := x.d.fdiv many }] := by
  have i4 := ix4 [x.so] x rfl
  have s4 := (set4 x (x.d.fdiv many)).2.1
  have g1 : decide (many ≠ 0) = true := decide_eq_true (by omega)
  have g2 : decide (many.natAbs.log2 < 9000) = true := decide_eq_true hm2
  simp only [exSs, exS, evE, evEs, TE, getV_0, getV_s, bnd_ok, p_ix, i4.2.2.1, oneR_some', liftP_some, p_int, intD, p_mod, g1, guardR_true, out_ok, setT_nm, nxO_some', sq_nx, List.set_cons_succ, List.set_cons_zero, p_fdiv, g2, Bool.and_self, s4, sq_ret]
theorem take_ok (h : LW P) (k : Nat) (x : Dr) (hx : x.Ok) (many : Int) (hm : 0 < many) (hm2 : many.natAbs.log2 < 9000) :
    ∃ f x', callF P (k + 1) 8 [.ref 0, .int many] [x.so] = .ok (.int f) [Dr.so x'] ∧ 0 ≤ f ∧ f < many ∧ x'.Ok := by
  rw [callF_at h.f8 rfl]
  have st' : startE 3 [D.ref 0, .int many] = TE many none := rfl
  have fin : ∀ y : Dr, y.Ok → ∃ f x', Mini.finish [x.so] (exSs P.cs (callF P k) (.cons (.asg (.nm 2) (.pr .mod (.cons (.pr .int (.cons (.pr .ix (.cons (.var 0) (.cons (.lit (.int 2)) .nil))) .nil)) (.cons (.var 1) .nil)))) (.cons 
  (.asgIx (.var 0) (.lit (.int 2)) (.pr .fdiv (.cons (.pr .ix (.cons (.var 0) (.cons (.lit (.int 2)) .nil))) (.cons (.var 1) .nil)))) (.cons 
  (.ret (.var 2)) .nil))) (TE many none) [y.so]) = .ok (.int f) [Dr.so x'] ∧ 0 ≤ f ∧ f < many ∧ x'.Ok := fun y hy => by
    have fm := fmod_nn (a := y.d) hm
    refine ⟨y.d.fmod many, { y with d := y.d.fdiv many }, ?_, fm.1, fm.2, ⟨hy.c, hy.p, ?_, hy.s⟩⟩
    · rw [take_end P.cs (callF P k) y many hm hm2]
      exact finish_same rfl
    · show 0 ≤ y.d.fdiv many
      rw [Int.fdiv_eq_ediv_of_nonneg _ (by omega)]
      exact Int.ediv_nonneg hy.d (by omega)
  show ∃ f x', Mini.finish [x.so] (exSs P.cs (callF P k) MD.b_law_take (startE 3 [D.ref 0, .int many]) [x.so]) = .ok (.int f) [Dr.so x'] ∧ 0 ≤ f ∧ f < many ∧ x'.Ok
  rw [st']
  unfold MD.b_law_take
  have t0 : ∀ y : Dr, evT (callF P k) MD.l_law_take_0i (TE many none) [y.so] = .ok (y.d == 0) [y.so] := fun y => by
    have i4 := ix4 [y.so] y rfl
    simp [exSs, exS, evE, evEs, evT, evC, evI, sizeLine_eq, MD.l_law_take_0i, i4.2.2.1]
  have t1 : ∀ y : Dr, evT (callF P k) MD.l_law_take_1i (TE many none) [y.so] = .ok (y.d == 0) [y.so] := fun y => by
    have i4 := ix4 [y.so] y rfl
    simp [exSs, exS, evE, evEs, evT, evC, evI, sizeLine_eq, MD.l_law_take_1i, i4.2.2.1]
  rw [exSs, exS, t0, out_ok]
  by_cases c0 : x.d = 0
  · have e0 : (x.d == 0) = true := by simpa [exSs, exS, evE, evEs, evT, evC, evI, sizeLine_eq] using c0
    rw [e0, if_pos rfl]
    -- one place on
    have i4 := ix4 [x.so] x rfl
    have s1 := (set4 x (x.p + 1)).1
    have p1 : exS P.cs (callF P k) (.asgIx (.var 0) (.lit (.int 1)) (.pr .add (.cons (.pr .ix (.cons (.var 0) (.cons (.lit (.int 1)) .nil))) (.cons (.lit (.int 1)) .nil)))) (TE many none) [x.so] = .nx (TE many none) [Dr.so { x with p := x.p + 1 }] := by
      simp only [exS, evE, evEs, TE, getV_0, getV_s, bnd_ok, p_ix, i4.2.1, oneR_some', liftP_some, p_add_ii, out_ok, s1]
    rw [exSs, p1, sq_nx, exSs]
    have j4 := ix4 [Dr.so { x with p := x.p + 1 }] { x with p := x.p + 1 } rfl
    have t2 : evT (callF P k) MD.l_law_take_2i (TE many none) [Dr.so { x with p := x.p + 1 }] = .ok (decide (x.p + 1 < (x.c.length : Int))) [Dr.so { x with p := x.p + 1 }] := by
      simp [exSs, exS, evE, evEs, evT, evC, evI, sizeLine_eq, MD.l_law_take_2i, j4.1, j4.2.1]
    rw [exS, t2, out_ok]
    have fresh : ∀ y : Dr, y.Ok → ∃ f x', Mini.finish [x.so] (((exSs P.cs (callF P k) (.cons 
   (.ife MD.l_law_take_1i (.cons 
    (.asgIx (.var 0) (.lit (.int 3)) (.pr .mod (.cons (.pr .int (.cons (.pr .add (.cons (.pr .mul (.cons (.pr .ix (.cons (.var 0) (.cons (.lit (.int 3)) .nil))) (.cons (.lit (.int 48271)) .nil))) (.cons (.lit (.int 11)) .nil))) .nil)) (.cons (.lit (.int 2147483647)) .nil)))) (.cons 
    (.asgIx (.var 0) (.lit (.int 2)) (.pr .ix (.cons (.var 0) (.cons (.lit (.int 3)) .nil)))) .nil)) .nil) .nil) (TE many none) [y.so]).sq fun env st => (exSs P.cs (callF P k) (.cons (.asg (.nm 2) (.pr .mod (.cons (.pr .int (.cons (.pr .ix (.cons (.var 0) (.cons (.lit (.int 2)) .nil))) .nil)) (.cons (.var 1) .nil)))) (.cons 
  (.asgIx (.var 0) (.lit (.int 2)) (.pr .fdiv (.cons (.pr .ix (.cons (.var 0) (.cons (.lit (.int 2)) .nil))) (.cons (.var 1) .nil)))) (.cons 
  (.ret (.var 2)) .nil))) env st))) = .ok (.int f) [Dr.so x'] ∧ 0 ≤ f ∧ f < many ∧ x'.Ok := fun y hy => by
      rw [exSs, exS, t1, out_ok]
      by_cases c1 : y.d = 0
      · have e1 : (y.d == 0) = true := by simpa [exSs, exS, evE, evEs, evT, evC, evI, sizeLine_eq] using c1
        rw [e1, if_pos rfl]
        have k4 := ix4 [y.so] y rfl
        have fm := fmod_nn (a := y.s * 48271 + 11) (b := 2147483647) (by decide)
        have s3 := (set4 y ((y.s * 48271 + 11).fmod 2147483647)).2.2
        have wd := wide_small hy.s.1 hy.s.2
        have k4' := ix4 [Dr.so { y with s := (y.s * 48271 + 11).fmod 2147483647 }] _ rfl
        have s2 := (set4 { y with s := (y.s * 48271 + 11).fmod 2147483647 } ((y.s * 48271 + 11).fmod 2147483647)).2.1
        have b : exSs P.cs (callF P k) (.cons (.asgIx (.var 0) (.lit (.int 3)) (.pr .mod (.cons (.pr .int (.cons (.pr .add (.cons (.pr .mul (.cons (.pr .ix (.cons (.var 0) (.cons (.lit (.int 3)) .nil))) (.cons (.lit (.int 48271)) .nil))) (.cons (.lit (.int 11)) .nil))) .nil)) (.cons (.lit (.int 2147483647)) .nil)))) (.cons 
    (.asgIx (.var 0) (.lit (.int 2)) (.pr .ix (.cons (.var 0) (.cons (.lit (.int 3)) .nil)))) .nil)) (TE many none) [y.so] = .nx (TE many none) [Dr.so { y with s := (y.s * 48271 + 11).fmod 2147483647, d := (y.s * 48271 + 11).fmod 2147483647 }] := by
          have g : decide ((2147483647 : Int) ≠ 0) = true := by decide
          simp only [exSs, exS, evE, evEs, TE, getV_0, getV_s, bnd_ok, p_ix, k4.2.2.2, oneR_some', liftP_some, p_mul_ii, wd, guardR_true, p_add_ii, p_int, intD, p_mod, g, out_ok, s3, sq_nx, k4'.2.2.2, s2]
        rw [b, sq_nx, exSs, sq_nx]
        exact fin _ ⟨hy.c, hy.p, fm.1, fm.1, fm.2⟩
      · have e1 : (y.d == 0) = false := by simpa [exSs, exS, evE, evEs, evT, evC, evI, sizeLine_eq] using c1
        rw [e1, if_neg Bool.false_ne_true, exSs, sq_nx, exSs, sq_nx]
        exact fin y hy
    by_cases c2 : x.p + 1 < (x.c.length : Int)
    · rw [decide_eq_true c2, if_pos rfl]
      have hp := hx.p
      obtain ⟨n, hn⟩ : ∃ n : Nat, x.p + 1 = (n : Int) := Int.eq_ofNat_of_zero_le (by omega)
      have nl : n < x.c.length := by omega
      have an : ∀ S, atD S (.lst (x.c.map .int)) (x.p + 1) = some (.int x.c[n]) := fun S => by
        rw [at_lst, hn, atI_nat, List.getElem?_map, List.getElem?_eq_getElem nl]
        rfl
      have s2 := (set4 { x with p := x.p + 1 } x.c[n]).2.1
      have b : exSs P.cs (callF P k) (.cons (.asgIx (.var 0) (.lit (.int 2)) (.pr .ix (.cons (.pr .ix (.cons (.var 0) (.cons (.lit (.int 0)) .nil))) (.cons (.pr .ix (.cons (.var 0) (.cons (.lit (.int 1)) .nil))) .nil)))) .nil) (TE many none) [Dr.so { x with p := x.p + 1 }] = .nx (TE many none) [Dr.so { x with p := x.p + 1, d := x.c[n] }] := by
        simp only [exSs, exS, evE, evEs, TE, getV_0, getV_s, bnd_ok, p_ix, j4.1, j4.2.1, oneR_some', liftP_some, an, out_ok, s2, sq_nx]
      rw [b, sq_nx]
      exact fresh { x with p := x.p + 1, d := x.c[n] } ⟨hx.c, by show -1 ≤ x.p + 1; omega, hx.c _ (List.getElem_mem nl), hx.s⟩
    · rw [decide_eq_false c2, if_neg Bool.false_ne_true, exSs, sq_nx]
      exact fresh { x with p := x.p + 1 } ⟨hx.c, by show -1 ≤ x.p + 1; omega, hx.d, hx.s⟩
  · have e0 : (x.d == 0) = false := by simpa [exSs, exS, evE, evEs, evT, evC, evI, sizeLine_eq] using c0
    rw [e0, if_neg Bool.false_ne_true, exSs, sq_nx]
    exact fin x hx
end K53
end
section
set_option linter.all false
set_option autoImplicit false
set_option maxRecDepth 100000
set_option maxHeartbeats 1000000
/-! the law's draw, its data. -/
namespace K53
open PySem Mini
variable {P : Prog}
def LB : Nat → Nat
  | 0 => 42
  | m + 1 => 3 * LB m + 5
def Gd (m : Nat) (d : D) : Prop := wd 41 m d = true ∧ (W d).length ≤ LB m
theorem LB_ge : ∀ m, 42 ≤ LB m
  | 0 => Nat.le_refl _
  | m + 1 => by
    have := LB_ge m
    unfold LB
    omega
theorem Wt_le {B : Nat} : ∀ ys : List D, (∀ y ∈ ys, (W y).length ≤ B) → (Wt ys).length ≤ ys.length * (B + 1)
  | [], _ => by
    rw [Wt]
    exact Nat.zero_le _
  | y :: ys, h => by
    have h1 := h y List.mem_cons_self
    have h2 := Wt_le ys fun z hz => h z (List.mem_cons_of_mem _ hz)
    rw [Wt, List.length_cons, List.length_append, List.length_cons, Nat.succ_mul]
    omega
theorem Wl_le {B : Nat} (ys : List D) (h : ∀ y ∈ ys, (W y).length ≤ B) : (Wl ys).length ≤ ys.length * (B + 1) := by
  cases ys with
  | nil =>
    rw [Wl]
    exact Nat.zero_le _
  | cons y ys =>
    have h1 := h y List.mem_cons_self
    have h2 := Wt_le ys fun z hz => h z (List.mem_cons_of_mem _ hz)
    rw [Wl, List.length_append, List.length_cons, Nat.succ_mul]
    omega
theorem wds_of {n m : Nat} : ∀ ys : List D, (∀ y ∈ ys, wd n m y = true) → wds n m ys = true
  | [], _ => by rw [wds]
  | y :: ys, h => by
    rw [wds, h y List.mem_cons_self, wds_of ys fun z hz => h z (List.mem_cons_of_mem _ hz)]
    rfl
theorem gd_tup {m : Nat} {ys : List D} (hl : ys.length ≤ 3) (h : ∀ y ∈ ys, Gd m y) : Gd (m + 1) (.tup ys) := by
  refine ⟨?_, ?_⟩
  · rw [wd, decide_eq_true (by omega), Bool.true_and]
    exact wds_of ys fun y hy => (h y hy).1
  · have := Wl_le ys fun y hy => (h y hy).2
    have h2 : ys.length * (LB m + 1) ≤ 3 * (LB m + 1) := Nat.mul_le_mul_right _ hl
    rw [W, List.length_cons, List.length_append, List.length_singleton]
    show _ ≤ 3 * LB m + 5
    omega
theorem gd_word (m : Nat) {s : Chs} (h : wordB s = true) (hl : s.length ≤ 42) : Gd m (.str s) := by
  refine ⟨by rw [wd]; exact h, ?_⟩
  have := LB_ge m
  rw [W]
  omega
theorem gd_int (m : Nat) {i : Int} (h : i.natAbs < 10 ^ 41) : Gd m (.int i) := by
  refine ⟨by rw [wd]; exact decide_eq_true h, ?_⟩
  have := LB_ge m
  have := strI_len (by decide) h
  rw [W]
  omega
theorem rng_up (f : Int) (h0 : 0 ≤ f) (h : f < 1000000) : rngD 1 [.int f] = some (rangeL 0 1 f.toNat) := by
  have e : inR62 f = true := by
    unfold inR62
    rw [decide_eq_true (by omega), decide_eq_true (by omega)]
    rfl
  simp only [rngD, e, if_true]
theorem log_small {n : Int} (h : n.natAbs < 2 ^ 100) : n.natAbs.log2 < 9000 := by
  by_cases z : n.natAbs = 0
  · rw [z]
    decide
  · have := (Nat.log2_lt z).mpr h
    omega
abbrev DE (deep : Int) (a b : Option D) : Mini.Env := [some (.ref 0), some (.int deep), a, b]
theorem call_take (h : LW P) (k : Nat) (x : Dr) (hx : x.Ok) (env : Mini.Env) (h0 : getV env 0 = some (.ref 0)) (n : Int) (hn : 0 < n) (hn2 : n.natAbs < 2 ^ 100) :
    ∃ f x', evE (callF P (k + 1)) (.call 8 (.cons (.var 0) (.cons (.lit (.int n)) .nil))) env [x.so] = .ok (.int f) [Dr.so x'] ∧ 0 ≤ f ∧ f < n ∧ x'.Ok := by
  obtain ⟨f, x', e, h1, h2, h3⟩ := take_ok h k x hx n hn (log_small hn2)
  refine ⟨f, x', ?_, h1, h2, h3⟩
  simp only [evE, evEs, h0, bnd_ok, e]
theorem data_tail (h : LW P) (m : Nat) (k : Nat) (x : Dr) (hx : x.Ok) (deep kk : Int) :
    ∃ d x', exSs P.cs (callF P (k + 1)) (.cons 
  (.ife MD.l_law_data_0i (.cons 
   (.ret (.ife (.pr .gt (.cons (.call 8 (.cons (.var 0) (.cons (.lit (.int 4)) .nil))) (.cons (.lit (.int 0)) .nil))) (.pr (.sl true false) (.cons (.lit (.str [97, 98, 122, 57])) (.cons (.call 8 (.cons (.var 0) (.cons (.lit (.int 3)) .nil))) .nil))) (.lit (.str [97, 50, 51, 52, 53, 54, 55, 56, 57, 48, 49, 50])))) .nil) .nil) (.cons 
  (.ret (.pr .ix (.cons (.vlst (.cons (.lit (.int 0)) (.cons (.pr .neg (.cons (.lit (.int 1)) .nil)) (.cons (.lit (.int 7)) (.cons (.pr .pow (.cons (.lit (.int 10)) (.cons (.lit (.int 40)) .nil))) (.cons (.pr .neg (.cons (.pr .pow (.cons (.lit (.int 10)) (.cons (.lit (.int 20)) .nil))) .nil)) (.cons (.lit (.int 1000)) .nil))))))) (.cons (.call 8 (.cons (.var 0) (.cons (.lit (.int 6)) .nil))) .nil)))) .nil)) (DE deep (some (.int kk)) none) [x.so] = .ret d [Dr.so x'] ∧ x'.Ok ∧ Gd m d := by
  have t0 : ∀ S, evT (callF P (k + 1)) MD.l_law_data_0i (DE deep (some (.int kk)) none) S = .ok (kk == 3) S := fun S => by simp [exSs, exS, evE, evEs, evT, evC, evI, sizeLine_eq, MD.l_law_data_0i]
  rw [exSs, exS, t0, out_ok]
  by_cases c : kk = 3
  · have c' : (kk == 3) = true := by simpa [exSs, exS, evE, evEs, evT, evC, evI, sizeLine_eq] using c
    rw [c', if_pos rfl]
    obtain ⟨f, x1, e1, f1, f2, o1⟩ := call_take h k x hx (DE deep (some (.int kk)) none) rfl 4 (by decide) (by decide)
    have tg : evT (callF P (k + 1)) (.pr .gt (.cons (.call 8 (.cons (.var 0) (.cons (.lit (.int 4)) .nil))) (.cons (.lit (.int 0)) .nil))) (DE deep (some (.int kk)) none) [x.so] = .ok (decide (0 < f)) [x1.so] := by
      rw [evT, evEs, e1, bnd_ok]
      simp only [evEs, evE, bnd_ok, p_gt, liftP_some, truR_bl']
    by_cases c2 : 0 < f
    · obtain ⟨j, x2, e2, j1, j2, o2⟩ := call_take h k x1 o1 (DE deep (some (.int kk)) none) rfl 3 (by decide) (by decide)
      have sl : evE (callF P (k + 1)) (.pr (.sl true false) (.cons (.lit (.str [97, 98, 122, 57])) (.cons (.call 8 (.cons (.var 0) (.cons (.lit (.int 3)) .nil))) .nil))) (DE deep (some (.int kk)) none) [x1.so] = .ok (.str (([97, 98, 122, 57] : Chs).drop j.toNat)) [x2.so] := by
        have s1 : slD [x2.so] (.str [97, 98, 122, 57]) (some j) none = some (.str (([97, 98, 122, 57] : Chs).drop j.toNat)) := by
          obtain ⟨n, rfl⟩ := Int.eq_ofNat_of_zero_le j1
          rw [sl_str _ _ (by simp [exSs, exS, evE, evEs, evT, evC, evI, sizeLine_eq]), cut1 _ _ (by simp [exSs, exS, evE, evEs, evT, evC, evI, sizeLine_eq]; omega)]
          rfl
        rw [evE, evEs, evE, bnd_ok, evEs, e2, bnd_ok, evEs, bnd_ok, bnd_ok, bnd_ok, p_sl10, s1]
        rfl
      refine ⟨.str (([97, 98, 122, 57] : Chs).drop j.toNat), x2, ?_, o2, ?_⟩
      · rw [exSs, exS, evE, tg, decide_eq_true c2, bnd_ok, if_pos rfl, sl, out_ok, sq_ret, sq_ret]
      · have : j = 0 ∨ j = 1 ∨ j = 2 := by omega
        rcases this with rfl | rfl | rfl
        · exact gd_word m (by decide) (by decide)
        · exact gd_word m (by decide) (by decide)
        · exact gd_word m (by decide) (by decide)
    · refine ⟨.str [97, 50, 51, 52, 53, 54, 55, 56, 57, 48, 49, 50], x1, ?_, o1, gd_word m (by decide) (by decide)⟩
      rw [exSs, exS, evE, tg, decide_eq_false c2, bnd_ok, if_neg Bool.false_ne_true, evE, out_ok, sq_ret, sq_ret]
  · have c' : (kk == 3) = false := by simpa [exSs, exS, evE, evEs, evT, evC, evI, sizeLine_eq] using c
    rw [c', if_neg Bool.false_ne_true, exSs, sq_nx]
    obtain ⟨f, x1, e1, f1, f2, o1⟩ := call_take h k x hx (DE deep (some (.int kk)) none) rfl 6 (by decide) (by decide)
    have l1 : evE (callF P (k + 1)) (.vlst (.cons (.lit (.int 0)) (.cons (.pr .neg (.cons (.lit (.int 1)) .nil)) (.cons (.lit (.int 7)) (.cons (.pr .pow (.cons (.lit (.int 10)) (.cons (.lit (.int 40)) .nil))) (.cons (.pr .neg (.cons (.pr .pow (.cons (.lit (.int 10)) (.cons (.lit (.int 20)) .nil))) .nil)) (.cons (.lit (.int 1000)) .nil))))))) (DE deep (some (.int kk)) none) [x.so] = .ok (.lst [.int 0, .int (-1), .int 7, .int 10000000000000000000000000000000000000000, .int (-100000000000000000000), .int 1000]) [x.so] := by
      simp [exSs, exS, evE, evEs, evT, evC, evI, sizeLine_eq]
    have key : ∀ d, L2.atI [D.int 0, .int (-1), .int 7, .int 10000000000000000000000000000000000000000, .int (-100000000000000000000), .int 1000] f = some d → Gd m d → ∃ d x', exSs P.cs (callF P (k + 1)) (.cons 
  (.ret (.pr .ix (.cons (.vlst (.cons (.lit (.int 0)) (.cons (.pr .neg (.cons (.lit (.int 1)) .nil)) (.cons (.lit (.int 7)) (.cons (.pr .pow (.cons (.lit (.int 10)) (.cons (.lit (.int 40)) .nil))) (.cons (.pr .neg (.cons (.pr .pow (.cons (.lit (.int 10)) (.cons (.lit (.int 20)) .nil))) .nil)) (.cons (.lit (.int 1000)) .nil))))))) (.cons (.call 8 (.cons (.var 0) (.cons (.lit (.int 6)) .nil))) .nil)))) .nil) (DE deep (some (.int kk)) none) [x.so] = .ret d [Dr.so x'] ∧ x'.Ok ∧ Gd m d := fun d hd g => by
      refine ⟨d, x1, ?_, o1, g⟩
      rw [exSs, exS, evE, evEs, l1, bnd_ok, evEs, e1, bnd_ok, evEs, bnd_ok, bnd_ok, bnd_ok, p_ix, at_lst, hd]
      rfl
    have : f = 0 ∨ f = 1 ∨ f = 2 ∨ f = 3 ∨ f = 4 ∨ f = 5 := by omega
    rcases this with rfl | rfl | rfl | rfl | rfl | rfl
    · exact key (.int 0) rfl (gd_int m (by decide +kernel))
    · exact key (.int (-1)) rfl (gd_int m (by decide +kernel))
    · exact key (.int 7) rfl (gd_int m (by decide +kernel))
    · exact key (.int 10000000000000000000000000000000000000000) rfl (gd_int m (by decide +kernel))
    · exact key (.int (-100000000000000000000)) rfl (gd_int m (by decide +kernel))
    · exact key (.int 1000) rfl (gd_int m (by decide +kernel))
theorem data_ok (h : LW P) : ∀ (m k : Nat) (x : Dr), x.Ok → ∃ d x', callF P (k + m + 2) 9 [.ref 0, .int (m : Int)] [x.so] = .ok d [Dr.so x'] ∧ x'.Ok ∧ Gd m d := by
  intro m
  induction m with
  | zero =>
    intro k x hx
    obtain ⟨kk, x1, e1, k1, k2, o1⟩ := call_take h k x hx (DE 0 none none) rfl 6 (by decide) (by decide)
    obtain ⟨d, x2, e2, o2, g2⟩ := data_tail h 0 k x1 o1 0 kk
    refine ⟨d, x2, ?_, o2, g2⟩
    have cf : callF P (k + 0 + 2) 9 [.ref 0, .int ((0 : Nat) : Int)] [x.so] = Mini.finish [x.so] (exSs P.cs (callF P (k + 1)) MD.b_law_data (DE 0 none none) [x.so]) := callF_at h.f9 rfl
    have t1 : ∀ S, evT (callF P (k + 1)) MD.l_law_data_1i (DE 0 (some (.int kk)) none) S = .ok false S := fun S => by simp [exSs, exS, evE, evEs, evT, evC, evI, sizeLine_eq, MD.l_law_data_1i]
    rw [cf]
    unfold MD.b_law_data
    rw [exSs, exS, e1, out_ok, setT_nm, nxO_some', sq_nx, exSs, exS]
    have e3 : (DE 0 none none).set 2 (some (.int kk)) = DE 0 (some (.int kk)) none := rfl
    rw [e3, t1, out_ok, if_neg Bool.false_ne_true, exSs, sq_nx, e2]
    exact finish_same rfl
  | succ m ih =>
    intro k x hx
    obtain ⟨kk, x1, e1, k1, k2, o1⟩ := call_take h (k + m + 1) x hx (DE ((m + 1 : Nat) : Int) none none) rfl 6 (by decide) (by decide)
    have cf : callF P (k + (m + 1) + 2) 9 [.ref 0, .int ((m + 1 : Nat) : Int)] [x.so] = Mini.finish [x.so] (exSs P.cs (callF P (k + m + 2)) MD.b_law_data (DE ((m + 1 : Nat) : Int) none none) [x.so]) := callF_at h.f9 rfl
    have t1 : ∀ S, evT (callF P (k + m + 2)) MD.l_law_data_1i (DE ((m + 1 : Nat) : Int) (some (.int kk)) none) S = .ok (decide (kk < 3)) S := fun S => by
      have : (0 : Int) < ((m + 1 : Nat) : Int) := by omega
      simp only [MD.l_law_data_1i, evT, evEs, evE, getV_0, getV_s, bnd_ok, p_gt, liftP_some, truR_bl', decide_eq_true this, if_true, p_lt]
    rw [cf]
    unfold MD.b_law_data
    rw [exSs, exS, e1, out_ok, setT_nm, nxO_some', sq_nx, exSs, exS]
    have e3 : (DE ((m + 1 : Nat) : Int) none none).set 2 (some (.int kk)) = DE ((m + 1 : Nat) : Int) (some (.int kk)) none := rfl
    rw [e3, t1, out_ok]
    by_cases c : kk < 3
    · rw [decide_eq_true c, if_pos rfl]
      obtain ⟨f, x2, e2, f1, f2, o2⟩ := call_take h (k + m + 1) x1 o1 (DE ((m + 1 : Nat) : Int) (some (.int kk)) none) rfl 4 (by decide) (by decide)
      have it : evI (callF P (k + m + 2)) (.rng (.cons (.call 8 (.cons (.var 0) (.cons (.lit (.int 4)) .nil))) .nil)) (DE ((m + 1 : Nat) : Int) (some (.int kk)) none) [x1.so] = .ok (rangeL 0 1 f.toNat, []) [x2.so] := by
        have r := rng_up f f1 (by omega)
        rw [evI, evEs, e2, bnd_ok, evEs, bnd_ok, bnd_ok]
        simp only [Exs.len, Nat.zero_add, r]
      obtain ⟨ys, st', c1, ⟨x3, o3, rfl⟩, c3, c4⟩ := compL_go (f := turnC (callF P (k + m + 2)) [3] (.nm 3) .nil MD.l_law_data_2e (DE ((m + 1 : Nat) : Int) (some (.int kk)) none)) (fun S => ∃ y : Dr, y.Ok ∧ S = [y.so]) (Gd m) (rangeL 0 1 f.toNat) [] [x2.so] ⟨x2, o2, rfl⟩ (fun d hd S hS => by
        obtain ⟨y, oy, rfl⟩ := hS
        obtain ⟨z, y', a1, a2, a3⟩ := ih k y oy
        refine ⟨z, [y'.so], ?_, ⟨y', a2, rfl⟩, a3⟩
        have e4 : prim .sub [.int ((m + 1 : Nat) : Int), .int 1] [y.so] = some (.int (m : Int), [y.so]) := by
          rw [p_sub]
          have : ((m + 1 : Nat) : Int) - 1 = (m : Int) := by omega
          rw [this]
        have w : wipeE [3] (DE ((m + 1 : Nat) : Int) (some (.int kk)) none) = DE ((m + 1 : Nat) : Int) (some (.int kk)) none := rfl
        rw [turnC_of (setT_nm _ _ _), w]
        simp only [MD.l_law_data_2e, evC, evE, evEs, List.set_cons_succ, List.set_cons_zero, getV_0, getV_s, bnd_ok, if_true, e4, liftP_some, a1, noExc_ok']) (by
        rw [rangeL_len, sizeLine_eq]
        simp [exSs, exS, evE, evEs, evT, evC, evI, sizeLine_eq]
        omega)
      rw [List.nil_append] at c1
      have ev : evE (callF P (k + m + 2)) (.pr .tuple (.cons MD.l_law_data_2q .nil)) (DE ((m + 1 : Nat) : Int) (some (.int kk)) none) [x1.so] = .ok (.tup ys) [x3.so] := by
        have cq : evE (callF P (k + m + 2)) MD.l_law_data_2q (DE ((m + 1 : Nat) : Int) (some (.int kk)) none) [x1.so] = .ok (.lst ys) [x3.so] := by
          unfold MD.l_law_data_2q
          rw [comp_eq, it, bnd_ok]
          dsimp only
          rw [c1, bnd_ok, if_pos rfl]
        have tp : tupD [x3.so] (.lst ys) = some (.tup ys) := rfl
        rw [evE, evEs, cq, bnd_ok, evEs, bnd_ok, bnd_ok, p_tuple, tp]
        rfl
      refine ⟨.tup ys, x3, ?_, o3, gd_tup ?_ c4⟩
      · rw [exSs, exS, ev, out_ok, sq_ret, sq_ret]
        exact finish_same rfl
      · rw [c3, rangeL_len]
        omega
    · rw [decide_eq_false c, if_neg Bool.false_ne_true, exSs, sq_nx]
      obtain ⟨d, x2, e2, o2, g2⟩ := data_tail h (m + 1) (k + m + 1) x1 o1 ((m + 1 : Nat) : Int) kk
      refine ⟨d, x2, ?_, o2, g2⟩
      rw [e2]
      exact finish_same rfl
/-! the draw -/
def absZ : D → D
  | .int z => .int (z.natAbs : Int)
  | d => d
theorem absI (i : Int) : (if i < 0 then -i else i) = (i.natAbs : Int) := by
  split <;> omega
theorem draw_ok (h : LW P) (k : Nat) (zs : List Int) (hl : zs.length ≤ 1000) : ∃ x : Dr, callF P (k + 1) 7 [.ro (zs.map .int)] [] = .ok (.ref 0) [x.so] ∧ x.Ok := by
  have lp := forL_go (t := .nm 2) (b := exSs P.cs (callF P k) MD.l_law_draw_1b) (fun j env S => S = [] ∧ ∃ s v, (0 ≤ s ∧ s < 2147483647) ∧ env = [some (.ro (zs.map .int)), some (.int s), v]) (zs.map .int) 0 [some (.ro (zs.map .int)), some (.int 7), none] [] ⟨rfl, 7, none, ⟨by decide, by decide⟩, rfl⟩
    (fun j d env S hj hI => by
      obtain ⟨rfl, s, v, hs, rfl⟩ := hI
      rw [List.getElem?_map] at hj
      obtain ⟨z, _, rfl⟩ := Option.map_eq_some_iff.mp hj
      have fm := fmod_nn (a := s * 48271 + (z.natAbs : Int).fmod 65521 + 1) (b := 2147483647) (by decide)
      refine ⟨_, setT_nm _ _ _, _, [], ?_, rfl, _, some (.int z), fm, rfl⟩
      have wd := wide_small hs.1 hs.2
      have g1 : decide ((65521 : Int) ≠ 0) = true := by decide
      have g2 : decide ((2147483647 : Int) ≠ 0) = true := by decide
      simp only [MD.l_law_draw_1b, exSs, exS, evE, evEs, List.set_cons_succ, List.set_cons_zero, getV_0, getV_s, bnd_ok, p_mul_ii, wd, guardR_true, liftP_some, p_int, intD, oneR_some', p_abs, absI, p_mod, g1, g2, p_add_ii, out_ok, setT_nm, nxO_some', sq_nx])
  obtain ⟨env', S', l1, rfl, s, v, hs, rfl⟩ := lp
  refine ⟨⟨zs.map fun z => (z.natAbs : Int), -1, 0, s⟩, ?_, ⟨fun i hi => ?_, (by decide : (-1 : Int) ≤ -1), (by decide : (0 : Int) ≤ 0), hs⟩⟩
  · rw [callF_at h.f7 rfl]
    have cmp : evE (callF P k) MD.l_law_draw_0q [some (.ro (zs.map .int)), some (.int s), v] [] = .ok (.lst ((zs.map D.int).map absZ)) [] :=
      comp_seq (callF P k) 2 (.var 0) [some (.ro (zs.map .int)), some (.int s), v] [] (.ro (zs.map .int)) (zs.map .int) MD.l_law_draw_0e absZ (by simp [exSs, exS, evE, evEs, evT, evC, evI, sizeLine_eq]) rfl rfl (by rw [sizeLine_eq]; simp [exSs, exS, evE, evEs, evT, evC, evI, sizeLine_eq]; omega) (fun d hd => by
        obtain ⟨z, _, rfl⟩ := List.mem_map.mp hd
        simp only [absZ, MD.l_law_draw_0e, wipeE, evE, evEs, List.set_cons_succ, List.set_cons_zero, getV_0, getV_s, bnd_ok, p_int, intD, oneR_some', liftP_some, p_abs, absI])
    have em : (zs.map D.int).map absZ = (zs.map fun z => (z.natAbs : Int)).map .int := by simp [exSs, exS, evE, evEs, evT, evC, evI, sizeLine_eq, absZ]
    rw [em] at cmp
    have it : evI (callF P k) (.seq (.var 0)) [some (.ro (zs.map .int)), some (.int 7), none] [] = .ok (zs.map .int, []) [] := by simp [exSs, exS, evE, evEs, evT, evC, evI, sizeLine_eq, itemsOf, srcOf]
    simp only [MD.f_law_draw, MD.b_law_draw, show startE 3 [D.ro (zs.map .int)] = [some (.ro (zs.map .int)), none, none] from rfl]
    rw [exSs, exS, evE, out_ok, setT_nm, nxO_some', sq_nx, exSs, exS]
    have e3 : ([some (.ro (zs.map .int)), none, none] : Mini.Env).set 1 (some (.int 7)) = [some (.ro (zs.map .int)), some (.int 7), none] := rfl
    rw [e3, it, out_ok]
    dsimp only
    rw [l1, sq_nx, exSs, exS, evE, evEs, cmp, bnd_ok]
    simp only [evEs, evE, getV_0, getV_s, bnd_ok, p_neg, liftP_some, List.length_cons, List.length_nil, sizeLine_eq, Nat.reduceAdd, Nat.reduceLeDiff, if_true, out_ok, sq_ret, List.nil_append, List.length_nil]
    exact finish_keep (.inr (by simp only [below]; rfl))
  · obtain ⟨z, _, rfl⟩ := List.mem_map.mp hi
    exact Int.natCast_nonneg _
end K53
end
section
set_option linter.all false
set_option autoImplicit false
set_option maxRecDepth 100000
set_option maxHeartbeats 1000000
/-! bent texts: the law's inner loops. -/
namespace K53
open PySem Mini
variable {P : Prog}
mutual
theorem W_ch (n : Nat) : ∀ (d : D) (m : Nat), wd n m d = true → ∀ c ∈ W d, c ≠ 59 ∧ c < 128
  | .str s, m, e => by
    rw [wd] at e
    rw [W]
    intro c hc
    have := low_dig e c hc
    simp only [isLow, isDig, Bool.and_eq_true, decide_eq_true_eq] at this
    omega
  | .int i, m, e => by
    rw [W]
    intro c hc
    have := strI_ch i c hc
    omega
  | .tup xs, m, e => by
    rw [wd, Bool.and_eq_true] at e
    rw [W]
    intro c hc
    rcases List.mem_cons.mp hc with rfl | z
    · decide
    · rcases List.mem_append.mp z with z | z
      · exact Wl_ch n xs (m - 1) e.2 c z
      · rw [List.mem_singleton.mp z]
        decide
  | .non, m, e => by simp [exSs, exS, evE, evEs, evT, evC, evI, sizeLine_eq, wd] at e
  | .bl b, m, e => by simp [exSs, exS, evE, evEs, evT, evC, evI, sizeLine_eq, wd] at e
  | .lst xs, m, e => by simp [exSs, exS, evE, evEs, evT, evC, evI, sizeLine_eq, wd] at e
  | .ro xs, m, e => by simp [exSs, exS, evE, evEs, evT, evC, evI, sizeLine_eq, wd] at e
  | .ref i, m, e => by simp [exSs, exS, evE, evEs, evT, evC, evI, sizeLine_eq, wd] at e
  | .fn i, m, e => by simp [exSs, exS, evE, evEs, evT, evC, evI, sizeLine_eq, wd] at e
  | .dic t ks vs, m, e => by simp [exSs, exS, evE, evEs, evT, evC, evI, sizeLine_eq, wd] at e
  | .ct xs, m, e => by simp [exSs, exS, evE, evEs, evT, evC, evI, sizeLine_eq, wd] at e
theorem Wl_ch (n : Nat) : ∀ (xs : List D) (m : Nat), wds n m xs = true → ∀ c ∈ Wl xs, c ≠ 59 ∧ c < 128
  | [], m, e => by
    rw [Wl]
    intro c hc
    cases hc
  | x :: xs, m, e => by
    rw [wds, Bool.and_eq_true] at e
    rw [Wl]
    intro c hc
    rcases List.mem_append.mp hc with z | z
    · exact W_ch n x m e.1 c z
    · exact Wt_ch n xs m e.2 c z
theorem Wt_ch (n : Nat) : ∀ (xs : List D) (m : Nat), wds n m xs = true → ∀ c ∈ Wt xs, c ≠ 59 ∧ c < 128
  | [], m, e => by
    rw [Wt]
    intro c hc
    cases hc
  | x :: xs, m, e => by
    rw [wds, Bool.and_eq_true] at e
    rw [Wt]
    intro c hc
    rcases List.mem_cons.mp hc with rfl | z
    · decide
    · rcases List.mem_append.mp z with z | z
      · exact W_ch n x m e.1 c z
      · exact Wt_ch n xs m e.2 c z
end
theorem W_sOk {n m : Nat} {d : D} (e : wd n m d = true) : sOk (W d) := by
  rw [sOk_iff]
  intro c hc
  have := (W_ch n d m e c hc).2
  omega
/-- a text as bent ones are -/
structure Bent (t : Chs) : Prop where
  hb : hb 7 0 t
  rb : rb 85 0 t
  ch : 59 ∉ t
  len : t.length ≤ 20000
theorem bent_of {d : D} (h : Gd 5 d) {pre mid mid' suf : Chs} (e : W d = pre ++ (mid ++ suf)) (h1 : mid.length ≤ 1) (h2 : mid'.length ≤ 1) (hc : ∀ c ∈ mid', c ≠ 59) : Bent (pre ++ (mid' ++ suf)) := by
  have a := hb_W 41 d 5 0 [] h.1 (L := 5) (by decide) (by show (0 : Int) ≤ 5; decide)
  have b := rb_W 41 42 (by decide) (by decide) (by decide) d 5 [] h.1 trivial (Nat.zero_le _)
  rw [List.append_nil, e] at a b
  have hl := h.2
  have e5 : LB 5 = 10811 := by decide
  rw [e5, e] at hl
  refine ⟨hb_bent h1 h2 a, rb_bent h1 h2 b, fun z => ?_, ?_⟩
  · have w := W_ch 41 d 5 h.1
    rw [e] at w
    rcases List.mem_append.mp z with z | z
    · exact (w 59 (List.mem_append_left _ z)).1 rfl
    · rcases List.mem_append.mp z with z | z
      · exact hc 59 z rfl
      · exact (w 59 (List.mem_append_right _ (List.mem_append_right _ z))).1 rfl
  · simp only [List.length_append] at hl ⊢
    omega
abbrev LV (a0 a1 a2 a3 a4 a5 a6 a7 a8 a9 a10 a11 a12 a13 : Option D) : Mini.Env := [a0, a1, a2, a3, a4, a5, a6, a7, a8, a9, a10, a11, a12, a13]
theorem inner7 (h : LW P) (k : Nat) (S : Sto) (t : Chs) (b : Bent t) (a0 a1 a2 a3 a4 a5 a7 a8 a9 a10 a11 a12 a13 : Option D) :
    ∃ due, exSs P.cs (callF P (k + 12)) MD.l_law_k53_7b (LV a0 a1 a2 a3 a4 a5 (some (.str t)) a7 a8 a9 a10 a11 a12 a13) S = .nx (LV a0 a1 a2 a3 a4 a5 (some (.str t)) a7 a8 (some due) a10 a11 a12 a13) S := by
  have rdl := law_read_is h (k + 9) S t (L := 7) (by decide) b.hb (rb_up (a := 0) (K := 85) 4215 b.rb (Nat.zero_le _)) b.ch (by have := b.len; omega)
  have tld := told1 h (k + 6) S t (by have := b.len; omega)
  have same := rd_same (L := 7) (K := 85) b.hb b.rb (by decide) (by decide) (by decide)
  rw [same] at tld
  refine ⟨oneD (rd (atm 5000) never t), ?_⟩
  unfold MD.l_law_k53_7b
  rw [exSs, exS, evE, evEs, evE]
  simp only [getV_0, getV_s, evEs, bnd_ok, rdl, out_ok, setT_nm, nxO_some', sq_nx, List.set_cons_succ, List.set_cons_zero]
  rw [exSs, exS]
  cases q : rd (atm 5000) never t with
  | none =>
    rw [q] at tld
    obtain ⟨s, rp⟩ := repr_non S
    have t6 : evT (callF P (k + 12)) MD.l_law_k53_6i (LV a0 a1 a2 a3 a4 a5 (some (.str t)) a7 a8 (some (oneD none)) a10 a11 a12 a13) S = .ok false S := by
      unfold MD.l_law_k53_6i
      simp [exSs, exS, evE, evEs, evT, evC, evI, sizeLine_eq, tld, oneD, rp, prim, notND]
    rw [t6, out_ok, if_neg Bool.false_ne_true, exSs, sq_nx, exSs]
  | some e =>
    rw [q] at tld
    have we := rd_law (L := 7) (K := 85) b.hb b.rb (by decide) q
    have eW := rd_W (fun t d e => atm_W e) q
    have wr := written_is h S 85 (by decide) 7 e (k + 3) we (by rw [eW]; have := b.len; omega)
    rw [eW] at wr
    obtain ⟨s, rp⟩ := repr_one S e 7 (wd_mono (by decide) e 7 7 (Nat.le_refl _) we) (by decide) (by rw [eW]; have := b.len; omega)
    have a0' : ∀ S', atD S' (.lst [e]) 0 = some e := fun S' => by
      rw [at_lst]
      exact atI_nat [e] 0
    have t6 : evT (callF P (k + 12)) MD.l_law_k53_6i (LV a0 a1 a2 a3 a4 a5 (some (.str t)) a7 a8 (some (oneD (some e))) a10 a11 a12 a13) S = .ok false S := by
      unfold MD.l_law_k53_6i
      simp [exSs, exS, evE, evEs, evT, evC, evI, sizeLine_eq, tld, oneD, rp, prim, notND, ixD, a0', wr]
    rw [t6, out_ok, if_neg Bool.false_ne_true, exSs, sq_nx, exSs]
/-- three bent texts -/
theorem three (h : LW P) (k : Nat) (S : Sto) (t1 t2 t3 : Chs) (b1 : Bent t1) (b2 : Bent t2) (b3 : Bent t3) (a0 a1 a2 a3 a4 a5 a6 a7 a8 a9 a10 a11 a12 a13 : Option D) :
    ∃ o6 o9, forL [] (.nm 6) (exSs P.cs (callF P (k + 12)) MD.l_law_k53_7b) [.str t1, .str t2, .str t3] (LV a0 a1 a2 a3 a4 a5 a6 a7 a8 a9 a10 a11 a12 a13) S = .nx (LV a0 a1 a2 a3 a4 a5 o6 a7 a8 o9 a10 a11 a12 a13) S := by
  obtain ⟨d1, e1⟩ := inner7 h k S t1 b1 a0 a1 a2 a3 a4 a5 a7 a8 a9 a10 a11 a12 a13
  obtain ⟨d2, e2⟩ := inner7 h k S t2 b2 a0 a1 a2 a3 a4 a5 a7 a8 (some d1) a10 a11 a12 a13
  obtain ⟨d3, e3⟩ := inner7 h k S t3 b3 a0 a1 a2 a3 a4 a5 a7 a8 (some d2) a10 a11 a12 a13
  refine ⟨some (.str t3), some d3, ?_⟩
  simp only [LV] at e1 e2 e3 ⊢
  rw [forL_cons]
  simp only [setT_nm, List.set_cons_succ, List.set_cons_zero, e1]
  rw [forL_cons]
  simp only [setT_nm, List.set_cons_succ, List.set_cons_zero, e2]
  rw [forL_cons]
  simp only [setT_nm, List.set_cons_succ, List.set_cons_zero, e3]
  rw [forL_nil]
theorem inner8 (h : LW P) (k : Nat) (x : Dr) (hx : x.Ok) (d : D) (g : Gd 5 d) (a0 a2 a3 a5 a6 a7 a8 a9 a10 a11 a12 a13 : Option D) :
    ∃ o6 o7 o8 o9 x', exSs P.cs (callF P (k + 12)) MD.l_law_k53_8b (LV a0 (some (.ref 0)) a2 a3 (some (.str (W d))) a5 a6 a7 a8 a9 a10 a11 a12 a13) [x.so] = .nx (LV a0 (some (.ref 0)) a2 a3 (some (.str (W d))) a5 o6 o7 o8 o9 a10 a11 a12 a13) [Dr.so x'] ∧ x'.Ok := by
  have e5 : LB 5 = 10811 := by decide
  have hl := g.2
  rw [e5] at hl
  have hz : (W d).length ≤ sizeLine := by rw [sizeLine_eq]; omega
  obtain ⟨f, x1, t1, f1, f2, o1⟩ := take_ok h (k + 11) x hx (((W d).length : Int) + 1) (by omega) (log_small (by omega))
  obtain ⟨j, x2, t2, j1, j2, o2⟩ := take_ok h (k + 11) x1 o1 9 (by decide) (log_small (by decide))
  obtain ⟨i, rfl⟩ := Int.eq_ofNat_of_zero_le f1
  have il : i ≤ (W d).length := by omega
  have ln := len_str' (st := [x.so]) hz
  obtain ⟨c, hc, hat⟩ : ∃ c : Nat, c ≠ 59 ∧ ∀ S, atD S (.str [91, 93, 44, 97, 48, 45, 49, 32, 65]) j = some (.str [c]) := by
    have e : ∀ S, atD S (.str [91, 93, 44, 97, 48, 45, 49, 32, 65]) j = (L2.atI ([91, 93, 44, 97, 48, 45, 49, 32, 65] : Chs) j).map fun c => .str [c] := fun S => at_str j (by simp [exSs, exS, evE, evEs, evT, evC, evI, sizeLine_eq])
    have : j = 0 ∨ j = 1 ∨ j = 2 ∨ j = 3 ∨ j = 4 ∨ j = 5 ∨ j = 6 ∨ j = 7 ∨ j = 8 := by omega
    rcases this with rfl | rfl | rfl | rfl | rfl | rfl | rfl | rfl | rfl
    · exact ⟨91, by decide, fun S => (e S).trans rfl⟩
    · exact ⟨93, by decide, fun S => (e S).trans rfl⟩
    · exact ⟨44, by decide, fun S => (e S).trans rfl⟩
    · exact ⟨97, by decide, fun S => (e S).trans rfl⟩
    · exact ⟨48, by decide, fun S => (e S).trans rfl⟩
    · exact ⟨45, by decide, fun S => (e S).trans rfl⟩
    · exact ⟨49, by decide, fun S => (e S).trans rfl⟩
    · exact ⟨32, by decide, fun S => (e S).trans rfl⟩
    · exact ⟨65, by decide, fun S => (e S).trans rfl⟩
  have par : exS P.cs (callF P (k + 12)) (.par [7, 8] (.cons (.call 8 (.cons (.var 1) (.cons (.pr .add (.cons (.pr .len (.cons (.var 4) .nil)) (.cons (.lit (.int 1)) .nil))) .nil))) (.cons (.pr .ix (.cons (.lit (.str [91, 93, 44, 97, 48, 45, 49, 32, 65])) (.cons (.call 8 (.cons (.var 1) (.cons (.lit (.int 9)) .nil))) .nil))) .nil))) (LV a0 (some (.ref 0)) a2 a3 (some (.str (W d))) a5 a6 a7 a8 a9 a10 a11 a12 a13) [x.so] = .nx (LV a0 (some (.ref 0)) a2 a3 (some (.str (W d))) a5 a6 (some (.int i)) (some (.str [c])) a9 a10 a11 a12 a13) [x2.so] := by
    simp only [exS, evE, evEs, LV, getV_0, getV_s, bnd_ok, p_len, ln, oneR_some', liftP_some, p_add_ii, t1, t2, p_ix, hat, out_ok, setN_cons, setN_nil, nxO_some', List.set_cons_succ, List.set_cons_zero]
  have s1 : ∀ S, slD S (.str (W d)) none (some (i : Int)) = some (.str ((W d).take i)) := fun S => by rw [sl_str _ _ hz, cut2]
  have s2 : ∀ S, slD S (.str (W d)) (some (i : Int)) none = some (.str ((W d).drop i)) := fun S => by rw [sl_str _ _ hz, cut1 _ _ il]
  have s3 : ∀ S, slD S (.str (W d)) (some ((i : Int) + 1)) none = some (.str ((W d).drop (i + 1))) := fun S => by
    have e : ((i : Int) + 1) = ((i + 1 : Nat) : Int) := by omega
    rw [sl_str _ _ hz, e]
    by_cases c : i + 1 ≤ (W d).length
    · rw [cut1 _ _ c]
    · have e2 : cutL (W d) (some ((i + 1 : Nat) : Int)) none = [] := by
        unfold cutL
        rw [HT.sIx_nat, HT.sIx_none, Nat.min_eq_right (by omega)]
        simp [exSs, exS, evE, evEs, evT, evC, evI, sizeLine_eq]
      rw [e2, List.drop_of_length_le (by omega)]
  have lt : ((W d).take i).length ≤ 10811 := by rw [List.length_take]; omega
  have ld : ((W d).drop i).length ≤ 10811 := by rw [List.length_drop]; omega
  have ld2 : ((W d).drop (i + 1)).length ≤ 10811 := by rw [List.length_drop]; omega
  have ad : ∀ (a b : Chs) (S : Sto), a.length ≤ 100000 → b.length ≤ 100000 → prim .add [.str a, .str b] S = some (.str (a ++ b), S) := fun a b S ha hb => by
    rw [p_add_ss, decide_eq_true (by rw [sizeLine_eq]; omega), guardR_true]
  have it : evI (callF P (k + 12)) (.seq (.vlst (.cons (.pr .add (.cons (.pr .add (.cons (.pr (.sl false true) (.cons (.var 4) (.cons (.var 7) .nil))) (.cons (.var 8) .nil))) (.cons (.pr (.sl true false) (.cons (.var 4) (.cons (.var 7) .nil))) .nil))) (.cons (.pr .add (.cons (.pr (.sl false true) (.cons (.var 4) (.cons (.var 7) .nil))) (.cons (.pr (.sl true false) (.cons (.var 4) (.cons (.pr .add (.cons (.var 7) (.cons (.lit (.int 1)) .nil))) .nil))) .nil))) (.cons (.pr .add (.cons (.pr .add (.cons (.pr (.sl false true) (.cons (.var 4) (.cons (.var 7) .nil))) (.cons (.var 8) .nil))) (.cons (.pr (.sl true false) (.cons (.var 4) (.cons (.pr .add (.cons (.var 7) (.cons (.lit (.int 1)) .nil))) .nil))) .nil))) .nil))))) (LV a0 (some (.ref 0)) a2 a3 (some (.str (W d))) a5 a6 (some (.int i)) (some (.str [c])) a9 a10 a11 a12 a13) [x2.so] =
      .ok ([.str ((W d).take i ++ [c] ++ (W d).drop i), .str ((W d).take i ++ (W d).drop (i + 1)), .str ((W d).take i ++ [c] ++ (W d).drop (i + 1))], []) [x2.so] := by
    have c1 := ad ((W d).take i) [c] [x2.so] (by omega) (by simp [exSs, exS, evE, evEs, evT, evC, evI, sizeLine_eq])
    have c2 := ad ((W d).take i ++ [c]) ((W d).drop i) [x2.so] (by simp [exSs, exS, evE, evEs, evT, evC, evI, sizeLine_eq]; omega) (by omega)
    have c3 := ad ((W d).take i) ((W d).drop (i + 1)) [x2.so] (by omega) (by omega)
    have c4 := ad ((W d).take i ++ [c]) ((W d).drop (i + 1)) [x2.so] (by simp [exSs, exS, evE, evEs, evT, evC, evI, sizeLine_eq]; omega) (by omega)
    simp only [evI, evE, evEs, LV, getV_0, getV_s, bnd_ok, p_sl01, p_sl10, s1, s2, s3, oneR_some', liftP_some, p_add_ii, c1, c2, c3, c4, List.length_cons, List.length_nil, sizeLine_eq, Nat.reduceAdd, Nat.reduceLeDiff, if_true, itemsOf, listOf_lst, srcOf]
  have ti : W d = (W d).take i ++ ([] ++ (W d).drop i) := by simp [exSs, exS, evE, evEs, evT, evC, evI, sizeLine_eq]
  have tj : ∃ mid : Chs, mid.length ≤ 1 ∧ W d = (W d).take i ++ (mid ++ (W d).drop (i + 1)) := by
    by_cases c : i < (W d).length
    · refine ⟨[(W d)[i]], by simp [exSs, exS, evE, evEs, evT, evC, evI, sizeLine_eq], ?_⟩
      have : (W d).drop i = (W d)[i] :: (W d).drop (i + 1) := List.drop_eq_getElem_cons c
      rw [List.singleton_append, ← this, List.take_append_drop]
    · refine ⟨[], by simp [exSs, exS, evE, evEs, evT, evC, evI, sizeLine_eq], ?_⟩
      rw [List.drop_of_length_le (by omega), List.take_of_length_le (by omega)]
      simp [exSs, exS, evE, evEs, evT, evC, evI, sizeLine_eq]
  obtain ⟨mid, hm, tj⟩ := tj
  have b1 := bent_of g ti (mid' := [c]) (by simp [exSs, exS, evE, evEs, evT, evC, evI, sizeLine_eq]) (by simp [exSs, exS, evE, evEs, evT, evC, evI, sizeLine_eq]) (by simpa [exSs, exS, evE, evEs, evT, evC, evI, sizeLine_eq] using hc)
  have b2 := bent_of g tj (mid' := []) hm (by simp [exSs, exS, evE, evEs, evT, evC, evI, sizeLine_eq]) (by simp [exSs, exS, evE, evEs, evT, evC, evI, sizeLine_eq])
  have b3 := bent_of g tj (mid' := [c]) hm (by simp [exSs, exS, evE, evEs, evT, evC, evI, sizeLine_eq]) (by simpa [exSs, exS, evE, evEs, evT, evC, evI, sizeLine_eq] using hc)
  rw [List.nil_append] at b2
  rw [← List.append_assoc] at b1 b3
  obtain ⟨o6, o9, lp⟩ := three h k [x2.so] _ _ _ b1 b2 b3 a0 (some (.ref 0)) a2 a3 (some (.str (W d))) a5 a6 (some (.int i)) (some (.str [c])) a9 a10 a11 a12 a13
  refine ⟨o6, some (.int i), some (.str [c]), o9, x2, ?_, o2⟩
  unfold MD.l_law_k53_8b
  rw [exSs, par, sq_nx, exSs, exS, it, out_ok]
  dsimp only
  rw [lp, sq_nx, exSs]
end K53
end
section
set_option linter.all false
set_option autoImplicit false
set_option maxRecDepth 100000
set_option maxHeartbeats 1000000
/-! the law's turns; long numbers; deep tuples. -/
namespace K53
open PySem Mini
variable {P : Prog}
mutual
theorem valA_wd (n : Nat) : ∀ (d : D) (m : Nat), wd n m d = true → valA d = true
  | .str s, m, e => by
    rw [wd] at e
    unfold wordB at e
    simp only [Bool.and_eq_true, decide_eq_true_eq] at e
    have := e.1.1.2
    simp only [valA, decide_eq_true_eq]
    omega
  | .int i, m, e => by simp only [valA]
  | .tup xs, m, e => by
    rw [wd, Bool.and_eq_true] at e
    rw [valA]
    exact valAs_wds n xs (m - 1) e.2
  | .non, m, e => by simp [exSs, exS, evE, evEs, evT, evC, evI, sizeLine_eq, wd] at e
  | .bl b, m, e => by simp [exSs, exS, evE, evEs, evT, evC, evI, sizeLine_eq, wd] at e
  | .lst xs, m, e => by simp [exSs, exS, evE, evEs, evT, evC, evI, sizeLine_eq, wd] at e
  | .ro xs, m, e => by simp [exSs, exS, evE, evEs, evT, evC, evI, sizeLine_eq, wd] at e
  | .ref i, m, e => by simp [exSs, exS, evE, evEs, evT, evC, evI, sizeLine_eq, wd] at e
  | .fn i, m, e => by simp [exSs, exS, evE, evEs, evT, evC, evI, sizeLine_eq, wd] at e
  | .dic t ks vs, m, e => by simp [exSs, exS, evE, evEs, evT, evC, evI, sizeLine_eq, wd] at e
  | .ct xs, m, e => by simp [exSs, exS, evE, evEs, evT, evC, evI, sizeLine_eq, wd] at e
theorem valAs_wds (n : Nat) : ∀ (xs : List D) (m : Nat), wds n m xs = true → valAs xs = true
  | [], m, e => by rw [valAs]
  | x :: xs, m, e => by
    rw [wds, Bool.and_eq_true] at e
    rw [valAs, valA_wd n x m e.1, valAs_wds n xs m e.2]
    rfl
end
/-- told of what can be written -/
theorem told0_yes (h : LW P) (q : Nat) (st : Sto) (d : D) (n m : Nat) (hn : n ≤ 4000) (hm : m ≤ 1000) (e : wd n m d = true) (hl : (W d).length ≤ 4000000) : callF P (q + 4) 14 [.int 0, d] st = .ok (.lst [.str (W d)]) st := by
  have w := wd_mono hn d m 1000 hm e
  have c := cst_W n d m e
  have t := told0 h q st d (valA_wd n d m e) (by omega) (fun _ => by omega)
  rw [if_pos w] at t
  exact t
theorem told0_no (h : LW P) (q : Nat) (st : Sto) (d : D) (hv : valA d = true) (hc : cst d < 15000000) (e : wd 4000 1000 d = false) : callF P (q + 4) 14 [.int 0, d] st = .ok .non st := by
  have t := told0 h q st d hv hc (fun z => by rw [e] at z; cases z)
  rw [e] at t
  exact t
theorem eqv_one (st : Sto) (t : Chs) (h : sOk t) : eqvD st (.lst [.str t]) (.lst [.str t]) = some true := by
  have e : toPD st 65 (.lst [.str t]) = some (.list [.str ⟨t.toArray⟩]) := by
    rw [toPD]
    rfl
  have s : SeqAt.shaped (.list [.str ⟨t.toArray⟩]) = true := by
    unfold SeqAt.shaped
    rw [PyData.canLay0, PyData.canLayAll0, PyData.canLayAll0, PyData.canLay0, PyData.depth, PyData.depthAll, PyData.depthAll, PyData.depth]
    have h : PyData.strOk ⟨t.toArray⟩ = true := h
    rw [h]
    rfl
  rw [eqv_deep rfl e e s s]
  simp [exSs, exS, evE, evEs, evT, evC, evI, sizeLine_eq, PyData.eqv, PyData.eqvAll]
theorem inner10 (h : LW P) (k : Nat) (x : Dr) (hx : x.Ok) (a0 a2 a3 a4 a5 a6 a7 a8 a9 a10 a11 a12 a13 : Option D) :
    ∃ o3 o4 o5 o6 o7 o8 o9 x', exSs P.cs (callF P (k + 12)) MD.l_law_k53_10b (LV a0 (some (.ref 0)) a2 a3 a4 a5 a6 a7 a8 a9 a10 a11 a12 a13) [x.so] = .nx (LV a0 (some (.ref 0)) a2 o3 o4 o5 o6 o7 o8 o9 a10 a11 a12 a13) [Dr.so x'] ∧ x'.Ok := by
  obtain ⟨d, x1, e1, o1, g⟩ := data_ok h 5 (k + 5) x hx
  have e5 : LB 5 = 10811 := by decide
  have hl := g.2
  rw [e5] at hl
  have w := written_is h [x1.so] 41 (by decide) 5 d (k + 5) g.1 (by omega)
  have t0 := told0_yes h (k + 8) [x1.so] d 41 5 (by decide) (by decide) g.1 (by omega)
  have t1 := told1 h (k + 6) [x1.so] (W d) (by omega)
  rw [rd_W_prog g.1 (by decide) (by decide)] at t1
  have eq1 := eqv_one [x1.so] (W d) (W_sOk g.1)
  obtain ⟨s, rp⟩ := repr_one [x1.so] d 5 (wd_mono (by decide) d 5 5 (Nat.le_refl _) g.1) (by decide) (by omega)
  have t9 : evT (callF P (k + 12)) MD.l_law_k53_9i (LV a0 (some (.ref 0)) a2 (some d) (some (.str (W d))) a5 a6 a7 a8 a9 a10 a11 a12 a13) [x1.so] = .ok false [x1.so] := by
    unfold MD.l_law_k53_9i
    simp [exSs, exS, evE, evEs, evT, evC, evI, sizeLine_eq, t0, t1, oneD, eq1, rp]
  have lp := forL_go (t := .nm 5) (b := exSs P.cs (callF P (k + 12)) MD.l_law_k53_8b) (fun j env S => ∃ b5 b6 b7 b8 b9 y, env = LV a0 (some (.ref 0)) a2 (some d) (some (.str (W d))) b5 b6 b7 b8 b9 a10 a11 a12 a13 ∧ S = [Dr.so y] ∧ y.Ok) (rangeL 0 1 8) 0 (LV a0 (some (.ref 0)) a2 (some d) (some (.str (W d))) a5 a6 a7 a8 a9 a10 a11 a12 a13) [x1.so] ⟨a5, a6, a7, a8, a9, x1, rfl, rfl, o1⟩
    (fun j v env S hj hI => by
      obtain ⟨b5, b6, b7, b8, b9, y, rfl, rfl, oy⟩ := hI
      obtain ⟨o6, o7, o8, o9, y', e, oy'⟩ := inner8 h k y oy d g a0 a2 (some d) (some v) b6 b7 b8 b9 a10 a11 a12 a13
      exact ⟨_, setT_nm _ _ _, _, _, e, some v, o6, o7, o8, o9, y', rfl, rfl, oy'⟩)
  obtain ⟨env', S', l1, b5, b6, b7, b8, b9, y, rfl, rfl, oy⟩ := lp
  refine ⟨some d, some (.str (W d)), b5, b6, b7, b8, b9, y, ?_, oy⟩
  have it : ∀ env, evI (callF P (k + 12)) (.rng (.cons (.lit (.int 8)) .nil)) env [x1.so] = .ok (rangeL 0 1 8, []) [x1.so] := fun env => by
    simp only [evI, evEs, evE, bnd_ok]
    rfl
  have c1 : exS P.cs (callF P (k + 12)) (.asg (.nm 3) (.call 9 (.cons (.var 1) (.cons (.lit (.int 5)) .nil)))) (LV a0 (some (.ref 0)) a2 a3 a4 a5 a6 a7 a8 a9 a10 a11 a12 a13) [x.so] = .nx (LV a0 (some (.ref 0)) a2 (some d) a4 a5 a6 a7 a8 a9 a10 a11 a12 a13) [x1.so] := by
    have e1 : callF P (k + 12) 9 [.ref 0, .int 5] [x.so] = .ok d [x1.so] := e1
    simp only [exS, evE, evEs, LV, getV_0, getV_s, bnd_ok, e1, out_ok, setT_nm, nxO_some', List.set_cons_succ, List.set_cons_zero]
  have c2 : exS P.cs (callF P (k + 12)) (.asg (.nm 4) (.call 11 (.cons (.var 3) .nil))) (LV a0 (some (.ref 0)) a2 (some d) a4 a5 a6 a7 a8 a9 a10 a11 a12 a13) [x1.so] = .nx (LV a0 (some (.ref 0)) a2 (some d) (some (.str (W d))) a5 a6 a7 a8 a9 a10 a11 a12 a13) [x1.so] := by
    simp only [exS, evE, evEs, LV, getV_0, getV_s, bnd_ok, w, out_ok, setT_nm, nxO_some', List.set_cons_succ, List.set_cons_zero]
  unfold MD.l_law_k53_10b
  rw [exSs, c1, sq_nx, exSs, c2, sq_nx, exSs, exS, t9, out_ok, if_neg Bool.false_ne_true, exSs, sq_nx, exSs, exS, it, out_ok]
  dsimp only
  rw [l1, sq_nx, exSs]
/-! long numbers -/
theorem nines (n : Nat) : NumText.digitsVal (List.replicate n 57) + 1 = 10 ^ n := by
  induction n with
  | zero => rfl
  | succ n ih =>
    rw [List.replicate_succ', digitsVal_snoc, Nat.pow_succ]
    omega
def nine (n : Nat) : Chs := List.replicate n 57
theorem nine_len (n : Nat) : (nine n).length = n := List.length_replicate ..
theorem nine_body (n : Nat) : bodyT (nine n) = nine n := by
  unfold bodyT
  rw [if_neg]
  cases n with
  | zero => simp [exSs, exS, evE, evEs, evT, evC, evI, sizeLine_eq, nine]
  | succ n => simp [exSs, exS, evE, evEs, evT, evC, evI, sizeLine_eq, nine, List.replicate_succ]
theorem nine_dig (n : Nat) : (nine n).all isDig = true := by
  rw [List.all_eq_true]
  intro c hc
  rw [(List.mem_replicate.mp hc).2]
  decide
theorem nine_num {n : Nat} (hn : 0 < n) : numB (nine n) = true := by
  unfold numB
  rw [nine_body, nine_dig]
  cases n with
  | zero => omega
  | succ n => simp [exSs, exS, evE, evEs, evT, evC, evI, sizeLine_eq, nine, List.replicate_succ]
theorem nine_val (n : Nat) : valT (nine n) + 1 = ((10 ^ n : Nat) : Int) := by
  unfold valT
  rw [if_neg]
  · have := nines n
    unfold nine
    omega
  · cases n with
    | zero => simp [exSs, exS, evE, evEs, evT, evC, evI, sizeLine_eq, nine]
    | succ n => simp [exSs, exS, evE, evEs, evT, evC, evI, sizeLine_eq, nine, List.replicate_succ]
theorem rd_bare' (at' : Chs → Option D) (fu : Nat → Bool) {t : Chs} (h : bare t) : rd at' fu t = at' t := by
  have e := pcs_at h (rest := []) trivial
  rw [List.append_nil] at e
  have e2 : pcs [] [] = [] := by
    unfold pcs
    rw [if_pos rfl]
  obtain ⟨n1, n2, n3⟩ := delim_not h
  unfold rd
  rw [e, e2, runs, step, if_neg n1, if_neg n2, if_neg n3]
  dsimp only
  cases at' t <;> rfl
theorem nine_bare {n : Nat} (hn : 0 < n) (c : Chs) (hc : ∀ x ∈ c, delim x = false) (c2 : Chs) (hc2 : ∀ x ∈ c2, delim x = false) : bare (c ++ nine n ++ c2) := by
  refine ⟨fun z => ?_, fun x hx => ?_⟩
  · have := congrArg List.length z
    simp [exSs, exS, evE, evEs, evT, evC, evI, sizeLine_eq, nine] at this
    omega
  · rcases List.mem_append.mp hx with z | z
    · rcases List.mem_append.mp z with z | z
      · exact hc x z
      · rw [(List.mem_replicate.mp z).2]
        decide
    · exact hc2 x z
theorem word_long {t : Chs} (h : 12 < t.length) : wordB t = false := by
  unfold wordB
  rw [decide_eq_false (by omega)]
  simp [exSs, exS, evE, evEs, evT, evC, evI, sizeLine_eq]
theorem long_neg : ∃ i, rd (atm 4000) full ([45] ++ nine 4000) = some (.int i) := by
  have b := nine_bare (n := 4000) (by decide) [45] (by simp [exSs, exS, evE, evEs, evT, evC, evI, sizeLine_eq, delim]) [] (by simp [exSs, exS, evE, evEs, evT, evC, evI, sizeLine_eq])
  rw [List.append_nil] at b
  rw [rd_bare' _ _ b]
  have hb : bodyT ([45] ++ nine 4000) = nine 4000 := body_neg _
  have hn : numB ([45] ++ nine 4000) = true := by
    unfold numB
    rw [hb, nine_dig]
    have e : nine 4000 = 57 :: nine 3999 := rfl
    rw [e]
    rfl
  unfold atm
  rw [word_long (by simp [exSs, exS, evE, evEs, evT, evC, evI, sizeLine_eq, nine]), if_neg Bool.false_ne_true, if_pos ⟨hn, by rw [hb, nine_len]; exact Nat.le_refl _⟩]
  exact ⟨_, rfl⟩
theorem long_zero : rd (atm 4000) full (nine 4000 ++ [48]) = none := by
  have b := nine_bare (n := 4000) (by decide) [] (by simp [exSs, exS, evE, evEs, evT, evC, evI, sizeLine_eq]) [48] (by simp [exSs, exS, evE, evEs, evT, evC, evI, sizeLine_eq, delim])
  rw [List.nil_append] at b
  rw [rd_bare' _ _ b]
  have hb : bodyT (nine 4000 ++ [48]) = nine 4000 ++ [48] := by
    unfold bodyT
    rw [if_neg]
    have e : nine 4000 = 57 :: nine 3999 := rfl
    rw [e]
    simp [exSs, exS, evE, evEs, evT, evC, evI, sizeLine_eq]
  unfold atm
  rw [word_long (by simp [exSs, exS, evE, evEs, evT, evC, evI, sizeLine_eq, nine]), if_neg Bool.false_ne_true, if_neg]
  rintro ⟨_, z⟩
  rw [hb, List.length_append, nine_len] at z
  simp [exSs, exS, evE, evEs, evT, evC, evI, sizeLine_eq] at z
/-! deep tuples -/
def nst : Nat → D
  | 0 => .tup []
  | n + 1 => .tup [nst n]
theorem nst_W : ∀ n, W (nst n) = List.replicate (n + 1) 91 ++ List.replicate (n + 1) 93
  | 0 => W_nil
  | n + 1 => by
    rw [nst, W, Wl, Wt, nst_W n, List.replicate_succ (n := n + 1), List.replicate_succ' (n := n + 1) (a := 93)]
    simp [exSs, exS, evE, evEs, evT, evC, evI, sizeLine_eq]
theorem nst_wd (k : Nat) : ∀ n m, wd k m (nst n) = decide (n + 1 ≤ m)
  | 0, m => by
    rw [nst, wd, wds, Bool.and_true]
    rfl
  | n + 1, m => by
    rw [nst, wd, wds, wds, Bool.and_true, nst_wd k n (m - 1), Bool.eq_iff_iff, Bool.and_eq_true, decide_eq_true_eq, decide_eq_true_eq, decide_eq_true_eq]
    omega
theorem nst_cst : ∀ n, cst (nst n) = 4 * n + 2
  | 0 => by rw [nst, cst, csts]
  | n + 1 => by
    rw [nst, cst, csts, csts, nst_cst n]
    omega
theorem nst_val (n : Nat) : valA (nst n) = true := valA_wd 4000 _ (n + 1) (by rw [nst_wd]; exact decide_eq_true (Nat.le_refl _))
/-- too deep to be read -/
theorem too_deep : rd (atm 4000) full (W (nst 1000)) = none := by
  cases z : rd (atm 4000) full (W (nst 1000)) with
  | none => rfl
  | some d =>
    have e := rd_W (fun t d e => atm_W e) z
    have w := rd_prog z
    have l1 := rd_W_law w
    have l2 := rd_of (at' := atm 5000) (fu := never) (n := 4000) (m := 1001) (L := 1001) (d := nst 1000) (fun s e => atm_word e) (fun i e => atm_int (by decide) (Nat.lt_of_lt_of_le e (Nat.pow_le_pow_right (by decide) (by decide)))) (fun k hk => rfl) (by rw [nst_wd]; rfl) (Nat.le_refl _)
    rw [e, l2] at l1
    have : nst 1000 = d := Option.some.inj l1
    rw [← this, nst_wd] at w
    exact absurd (of_decide_eq_true w) (by decide)
end K53
end
section
set_option linter.all false
set_option autoImplicit false
set_option maxRecDepth 100000
set_option maxHeartbeats 1000000
/-! the law, its end. -/
namespace K53
open PySem Mini
variable {P : Prog}
theorem flat_rep (c n : Nat) : (List.replicate n ([c] : Chs)).flatten = List.replicate n c := by
  induction n with
  | zero => rfl
  | succ n ih => rw [List.replicate_succ, List.flatten_cons, ih, List.replicate_succ]; rfl
theorem repT (S : Sto) (c n : Nat) (h : n ≤ 10000000) : prim .mul [.str [c], .int (n : Int)] S = some (.str (List.replicate n c), S) := by
  show mulD S (.str [c]) (.int (n : Int)) = _
  simp only [mulD]
  rw [decide_eq_true (by omega), decide_eq_true (by omega), decide_eq_true (by rw [sizeLine_eq]; simp [exSs, exS, evE, evEs, evT, evC, evI, sizeLine_eq]; omega), Int.toNat_natCast, flat_rep]
  rfl
theorem addT (S : Sto) (a b : Chs) (h : a.length + b.length ≤ 16777216) : prim .add [.str a, .str b] S = some (.str (a ++ b), S) := by
  rw [p_add_ss, decide_eq_true (by rw [sizeLine_eq]; exact h), guardR_true]
theorem nine_sOk (n : Nat) : sOk (nine n) := by
  rw [sOk_iff]
  intro c hc
  rw [(List.mem_replicate.mp hc).2]
  decide
/-! values that are no data -/
def bads : List D := [.non, .bl true, .str [65], .str [], .str [97, 32, 98], .str [57, 97], .str [97, 98, 99, 100, 101, 102, 103, 104, 105, 106, 107, 108, 109], .lst [.int 1], .tup [.int 1, .non], .tup [.tup [.bl true]], .lst [.str [97]], .tup [.str [97], .lst []], .str [93], .tup [.str [93]]]
theorem bads_ok : ∀ d ∈ bads, valA d = true ∧ cst d < 15000000 ∧ wd 4000 1000 d = false := by
  intro d hd
  simp only [bads, List.mem_cons, List.not_mem_nil, or_false] at hd
  rcases hd with rfl | rfl | rfl | rfl | rfl | rfl | rfl | rfl | rfl | rfl | rfl | rfl | rfl | rfl
  all_goals refine ⟨by simp [exSs, exS, evE, evEs, evT, evC, evI, sizeLine_eq, valA, valAs], by simp [exSs, exS, evE, evEs, evT, evC, evI, sizeLine_eq, cst, csts], by simp [exSs, exS, evE, evEs, evT, evC, evI, sizeLine_eq, wd, wds, wordB, isLow, isDig]⟩
theorem bad_body (h : LW P) (k : Nat) (S : Sto) (d : D) (hd : d ∈ bads) (a0 a1 a2 a3 a4 a5 a6 a7 a8 a9 a11 a12 a13 : Option D) :
    exSs P.cs (callF P (k + 12)) MD.l_law_k53_5b (LV a0 a1 a2 a3 a4 a5 a6 a7 a8 a9 (some d) a11 a12 a13) S = .nx (LV a0 a1 a2 a3 a4 a5 a6 a7 a8 a9 (some d) a11 a12 a13) S := by
  obtain ⟨h1, h2, h3⟩ := bads_ok d hd
  have t := told0_no h (k + 8) S d h1 h2 h3
  have t4 : evT (callF P (k + 12)) MD.l_law_k53_4i (LV a0 a1 a2 a3 a4 a5 a6 a7 a8 a9 (some d) a11 a12 a13) S = .ok false S := by
    simp [exSs, exS, evE, evEs, evT, evC, evI, sizeLine_eq, MD.l_law_k53_4i, LV, t, prim, notND]
  unfold MD.l_law_k53_5b
  rw [exSs, exS, t4, out_ok, if_neg Bool.false_ne_true, exSs, sq_nx, exSs]
theorem bad_loop (h : LW P) (k : Nat) (S : Sto) (a0 a1 a2 a3 a4 a5 a6 a7 a8 a9 a10 a11 a12 a13 : Option D) :
    ∃ o10, forL [] (.nm 10) (exSs P.cs (callF P (k + 12)) MD.l_law_k53_5b) bads (LV a0 a1 a2 a3 a4 a5 a6 a7 a8 a9 a10 a11 a12 a13) S = .nx (LV a0 a1 a2 a3 a4 a5 a6 a7 a8 a9 o10 a11 a12 a13) S := by
  obtain ⟨env', S', l1, o10, rfl, rfl⟩ := forL_go (t := .nm 10) (b := exSs P.cs (callF P (k + 12)) MD.l_law_k53_5b) (fun j env S' => ∃ o10, env = LV a0 a1 a2 a3 a4 a5 a6 a7 a8 a9 o10 a11 a12 a13 ∧ S' = S) bads 0 (LV a0 a1 a2 a3 a4 a5 a6 a7 a8 a9 a10 a11 a12 a13) S ⟨a10, rfl, rfl⟩
    (fun j d env S' hj hI => by
      obtain ⟨o10, rfl, rfl⟩ := hI
      have hd : d ∈ bads := List.mem_of_getElem? hj
      exact ⟨_, setT_nm _ _ _, _, _, bad_body h k S' d hd a0 a1 a2 a3 a4 a5 a6 a7 a8 a9 a11 a12 a13, some d, rfl, rfl⟩)
  exact ⟨o10, l1⟩
end K53
end
section
set_option linter.all false
set_option autoImplicit false
set_option maxRecDepth 100000
set_option maxHeartbeats 1000000
/-! the law, its end. -/
namespace K53
open PySem Mini
variable {P : Prog}
theorem long_eval (P : Prog) (cl : Call) (S : Sto) (N : Chs) (v i : Int) (a0 a1 a2 a3 a4 a5 a6 a7 a8 a9 a10 a12 a13 : Option D)
    (iv : intD (.str N) = some (.int v)) (t0 : cl 14 [.int 0, .int v] S = .ok (.lst [.str N]) S) (t1 : cl 14 [.int 1, .str ([45] ++ N)] S = .ok (.lst [.int i]) S)
    (t2 : cl 14 [.int 1, .str (N ++ [48])] S = .ok .non S) (t3 : cl 14 [.int 0, .int (v + 1)] S = .ok .non S) (a1' : prim .add [.str [45], .str N] S = some (.str ([45] ++ N), S))
    (a2' : prim .add [.str N, .str [48]] S = some (.str (N ++ [48]), S)) (eq : eqvD S (.lst [.str N]) (.lst [.str N]) = some true) :
    evT cl MD.l_law_k53_3i (LV a0 a1 a2 a3 a4 a5 a6 a7 a8 a9 a10 (some (.str N)) a12 a13) S = .ok false S := by
  have n1 : prim .isN [.lst [.int i]] S = some (.bl false, S) := rfl
  have n2 : prim .notN [.non] S = some (.bl false, S) := rfl
  simp only [MD.l_law_k53_3i, evT, evE, evEs, LV, getV_0, getV_s, bnd_ok, p_int, iv, oneR_some', liftP_some, t0, List.length_cons, List.length_nil, sizeLine_eq, Nat.reduceAdd, Nat.reduceLeDiff, if_true, p_ne, eq, Option.map_some, Bool.not_true, boolR_some', truR_bl', Bool.false_eq_true, if_false, a1', t1, a2', t2, p_add_ii, t3, n1, n2]
theorem long_test (h : LW P) (k : Nat) (S : Sto) (n : Nat) (hn : n = 4000) (i : Int) (ln : rd (atm 4000) full ([45] ++ nine n) = some (.int i)) (lz : rd (atm 4000) full (nine n ++ [48]) = none) (a0 a1 a2 a3 a4 a5 a6 a7 a8 a9 a10 a12 a13 : Option D) :
    evT (callF P (k + 12)) MD.l_law_k53_3i (LV a0 a1 a2 a3 a4 a5 a6 a7 a8 a9 a10 (some (.str (nine n))) a12 a13) S = .ok false S := by
  have nl := nine_len n
  have nb := nine_body n
  have nn := nine_num (n := n) (by omega)
  have vl := valT_lt (t := nine n) (by rw [nb]; exact nine_dig _)
  rw [nb, nl] at vl
  have sv := strI_val nn
  have n1 : (bodyT (nine n)).isEmpty = false := by
    unfold numB at nn
    simp only [Bool.and_eq_true, Bool.not_eq_true'] at nn
    exact nn.1.1
  have iv : intD (.str (nine n)) = some (.int (valT (nine n))) := by
    simp only [intD]
    rw [if_pos (by rw [nl, sizeLine_eq]; omega), intText_at (by omega) n1 (by rw [nb]; exact nine_dig _)]
    rfl
  have wv : wd n 0 (.int (valT (nine n))) = true := by
    rw [wd]
    exact decide_eq_true vl
  have eW : W (.int (valT (nine n))) = nine n := by
    rw [W]
    exact sv
  have t0 := told0_yes h (k + 8) S (.int (valT (nine n))) n 0 (by omega) (by omega) wv (by rw [eW, nl]; omega)
  rw [eW] at t0
  have t1 := told1 h (k + 6) S ([45] ++ nine n) (by rw [List.length_append, nl, List.length_singleton]; omega)
  rw [ln] at t1
  have t2 := told1 h (k + 6) S (nine n ++ [48]) (by rw [List.length_append, nl, List.length_singleton]; omega)
  rw [lz] at t2
  have t3 := told0_no h (k + 8) S (.int (valT (nine n) + 1)) (by simp only [valA]) (by simp [exSs, exS, evE, evEs, evT, evC, evI, sizeLine_eq, cst]) (by
    rw [wd, nine_val, Int.natAbs_natCast, hn]
    exact decide_eq_false (Nat.lt_irrefl _))
  exact long_eval P (callF P (k + 12)) S (nine n) _ i a0 a1 a2 a3 a4 a5 a6 a7 a8 a9 a10 a12 a13 iv t0 t1 t2 t3 (addT S [45] (nine n) (by rw [nl, List.length_singleton]; omega)) (addT S (nine n) [48] (by rw [nl, List.length_singleton]; omega)) (eqv_one S (nine n) (nine_sOk _))
end K53
end
section
set_option linter.all false
set_option autoImplicit false
set_option maxRecDepth 100000
set_option maxHeartbeats 1000000
/-! the law, its end. -/
namespace K53
open PySem Mini
variable {P : Prog}
theorem deep_loop (cs : Clss) (cl : Call) (S : Sto) (n : Nat) (a0 a1 a2 a3 a4 a5 a6 a7 a8 a9 a10 a11 a13 : Option D) :
    ∃ o2, forL [] (.nm 2) (exSs cs cl MD.l_law_k53_2b) (rangeL 0 1 n) (LV a0 a1 a2 a3 a4 a5 a6 a7 a8 a9 a10 a11 (some (nst 0)) a13) S = .nx (LV a0 a1 o2 a3 a4 a5 a6 a7 a8 a9 a10 a11 (some (nst n)) a13) S := by
  obtain ⟨env', S', l1, o2, rfl, rfl⟩ := forL_go (t := .nm 2) (b := exSs cs cl MD.l_law_k53_2b) (fun j env S' => ∃ o2, env = LV a0 a1 o2 a3 a4 a5 a6 a7 a8 a9 a10 a11 (some (nst j)) a13 ∧ S' = S) (rangeL 0 1 n) 0 (LV a0 a1 a2 a3 a4 a5 a6 a7 a8 a9 a10 a11 (some (nst 0)) a13) S ⟨a2, rfl, rfl⟩
    (fun j d env S' hj hI => by
      obtain ⟨o2, rfl, rfl⟩ := hI
      refine ⟨_, setT_nm _ _ _, LV a0 a1 (some d) a3 a4 a5 a6 a7 a8 a9 a10 a11 (some (nst (0 + j + 1))) a13, S', ?_, some d, rfl, rfl⟩
      have e : nst (0 + j + 1) = .tup [nst (0 + j)] := by rw [nst]
      rw [e]
      simp only [MD.l_law_k53_2b, exSs, exS, evE, evEs, LV, List.set_cons_succ, List.set_cons_zero, getV_0, getV_s, bnd_ok, List.length_cons, List.length_nil, sizeLine_eq, Nat.reduceAdd, Nat.reduceLeDiff, if_true, out_ok, setT_nm, nxO_some', sq_nx])
  refine ⟨o2, ?_⟩
  rw [l1, rangeL_len, Nat.zero_add]
theorem deep_eval (cl : Call) (S : Sto) (N : D) (A B C E : Chs) (a0 a1 a2 a3 a4 a5 a6 a7 a8 a9 a10 a11 a13 : Option D)
    (t0 : cl 14 [.int 0, N] S = .ok (.lst [.str (A ++ B)]) S) (t1 : cl 14 [.int 0, .tup [N]] S = .ok .non S) (t2 : cl 14 [.int 1, .str (C ++ E)] S = .ok .non S)
    (r1 : prim .mul [.str [91], .int 1000] S = some (.str A, S)) (r2 : prim .mul [.str [93], .int 1000] S = some (.str B, S)) (r3 : prim .mul [.str [91], .int 1001] S = some (.str C, S)) (r4 : prim .mul [.str [93], .int 1001] S = some (.str E, S))
    (d1 : prim .add [.str A, .str B] S = some (.str (A ++ B), S)) (d2 : prim .add [.str C, .str E] S = some (.str (C ++ E), S)) (eq : eqvD S (.lst [.str (A ++ B)]) (.lst [.str (A ++ B)]) = some true) :
    evT cl MD.l_law_k53_1i (LV a0 a1 a2 a3 a4 a5 a6 a7 a8 a9 a10 a11 (some N) a13) S = .ok false S := by
  have n2 : prim .notN [.non] S = some (.bl false, S) := rfl
  simp only [MD.l_law_k53_1i, evT, evE, evEs, LV, getV_0, getV_s, bnd_ok, liftP_some, t0, r1, r2, r3, r4, d1, d2, List.length_cons, List.length_nil, sizeLine_eq, Nat.reduceAdd, Nat.reduceLeDiff, if_true, p_ne, eq, Option.map_some, Bool.not_true, boolR_some', truR_bl', Bool.false_eq_true, if_false, t1, t2, n2]
end K53
end
section
set_option linter.all false
set_option autoImplicit false
set_option maxRecDepth 100000
set_option maxHeartbeats 1000000
/-! the law, its end. -/
namespace K53
open PySem Mini
variable {P : Prog}
theorem last_eval (cl : Call) (S : Sto) (N : D) (A B : Chs) (env : Mini.Env) (nv : D)
    (t1 : cl 14 [.int 1, .str (A ++ B)] S = .ok (.lst [N]) S) (r1 : prim .mul [.str [91], .int 1000] S = some (.str A, S)) (r2 : prim .mul [.str [93], .int 1000] S = some (.str B, S)) (d1 : prim .add [.str A, .str B] S = some (.str (A ++ B), S))
    (cmp : evE cl MD.l_law_k53_0q env S = .ok (.lst [.non, .non, .non, .non, .non, .non, .non]) S) :
    evE cl (.andE (.pr .notN (.cons (.call 14 (.cons (.lit (.int 1)) (.cons (.pr .add (.cons (.pr .mul (.cons (.lit (.str [91])) (.cons (.lit (.int 1000)) .nil))) (.cons (.pr .mul (.cons (.lit (.str [93])) (.cons (.lit (.int 1000)) .nil))) .nil))) .nil))) .nil)) (.pr .eq (.cons MD.l_law_k53_0q (.cons (.pr .mul (.cons (.vlst (.cons (.lit (.non)) .nil)) (.cons (.lit (.int 7)) .nil))) .nil)))) env S = .ok (.bl true) S := by
  have nn : prim .notN [.lst [N]] S = some (.bl true, S) := rfl
  have ml : prim .mul [.lst [.non], .int 7] S = some (.lst [.non, .non, .non, .non, .non, .non, .non], S) := by
    show mulD S (.lst [.non]) (.int 7) = _
    rfl
  have eq : eqvD S (.lst [.non, .non, .non, .non, .non, .non, .non]) (.lst [.non, .non, .non, .non, .non, .non, .non]) = some true := by rfl
  generalize MD.l_law_k53_0q = lq at *
  simp only [evE, evEs, bnd_ok, r1, r2, d1, t1, nn, liftP_some, cmp, List.length_cons, List.length_nil, sizeLine_eq, Nat.reduceAdd, Nat.reduceLeDiff, if_true, ml, p_eq, eq, boolR_some']
end K53
end
section
set_option linter.all false
set_option autoImplicit false
set_option maxRecDepth 100000
set_option maxHeartbeats 1000000
/-! the deep tests, with what is told. -/
namespace K53
open PySem Mini
variable {P : Prog}
theorem rep_len (c n : Nat) : (List.replicate n c : Chs).length = n := List.length_replicate ..
theorem repI (S : Sto) (c n : Nat) (i : Int) (hi : i = (n : Int)) (h : n ≤ 10000000) : prim .mul [.str [c], .int i] S = some (.str (List.replicate n c), S) := by
  rw [hi]
  exact repT S c n h
theorem deep_test (h : LW P) (k : Nat) (S : Sto) (n m : Nat) (hn : n + 1 = 1000) (hm : m + 1 = 1001) (td : rd (atm 4000) full (W (nst m)) = none) (a0 a1 a2 a3 a4 a5 a6 a7 a8 a9 a10 a11 a13 : Option D) :
    evT (callF P (k + 12)) MD.l_law_k53_1i (LV a0 a1 a2 a3 a4 a5 a6 a7 a8 a9 a10 a11 (some (nst n)) a13) S = .ok false S := by
  have w9 : wd 4000 1000 (nst n) = true := by
    rw [nst_wd]
    exact decide_eq_true (by omega)
  have e9 := nst_W n
  have l9 : (W (nst n)).length = 2000 := by
    rw [e9, List.length_append, rep_len, rep_len]
    omega
  have em : m = n + 1 := by omega
  have t0 := told0_yes h (k + 8) S (nst n) 4000 1000 (Nat.le_refl _) (Nat.le_refl _) w9 (by omega)
  have t1 := told0_no h (k + 8) S (nst m) (nst_val _) (by rw [nst_cst]; omega) (by
    rw [nst_wd]
    exact decide_eq_false (by omega))
  have e10 := nst_W m
  have l10 : (W (nst m)).length = 2002 := by
    rw [e10, List.length_append, rep_len, rep_len]
    omega
  have t2 := told1 h (k + 6) S (W (nst m)) (by omega)
  rw [td, e10] at t2
  have so := W_sOk w9
  rw [e9] at t0 so
  have en : nst m = .tup [nst n] := by rw [em, nst]
  rw [en] at t1
  exact deep_eval (callF P (k + 12)) S (nst n) _ _ _ _ a0 a1 a2 a3 a4 a5 a6 a7 a8 a9 a10 a11 a13 t0 t1 t2 (repI S 91 (n + 1) 1000 (by omega) (by omega)) (repI S 93 (n + 1) 1000 (by omega) (by omega)) (repI S 91 (m + 1) 1001 (by omega) (by omega)) (repI S 93 (m + 1) 1001 (by omega) (by omega))
    (addT S _ _ (by rw [rep_len, rep_len]; omega)) (addT S _ _ (by rw [rep_len, rep_len]; omega)) (eqv_one S _ so)
end K53
end
section
set_option linter.all false
set_option autoImplicit false
set_option maxRecDepth 100000
set_option maxHeartbeats 1000000
/-! the last test, with what is told. -/
namespace K53
open PySem Mini
variable {P : Prog}
def lasts : List D := [.non, .int 5, .tup [.int 1], .str [], .str [91, 97, 93, 91, 98, 93], .str [97, 44, 98], .str [91, 97]]
theorem last_comp (h : LW P) (k : Nat) (S : Sto) (v4 : rd (atm 4000) full [] = none) (v5 : rd (atm 4000) full [91, 97, 93, 91, 98, 93] = none) (v6 : rd (atm 4000) full [97, 44, 98] = none) (v7 : rd (atm 4000) full [91, 97] = none) (a0 a1 a2 a3 a4 a5 a6 a7 a8 a9 a10 a11 a12 a13 : Option D) :
    evE (callF P (k + 12)) MD.l_law_k53_0q (LV a0 a1 a2 a3 a4 a5 a6 a7 a8 a9 a10 a11 a12 a13) S = .ok (.lst [.non, .non, .non, .non, .non, .non, .non]) S := by
  have u1 := told1_no h (k + 10) S .non rfl (by decide)
  have u2 := told1_no h (k + 10) S (.int 5) rfl (by decide)
  have u3 := told1_no h (k + 10) S (.tup [.int 1]) rfl (by decide)
  have u4 := told1 h (k + 6) S [] (by simp [evE, evEs])
  have u5 := told1 h (k + 6) S [91, 97, 93, 91, 98, 93] (by simp [evE, evEs])
  have u6 := told1 h (k + 6) S [97, 44, 98] (by simp [evE, evEs])
  have u7 := told1 h (k + 6) S [91, 97] (by simp [evE, evEs])
  rw [v4] at u4
  rw [v5] at u5
  rw [v6] at u6
  rw [v7] at u7
  refine (comp_seq (callF P (k + 12)) 13 _ (LV a0 a1 a2 a3 a4 a5 a6 a7 a8 a9 a10 a11 a12 a13) S (.lst lasts) lasts MD.l_law_k53_0e (fun _ => .non) (by simp [evE, evEs, lasts, sizeLine_eq]) rfl rfl (by rw [sizeLine_eq]; decide) (fun d hd => ?_))
  simp only [lasts, List.mem_cons, List.not_mem_nil, or_false] at hd
  rcases hd with rfl | rfl | rfl | rfl | rfl | rfl | rfl
  · simp [evE, evEs, MD.l_law_k53_0e, wipeE, u1]
  · simp [evE, evEs, MD.l_law_k53_0e, wipeE, u2]
  · simp [evE, evEs, MD.l_law_k53_0e, wipeE, u3]
  · simp [evE, evEs, MD.l_law_k53_0e, wipeE, u4, oneD]
  · simp [evE, evEs, MD.l_law_k53_0e, wipeE, u5, oneD]
  · simp [evE, evEs, MD.l_law_k53_0e, wipeE, u6, oneD]
  · simp [evE, evEs, MD.l_law_k53_0e, wipeE, u7, oneD]
end K53
end
section
set_option linter.all false
set_option autoImplicit false
set_option maxRecDepth 100000
set_option maxHeartbeats 1000000
/-! the law, its end. -/
namespace K53
open PySem Mini
variable {P : Prog}
theorem v4 : rd (atm 4000) full [] = none := rfl
theorem v5 : rd (atm 4000) full [91, 97, 93, 91, 98, 93] = none := rfl
theorem v6 : rd (atm 4000) full [97, 44, 98] = none := rfl
theorem v7 : rd (atm 4000) full [91, 97] = none := rfl
/-- the law's last row -/
theorem last_ret (h : LW P) (k : Nat) (S : Sto) (n : Nat) (hn : n + 1 = 1000) (a0 a1 a2 a3 a4 a5 a6 a7 a8 a9 a10 a11 a12 a13 : Option D) :
    evE (callF P (k + 12)) (.andE (.pr .notN (.cons (.call 14 (.cons (.lit (.int 1)) (.cons (.pr .add (.cons (.pr .mul (.cons (.lit (.str [91])) (.cons (.lit (.int 1000)) .nil))) (.cons (.pr .mul (.cons (.lit (.str [93])) (.cons (.lit (.int 1000)) .nil))) .nil))) .nil))) .nil)) (.pr .eq (.cons MD.l_law_k53_0q (.cons (.pr .mul (.cons (.vlst (.cons (.lit (.non)) .nil)) (.cons (.lit (.int 7)) .nil))) .nil)))) (LV a0 a1 a2 a3 a4 a5 a6 a7 a8 a9 a10 a11 a12 a13) S = .ok (.bl true) S := by
  have w9 : wd 4000 1000 (nst n) = true := by
    rw [nst_wd]
    exact decide_eq_true (by omega)
  have e9 := nst_W n
  have l9 : (W (nst n)).length = 2000 := by
    rw [e9, List.length_append, rep_len, rep_len]
    omega
  have t1 := told1 h (k + 6) S (W (nst n)) (by omega)
  rw [rd_W_prog w9 (Nat.le_refl _) (Nat.le_refl _), e9] at t1
  exact last_eval (callF P (k + 12)) S (nst n) _ _ _ .non t1 (repI S 91 (n + 1) 1000 (by omega) (by omega)) (repI S 93 (n + 1) 1000 (by omega) (by omega)) (addT S _ _ (by rw [rep_len, rep_len]; omega))
    (last_comp h k S v4 v5 v6 v7 a0 a1 a2 a3 a4 a5 a6 a7 a8 a9 a10 a11 a12 a13)
theorem body_eval (cs : Clss) (cl : Call) (zs : D) (S0 S : Sto) (r : D) (N : Chs) (dp : D) (b2 b3 b4 b5 b6 b7 b8 b9 o10 o2 : Option D)
    (c1 : cl 7 [zs] [] = .ok r S0)
    (l1 : forL [] (.nm 2) (exSs cs cl MD.l_law_k53_10b) (rangeL 0 1 4) (LV (some zs) (some r) none none none none none none none none none none none none) S0 = .nx (LV (some zs) (some r) b2 b3 b4 b5 b6 b7 b8 b9 none none none none) S)
    (l2 : forL [] (.nm 10) (exSs cs cl MD.l_law_k53_5b) bads (LV (some zs) (some r) b2 b3 b4 b5 b6 b7 b8 b9 none none none none) S = .nx (LV (some zs) (some r) b2 b3 b4 b5 b6 b7 b8 b9 o10 none none none) S)
    (pm : prim .mul [.str [57], .int 4000] S = some (.str N, S))
    (lt : evT cl MD.l_law_k53_3i (LV (some zs) (some r) b2 b3 b4 b5 b6 b7 b8 b9 o10 (some (.str N)) none none) S = .ok false S)
    (rg : ∃ R, rngD 1 [.int 999] = some R ∧ forL [] (.nm 2) (exSs cs cl MD.l_law_k53_2b) R (LV (some zs) (some r) b2 b3 b4 b5 b6 b7 b8 b9 o10 (some (.str N)) (some (.tup [])) none) S = .nx (LV (some zs) (some r) o2 b3 b4 b5 b6 b7 b8 b9 o10 (some (.str N)) (some dp) none) S)
    (dt : evT cl MD.l_law_k53_1i (LV (some zs) (some r) o2 b3 b4 b5 b6 b7 b8 b9 o10 (some (.str N)) (some dp) none) S = .ok false S)
    (lr : evE cl (.andE (.pr .notN (.cons (.call 14 (.cons (.lit (.int 1)) (.cons (.pr .add (.cons (.pr .mul (.cons (.lit (.str [91])) (.cons (.lit (.int 1000)) .nil))) (.cons (.pr .mul (.cons (.lit (.str [93])) (.cons (.lit (.int 1000)) .nil))) .nil))) .nil))) .nil)) (.pr .eq (.cons MD.l_law_k53_0q (.cons (.pr .mul (.cons (.vlst (.cons (.lit (.non)) .nil)) (.cons (.lit (.int 7)) .nil))) .nil)))) (LV (some zs) (some r) o2 b3 b4 b5 b6 b7 b8 b9 o10 (some (.str N)) (some dp) none) S = .ok (.bl true) S) :
    exSs cs cl MD.b_law_k53 (LV (some zs) none none none none none none none none none none none none none) [] = .ret (.bl true) S := by
  obtain ⟨R, rg1, rg2⟩ := rg
  have s1 : exS cs cl (.asg (.nm 1) (.call 7 (.cons (.var 0) .nil))) (LV (some zs) none none none none none none none none none none none none none) [] = .nx (LV (some zs) (some r) none none none none none none none none none none none none) S0 := by
    simp only [exS, evE, evEs, LV, getV_0, bnd_ok, c1, out_ok, setT_nm, nxO_some', List.set_cons_succ, List.set_cons_zero]
  have i4 : ∀ env S, evI cl (.rng (.cons (.lit (.int 4)) .nil)) env S = .ok (rangeL 0 1 4, []) S := fun env S => by
    simp only [evI, evEs, evE, bnd_ok]
    rfl
  have ib : ∀ env S, evI cl (.seq (.vlst (.cons (.lit (.non)) (.cons (.lit (.bl true)) (.cons (.lit (.str [65])) (.cons (.lit (.str [])) (.cons (.lit (.str [97, 32, 98])) (.cons (.lit (.str [57, 97])) (.cons (.lit (.str [97, 98, 99, 100, 101, 102, 103, 104, 105, 106, 107, 108, 109])) (.cons (.vlst (.cons (.lit (.int 1)) .nil)) (.cons (.tup (.cons (.lit (.int 1)) (.cons (.lit (.non)) .nil))) (.cons (.tup (.cons (.tup (.cons (.lit (.bl true)) .nil)) .nil)) (.cons (.vlst (.cons (.lit (.str [97])) .nil)) (.cons (.tup (.cons (.lit (.str [97])) (.cons (.vlst .nil) .nil))) (.cons (.lit (.str [93])) (.cons (.tup (.cons (.lit (.str [93])) .nil)) .nil)))))))))))))))) env S = .ok (bads, []) S := fun env S => by
    simp only [evI, evE, evEs, bnd_ok, List.length_cons, List.length_nil, sizeLine_eq, Nat.reduceAdd, Nat.reduceLeDiff, if_true, itemsOf, listOf_lst, srcOf, Nat.zero_le]
    rfl
  have i9 : ∀ env S, evI cl (.rng (.cons (.lit (.int 999)) .nil)) env S = .ok (R, []) S := fun env S => by
    have e : Exs.len (.cons (.lit (.int 999)) .nil) = 1 := rfl
    simp only [evI, evEs, evE, bnd_ok, e, rg1]
  have c2 : ∀ o10, exS cs cl (.asg (.nm 11) (.pr .mul (.cons (.lit (.str [57])) (.cons (.lit (.int 4000)) .nil)))) (LV (some zs) (some r) b2 b3 b4 b5 b6 b7 b8 b9 o10 none none none) S = .nx (LV (some zs) (some r) b2 b3 b4 b5 b6 b7 b8 b9 o10 (some (.str N)) none none) S := fun o10 => by
    simp only [exS, evE, evEs, LV, getV_0, bnd_ok, pm, liftP_some, out_ok, setT_nm, nxO_some', List.set_cons_succ, List.set_cons_zero]
  have c3 : ∀ o10, exS cs cl (.asg (.nm 12) (.tup .nil)) (LV (some zs) (some r) b2 b3 b4 b5 b6 b7 b8 b9 o10 (some (.str N)) none none) S = .nx (LV (some zs) (some r) b2 b3 b4 b5 b6 b7 b8 b9 o10 (some (.str N)) (some (.tup [])) none) S := fun o10 => by
    simp only [exS, evE, evEs, LV, bnd_ok, List.length_nil, Nat.zero_le, if_true, out_ok, setT_nm, nxO_some', List.set_cons_succ, List.set_cons_zero]
  unfold MD.b_law_k53
  rw [exSs, s1, sq_nx, exSs, exS, i4, out_ok]
  dsimp only
  rw [l1, sq_nx, exSs, exS, ib, out_ok]
  dsimp only
  rw [l2, sq_nx, exSs, c2, sq_nx, exSs, exS, lt, out_ok, if_neg Bool.false_ne_true, exSs, sq_nx, exSs, c3, sq_nx, exSs, exS, i9, out_ok]
  dsimp only
  rw [rg2, sq_nx, exSs, exS, dt, out_ok, if_neg Bool.false_ne_true, exSs, sq_nx, exSs, exS, lr, out_ok, sq_ret]
theorem law_ok (h : LW P) (hl : P.fn 15 = some MD.f_law_k53) (zs : List Int) (hz : zs.length ≤ 63) : ∃ st, callF P 13 15 [.ro (zs.map .int)] [] = .ok (.bl true) st := by
  obtain ⟨x, e1, o1⟩ := draw_ok h 11 zs (by omega)
  rw [callF_at hl rfl]
  have st' : startE MD.f_law_k53.nn [.ro (zs.map .int)] = LV (some (.ro (zs.map .int))) none none none none none none none none none none none none none := rfl
  rw [st']
  have lp := forL_go (t := .nm 2) (b := exSs P.cs (callF P (0 + 12)) MD.l_law_k53_10b) (fun j env S => ∃ b2 b3 b4 b5 b6 b7 b8 b9 y, env = LV (some (.ro (zs.map .int))) (some (.ref 0)) b2 b3 b4 b5 b6 b7 b8 b9 none none none none ∧ S = [Dr.so y] ∧ y.Ok) (rangeL 0 1 4) 0 (LV (some (.ro (zs.map .int))) (some (.ref 0)) none none none none none none none none none none none none) [x.so] ⟨none, none, none, none, none, none, none, none, x, rfl, rfl, o1⟩
    (fun j v env S hj hI => by
      obtain ⟨b2, b3, b4, b5, b6, b7, b8, b9, y, rfl, rfl, oy⟩ := hI
      obtain ⟨o3, o4, o5, o6, o7, o8, o9, y', e, oy'⟩ := inner10 h 0 y oy (some (.ro (zs.map .int))) (some v) b3 b4 b5 b6 b7 b8 b9 none none none none
      exact ⟨_, setT_nm _ _ _, _, _, e, some v, o3, o4, o5, o6, o7, o8, o9, y', rfl, rfl, oy'⟩)
  obtain ⟨env', S', l1, b2, b3, b4, b5, b6, b7, b8, b9, y, rfl, rfl, oy⟩ := lp
  obtain ⟨o10, l2⟩ := bad_loop h 0 [y.so] (some (.ro (zs.map .int))) (some (.ref 0)) b2 b3 b4 b5 b6 b7 b8 b9 none none none none
  obtain ⟨n, hn⟩ : ∃ n : Nat, n = 4000 := ⟨_, rfl⟩
  obtain ⟨m, hm⟩ : ∃ m : Nat, m + 1 = 1000 := ⟨999, rfl⟩
  have ln := long_neg
  have lz := long_zero
  have td := too_deep
  rw [← hn] at ln lz
  obtain ⟨i, ln⟩ := ln
  have td : rd (atm 4000) full (W (nst (m + 1))) = none := by
    rw [hm]
    exact td
  rw [hn] at ln lz
  have lt := long_test h 0 [y.so] n hn i (by rw [hn]; exact ln) (by rw [hn]; exact lz) (some (.ro (zs.map .int))) (some (.ref 0)) b2 b3 b4 b5 b6 b7 b8 b9 o10 none none
  obtain ⟨o2, l3⟩ := deep_loop P.cs (callF P 12) [y.so] m (some (.ro (zs.map .int))) (some (.ref 0)) b2 b3 b4 b5 b6 b7 b8 b9 o10 (some (.str (nine n))) none
  have dt := deep_test h 0 [y.so] m (m + 1) hm (by omega) td (some (.ro (zs.map .int))) (some (.ref 0)) o2 b3 b4 b5 b6 b7 b8 b9 o10 (some (.str (nine n))) none
  have lr := last_ret h 0 [y.so] m hm (some (.ro (zs.map .int))) (some (.ref 0)) o2 b3 b4 b5 b6 b7 b8 b9 o10 (some (.str (nine n))) (some (nst m)) none
  have e0 : nst 0 = .tup [] := by rw [nst]
  rw [e0] at l3
  have rg : rngD 1 [.int 999] = some (rangeL 0 1 m) := by
    have := rng_up 999 (by decide) (by decide)
    have e : (999 : Int).toNat = m := by omega
    rw [e] at this
    exact this
  have pm := repI [y.so] 57 n 4000 (by omega) (by omega)
  have fin := body_eval P.cs (callF P 12) _ _ _ _ _ (nst m) b2 b3 b4 b5 b6 b7 b8 b9 o10 o2 e1 l1 l2 pm lt ⟨_, rg, l3⟩ dt lr
  refine ⟨[], ?_⟩
  show Mini.finish [] (exSs P.cs (callF P 12) MD.b_law_k53 _ []) = _
  rw [fin]
  exact finish_app [] [y.so] (by simp only [below])
end K53
end
section

end
theorem PySem.Challenge.cw_twohandswon_k53_whole_plain_data_holds : PySem.Challenge.rw_twohandswon_k53_whole_plain_data.Holds :=
  K53.holds_of fun zs h _ => K53.law_ok ⟨⟨rfl, rfl, rfl, rfl, rfl, rfl, rfl, rfl, rfl, rfl, rfl, rfl, rfl, rfl⟩, rfl, rfl, rfl, rfl, rfl, rfl, rfl, rfl⟩ rfl zs h
