import PyProof.Rows.All
import Wide.All
import OpenK.AllK
import Wide.FinOn
import HandS.ForMost
import HandS.TupAny
import KE.KDictPairs
import HandS.Zip
import KE.GoesEnumKw
import HandS.ForExc
import HandS.CallSlots
import HandS.Flow
import HandS.IsInst
import HandS.SortInts
import HandS.SetFor
import HandS.Style
import HandS.More
import HandS.Strs
import HandS.Conv
import HandS.TupLe
import HandS.Deep
import HandS.TupMul
import HandS.DictComp
import HandS.TupSets
import HandS.RaiseMore
import HandS.Small
import KE.GoesNew
import KE.GoesMore
import PyProof.CollectIter
import PyProof.WalksMore
import HandS.NoneIn
import KE.KDictDisplayH
import HandS.HeadHook1
import HandS.ExcIs
import HandS.ExcInit
import HandS.Defaults
import HandS.WordsExc
import HandS.Codes
import HandS.TryOnly
import HandS.Words
import HandS.Head0
import HandS.Head1
import HandS.Head2
import HandS.HeadEnd
import HandS.HeadHook2
import HandS.HeadHook3
import HandS.Text
import PySem.Challenge.RW_waitedmeets_k52_known_nets
set_option Elab.async false
set_option linter.all false
set_option maxRecDepth 100000
section
/-! EvDef: a small evaluator over plain data, for the part of Python that the program and its laws use. -/
namespace Ev
open PySem

/-- a value: lists, dicts and instances stand in the store, all else is a tree; frz: a list that nobody changes -/
inductive D where
  | non | bl (b : Bool) | int (i : Int) | str (s : List Nat) | tup (xs : List D) | frz (xs : List D) | loc (n : Nat) | fn (n : Nat)
  deriving Inhabited
/-- a dict's key: a number or a text -/
inductive KY where
  | n (i : Int) | s (t : List Nat)
  deriving DecidableEq, Inhabited
inductive O where
  | lst (xs : List D) | dct (kvs : List (KY × D)) | ins (c : Nat) (xs : List D) | dctT (kvs : List (List Int × D))
  deriving Inhabited
abbrev Sto := List O
abbrev Enn := List (Option D)
/-- an exception: its class, its fields -/
structure Xn where
  cls : Nat
  xs : List D
inductive Out (α : Type) where
  | no | ok (a : α) (M : Sto) | ex (x : Xn) (M : Sto)
def Out.bind {α β : Type} (o : Out α) (f : α → Sto → Out β) : Out β := match o with
  | .no => .no
  | .ok a M => f a M
  | .ex x M => .ex x M
@[simp] theorem bind_ok {α β : Type} (a : α) (M : Sto) (f : α → Sto → Out β) : (Out.ok a M).bind f = f a M := rfl
@[simp] theorem bind_no {α β : Type} (f : α → Sto → Out β) : (Out.no : Out α).bind f = .no := rfl
@[simp] theorem bind_ex {α β : Type} (x : Xn) (M : Sto) (f : α → Sto → Out β) : (Out.ex x M : Out α).bind f = .ex x M := rfl
def ofOpt {α : Type} (o : Option α) (M : Sto) : Out α := match o with
  | some a => .ok a M
  | none => .no
@[simp] theorem ofOpt_some {α : Type} (a : α) (M : Sto) : ofOpt (some a) M = .ok a M := rfl
@[simp] theorem ofOpt_none {α : Type} (M : Sto) : ofOpt (none : Option α) M = .no := rfl

mutual
/-- no address within -/
def D.flat : D → Bool
  | .non => true
  | .bl _ => true
  | .int _ => true
  | .str _ => true
  | .tup xs => flats xs
  | .frz xs => flats xs
  | .loc _ => false
  | .fn _ => true
def flats : List D → Bool
  | [] => true
  | x :: xs => x.flat && flats xs
end

def allS {α : Type} : List (Option α) → Option (List α)
  | [] => some []
  | none :: _ => none
  | some x :: xs => match allS xs with
    | some ys => some (x :: ys)
    | none => none

def cap : Nat := 16777216
def MX : Nat := 12
def codes (s : List Nat) : Bool := s.all fun c => Nat.blt c 1114112
/-- as plain data, so many levels deep -/
def py (M : Sto) : Nat → D → Option PyData
  | 0, _ => none
  | k + 1, d => match d with
    | .non => some .none
    | .bl b => some (.bool b)
    | .int i => some (.int i)
    | .str s => match codes s with
      | true => some (.str ⟨s.toArray⟩)
      | false => none
    | .tup xs => (allS (xs.map (py M k))).map .tuple
    | .frz xs => (allS (xs.map (py M k))).map .list
    | .loc n => match M[n]? with
      | some (.lst xs) => (allS (xs.map (py M k))).map .list
      | _ => none
    | .fn _ => none

/-! ### the syntax -/
inductive U1 where | neg
inductive B2 where | add | sub | mul | div | mod | pow
inductive C2 where | eq | ne | lt | le | gt | ge | isin | nin | is | isn
inductive BI where | len | max2 | min2 | abs | int | str | repr | lst | tup | srt | all | any | sum
inductive MT where | append | extend | pop | popAt | insert | count | index | clear | join
inductive CL where | int | bool | str | tup | lst | dct | own (c : Nat)
mutual
inductive E where
  | var (i : Nat) | cst (d : D) | glb (g : Nat)
  | un (o : U1) (a : E) | no (a : E)
  | bin (o : B2) (a b : E) | cmp (o : C2) (a b : E) | chn (o o' : C2) (a b c : E)
  | and (a b : E) | or (a b : E) | ife (t : T) (a b : E)
  | tup (es : EL) | lst (es : EL) | dic0
  | ix (a b : E) | sl (a : E) (lo hi : EO) | rev (a : E)
  | call (f : Nat) (es : EL) | callk (f : Nat) (es : EL) (ks : List Nat) (kes : EL)
  | bi (b : BI) (es : EL) | lrng (es : EL)
  | mth (m : MT) (o : E) (es : EL)
  | isi (a : E) (cs : List CL)
  | new (c f : Nat) (es : EL) | mc (a : E) (m : Str) (ms : List (Nat × Nat)) (es : EL) | fld (a : E) (c j : Nat) | dic (ks : List (List Nat)) (es : EL) | dct (a : E) | get (a e : E) | gget (g : Nat) (kvs : List (List Nat × Int)) (e : E) | calld (f : Nat) (es : EL) (ds : List Int)
  | lc (g : G) (it : IT) (ow : List Nat) (t : T) (e : E)
  | lc2 (g : G) (it : IT) (t : T) (g' : G) (it' : IT) (t' : T) (ow ow' : List Nat) (e : E)
  | dc (g : G) (it : IT) (ow : List Nat) (t : T) (k v : E)
  | dc2 (g : G) (it : IT) (t : T) (g' : G) (it' : IT) (t' : T) (ow ow' : List Nat) (k v : E)
  | dicT (k v : E)
inductive EL where
  | nil | cons (e : E) (es : EL)
inductive EO where
  | none | some (e : E)
inductive T where
  | yes | val (a : E) | not (t : T) | and (a b : T) | or (a b : T) | cmp (o : C2) (a b : E) | chn (o o' : C2) (a b c : E) | ife (c a b : T)
inductive IT where
  | seq (a : E) | rng (es : EL) | enu (a : E) | zip (a b : E) | zips (a b : E)
inductive G where
  | nam (i : Nat) | tup (gs : GL) | sub (o i : E) | star (gs : GL) | fld (o : E) (c j : Nat)
inductive GL where
  | nil | cons (g : G) (gs : GL)
end
mutual
inductive S where
  | expr (e : E) | asg (g : G) (e : E) | par (is : List Nat) (es : EL) | aug (i : Nat) (o : B2) (e : E) | augs (o i : E) (op : B2) (e : E) | augf (o : E) (c j : Nat) (op : B2) (e : E) | asg2 (g g' : G) (e : E)
  | ret (e : E) | retn | pass | brk | cont
  | iff (t : T) (a b : SL) | for_ (g : G) (it : IT) (b : SL) | whl (t : T) (b : SL)
  | bad | rai (c : Nat) | raiC (c : Nat) (es : EL) | tri (b : SL) (c c2 : Nat) (cs : List (Nat × Option Bool)) | tryc (b : SL) (c : Nat) (cs : List (Nat × Bool)) (d : D)
inductive SL where
  | nil | cons (s : S) (ss : SL)
end

/-! ### what values do -/
def truth (M : Sto) : D → Option Bool
  | .non => some false
  | .bl b => some b
  | .int i => some (i != 0)
  | .str s => match Nat.ble s.length cap with
    | true => some (!s.isEmpty)
    | false => none
  | .tup xs => some (!xs.isEmpty)
  | .frz xs => some (!xs.isEmpty)
  | .loc n => match M[n]? with
    | some (.lst xs) => some (!xs.isEmpty)
    | _ => none
  | .fn _ => none
/-- the items of a list or a tuple -/
def itemsOf (M : Sto) : D → Option (List D)
  | .tup xs => some xs
  | .frz xs => some xs
  | .loc n => match M[n]? with
    | some (.lst xs) => some xs
    | _ => none
  | _ => none
/-- .. of a list -/
def listOf (M : Sto) : D → Option (List D)
  | .frz xs => some xs
  | .loc n => match M[n]? with
    | some (.lst xs) => some xs
    | _ => none
  | _ => none
def new (xs : List D) (M : Sto) : Out D := .ok (.loc M.length) (M ++ [.lst xs])
def small (i : Int) : Bool := decide (-18446744073709551616 < i) && decide (i < 18446744073709551616)
/-- pairs, the first of each a text -/
def pairsD : List D → Option (List (KY × D))
  | [] => some []
  | .tup [.str s, v] :: ds => match pairsD ds with
    | some kvs => some ((.s s, v) :: kvs)
    | none => none
  | _ :: _ => none
def intsD : List D → Option (List Int)
  | [] => some []
  | .int i :: xs => match intsD xs with
    | some is => some (i :: is)
    | none => none
  | _ :: _ => none
/-- a tuple of numbers, one at least -/
def intT (xs : List D) : Bool := match intsD xs with
  | some (_ :: _) => true
  | _ => false
def keyT : D → Option (List Int)
  | .tup xs => match intT xs with
    | true => intsD xs
    | false => none
  | _ => none
/-- a dict by such tuples -/
def dctTAt (M : Sto) : D → Option (List (List Int × D))
  | .loc n => match M[n]? with
    | some (.dctT kvs) => some kvs
    | _ => none
  | _ => none
def putT (kvs : List (List Int × D)) (k : List Int) (v : D) : List (List Int × D) :=
  if (kvs.any fun kv => decide (kv.1 = k)) = true then kvs.map (fun kv => if kv.1 = k then (kv.1, v) else kv) else kvs ++ [(k, v)]
def semB (o : B2) (x y : D) (M : Sto) : Out D := match o, x, y with
  | .add, .int i, .int j => .ok (.int (i + j)) M
  | .add, .str s, .str t => if s.length + t.length ≤ cap then .ok (.str (s ++ t)) M else .no
  | .add, .tup xs, .tup ys => if xs.length + ys.length ≤ cap then .ok (.tup (xs ++ ys)) M else .no
  | .add, .loc n, .loc m => match M[n]?, M[m]? with
    | some (.lst xs), some (.lst ys) => if xs.length + ys.length ≤ cap then new (xs ++ ys) M else .no
    | _, _ => .no
  | .sub, .int i, .int j => .ok (.int (i - j)) M
  | .mul, .int i, .int j => match small i || small j with
    | true => .ok (.int (i * j)) M
    | false => .no
  | .mul, .tup xs, .int k => if -9223372036854775808 ≤ k ∧ k ≤ 1000 then match xs.isEmpty || k == 1 with
    | true => .ok (.tup xs) M
    | false => if k ≤ 0 then .ok (.tup []) M else match Nat.ble xs.length 1000 && !(pairsD xs).isSome with
      | true => .ok (.tup (List.replicate k.toNat xs).flatten) M
      | false => .no
    else .no
  | .mul, .loc n, .int k => match M[n]? with
    | some (.lst xs) => if -9223372036854775808 ≤ k ∧ k < 9223372036854775808 ∧ xs.length * k.toNat ≤ cap then new (List.replicate k.toNat xs).flatten M else .no
    | _ => .no
  | .div, .int i, .int j => if 0 < j ∧ j < 1073741824 then .ok (.int (i / j)) M else .no
  | .mod, .int i, .int j => if 0 < j then .ok (.int (i % j)) M else .no
  | .pow, .int i, .int j => if 0 ≤ j ∧ j ≤ 1000000 ∧ i.natAbs < 18446744073709551616 then .ok (.int (i ^ j.toNat)) M else .no
  | _, _, _ => .no
def eqD (M : Sto) (x y : D) : Option Bool := match py M MX x, py M MX y with
  | some a, some b => some (PyData.eqv a b)
  | _, _ => none
def keyD : D → Option KY
  | .int i => some (.n i)
  | .str t => some (.s t)
  | _ => none
/-- a dict's things -/
def dctAt (M : Sto) : D → Option (List (KY × D))
  | .loc n => match M[n]? with
    | some (.dct kvs) => some kvs
    | _ => none
  | _ => none
def atom : D → Bool
  | .non => true
  | .bl _ => true
  | .int _ => true
  | .str _ => true
  | _ => false
/-- == of atoms -/
def eqA : D → D → Bool
  | .non, .non => true
  | .bl a, .bl b => a == b
  | .bl a, .int b => (if a then 1 else 0) == b
  | .int a, .bl b => a == (if b then 1 else 0)
  | .int a, .int b => a == b
  | .str a, .str b => a == b
  | _, _ => false
def isTup : D → Bool
  | .tup _ => true
  | _ => false
/-- x in the items ys of y -/
def inL (M : Sto) (x y : D) (ys : List D) : Option Bool := match atom x && ys.all atom with
  | true => some (ys.any fun z => eqA z x)
  | false => match isTup y, py M MX x, allS (ys.map (py M MX)) with
    | false, some d, some ds => some (ds.any fun z => PyData.eqv z d)
    | _, _, _ => none
/-- x among the keys of a dict -/
def inK (M : Sto) (x y : D) : Option Bool := match keyD x, dctAt M y with
  | some k, some kvs => some (kvs.lookup k).isSome
  | _, _ => none
def inD (M : Sto) (x y : D) : Option Bool := match x, y with
  | .str [c], .str t => some (t.contains c)
  | .str _, .str _ => none
  | x, y => match itemsOf M y with
    | some ys => inL M x y ys
    | none => match dctTAt M y with
      | some kvs => match keyT x with
        | some k => some (kvs.lookup k).isSome
        | none => none
      | none => inK M x y
def isNon : D → Bool
  | .non => true
  | _ => false
def isD (x y : D) : Option Bool := match x, y with
  | .bl a, .bl b => some (a == b)
  | x, .non => some (isNon x)
  | _, _ => none
def cmpI (f : Int → Int → Bool) (x y : D) : Option Bool := match x, y with
  | .int i, .int j => some (f i j)
  | _, _ => none
def semC (o : C2) (M : Sto) (x y : D) : Option Bool := match o with
  | .eq => eqD M x y
  | .ne => (eqD M x y).map not
  | .lt => cmpI (fun i j => decide (i < j)) x y
  | .le => cmpI (fun i j => decide (i ≤ j)) x y
  | .gt => cmpI (fun i j => decide (j < i)) x y
  | .ge => cmpI (fun i j => decide (j ≤ i)) x y
  | .isin => inD M x y
  | .nin => (inD M x y).map not
  | .is => isD x y
  | .isn => (isD x y).map not
def boolsD : List D → Option (List Bool)
  | [] => some []
  | .bl i :: xs => match boolsD xs with
    | some is => some (i :: is)
    | none => none
  | _ :: _ => none
def strsD : List D → Option (List (List Nat))
  | [] => some []
  | .str i :: xs => match strsD xs with
    | some is => some (i :: is)
    | none => none
  | _ :: _ => none
def leT : List Int → List Int → Bool
  | [], _ => true
  | _ :: _, [] => false
  | i :: is, j :: js => if i < j then true else if j < i then false else leT is js
def ins1T (i : List Int) : List (List Int) → List (List Int)
  | [] => [i]
  | j :: js => if leT i j then i :: j :: js else j :: ins1T i js
def isortT : List (List Int) → List (List Int)
  | [] => []
  | i :: is => ins1T i (isortT is)
def tupsD : List D → Option (List (List Int))
  | [] => some []
  | x :: xs => match keyT x, tupsD xs with
    | some k, some ks => some (k :: ks)
    | _, _ => none
def sameL : List (List Int) → Bool
  | [] => true
  | k :: ks => ks.all fun l => l.length == k.length
def nonneg (ks : List (List Int)) : Bool := ks.all fun k => k.all fun i => decide (0 ≤ i)
def ins1 (i : Int) : List Int → List Int
  | [] => [i]
  | j :: js => if i ≤ j then i :: j :: js else j :: ins1 i js
def isort : List Int → List Int
  | [] => []
  | i :: is => ins1 i (isort is)
def lenD (M : Sto) : D → Option Nat
  | .str s => if s.length ≤ cap then some s.length else none
  | x => (itemsOf M x).map List.length
def reprD (M : Sto) (x : D) : Option (List Nat) := match py M MX x with
  | some d => match d.showable && Nat.ble (d.shown.length + 64) cap with
    | true => some d.shown.cps.toList
    | false => none
  | none => match x with
    | .loc n => match M[n]? with
      | some (.dct []) => some [123, 125]
      | _ => none
    | _ => none
def semB2 (b : BI) (x y : D) (M : Sto) : Out D := match b with
  | .max2 => match x, y with
    | .int i, .int j => .ok (.int (if j > i then j else i)) M
    | _, _ => .no
  | .min2 => match x, y with
    | .int i, .int j => .ok (.int (if j < i then j else i)) M
    | _, _ => .no
  | _ => .no
def onInts (o : Option (List D)) (f : List Int → Out D) : Out D := match o with
  | some ys => match intsD ys with
    | some is => f is
    | none => .no
  | none => .no
def onBools (o : Option (List D)) (f : List Bool → Out D) : Out D := match o with
  | some ys => match boolsD ys with
    | some is => f is
    | none => .no
  | none => .no
def semB1 (b : BI) (x : D) (M : Sto) : Out D := match b with
  | .len => match lenD M x with
    | some n => .ok (.int n) M
    | none => .no
  | .abs => match x with
    | .int i => .ok (.int (if i < 0 then -i else i)) M
    | _ => .no
  | .int => match x with
    | .int i => .ok (.int i) M
    | .bl k => .ok (.int (if k then 1 else 0)) M
    | _ => .no
  | .str => match x with
    | .int i => if i.natAbs.log2 < 1920 then .ok (.str (toString i : Str).cps.toList) M else .no
    | _ => .no
  | .repr => match reprD M x with
    | some s => .ok (.str s) M
    | none => .no
  | .lst => match itemsOf M x with
    | some ys => new ys M
    | none => .no
  | .tup => match itemsOf M x with
    | some ys => .ok (.tup ys) M
    | none => .no
  | .srt => match listOf M x with
    | some ys => match intsD ys with
      | some is => new ((isort is).map D.int) M
      | none => match tupsD ys with
        | some ks => match sameL ks && nonneg ks && Nat.blt ks.length 64 with
          | true => new ((isortT ks).map fun k => D.tup (k.map D.int)) M
          | false => .no
        | none => .no
    | none => .no
  | .all => onBools (listOf M x) fun is => .ok (.bl (is.all id)) M
  | .any => onBools (listOf M x) fun is => .ok (.bl (is.any id)) M
  | .sum => onInts (listOf M x) fun is => .ok (.int is.sum) M
  | _ => .no
def semBI (b : BI) (xs : List D) (M : Sto) : Out D := match xs with
  | [x] => semB1 b x M
  | [x, y] => semB2 b x y M
  | _ => .no
def firstAt (p : D → Bool) : List D → Nat → Option Nat
  | [], _ => none
  | x :: xs, n => match p x with
    | true => some n
    | false => firstAt p xs (n + 1)
/-- a write to n is let: it stands above the barrier, or what is written holds no address -/
def may (b n : Nat) (y : D) : Bool := Nat.ble b n || y.flat
def mays (b n : Nat) (ys : List D) : Bool := Nat.ble b n || flats ys
/-- the list at n -/
def lstAt (M : Sto) (o : D) : Option (Nat × List D) := match o with
  | .loc n => match M[n]? with
    | some (.lst xs) => some (n, xs)
    | _ => none
  | _ => none
def onL {α : Type} (M : Sto) (o : D) (f : Nat → List D → Out α) : Out α := match lstAt M o with
  | some (n, xs) => f n xs
  | none => .no
def joinD (S : List Nat) : List (List Nat) → List Nat
  | [] => []
  | [p] => p
  | p :: q :: r => p ++ S ++ joinD S (q :: r)
def popAt (xs : List D) (i : Int) (f : Nat → D → Out D) : Out D :=
  if -9223372036854775808 ≤ i ∧ i < 9223372036854775808 then match L2.ixN xs.length i with
    | some k => match xs[k]? with
      | some y => f k y
      | none => .no
    | none => .no
  else .no
def semM0 (m : MT) (o : D) (M : Sto) : Out D := match m with
  | .pop => onL M o fun n xs => match xs[xs.length - 1]? with
    | some y => .ok y (M.set n (.lst xs.dropLast))
    | none => .no
  | .clear => onL M o fun n _ => .ok .non (M.set n (.lst []))
  | _ => .no
def semM1 (m : MT) (o y : D) (b : Nat) (M : Sto) : Out D := match m with
  | .append => onL M o fun n xs => if xs.length < cap then match may b n y with
      | true => .ok .non (M.set n (.lst (xs ++ [y])))
      | false => .no
      else .no
  | .extend => onL M o fun n xs => onL M y fun _ ys => if xs.length + ys.length ≤ cap then match mays b n ys with
      | true => .ok .non (M.set n (.lst (xs ++ ys)))
      | false => .no
      else .no
  | .popAt => match y with
    | .int i => onL M o fun n xs => popAt xs i fun k y => .ok y (M.set n (.lst (xs.eraseIdx k)))
    | _ => .no
  | .count => match y with
    | .int k => onInts (listOf M o) fun is => .ok (.int (is.count k : Nat)) M
    | _ => .no
  | .index => match listOf M o with
    | some ys => match atom y && ys.all atom with
      | true => match firstAt (fun z => eqA z y) ys 0 with
        | some j => .ok (.int (j : Nat)) M
        | none => .no
      | false => .no
    | none => .no
  | .join => match o, itemsOf M y with
    | .str s, some ys => match strsD ys with
      | some ts => if (ts.map List.length).sum + ts.length * s.length ≤ cap then .ok (.str (joinD s ts)) M else .no
      | none => .no
    | _, _ => .no
  | _ => .no
def semM2 (m : MT) (o x y : D) (b : Nat) (M : Sto) : Out D := match m with
  | .insert => match x with
    | .int i => onL M o fun n xs => if xs.length < cap ∧ 0 ≤ i ∧ i < 9223372036854775808 then match may b n y with
      | true => .ok .non (M.set n (.lst (xs.take i.toNat ++ [y] ++ xs.drop i.toNat)))
      | false => .no
      else .no
    | _ => .no
  | _ => .no
/-- what has the method -/
def rcv (m : MT) (M : Sto) (x : D) : Bool := match m with
  | .join => match x with
    | .str _ => true
    | _ => false
  | _ => (listOf M x).isSome
def semM (m : MT) (o : D) (xs : List D) (b : Nat) (M : Sto) : Out D := match xs with
  | [] => semM0 m o M
  | [x] => semM1 m o x b M
  | [x, y] => semM2 m o x y b M
  | _ => .no
def cutD {α : Type} (xs : List α) (lo hi : Option Int) : List α := (xs.drop (HT.sIx xs.length 0 lo)).take (HT.sIx xs.length xs.length hi - HT.sIx xs.length 0 lo)
def dIx (M : Sto) (x : D) (k : KY) : Option D := match dctAt M x with
  | some kvs => kvs.lookup k
  | none => none
def semIx (M : Sto) (x y : D) : Option D := match y with
  | .int i => match x with
    | .str s => match Nat.ble s.length cap, L2.atI s i with
      | true, some c => some (.str [c])
      | _, _ => none
    | x => match itemsOf M x with
      | some xs => L2.atI xs i
      | none => dIx M x (.n i)
  | .str s => dIx M x (.s s)
  | .tup ys => match dctTAt M x, keyT (.tup ys) with
    | some kvs, some k => kvs.lookup k
    | _, _ => none
  | _ => none
def fldD (M : Sto) (x : D) (c j : Nat) : Option D := match x with
  | .loc n => match M[n]? with
    | some (.ins c' xs) => if c' = c then xs[j]? else none
    | _ => none
  | _ => none
/-- the class of an instance -/
def clsAt (M : Sto) (x : D) : Option Nat := match x with
  | .loc n => match M[n]? with
    | some (.ins c _) => some c
    | _ => none
  | _ => none
/-- which def a method's name stands for -/
def pickM (M : Sto) (x : D) (ms : List (Nat × Nat)) : Option Nat := match clsAt M x with
  | some c => ms.lookup c
  | none => none
/-- fields are laid one behind another, and then changed -/
def putJ (xs : List D) (j : Nat) (d : D) : List D := if j = xs.length then xs ++ [d] else xs.set j d
def nodupB : List KY → Bool
  | [] => true
  | k :: ks => !ks.contains k && nodupB ks
def newD (kvs : List (KY × D)) (M : Sto) : Out D := match nodupB (kvs.map (·.1)) && Nat.ble kvs.length cap with
  | true => .ok (.loc M.length) (M ++ [.dct kvs])
  | false => .no
def getD1 (M : Sto) (x y : D) : Option D := match dctAt M x, keyD y with
  | some kvs, some k => match kvs.lookup k with
    | some d => some d
    | none => some .non
  | _, _ => none
def getG (kvs : List (List Nat × Int)) : D → Option D
  | .str s => match kvs.lookup s with
    | some i => some (.int i)
    | none => none
  | _ => none
def elen : EL → Nat
  | .nil => 0
  | .cons _ es => elen es + 1
def glen : GL → Nat
  | .nil => 0
  | .cons _ gs => glen gs + 1
def semSl (x : D) (lo hi : Option Int) (M : Sto) : Out D := match x with
  | .str s => if s.length ≤ cap then .ok (.str (cutD s lo hi)) M else .no
  | .tup xs => .ok (.tup (cutD xs lo hi)) M
  | x => match listOf M x with
    | some xs => new (cutD xs lo hi) M
    | none => .no
def semRev (x : D) (M : Sto) : Out D := match listOf M x with
  | some xs => new xs.reverse M
  | none => .no
inductive Ty where | non | bl | int | str | tup | lst | dct
def tyD (M : Sto) : D → Option Ty
  | .non => some .non
  | .bl _ => some .bl
  | .int _ => some .int
  | .str _ => some .str
  | .tup _ => some .tup
  | .frz _ => some .lst
  | .loc n => match M[n]? with
    | some (.lst _) => some .lst
    | some (.dct _) => some .dct
    | _ => none
  | .fn _ => none
def isTy : Ty → CL → Option Bool
  | .bl, .int => some true
  | .bl, .bool => some true
  | .int, .int => some true
  | .str, .str => some true
  | .tup, .tup => some true
  | .lst, .lst => some true
  | .dct, .dct => some true
  | _, .own _ => none
  | _, _ => some false
def isAny (t : Ty) : List CL → Option Bool
  | [] => some false
  | c :: cs => match isTy t c, isAny t cs with
    | some a, some b => some (a || b)
    | _, _ => none
def putD (kvs : List (KY × D)) (k : KY) (v : D) : List (KY × D) :=
  if (kvs.any fun kv => decide (kv.1 = k)) = true then kvs.map (fun kv => if kv.1 = k then (kv.1, v) else kv) else kvs ++ [(k, v)]
/-- d[k] = v -/
def setD (o i v : D) (b : Nat) (M : Sto) : Option Sto := match o, keyD i with
  | .loc n, some k => match M[n]?, may b n v with
    | some (.dct kvs), true => if kvs.length < cap then some (M.set n (.dct (putD kvs k v))) else none
    | _, _ => none
  | _, _ => none
def setT (o i v : D) (b : Nat) (M : Sto) : Option Sto := match o, keyT i with
  | .loc n, some k => match M[n]?, may b n v with
    | some (.dctT kvs), true => if kvs.length < cap then some (M.set n (.dctT (putT kvs k v))) else none
    | _, _ => none
  | _, _ => none
/-- o[i] = v -/
def semSet (o i v : D) (b : Nat) (M : Sto) : Option Sto := match lstAt M o with
  | some (n, xs) => match i with
    | .int i => match L2.ixN xs.length i, may b n v with
      | some k, true => some (M.set n (.lst (xs.set k v)))
      | _, _ => none
    | _ => none
  | none => match dctTAt M o with
    | some _ => setT o i v b M
    | none => setD o i v b M

/-- o.f = v -/
def setF (M : Sto) (x : D) (c j : Nat) (d : D) (b : Nat) : Option Sto := match x with
  | .loc n => match M[n]?, may b n d with
    | some (.ins c' xs), true => if c' = c ∧ j ≤ xs.length ∧ xs.length < 900 then some (M.set n (.ins c (putJ xs j d))) else none
    | _, _ => none
  | _ => none
def augIx (M : Sto) (x y : D) : Option D := match keyD y with
  | some k => dIx M x k
  | none => none
def augD (o : B2) (x y : D) : Option D := match o, x, y with
  | .add, .int i, .int j => some (.int (i + j))
  | .sub, .int i, .int j => some (.int (i - j))
  | _, _, _ => none

/-! ### what is walked -/
inductive Src where
  | lst (n : Nat) | its (xs : List D) | rng (lo : Int) (n : Nat) | str (s : List Nat) | enu (s : Src) | zip (a b : Src) | zips (a b : Src)
/-- none: it can't be said; some none: the end -/
def Src.next (M : Sto) : Src → Nat → Option (Option D)
  | .lst n, i => match M[n]? with
    | some (.lst xs) => some xs[i]?
    | _ => none
  | .its xs, i => some xs[i]?
  | .rng lo n, i => some (if i < n then some (.int (lo + i)) else none)
  | .str s, i => some (s[i]?.map fun c => .str [c])
  | .enu s, i => match s.next M i with
    | some (some d) => some (some (.tup [.int i, d]))
    | some none => some none
    | none => none
  | .zip a b, i => match a.next M i, b.next M i with
    | some (some d), some (some e) => match isTup d && isTup e with
      | true => none
      | false => some (some (.tup [d, e]))
    | some none, some _ => some none
    | some (some _), some none => some none
    | _, _ => none
  | .zips a b, i => match a.next M i, b.next M i with
    | some (some d), some (some e) => match isTup d && isTup e with
      | true => none
      | false => some (some (.tup [d, e]))
    | some none, some none => some none
    | _, _ => none
def Src.len (M : Sto) : Src → Nat
  | .lst n => match M[n]? with
    | some (.lst xs) => xs.length
    | _ => 0
  | .its xs => xs.length
  | .rng _ n => n
  | .str s => s.length
  | .enu s => s.len M
  | .zip a _ => a.len M
  | .zips a _ => a.len M
def srcOf (M : Sto) : D → Option Src
  | .tup xs => some (.its xs)
  | .frz xs => some (.its xs)
  | .str s => some (.str s)
  | .loc n => match M[n]? with
    | some (.lst _) => some (.lst n)
    | _ => none
  | _ => none
/-- a list, as it is walked -/
def lsrc (M : Sto) : D → Option Src
  | .frz xs => some (.its xs)
  | .loc n => match M[n]? with
    | some (.lst _) => some (.lst n)
    | _ => none
  | _ => none
def enuOf (M : Sto) (x : D) : Option Src := match lsrc M x with
  | some s => some (.enu s)
  | none => match x with
    | .tup xs => some (.enu (.its xs))
    | _ => none
def zipOf (M : Sto) (x y : D) : Option Src := match lsrc M x, lsrc M y with
  | some s, some t => some (.zip s t)
  | _, _ => match x, y with
    | .tup xs, .tup ys => some (.zip (.its xs) (.its ys))
    | _, _ => none
def zipsOf (M : Sto) (x y : D) : Option Src := match x, y with
  | .tup xs, .tup ys => some (.zips (.its xs) (.its ys))
  | _, _ => none
def big (i : Int) : Bool := decide (-4611686018427387904 ≤ i) && decide (i < 4611686018427387904)
def rngOf : List D → Option Src
  | [.int j] => if big j then some (.rng 0 j.toNat) else none
  | [.int i, .int j] => if big i && big j then some (.rng i (j - i).toNat) else none
  | _ => none

/-! ### the evaluator -/
inductive Fl where
  | nx (ρ : Enn) | rt (d : D) | bk (ρ : Enn) | ct (ρ : Enn) | xc (x : Xn) (ρ : Enn)
abbrev SO := Option (Fl × Sto)
def lift {α : Type} (o : Out α) (ρ : Enn) (f : α → Sto → SO) : SO := match o with
  | .no => none
  | .ok a M => f a M
  | .ex x M => some (.xc x ρ, M)
@[simp] theorem lift_ok {α : Type} (a : α) (M : Sto) (ρ : Enn) (f : α → Sto → SO) : lift (.ok a M) ρ f = f a M := rfl
/-- calls, the module's constants, a while's most turns -/
structure Cf where
  F : Nat → List D → Nat → Sto → Out D
  gv : Nat → Option D
  wf : Nat
def wipe : Enn → List Nat → Enn
  | ρ, [] => ρ
  | ρ, v :: vs => (wipe ρ vs).set v none
/-- nothing is raised within -/
def hush {α : Type} (o : Out α) : Out α := match o with
  | .ex _ _ => .no
  | o => o
@[simp] theorem hush_ok {α : Type} (a : α) (M : Sto) : hush (Out.ok a M) = .ok a M := rfl
@[simp] theorem hush_no {α : Type} : hush (Out.no : Out α) = .no := rfl
/-- the turns of a comprehension: each gives items -/
def turns (next : Sto → Nat → Option (Option D)) (turn : D → Sto → Out (List D)) : Nat → Nat → Sto → Out (List D)
  | 0, _, _ => .no
  | c + 1, i, M => match next M i with
    | none => .no
    | some none => .ok [] M
    | some (some d) => (hush (turn d M)).bind fun xs M' => (hush (turns next turn c (i + 1) M')).bind fun ys M'' => .ok (xs ++ ys) M''
/-- a turn: the target, the test, what it gives -/
def itemT (fg : D → Enn → Sto → Option (Enn × Sto)) (ft : Enn → Sto → Out Bool) (fe : Enn → Sto → Out (List D)) (ρ : Enn) (d : D) (M : Sto) : Out (List D) := match fg d ρ M with
  | none => .no
  | some (ρ2, M2) => (ft ρ2 M2).bind fun k M3 => match k with
    | false => .ok [] M3
    | true => fe ρ2 M3
/-- a comprehension's end: what it made on the way is cut off where no item holds an address -/
def sealL (n0 : Nat) (xs : List D) (M : Sto) : Out D := if xs.length ≤ cap then match flats xs with
  | true => .ok (.loc n0) (M.take n0 ++ [.lst xs])
  | false => new xs M
  else .no
def entD : D → Option (KY × D)
  | .tup [k, v] => match keyD k with
    | some k => some (k, v)
    | none => none
  | _ => none
/-- the entries of a dict comprehension, as they come -/
def mergeP : List D → List (KY × D) → Option (List (KY × D))
  | [], acc => some acc
  | d :: ds, acc => match entD d with
    | some p => mergeP ds (putD acc p.1 p.2)
    | none => none
def sealD (n0 : Nat) (ds : List D) (M : Sto) : Out D := match mergeP ds [] with
  | some kvs => if ds.length ≤ cap then match flats (kvs.map (·.2)) with
    | true => .ok (.loc n0) (M.take n0 ++ [.dct kvs])
    | false => .ok (.loc M.length) (M ++ [.dct kvs])
    else .no
  | none => .no
def loop (next : Sto → Nat → Option (Option D)) (body : D → Enn → Sto → SO) : Nat → Nat → Enn → Sto → SO
  | 0, _, _, _ => none
  | c + 1, i, ρ, M => match next M i with
    | none => none
    | some none => some (.nx ρ, M)
    | some (some d) => match body d ρ M with
      | some (.nx ρ', M') => loop next body c (i + 1) ρ' M'
      | some (.ct ρ', M') => loop next body c (i + 1) ρ' M'
      | some (.bk ρ', M') => some (.nx ρ', M')
      | r => r
def wloop (test : Enn → Sto → Out Bool) (body : Enn → Sto → SO) : Nat → Enn → Sto → SO
  | 0, _, _ => none
  | c + 1, ρ, M => lift (test ρ M) ρ fun b M' => match b with
    | false => some (.nx ρ, M')
    | true => match body ρ M' with
      | some (.nx ρ', M'') => wloop test body c ρ' M''
      | some (.ct ρ', M'') => wloop test body c ρ' M''
      | some (.bk ρ', M'') => some (.nx ρ', M'')
      | r => r
def setAll : List Nat → List D → Enn → Enn
  | i :: is, d :: ds, ρ => setAll is ds (ρ.set i (some d))
  | _, _, ρ => ρ
/-- the arguments by their parameters' places -/
def place {α : Type} (n : Nat) (xs : List α) (ks : List Nat) (ys : List α) : Option (List α) :=
  if xs.length + ys.length = n ∧ ks.length = ys.length then
    allS ((List.range n).map fun i => match xs[i]? with
      | some d => some d
      | none => (ks.zip ys).lookup i)
  else none
mutual
def evE (c : Cf) (b : Nat) : E → Enn → Sto → Out D
  | .var i, ρ, M => match ρ[i]? with
    | some (some d) => .ok d M
    | _ => .no
  | .cst d, _, M => .ok d M
  | .glb g, _, M => ofOpt (c.gv g) M
  | .un .neg a, ρ, M => (evE c b a ρ M).bind fun x M => match x with
    | .int i => .ok (.int (-i)) M
    | _ => .no
  | .no a, ρ, M => (evE c b a ρ M).bind fun x M => (ofOpt (truth M x) M).bind fun k M => .ok (.bl (!k)) M
  | .bin o a a', ρ, M => (evE c b a ρ M).bind fun x M => (evE c b a' ρ M).bind fun y M => semB o x y M
  | .cmp o a a', ρ, M => (evE c b a ρ M).bind fun x M => (evE c b a' ρ M).bind fun y M => (ofOpt (semC o M x y) M).bind fun k M => .ok (.bl k) M
  | .chn o o' a a' a'', ρ, M => (evE c b a ρ M).bind fun x M => (evE c b a' ρ M).bind fun y M => (ofOpt (semC o M x y) M).bind fun k M => match k with
    | false => .ok (.bl false) M
    | true => (evE c b a'' ρ M).bind fun z M => (ofOpt (semC o' M y z) M).bind fun k M => .ok (.bl k) M
  | .and a a', ρ, M => (evE c b a ρ M).bind fun x M => (ofOpt (truth M x) M).bind fun k M => match k with
    | true => evE c b a' ρ M
    | false => .ok x M
  | .or a a', ρ, M => (evE c b a ρ M).bind fun x M => (ofOpt (truth M x) M).bind fun k M => match k with
    | false => evE c b a' ρ M
    | true => .ok x M
  | .ife t a a', ρ, M => (evT c b t ρ M).bind fun k M => match k with
    | true => evE c b a ρ M
    | false => evE c b a' ρ M
  | .tup es, ρ, M => (evL c b es ρ M).bind fun xs M => if xs.length ≤ cap then .ok (.tup xs) M else .no
  | .lst es, ρ, M => (evL c b es ρ M).bind fun xs M => if xs.length ≤ cap then new xs M else .no
  | .dic0, _, M => .ok (.loc M.length) (M ++ [.dct []])
  | .ix a a', ρ, M => (evE c b a ρ M).bind fun x M => (evE c b a' ρ M).bind fun y M => ofOpt (semIx M x y) M
  | .sl a lo hi, ρ, M => (evE c b a ρ M).bind fun x M => (evO c b lo ρ M).bind fun l M => (evO c b hi ρ M).bind fun h M => semSl x l h M
  | .rev a, ρ, M => (evE c b a ρ M).bind fun x M => semRev x M
  | .call f es, ρ, M => (evL c b es ρ M).bind fun xs M => c.F f xs b M
  | .callk f es ks kes, ρ, M => (evL c b es ρ M).bind fun xs M => (evL c b kes ρ M).bind fun ys M => (ofOpt (place (xs.length + ys.length) xs ks ys) M).bind fun zs M => c.F f zs b M
  | .bi k es, ρ, M => (evL c b es ρ M).bind fun xs M => semBI k xs M
  | .lrng es, ρ, M => (evL c b es ρ M).bind fun xs M => match rngOf xs with
    | some (.rng lo n) => if n ≤ cap then new ((List.range n).map fun i => D.int (lo + (i : Nat))) M else .no
    | _ => .no
  | .mth m o es, ρ, M => (evE c b o ρ M).bind fun x M => match rcv m M x with
    | true => (evL c b es ρ M).bind fun xs M => semM m x xs b M
    | false => .no
  | .isi a cs, ρ, M => (evE c b a ρ M).bind fun x M => match tyD M x with
    | some t => (ofOpt (isAny t cs) M).bind fun k M => .ok (.bl k) M
    | none => .no
  | .new k f es, ρ, M => (evL c b es ρ M).bind fun xs M => (c.F f (.loc M.length :: xs) b (M ++ [.ins k []])).bind fun d M2 => match isNon d with
    | true => .ok (.loc M.length) M2
    | false => .no
  | .mc a _ ms es, ρ, M => (evE c b a ρ M).bind fun x M => match pickM M x ms with
    | some f => (evL c b es ρ M).bind fun xs M => c.F f (x :: xs) b M
    | none => .no
  | .fld a k j, ρ, M => (evE c b a ρ M).bind fun x M => ofOpt (fldD M x k j) M
  | .dic ks es, ρ, M => (hush (evL c b es ρ M)).bind fun xs M => if ks.length = xs.length then newD ((ks.map KY.s).zip xs) M else .no
  | .dct a, ρ, M => (evE c b a ρ M).bind fun x M => match itemsOf M x with
    | some ds => match pairsD ds with
      | some kvs => newD kvs M
      | none => .no
    | none => .no
  | .get a e, ρ, M => (evE c b a ρ M).bind fun x M => match dctAt M x with
    | some _ => (evE c b e ρ M).bind fun y M => ofOpt (getD1 M x y) M
    | none => .no
  | .gget _ kvs e, ρ, M => (evE c b e ρ M).bind fun y M => ofOpt (getG kvs y) M
  | .calld f es ds, ρ, M => (evL c b es ρ M).bind fun xs M => c.F f (xs ++ ds.map D.int) b M
  | .lc g it ow t e, ρ, M => (evI c b it ρ M).bind fun s M =>
    (hush (turns (fun M i => s.next M i) (itemT (evG c M.length g) (evT c M.length t) (fun ρ2 M3 => (evE c M.length e ρ2 M3).bind fun d M4 => .ok [d] M4) (wipe ρ ow)) (s.len M + 1) 0 M)).bind fun xs M' => sealL M.length xs M'
  | .lc2 g it t g' it' t' ow ow' e, ρ, M => (evI c b it ρ M).bind fun s M =>
    (hush (turns (fun M i => s.next M i) (itemT (evG c M.length g) (evT c M.length t) (fun ρ2 M3 => (evI c M.length it' ρ2 M3).bind fun s' M4 =>
      turns (fun M i => s'.next M i) (itemT (evG c M.length g') (evT c M.length t') (fun ρ6 M7 => (evE c M.length e ρ6 M7).bind fun d M8 => .ok [d] M8) (wipe ρ2 ow')) (s'.len M4 + 1) 0 M4) (wipe ρ ow)) (s.len M + 1) 0 M)).bind fun xs M' => sealL M.length xs M'
  | .dc g it ow t k v, ρ, M => (evI c b it ρ M).bind fun s M =>
    (hush (turns (fun M i => s.next M i) (itemT (evG c M.length g) (evT c M.length t) (fun ρ2 M3 => (evE c M.length k ρ2 M3).bind fun kd M4 => (evE c M.length v ρ2 M4).bind fun d M5 => .ok [.tup [kd, d]] M5) (wipe ρ ow)) (s.len M + 1) 0 M)).bind fun ds M' => sealD M.length ds M'
  | .dc2 g it t g' it' t' ow ow' k v, ρ, M => (evI c b it ρ M).bind fun s M =>
    (hush (turns (fun M i => s.next M i) (itemT (evG c M.length g) (evT c M.length t) (fun ρ2 M3 => (evI c M.length it' ρ2 M3).bind fun s' M4 =>
      turns (fun M i => s'.next M i) (itemT (evG c M.length g') (evT c M.length t') (fun ρ6 M7 => (evE c M.length k ρ6 M7).bind fun kd M8 => (evE c M.length v ρ6 M8).bind fun d M9 => .ok [.tup [kd, d]] M9) (wipe ρ2 ow')) (s'.len M4 + 1) 0 M4) (wipe ρ ow)) (s.len M + 1) 0 M)).bind fun ds M' => sealD M.length ds M'
  | .dicT k v, ρ, M => (hush (evE c b k ρ M)).bind fun x M => (hush (evE c b v ρ M)).bind fun d M => match keyT x with
    | some is => .ok (.loc M.length) (M ++ [.dctT [(is, d)]])
    | none => .no
def evL (c : Cf) (b : Nat) : EL → Enn → Sto → Out (List D)
  | .nil, _, M => .ok [] M
  | .cons e es, ρ, M => (evE c b e ρ M).bind fun x M => (evL c b es ρ M).bind fun xs M => .ok (x :: xs) M
def evO (c : Cf) (b : Nat) : EO → Enn → Sto → Out (Option Int)
  | .none, _, M => .ok none M
  | .some e, ρ, M => (evE c b e ρ M).bind fun x M => match x with
    | .int i => .ok (some i) M
    | _ => .no
def evT (c : Cf) (b : Nat) : T → Enn → Sto → Out Bool
  | .yes, _, M => .ok true M
  | .val a, ρ, M => (evE c b a ρ M).bind fun x M => ofOpt (truth M x) M
  | .not t, ρ, M => (evT c b t ρ M).bind fun k M => .ok (!k) M
  | .and a a', ρ, M => (evT c b a ρ M).bind fun k M => match k with
    | true => evT c b a' ρ M
    | false => .ok false M
  | .or a a', ρ, M => (evT c b a ρ M).bind fun k M => match k with
    | true => .ok true M
    | false => evT c b a' ρ M
  | .cmp o a a', ρ, M => (evE c b a ρ M).bind fun x M => (evE c b a' ρ M).bind fun y M => ofOpt (semC o M x y) M
  | .chn o o' a a' a'', ρ, M => (evE c b a ρ M).bind fun x M => (evE c b a' ρ M).bind fun y M => (ofOpt (semC o M x y) M).bind fun k M => match k with
    | false => .ok false M
    | true => (evE c b a'' ρ M).bind fun z M => ofOpt (semC o' M y z) M
  | .ife t a a', ρ, M => (evT c b t ρ M).bind fun k M => match k with
    | true => evT c b a ρ M
    | false => evT c b a' ρ M
def evI (c : Cf) (b : Nat) : IT → Enn → Sto → Out Src
  | .seq a, ρ, M => (evE c b a ρ M).bind fun x M => ofOpt (srcOf M x) M
  | .rng es, ρ, M => (evL c b es ρ M).bind fun xs M => ofOpt (rngOf xs) M
  | .enu a, ρ, M => (evE c b a ρ M).bind fun x M => ofOpt (enuOf M x) M
  | .zip a a', ρ, M => (evE c b a ρ M).bind fun x M => (evE c b a' ρ M).bind fun y M => ofOpt (zipOf M x y) M
  | .zips a a', ρ, M => (evE c b a ρ M).bind fun x M => (evE c b a' ρ M).bind fun y M => ofOpt (zipsOf M x y) M
def evG (c : Cf) (b : Nat) : G → D → Enn → Sto → Option (Enn × Sto)
  | .nam i, d, ρ, M => some (ρ.set i (some d), M)
  | .tup gs, d, ρ, M => match itemsOf M d with
    | some ds => evGs c b gs ds ρ M
    | none => none
  | .fld o k j, d, ρ, M => match (evE c b o ρ M).bind fun x M => ofOpt (setF M x k j d b) M with
    | .ok M2 _ => some (ρ, M2)
    | _ => none
  | .star gs, d, ρ, M => match d with
    | .tup ds => match Nat.ble (glen gs) (ds.length + 1) with
      | true => evGs c b gs (ds.take (glen gs - 1) ++ [.loc M.length]) ρ (M ++ [.lst (ds.drop (glen gs - 1))])
      | false => none
    | _ => none
  | .sub o i, d, ρ, M => match (evE c b o ρ M).bind fun x M => (evE c b i ρ M).bind fun y M => ofOpt (semSet x y d b M) M with
    | .ok M2 _ => some (ρ, M2)
    | _ => none
def evGs (c : Cf) (b : Nat) : GL → List D → Enn → Sto → Option (Enn × Sto)
  | .nil, ds, ρ, M => match ds with
    | [] => some (ρ, M)
    | _ :: _ => none
  | .cons g gs, ds, ρ, M => match ds with
    | [] => none
    | d :: ds => match evG c b g d ρ M with
      | some (ρ', M') => evGs c b gs ds ρ' M'
      | none => none
end
mutual
def evS (c : Cf) (b : Nat) : S → Enn → Sto → SO
  | .expr e, ρ, M => lift (evE c b e ρ M) ρ fun _ M => some (.nx ρ, M)
  | .asg g e, ρ, M => lift (evE c b e ρ M) ρ fun d M => match evG c b g d ρ M with
    | some (ρ', M') => some (.nx ρ', M')
    | none => none
  | .par is es, ρ, M => lift (evL c b es ρ M) ρ fun ds M => if ds.length = is.length then some (.nx (setAll is ds ρ), M) else none
  | .aug i o e, ρ, M => match ρ[i]? with
    | some (some x) => lift (evE c b e ρ M) ρ fun y M => match o, x, y with
      | .add, .int i', .int j => some (.nx (ρ.set i (some (.int (i' + j)))), M)
      | .sub, .int i', .int j => some (.nx (ρ.set i (some (.int (i' - j)))), M)
      | _, _, _ => none
    | _ => none
  | .augs o i op e, ρ, M => lift (evE c b o ρ M) ρ fun x M => lift (evE c b i ρ M) ρ fun y M => match augIx M x y with
    | some old => lift (evE c b e ρ M) ρ fun z M => match augD op old z with
      | some w => match semSet x y w b M with
        | some M' => some (.nx ρ, M')
        | none => none
      | none => none
    | none => none
  | .augf o k j op e, ρ, M => lift (evE c b o ρ M) ρ fun x M => match fldD M x k j with
    | some old => lift (evE c b e ρ M) ρ fun z M => match augD op old z with
      | some w => match setF M x k j w b with
        | some M' => some (.nx ρ, M')
        | none => none
      | none => none
    | none => none
  | .asg2 g g' e, ρ, M => lift (evE c b e ρ M) ρ fun d M => match evG c b g d ρ M with
    | some (ρ', M') => match evG c b g' d ρ' M' with
      | some (ρ'', M'') => some (.nx ρ'', M'')
      | none => none
    | none => none
  | .ret e, ρ, M => lift (evE c b e ρ M) ρ fun d M => some (.rt d, M)
  | .retn, _, M => some (.rt .non, M)
  | .pass, ρ, M => some (.nx ρ, M)
  | .brk, ρ, M => some (.bk ρ, M)
  | .cont, ρ, M => some (.ct ρ, M)
  | .iff t s s', ρ, M => lift (evT c b t ρ M) ρ fun k M => match k with
    | true => evSs c b s ρ M
    | false => evSs c b s' ρ M
  | .for_ g it s, ρ, M => lift (evI c b it ρ M) ρ fun src M => loop (fun M i => src.next M i) (fun d ρ M => match evG c b g d ρ M with
    | some (ρ', M') => evSs c b s ρ' M'
    | none => none) (src.len M + 1) 0 ρ M
  | .whl t s, ρ, M => wloop (evT c b t) (evSs c b s) c.wf ρ M
  | .bad, _, _ => none
  | .rai k, ρ, M => some (.xc ⟨k, []⟩ ρ, M)
  | .raiC k es, ρ, M => match evL c b es ρ M with
    | .ok xs M' => some (.xc ⟨k, xs⟩ ρ, M')
    | _ => none
  | .tri s _ _ cs, ρ, M => match evSs c b s ρ M with
    | some (.xc x ρ', M') => match x.xs with
      | [] => match cs.lookup x.cls with
        | some (some k) => some (.rt (.bl k), M')
        | some none => some (.xc x ρ', M')
        | none => none
      | _ :: _ => none
    | r => r
  | .tryc s _ cs d, ρ, M => match evSs c b s ρ M with
    | some (.xc x ρ', M') => match cs.lookup x.cls with
      | some true => some (.rt d, M')
      | some false => some (.xc x ρ', M')
      | none => none
    | r => r
def evSs (c : Cf) (b : Nat) : SL → Enn → Sto → SO
  | .nil, ρ, M => some (.nx ρ, M)
  | .cons s ss, ρ, M => match evS c b s ρ M with
    | some (.nx ρ', M') => evSs c b ss ρ' M'
    | r => r
end

/-- a def of the text: its parameters, the names by slot, its body; keep: what it makes may stand in what stood before -/
structure Fn where
  name : Str
  np : Nat
  N : List Str
  body : SL
  keep : Bool := false
  own : Option (Nat × Str) := none
  /-- has parameters that only keywords fill -/
  ko : Bool := false
def endD : SO → Out D
  | some (.nx _, M) => .ok .non M
  | some (.rt d, M) => .ok d M
  | some (.xc x _, M) => .ex x M
  | _ => .no
def flatX (x : Xn) : Bool := flats x.xs
/-- what a def made is cut off behind it -/
def cutE (n0 : Nat) : Out D → Out D
  | .ok d M => match d.flat with
    | true => .ok d (M.take n0)
    | false => match d with
      | .loc n => match Nat.ble n0 n with
        | true => match M[n]? with
          | some (.lst xs) => match flats xs with
            | true => .ok (.loc n0) (M.take n0 ++ [.lst xs])
            | false => .ok d M
          | _ => .ok d M
        | false => .ok d (M.take n0)
      | _ => .ok d M
  | .ex x M => match flatX x with
    | true => .ex x (M.take n0)
    | false => .ex x M
  | .no => .no
def startE (fn : Fn) (xs : List D) : Enn := xs.map some ++ List.replicate (fn.N.length - fn.np) none
def callFn (F : Nat → List D → Nat → Sto → Out D) (gv : Nat → Option D) (wf : Nat) (fn : Fn) (xs : List D) (b : Nat) (M : Sto) : Out D :=
  if xs.length = fn.np then match fn.keep with
    | true => endD (evSs ⟨F, gv, wf⟩ b fn.body (startE fn xs) M)
    | false => cutE M.length (endD (evSs ⟨F, gv, wf⟩ M.length fn.body (startE fn xs) M))
  else .no
/-! ### a call sees no more of the store than the lists it is handed -/
def flatO : O → Bool
  | .lst xs => flats xs
  | .dct kvs => flats (kvs.map (·.2))
  | _ => false
/-- where the lists stand that a call is handed, none of them holding an address; none: a call that may see all -/
def roots (M : Sto) : List D → List Nat → Option (List Nat)
  | [], ns => some ns
  | d :: ds, ns => match d with
    | .loc n => match ns.contains n with
      | true => roots M ds ns
      | false => match M[n]? with
        | some o => match flatO o with
          | true => roots M ds (ns ++ [n])
          | false => none
        | none => none
    | d => match d.flat with
      | true => roots M ds ns
      | false => none
def inD1 (ns : List Nat) : D → D
  | .loc n => .loc (ns.idxOf n)
  | d => d
mutual
/-- an address of the small store in the great one -/
def outD (ns : List Nat) (L : Nat) : D → D
  | .loc i => match ns[i]? with
    | some n => .loc n
    | none => .loc (L + (i - ns.length))
  | .tup xs => .tup (outDs ns L xs)
  | .frz xs => .frz (outDs ns L xs)
  | .non => .non
  | .bl b => .bl b
  | .int i => .int i
  | .str s => .str s
  | .fn n => .fn n
def outDs (ns : List Nat) (L : Nat) : List D → List D
  | [] => []
  | d :: ds => outD ns L d :: outDs ns L ds
end
def outKs (ns : List Nat) (L : Nat) : List (KY × D) → List (KY × D)
  | [] => []
  | (k, d) :: kvs => (k, outD ns L d) :: outKs ns L kvs
def outTs (ns : List Nat) (L : Nat) : List (List Int × D) → List (List Int × D)
  | [] => []
  | (k, d) :: kvs => (k, outD ns L d) :: outTs ns L kvs
def outO (ns : List Nat) (L : Nat) : O → O
  | .lst xs => .lst (outDs ns L xs)
  | .dct kvs => .dct (outKs ns L kvs)
  | .ins c xs => .ins c (outDs ns L xs)
  | .dctT kvs => .dctT (outTs ns L kvs)
def back : List Nat → List O → Sto → Sto
  | n :: ns, o :: os, M => back ns os (M.set n o)
  | _, _, M => M
def picks (M : Sto) : List Nat → Option Sto
  | [] => some []
  | n :: ns => match M[n]?, picks M ns with
    | some o, some os => some (o :: os)
    | _, _ => none
def outSto (ns : List Nat) (M M1 : Sto) : Sto := back ns M1 M ++ (M1.drop ns.length).map (outO ns M.length)
def unsub (ns : List Nat) (M : Sto) : Out D → Out D
  | .no => .no
  | .ok d M1 => match (M1.take ns.length).all flatO with
    | true => .ok (outD ns M.length d) (outSto ns M M1)
    | false => .no
  | .ex x M1 => match (M1.take ns.length).all flatO with
    | true => .ex ⟨x.cls, outDs ns M.length x.xs⟩ (outSto ns M M1)
    | false => .no
def subRun (G : List D → Nat → Sto → Out D) (xs : List D) (b : Nat) (M : Sto) : Out D := match roots M xs [] with
  | none => G xs b M
  | some ns => match picks M ns with
    | none => .no
    | some M0 => unsub ns M (G (xs.map (inD1 ns)) ns.length M0)
def run (fns : List Fn) (gv : Nat → Option D) (wf : Nat) : Nat → Nat → List D → Nat → Sto → Out D
  | 0, _, _, _, _ => .no
  | k + 1, f, xs, b, M => match fns[f]? with
    | some fn => subRun (callFn (run fns gv wf k) gv wf fn) xs b M
    | none => .no
end Ev
end

section
/-! EvTup: tuples as they are made, known to the object (so that nothing else hangs on them). -/
namespace Ev
open PySem PySem.Spec PyProof.Rows L2
/-- nothing hangs on the thing at a -/
def ND (K : PySem.W.Frag) (H : Hp) (a : Addr) : Prop := (∃ o u, H a = some (.frz o u) ∧ o.dict = none) ∨ ∃ o, K.lookup a = some o ∧ o.dict = none
section
variable {X : Cx} {pins : List (Addr × Obj)} {σ : L2.St} {H : Hp} {s : Shared}
theorem ND.at {a : Addr} (h : ND X.K H a) (I : Inv X pins σ H s) : ∃ o, s.heap.get? a = some o ∧ o.dict = none := by
  rcases h with ⟨o, u, e, d⟩ | ⟨o, e, d⟩
  · exact ⟨o, (I.hok a _ e).1, d⟩
  · exact ⟨o, I.kIn _ _ e, d⟩
/-- a new tuple is laid -/
theorem laidT (I : Inv X pins σ H s) {us : List Value} {xs : List V} {tk : Nat} (r : Vals xs us) (hz : xs.length ≤ sizeLine) :
    Inv X pins σ (upd H s.heap.objs.size (.frz { cls := .type "tuple", data := .seq us.toArray } (.tup xs))) { s with heap := s.heap.push { cls := .type "tuple", data := .seq us.toArray }, toks := tk } :=
  I.laid (t' := tk) (fun _ _ e => Heap.get?_push_of_some _ e) (Nat.le_refl _) ⟨Heap.get?_push_size _ rfl, hz, us, r, IsTup.new _ _⟩
/-- what is wanted of a new tuple -/
def QT (xs : List V) (H : Hp) (Q : VK) : Prop := (∀ p o, H p = none → o.dict = none → Q (.ref p) (upd H p (.frz o (.tup xs)))) ∨ ∀ p, H p = none → Q (.ref p) (upd H p (.tup xs))
theorem QT.go {xs : List V} {Q : VK} {us : List Value} {tk : Nat} (q : QT xs H Q) (I : Inv X pins σ H s) (r : Vals xs us) (hz : xs.length ≤ sizeLine) :
    EP X pins σ Q (.ref s.heap.objs.size) { s with heap := s.heap.push { cls := .type "tuple", data := .seq us.toArray }, toks := tk } :=
  q.elim (fun q => ⟨.ref s.heap.objs.size, _, laidT I r hz, rfl, q _ _ (I.hok.fresh (Nat.le_refl _)) rfl⟩) fun q =>
    ⟨.ref s.heap.objs.size, _, I.laid (t' := tk) (o := .tup xs) (fun _ _ e => Heap.get?_push_of_some _ e) (Nat.le_refl _) ⟨hz, us, r, IsTup.new _ _⟩, rfl, q _ (I.hok.fresh (Nat.le_refl _))⟩
end
def tTupF (t : TA) : TE := fun σ H Q => t σ H fun xs H1 => xs.length ≤ sizeLine ∧ QT xs H1 Q
section
variable {X : Cx}
theorem pe_tupF {es : List Expr} {k : Nat} {pos : Pos} {t : TA} (h : PA X es t) : PE X (.Tuple es k pos) (tTupF t) := by
  refine ⟨fun pins s σ H Q I hq => wpAny_Tuple_spliced (thn (h.run pos pins s σ H _ I hq) fun us s1 ⟨xs, H1, I1, r, hz, q⟩ => ⟨by rw [← r.length]; exact hz, ?_⟩)⟩
  exact q.go (tk := s1.toks) I1 r hz
/-- tuple(..) -/
theorem call_tupF : CallR X (.type "tuple") (fun xs H Q => ∃ p ys, xs = [.ref p] ∧ ((SqL X.K H p ys ∧ QT ys H Q) ∨ (SqT X.K H p ys ∧ Q (.ref p) H))) := by
  intro pins s σ H xs us Q I r h
  obtain ⟨p, ys, rfl, hl | ht⟩ := h
  · obtain ⟨hq, q⟩ := hl
    obtain ⟨u, rfl, rx⟩ := vals1 r
    cases rx
    obtain ⟨its, rv, pl, hz⟩ := I.list hq
    have sz := rv.length
    refine call_tuple_list pl.isList (fun h' kp => ?_) (by rw [List.size_toArray]; omega)
    exact q.go (tk := s.toks) (I.kept (t' := s.toks) kp) rv hz
  · exact call_tuple_of pins s σ H _ us Q I r ⟨p, ys, rfl, .inr ht⟩
/-- t + u -/
def rCatF (K : PySem.W.Frag) : R2 := fun x y H Q => ∃ a b xs ys, x = .ref a ∧ y = .ref b ∧ SqT K H a xs ∧ SqT K H b ys ∧ xs.length + ys.length ≤ sizeLine ∧
  (xs = [] → Q (.ref b) H) ∧ (xs ≠ [] → ys = [] → Q (.ref a) H) ∧ (xs ≠ [] → ys ≠ [] → QT (xs ++ ys) H Q)
theorem op_catF : OpR X (binaryOp .Add) (rCatF X.K) := by
  intro pins s σ H x y v u Q I rx ry h
  obtain ⟨a, b, xs, ys, rfl, rfl, ha, hb, hz, q0, q1, q2⟩ := h
  by_cases hx : xs = []
  · exact op_catA pins s σ H _ _ v u Q I rx ry ⟨a, b, xs, ys, rfl, rfl, ha, hb, hz, q0, q1, fun z => absurd hx z⟩
  by_cases hy : ys = []
  · exact op_catA pins s σ H _ _ v u Q I rx ry ⟨a, b, xs, ys, rfl, rfl, ha, hb, hz, q0, q1, fun _ z => absurd hy z⟩
  cases rx
  cases ry
  obtain ⟨us, r1, p1, _⟩ := I.tuple ha
  obtain ⟨vs, r2, p2, _⟩ := I.tuple hb
  refine HT.cat_tup p1 p2 (fun z => hx (r1.nil_iff.mp z)) (fun z => absurd (r2.nil_iff.mp z) hy) (fun _ => ?_) (by rw [← r1.length, ← r2.length]; exact hz)
  exact (q2 hx hy).go (tk := s.toks) I (r1.append r2) (by rw [List.length_append]; exact hz)
/-- t[lo:hi] -/
def rSlF (K : PySem.W.Frag) : V → Option Int → Option Int → Hp → VK → Prop := fun x lo hi H Q => ∃ a xs, x = .ref a ∧ SqT K H a xs ∧
  (HT.sIx xs.length 0 lo = 0 ∧ HT.sIx xs.length xs.length hi = xs.length → Q (.ref a) H) ∧ (¬ (HT.sIx xs.length 0 lo = 0 ∧ HT.sIx xs.length xs.length hi = xs.length) → QT (cutV xs lo hi) H Q)
theorem sl_tupF : SlR X (rSlF X.K) := by
  intro pins s σ H x v vl vu lo hi sl Q I rx hs pl pu h
  obtain ⟨a, xs, rfl, hx, q1, q2⟩ := h
  by_cases hw : HT.sIx xs.length 0 lo = 0 ∧ HT.sIx xs.length xs.length hi = xs.length
  · exact sl_tupA pins s σ H _ v vl vu lo hi sl Q I rx hs pl pu ⟨a, xs, rfl, hx, q1, fun z => absurd hw z⟩
  cases rx
  obtain ⟨us, r, ht, hz⟩ := I.tuple hx
  have sz : us.toArray.size = xs.length := by rw [List.size_toArray]; exact r.length.symm
  refine ⟨"tuple", _, PyProof.Rows.slot_tuple_getitem.lookup, ht.typeIs, HT.getItem_tuple_cut ht hs pl pu (by rw [sz]; exact hw) ?_ (by rw [sz]; exact hz)⟩
  rw [sz]
  exact (q2 hw).go (tk := s.toks) I ((r.drop (HT.sIx xs.length 0 lo)).take (HT.sIx xs.length xs.length hi - HT.sIx xs.length 0 lo)) (Nat.le_trans (cutV_length xs lo hi) hz)
end
end Ev
end

section
/-! EvDct: dict(..) of a tuple of pairs, from what the library proves of dict(..) over any source of pairs. -/
namespace Ev
open PySem PySem.Spec PyProof.Rows L2
/-- an entry as the heap has it: its tuple, the two values in it, the key -/
structure Ent where
  at_ : Addr
  fst : Value
  snd : Value
  key : Key
/-- what is known of an entry -/
structure EntOk (X : Cx) (s : Shared) (b : Addr) (kv : Key × V) (e : Ent) : Prop where
  same : e.at_ = b
  key : e.key = kv.1
  tup : IsTup s.heap b #[e.fst, e.snd]
  is : (mixKind X.prog X.w).is kv.1 e.fst = true
  val : RelV kv.2 e.snd
theorem ent_of {X : Cx} {pins : List (Addr × Obj)} {σ : L2.St} {H : Hp} {s : Shared} (I : Inv X pins σ H s) {b : Addr} {kv : Key × V} (h : SqT X.K H b [kV kv.1, kv.2]) : ∃ e, EntOk X s b kv e := by
  obtain ⟨its, rv, ht, _⟩ := I.tuple h
  have two : ∃ u y, its = [u, y] ∧ RelV (kV kv.1) u ∧ RelV kv.2 y := by
    generalize kV kv.1 = kk at rv
    cases rv with
    | @cons _ u _ _ ru r2 =>
      cases r2 with
      | @cons _ y _ _ ry r3 =>
        cases r3
        exact ⟨u, y, rfl, ru, ry⟩
  obtain ⟨u, y, rfl, ru, ry⟩ := two
  exact ⟨⟨b, u, y, kv.1⟩, { same := rfl, key := rfl, tup := ht, is := kV_is ru, val := ry }⟩
/-- one for each -/
theorem ents_of {X : Cx} {pins : List (Addr × Obj)} {σ : L2.St} {H : Hp} {s : Shared} (I : Inv X pins σ H s) {ps : List Addr} {kvs : List (Key × V)} (h : Paired (fun p kv => SqT X.K H p [kV kv.1, kv.2]) ps kvs) :
    ∃ es : List Ent, ps = es.map Ent.at_ ∧ KV kvs (es.map fun e => (e.key, e.snd)) ∧ ∀ e ∈ es, IsTup s.heap e.at_ #[e.fst, e.snd] ∧ (mixKind X.prog X.w).is e.key e.fst = true := by
  induction h with
  | nil => exact ⟨[], rfl, .nil, fun e m => by cases m⟩
  | cons hd _ ih =>
    obtain ⟨es, e1, e2, e3⟩ := ih
    obtain ⟨e, ok⟩ := ent_of I hd
    refine ⟨e :: es, by rw [List.map_cons, ok.same, e1], .cons ⟨ok.key.symm, ok.val⟩ e2, fun z m => ?_⟩
    rcases List.mem_cons.mp m with rfl | m
    · exact ⟨by rw [ok.same]; exact ok.tup, by rw [ok.key]; exact ok.is⟩
    · exact e3 z m
/-- what dict(..) of a tuple of pairs wants, and leaves -/
def rPairsT (K : PySem.W.Frag) : List V → Hp → VK → Prop := fun xs H Q => ∃ (a : Addr) (ps : List Addr) (kvs : List (Key × V)), xs = [.ref a] ∧ SqT K H a (ps.map V.ref) ∧ ND K H a ∧
  Paired (fun p kv => SqT K H p [kV kv.1, kv.2]) ps kvs ∧ ∀ p, H p = none → Q (.ref p) (upd H p (.dK (mergeK [] kvs)))
theorem call_dctT {X : Cx} (hcalm : X.calm = true) : CallR X (.type "dict") (rPairsT X.K) := by
  rintro pins s σ H xs us Q I r ⟨a, ps, kvs, rfl, hq, nd, hp, q⟩
  obtain ⟨es, rfl, rk, he⟩ := ents_of I hp
  match us, r with
  | [u], .cons ru .nil =>
    cases (show u = .ref a from ru)
    obtain ⟨its, rv, ⟨o, ho, hc, n, hd⟩, hz⟩ := I.tuple hq
    obtain ⟨o', ho', hn⟩ := nd.at I
    cases ho.symm.trans ho'
    rw [List.map_map, List.length_map] at hz
    have ei : its = es.map fun e => Value.ref e.at_ := by
      clear hd hq hz he rk hp q
      induction es generalizing its with
      | nil => cases rv; rfl
      | cons e es ih =>
        cases rv with
        | cons r1 r2 => rw [List.map_cons, ← ih _ r2]; exact congrArg (· :: _) r1
    subst ei
    have src := PairArg.tuple (prog := X.prog) (w := X.w) a (es.map fun e => Value.ref e.at_).toArray (fun j => (es.map Ent.at_).getD j 0) (es.map fun e => (e.fst, e.snd))
    have pick : ∀ {j : Nat} {p : Value × Value}, (es.map fun e => (e.fst, e.snd))[j]? = some p → ∃ e, es[j]? = some e ∧ e ∈ es ∧ p = (e.fst, e.snd) := fun {j p} h => by
      rw [List.getElem?_map] at h
      cases q : es[j]? with
      | none => rw [q] at h; cases h
      | some e => rw [q] at h; cases h; exact ⟨e, rfl, List.mem_of_getElem? q, rfl⟩
    refine PySem.call_dict_pairs (knd := mixKind X.prog X.w) (kvs := es.map fun e => (e.key, e.snd)) src (I.ok.hd hcalm) ⟨⟨o, n, ho, hc, hn, hd⟩, by simp, fun j x y h => ?_⟩ ⟨by simp, fun i x y h => ?_⟩ (by simpa using hz) fun h' tk dct kp => ?_
    · obtain ⟨e, e1, m, e2⟩ := pick h
      cases e2
      have at_ : (es.map Ent.at_).getD j 0 = e.at_ := by simp [List.getD_eq_getElem?_getD, e1]
      refine ⟨by simp [e1], .inl ?_⟩
      show IsTup s.heap ((es.map Ent.at_).getD j 0) _
      rw [at_]
      exact (he e m).1
    · obtain ⟨e, e1, m, e2⟩ := pick h
      cases e2
      exact ⟨e.key, by simp [e1], (he e m).2⟩
    · have len : (mergeK [] kvs).length ≤ sizeLine := by
        have z := length_mergeK kvs []
        have y := rk.length
        rw [List.length_map] at y
        simp at z
        omega
      refine ⟨.ref s.heap.objs.size, _, I.laid (t' := tk) (o := .dK (mergeK [] kvs)) (fun b ob h => kp b ob (by simp) h) (Nat.le_refl _) ⟨len, ?_, merged [] _, rk.merge .nil, dct⟩, rfl, q _ (I.hok.fresh (Nat.le_refl _))⟩
      rw [beq_eq_false_iff_ne]
      exact Nat.ne_of_gt I.big
end Ev
end

section
/-! EvZs: zip(.., strict=True) of two tuples, at the library's level. -/
namespace ZS
open PySem

/-- what does not stand at cs stays -/
def Rest (cs : List Addr) (h h' : Heap) : Prop := ∀ c o, c ∉ cs → h.get? c = some o → h'.get? c = some o
theorem Rest.refl (cs : List Addr) (h : Heap) : Rest cs h h := fun _ _ _ e => e
theorem Rest.trans {cs : List Addr} {h h1 h2 : Heap} (a : Rest cs h h1) (b : Rest cs h1 h2) : Rest cs h h2 := fun c o n e => b c o n (a c o n e)
theorem Rest.one {cs : List Addr} {h h' : Heap} {a : Addr} (m : a ∈ cs) (k : Heap.ExtBut a h h') : Rest cs h h' := fun c o n e => k c o (fun z => n (z ▸ m)) e
theorem Rest.same {cs : List Addr} {h h' : Heap} {a : Addr} (m : a ∈ cs) (k : Heap.SameBut a h h') : Rest cs h h' := .one m k.extBut
/-- a strict zip at z -/
def SZip (h : Heap) (z TI TO : Addr) (f : Value) : Prop := h.get? z = some { cls := .type "zip", dict := none, data := .fields #[f, .bool false, .bool true, .ref TI, .ref TO], slots := #[] }
/-- .. with its sources, both at turn k -/
structure Strict (h : Heap) (z TI TO i1 i2 a b : Addr) (k : Nat) (f : Value) : Prop where
  zip : SZip h z TI TO f
  src : IsPair h TI (.ref i1) (.ref i2)
  out : ∃ x y, IsPair h TO x y
  one : h.IsTupleIter i1 a k
  two : h.IsTupleIter i2 b k
section
variable {prog : Program} {w : World} {A : Around} {E : Value → Shared → Prop} {s : Shared}
theorem draw_some {it l : Addr} {i : Nat} {items : Array Value} {x : Value} {Q : Option Value → Shared → Prop} (hit : s.heap.IsTupleIter it l i) (hl : s.heap.IsTuple l items) (hx : items[i]? = some x)
    (hQ : ∀ h', h'.IsTupleIter it l (i + 1) → Heap.SameBut it s.heap h' → Q (some x) { s with heap := h' }) : wpAny (model prog w) A (Builtin.SmallTypes.nextOrEnd (.ref it)) Q E s := by
  unfold Builtin.SmallTypes.nextOrEnd
  exact wpAny_bind (wpAny_attempt (RZ.nextOf_tuple_item hit hl hx fun h' p q => wpAny_pure (hQ h' p q)))
theorem draw_none {it l : Addr} {i : Nat} {items : Array Value} {Q : Option Value → Shared → Prop} (hh : A.handled = none) (hit : s.heap.IsTupleIter it l i) (hl : s.heap.IsTuple l items) (hx : items[i]? = none)
    (hQ : ∀ h', Heap.ExtBut it s.heap h' → Q none { s with heap := h' }) : wpAny (model prog w) A (Builtin.SmallTypes.nextOrEnd (.ref it)) Q E s := by
  unfold Builtin.SmallTypes.nextOrEnd
  refine wpAny_bind (wpAny_attempt (RZ.nextOf_tuple_end hh hit hl hx fun h' e kp he => ?_))
  obtain ⟨o, ho, hc⟩ := he
  exact wpAny_bind (wpAny_isInstance (T := "StopIteration") (b := true) ⟨o, ho, hc⟩ isSubtype_stop (wpAny_pure (hQ h' kp)))
theorem set0 {z TI TO : Addr} {f v : Value} {Q : Unit → Shared → Prop} (hz : SZip s.heap z TI TO f) (h : ∀ h', SZip h' z TI TO v → Heap.SameBut z s.heap h' → Q () { s with heap := h' }) : wpAny (model prog w) A (setField (.ref z) 0 v) Q E s :=
  wpAny_setField_rec hz (by simp) fun h' p q => h h' p q
theorem set1 {z TI TO : Addr} {f : Value} {Q : Unit → Shared → Prop} (hz : SZip s.heap z TI TO f) (h : ∀ h', SZip h' z TI TO f → Heap.SameBut z s.heap h' → Q () { s with heap := h' }) : wpAny (model prog w) A (setField (.ref z) 1 (.bool false)) Q E s :=
  wpAny_setField_rec hz (by simp) fun h' p q => h h' p q
end
section
variable {prog : Program} {w : World} {A : Around} {E : Value → Shared → Prop} {s : Shared} {z TI TO i1 i2 a b : Addr} {k : Nat} {xs ys : Array Value}
/-- one item of each -/
theorem body_item {x y : Value} {Q : Value → Shared → Prop} (D : ZipApart z TI TO i1 i2 a b) (S : Strict s.heap z TI TO i1 i2 a b k .none) (ha : s.heap.IsTuple a xs) (hb : s.heap.IsTuple b ys) (hx : xs[k]? = some x) (hy : ys[k]? = some y)
    (hQ : ∀ h', Strict h' z TI TO i1 i2 a b (k + 1) (rawInt s.heap.objs.size) → IsPair h' s.heap.objs.size x y → Rest [z, TO, i1, i2] s.heap h' → Q (.ref s.heap.objs.size) { s with heap := h' }) :
    wpAny (model prog w) A (Builtin.«zip.__next__» ⟨[.ref z], []⟩) (fun fin s' => ∃ v, fin = .done (.ret v) ∧ Q v s') E s := by
  obtain ⟨hz, hTI, ⟨x0, y0, hTO⟩, h1, h2⟩ := S
  show wpAny _ _ (field (.ref z) 2 >>= _) _ _ _
  refine wpAny_bind (wpAny_field hz rfl (x := .bool true) rfl ?_)
  show wpAny _ _ (field (.ref z) 3 >>= _) _ _ _
  refine wpAny_bind (wpAny_field hz rfl (x := .ref TI) rfl (wpAny_bind (wpAny_seqItems hTI rfl ?_)))
  show wpAny _ _ (Builtin.SmallTypes.ownedTupleIsFree (.ref z) >>= _) _ _ _
  refine wpAny_bind ?_
  unfold Builtin.SmallTypes.ownedTupleIsFree
  refine wpAny_bind (wpAny_field hz rfl (x := .none) rfl (wpAny_pure ?_))
  simp only [if_true]
  refine wpAny_bind (wpAny_rule (wpAny_bind (wpAny_field hz rfl (x := .ref TO) rfl (wpAny_bind (set0 hz fun g1 hz1 k1 => wpAny_bind ?_)))))
  simp only [List.zipIdx_cons, List.zipIdx_nil, List.forIn_cons, List.forIn_nil]
  have r1 : Rest [z, TO, i1, i2] s.heap g1 := .same (by simp) k1
  -- the first
  refine wpAny_bind (wpAny_bind (wpAny_onRaise ?_))
  show wpAny _ _ (Builtin.SmallTypes.nextOrEnd (.ref i1)) _ _ _
  refine draw_some (h1.extBut k1.extBut D.i1z) (ha.at fun o e => k1.extBut _ o D.l1z e) hx fun g2 h1g k2 => ?_
  have r2 : Rest [z, TO, i1, i2] s.heap g2 := r1.trans (.same (by simp) k2)
  have hTO2 : IsPair g2 TO x0 y0 := k2.extBut _ _ D.TOi1 (k1.extBut _ _ D.TOz hTO)
  refine wpAny_bind (wpAny_seqItems hTO2 rfl (wpAny_bind (wpAny_updateSeq_pair hTO2 fun g3 hTO3 k3 => ?_)))
  replace hTO3 : IsPair g3 TO x y0 := hTO3
  refine wpAny_bind (wpAny_letGo (wpAny_pure ?_))
  have r3 : Rest [z, TO, i1, i2] s.heap g3 := r2.trans (.same (by simp) k3)
  -- the second
  refine wpAny_bind (wpAny_bind (wpAny_onRaise ?_))
  show wpAny _ _ (Builtin.SmallTypes.nextOrEnd (.ref i2)) _ _ _
  have h2' : g3.IsTupleIter i2 b k := ((h2.extBut k1.extBut D.i2z).extBut k2.extBut D.i12.symm).extBut k3.extBut D.TOi2.symm
  have hb3 : g3.IsTuple b ys := hb.at fun o e => k3.extBut _ o D.l2TO (k2.extBut _ o D.l2i1 (k1.extBut _ o D.l2z e))
  refine draw_some h2' hb3 hy fun g4 h2g k4 => ?_
  have hTO4 : IsPair g4 TO x y0 := k4.extBut _ _ D.TOi2 hTO3
  refine wpAny_bind (wpAny_seqItems hTO4 rfl (wpAny_bind (wpAny_updateSeq_pair hTO4 fun g5 hTO5 k5 => ?_)))
  replace hTO5 : IsPair g5 TO x y := hTO5
  refine wpAny_bind (wpAny_letGo (wpAny_pure (wpAny_pure ?_)))
  have r5 : Rest [z, TO, i1, i2] s.heap g5 := (r3.trans (.same (by simp) k4)).trans (.same (by simp) k5)
  have e5 : g5.objs.size = s.heap.objs.size := by rw [k5.1, k4.1, k3.1, k2.1, k1.1]
  have hz5 : SZip g5 z TI TO .ellipsis := k5.extBut _ _ D.TOz.symm (k4.extBut _ _ D.i2z.symm (k3.extBut _ _ D.TOz.symm (k2.extBut _ _ D.i1z.symm hz1)))
  have h15 : g5.IsTupleIter i1 a (k + 1) := ((h1g.extBut k3.extBut D.TOi1.symm).extBut k4.extBut D.i12).extBut k5.extBut D.TOi1.symm
  have h25 : g5.IsTupleIter i2 b (k + 1) := h2g.extBut k5.extBut D.TOi2.symm
  have hTI5 : IsPair g5 TI (.ref i1) (.ref i2) := r5 TI _ (by simp [D.TIz, D.TITO, D.TIi1, D.TIi2]) hTI
  -- the pair goes out
  refine wpAny_bind (wpAny_seqItems hTO5 rfl (wpAny_bind (wpAny_newTuple ?_)))
  show wpAny _ _ (Builtin.SmallTypes.ownedTupleHandOut (.ref z) (.ref g5.objs.size) >>= _) _ _ _
  refine wpAny_bind ?_
  unfold Builtin.SmallTypes.ownedTupleHandOut
  have new : ∀ {c : Addr} {o : Obj}, g5.get? c = some o → (g5.push { cls := .type "tuple", data := .seq #[x, y] }).get? c = some o := fun e => Heap.get?_push_of_some _ e
  refine wpAny_bind (set0 (new hz5) fun g7 hz7 k7 => set1 hz7 fun g8 hz8 k8 => ?_)
  have up : ∀ c o, c ≠ z → g5.get? c = some o → g8.get? c = some o := fun c o n e => k8.extBut _ _ n (k7.extBut _ _ n (new e))
  have lt : z < g5.objs.size := Heap.lt_size hz5
  have pair : IsPair g8 g5.objs.size x y := k8.extBut _ _ (Nat.ne_of_gt lt) (k7.extBut _ _ (Nat.ne_of_gt lt) (Heap.get?_push_size _ rfl))
  rw [e5] at hz8 pair
  refine wpAny_pure ⟨_, rfl, ?_⟩
  rw [e5]
  exact hQ g8 ⟨hz8, up _ _ D.TIz hTI5, ⟨x, y, up _ _ D.TOz hTO5⟩, h15.at fun o e => up _ o D.i1z e, h25.at fun o e => up _ o D.i2z e⟩ pair fun c o n e => up c o (fun q => n (by simp [q])) (r5 c o n e)
/-- the end is told -/
theorem told_end {α : Type} {Q : α → Shared → Prop} (hh : A.handled = none) (h : ∀ h' e, (∀ c o, s.heap.get? c = some o → h'.get? c = some o) → (∃ o, h'.get? e = some o ∧ o.cls = .type "StopIteration") → E (.ref e) { s with heap := h' }) :
    wpAny (model prog w) A (Builtin.SmallTypes.stopIteration : Sem α) Q E s := by
  unfold Builtin.SmallTypes.stopIteration newExc newTuple
  refine wpAny_bind (wpAny_bind (wpAny_newObj_type ?_ (by size_fits)))
  have first : firstArgMember (.type "StopIteration") [] = pure Value.none := by first | rfl | (simp only [firstArgMember]; rfl)
  refine wpAny_bind (wpAny_of_eq first ?_)
  refine wpAny_newObj_type (wpAny_raiseNew_none hh ?_) (by size_fits)
  exact h _ _ (fun c o e => Heap.get?_push_of_some _ (Heap.get?_push_of_some _ e)) ⟨_, Heap.get?_push_size _ rfl, rfl⟩
/-- both are at their end -/
theorem body_end {Q : Fin → Shared → Prop} (hh : A.handled = none) (D : ZipApart z TI TO i1 i2 a b) (S : Strict s.heap z TI TO i1 i2 a b k .none) (ha : s.heap.IsTuple a xs) (hb : s.heap.IsTuple b ys) (hx : xs[k]? = none) (hy : ys[k]? = none)
    (hE : ∀ h' e, Rest [z, TO, i1, i2] s.heap h' → (∃ o, h'.get? e = some o ∧ o.cls = .type "StopIteration") → E (.ref e) { s with heap := h' }) :
    wpAny (model prog w) A (Builtin.«zip.__next__» ⟨[.ref z], []⟩) Q E s := by
  obtain ⟨hz, hTI, ⟨x0, y0, hTO⟩, h1, h2⟩ := S
  show wpAny _ _ (field (.ref z) 2 >>= _) _ _ _
  refine wpAny_bind (wpAny_field hz rfl (x := .bool true) rfl ?_)
  show wpAny _ _ (field (.ref z) 3 >>= _) _ _ _
  refine wpAny_bind (wpAny_field hz rfl (x := .ref TI) rfl (wpAny_bind (wpAny_seqItems hTI rfl ?_)))
  show wpAny _ _ (Builtin.SmallTypes.ownedTupleIsFree (.ref z) >>= _) _ _ _
  refine wpAny_bind ?_
  unfold Builtin.SmallTypes.ownedTupleIsFree
  refine wpAny_bind (wpAny_field hz rfl (x := .none) rfl (wpAny_pure ?_))
  simp only [if_true]
  refine wpAny_bind (wpAny_rule (wpAny_bind (wpAny_field hz rfl (x := .ref TO) rfl (wpAny_bind (set0 hz fun g1 hz1 k1 => wpAny_bind ?_)))))
  simp only [List.zipIdx_cons, List.zipIdx_nil, List.forIn_cons, List.forIn_nil]
  refine wpAny_bind (wpAny_bind (wpAny_onRaise ?_))
  show wpAny _ _ (Builtin.SmallTypes.nextOrEnd (.ref i1)) _ _ _
  refine draw_none hh (h1.extBut k1.extBut D.i1z) (ha.at fun o e => k1.extBut _ o D.l1z e) hx fun g2 k2 => ?_
  refine wpAny_bind (set0 (k2 _ _ D.i1z.symm hz1) fun g3 hz3 k3 => ?_)
  refine wpAny_bind ?_
  show wpAny _ _ (do
    for (it, j) in ([Value.ref i2] : List Value).zipIdx 1 do
      if (← Builtin.SmallTypes.nextOrEnd it).isSome then
        rule "zip.__next__.longer"; raiseError "ValueError" _
    rule "zip.__next__.all-ended"; Builtin.SmallTypes.stopIteration) _ _ _
  simp only [List.zipIdx_cons, List.zipIdx_nil, List.forIn_cons, List.forIn_nil]
  have h2' : g3.IsTupleIter i2 b k := h2.at fun o e => k3.extBut _ _ D.i2z (k2 _ _ D.i12.symm (k1.extBut _ _ D.i2z e))
  have hb3 : g3.IsTuple b ys := hb.at fun o e => k3.extBut _ o D.l2z (k2 _ o D.l2i1 (k1.extBut _ o D.l2z e))
  have r3 : Rest [z, TO, i1, i2] s.heap g3 := ((Rest.same (by simp) k1).trans (.one (by simp) k2)).trans (.same (by simp) k3)
  refine wpAny_bind (wpAny_bind (wpAny_bind (draw_none hh h2' hb3 hy fun g4 k4 => ?_)))
  simp only [Option.isSome_none, Bool.false_eq_true, if_false]
  refine wpAny_pure (wpAny_pure (wpAny_bind (wpAny_rule (told_end hh fun g5 e k5 he => ?_))))
  exact hE g5 e ((r3.trans (.one (by simp) k4)).trans fun c o _ q => k5 c o q) he
theorem next_item {x y : Value} {Q : Option Value → Shared → Prop} (D : ZipApart z TI TO i1 i2 a b) (S : Strict s.heap z TI TO i1 i2 a b k .none) (ha : s.heap.IsTuple a xs) (hb : s.heap.IsTuple b ys) (hx : xs[k]? = some x) (hy : ys[k]? = some y)
    (hQ : ∀ h', Strict h' z TI TO i1 i2 a b (k + 1) (rawInt s.heap.objs.size) → IsPair h' s.heap.objs.size x y → Rest [z, TO, i1, i2] s.heap h' → Q (some (.ref s.heap.objs.size)) { s with heap := h' }) : wpAny (model prog w) A (pyNext (.ref z)) Q E s := by
  have ty : s.TypeIs (.ref z) "zip" := ⟨_, S.zip, rfl⟩
  have run := body_item (prog := prog) (w := w) (A := A.in1) (E := fun e s' => Q none s') D S ha hb hx hy (Q := fun v s' => Q (some v) s') hQ
  unfold pyNext
  refine wpAny_bind (wpAny_attempt (wpAny_callSpecial?_slot (name := Str.ofString "__next__") ty F.slot_zip_next (wpAny_call_entry F.slot_zip_next ty F.entry_zip_next (body_item D S ha hb hx hy fun h' p q r => ?_) (F.args_zip_next_1 _))))
  exact wpAny_pure (hQ h' p q r)
theorem next_end {Q : Option Value → Shared → Prop} (hh : A.handled = none) (D : ZipApart z TI TO i1 i2 a b) (S : Strict s.heap z TI TO i1 i2 a b k .none) (ha : s.heap.IsTuple a xs) (hb : s.heap.IsTuple b ys) (hx : xs[k]? = none) (hy : ys[k]? = none)
    (hQ : ∀ h', Rest [z, TO, i1, i2] s.heap h' → Q none { s with heap := h' }) : wpAny (model prog w) A (pyNext (.ref z)) Q E s := by
  have ty : s.TypeIs (.ref z) "zip" := ⟨_, S.zip, rfl⟩
  unfold pyNext
  refine wpAny_bind (wpAny_attempt (wpAny_callSpecial?_slot (name := Str.ofString "__next__") ty F.slot_zip_next (wpAny_call_entry F.slot_zip_next ty F.entry_zip_next (body_end hh D S ha hb hx hy fun h' e r he => ?_) (F.args_zip_next_1 _))))
  obtain ⟨o, ho, hc⟩ := he
  exact wpAny_bind (wpAny_isInstance (T := "StopIteration") (b := true) ⟨o, ho, hc⟩ isSubtype_stop (wpAny_pure (hQ _ r)))
/-- the pair is let go -/
theorem lets_go {elts : List Expr} {n : Nat} {pos : Pos} {T : Addr} {Q : Unit → Shared → Prop} (hz : SZip s.heap z TI TO (rawInt T)) (hQ : ∀ h', SZip h' z TI TO .none → Heap.SameBut z s.heap h' → Q () { s with heap := h' }) :
    wpAny (model prog w) A (letOwnedTupleGo (.Tuple elts n pos) (.ref z) (.ref T)) Q E s := by
  unfold letOwnedTupleGo
  refine wpAny_bind (wpAny_load hz ?_)
  show wpAny _ _ (ite ((["enumerate", "zip", "dict_itemiterator", "dict_reverseitemiterator", "odict_iterator", "itertools.zip_longest", "itertools.pairwise"].contains "zip" &&
      (#[rawInt T, .bool false, .bool true, .ref TI, .ref TO] : Array Value)[0]? == some (rawInt T)) = true) _ _) Q E s
  rw [if_pos (by simp)]
  refine wpAny_bind (wpAny_rule ?_)
  show wpAny _ _ (setField (.ref z) 0 .none) Q E s
  exact set0 hz hQ
theorem its_self {f : Value} {Q : Value → Shared → Prop} (hz : SZip s.heap z TI TO f) (h : Q (.ref z) s) : wpAny (model prog w) A (pyIter (.ref z)) Q E s := by
  have ty : s.TypeIs (.ref z) "zip" := ⟨_, hz, rfl⟩
  refine wpAny_pyIter_slot ty F.slot_zip_iter (wpAny_call_entry F.slot_zip_iter ty F.entry_zip_iter ?_ (F.args_zip_iter_1 _))
  show wpAny _ _ (ret (.ref z)) _ _ s
  exact wpAny_pure ⟨_, rfl, "zip", _, ty, F.slot_zip_next.lookup, h⟩
end
/-! ### the call -/
abbrev kwS : List (Str × Value) := [(Str.ofString "strict", .bool true)]
theorem type_ok (a b : Value) : checkTypeCall "zip" ⟨[a, b], kwS⟩ = pure () := by kernel_rfl
theorem new_ok (a b : Value) : checkBuiltinCall "zip.__new__" ⟨[.type "zip", a, b], kwS⟩ = pure () := by kernel_rfl
theorem init_ok (o a b : Value) : argsOk "object.__init__" ⟨[o, a, b], kwS⟩ := by unfold argsOk; kernel_rfl
def tIt (a : Addr) : Obj := { cls := .type "tuple_iterator", data := .fields #[.ref a, .int 0 0] }
def heap5 (h : Heap) (a b : Addr) : Heap := ((((h.push (tIt a)).push (tIt b)).push { cls := .type "tuple", data := .seq #[.ref h.objs.size, .ref (h.objs.size + 1)] }).push { cls := .type "tuple", data := .seq #[.none, .none] }).push
  { cls := .type "zip", data := .fields #[.none, .bool false, .bool true, .ref (h.objs.size + 2), .ref (h.objs.size + 3)] }
theorem meets_new (a b : Addr) (xs ys : Array Value) : Meets (Builtin.«zip.__new__» ⟨[.type "zip", .ref a, .ref b], kwS⟩) (fun _ R s => s.heap.IsTuple a xs ∧ s.heap.IsTuple b ys ∧ R (.ok (.ret (.ref (s.heap.objs.size + 4)))) { s with heap := heap5 s.heap a b }) :=
  .of_wp fun prog w A R s h => by
    obtain ⟨hp, g, d, tk, os⟩ := s
    obtain ⟨ha, hb, h⟩ := h
    have sub := sub_zip
    have ta : Heap.IsTuple (Shared.heap ⟨hp, g, d, tk, os⟩) a xs := ha
    have tb : Heap.IsTuple (Shared.heap ⟨hp.push (tIt a), g, d, tk, os⟩) b ys := Heap.IsTuple.push hb _
    have e2 : (Str.ofString "strict" != ("strict" : Str)) = false := by decide +kernel
    unfold tIt at tb
    wp_walk using wpAny_pyIter_tuple ta, wpAny_pyIter_tuple tb
    refine ⟨_, rfl, ?_⟩
    simp only [Heap.size_push]
    exact h
section
variable {prog : Program} {w : World} {A : Around} {E : Value → Shared → Prop} {s : Shared}
theorem call_zips {a b : Addr} {xs ys : Array Value} {Q : Value → Shared → Prop} (ha : s.heap.IsTuple a xs) (hb : s.heap.IsTuple b ys)
    (h : ∀ h', Strict h' (s.heap.objs.size + 4) (s.heap.objs.size + 2) (s.heap.objs.size + 3) s.heap.objs.size (s.heap.objs.size + 1) a b 0 .none → (∀ c o, s.heap.get? c = some o → h'.get? c = some o) → Q (.ref (s.heap.objs.size + 4)) { s with heap := h' }) :
    wpAny (model prog w) A (call (.type "zip") [.ref a, .ref b] kwS) Q E s := by
  refine callType_newKw F.called_zip (by decide) (type_ok _ _) (new_ok _ _) (fun obj => init_ok obj _ _) F.entry_zip_new (meets_new a b xs ys) ⟨ha, hb, ?_⟩
  have up : ∀ (h : Heap) (o : Obj) (c : Addr) (q : Obj), h.get? c = some q → (h.push o).get? c = some q := fun h o c q e => Heap.get?_push_of_some _ e
  have z : ∀ (h : Heap) (o : Obj), (h.push o).objs.size = h.objs.size + 1 := fun h o => Heap.size_push ..
  have S : Strict (heap5 s.heap a b) (s.heap.objs.size + 4) (s.heap.objs.size + 2) (s.heap.objs.size + 3) s.heap.objs.size (s.heap.objs.size + 1) a b 0 .none := by
    have q1 := Heap.get?_push_size s.heap (o := tIt a) rfl
    have q2 := Heap.get?_push_size (s.heap.push (tIt a)) (o := tIt b) rfl
    have q3 := Heap.get?_push_size ((s.heap.push (tIt a)).push (tIt b)) (o := { cls := .type "tuple", data := .seq #[.ref s.heap.objs.size, .ref (s.heap.objs.size + 1)] }) rfl
    have q4 := Heap.get?_push_size (((s.heap.push (tIt a)).push (tIt b)).push { cls := .type "tuple", data := .seq #[.ref s.heap.objs.size, .ref (s.heap.objs.size + 1)] }) (o := { cls := .type "tuple", data := .seq #[.none, .none] }) rfl
    have q5 := Heap.get?_push_size ((((s.heap.push (tIt a)).push (tIt b)).push { cls := .type "tuple", data := .seq #[.ref s.heap.objs.size, .ref (s.heap.objs.size + 1)] }).push { cls := .type "tuple", data := .seq #[.none, .none] })
      (o := { cls := .type "zip", data := .fields #[.none, .bool false, .bool true, .ref (s.heap.objs.size + 2), .ref (s.heap.objs.size + 3)] }) rfl
    simp only [z] at q2 q3 q4 q5
    exact ⟨q5, up _ _ _ _ (up _ _ _ _ q3), ⟨.none, .none, up _ _ _ _ q4⟩, ⟨tIt a, up _ _ _ _ (up _ _ _ _ (up _ _ _ _ (up _ _ _ _ q1))), rfl, rfl⟩, ⟨tIt b, up _ _ _ _ (up _ _ _ _ (up _ _ _ _ q2)), rfl, rfl⟩⟩
  exact ⟨⟨_, S.zip, rfl⟩, h _ S fun c o e => up _ _ _ _ (up _ _ _ _ (up _ _ _ _ (up _ _ _ _ (up _ _ _ _ e))))⟩
end
end ZS
namespace L2
open PySem PySem.Spec PyProof.Rows ZS
/-- two tuples walked together, to the same end -/
def ItzS (K : PySem.W.Frag) (a b : Addr) : It :=
  ⟨fun i H => ∃ (xs ys : List V) (x y : V), SqT K H a xs ∧ SqT K H b ys ∧ xs[i]? = some x ∧ ys[i]? = some y,
    fun i H v H' => ∃ T x y, v = .ref T ∧ H T = none ∧ H' = upd H T (.tup [x, y]) ∧ (∀ xs, SqT K H a xs → xs[i]? = some x) ∧ ∀ ys, SqT K H b ys → ys[i]? = some y,
    fun i H => ∃ xs ys : List V, SqT K H a xs ∧ SqT K H b ys ∧ xs.length ≤ i ∧ ys.length ≤ i⟩
theorem turn_zipS {P : Program} {w : World} {K : PySem.W.Frag} {elts : List Expr} {n : Nat} {tpos : Pos} {a b z TI TO i1 i2 : Addr} (D : ZipApart z TI TO i1 i2 a b) :
    Turn P w K (.Tuple elts n tpos) (ItzS K a b) [z, TI, TO, i1, i2] z (fun i h => Strict h z TI TO i1 i2 a b i .none) where
  mem := by simp
  obj := fun i h S c hc => by
    obtain ⟨o1, e1, _, d1⟩ := S.one
    obtain ⟨o2, e2, _, d2⟩ := S.two
    obtain ⟨x, y, eo⟩ := S.out
    simp only [List.mem_cons, List.not_mem_nil, or_false] at hc
    rcases hc with rfl | rfl | rfl | rfl | rfl
    · exact ⟨_, S.zip, fun v q => nomatch q⟩
    · exact ⟨_, S.src, fun v q => nomatch q⟩
    · exact ⟨_, eo, fun v q => nomatch q⟩
    · exact ⟨o1, e1, fun v q => by rw [d1] at q; cases q⟩
    · exact ⟨o2, e2, fun v q => by rw [d2] at q; cases q⟩
  keep := fun i h h' S k => by
    obtain ⟨x, y, eo⟩ := S.out
    exact ⟨k z (by simp) _ S.zip, k TI (by simp) _ S.src, ⟨x, y, k TO (by simp) _ eo⟩, S.one.at fun o q => k i1 (by simp) o q, S.two.at fun o q => k i2 (by simp) o q⟩
  item := by
    intro X hP hw hK hc i pins s σ H E I hf S hg
    subst hP hw hK
    obtain ⟨xs, ys, x, y, hqx, hqy, hx, hy⟩ := hg
    obtain ⟨us, rx, px, _⟩ := I.tuple hqx
    obtain ⟨vs, ry, py, _⟩ := I.tuple hqy
    obtain ⟨u, hu, ru⟩ := rx.get hx
    obtain ⟨v, hv, rv⟩ := ry.get hy
    have there : ∀ c ∈ [z, TI, TO, i1, i2], c < s.heap.objs.size := fun c hc => by
      obtain ⟨o1, e1, _⟩ := S.one
      obtain ⟨o2, e2, _⟩ := S.two
      obtain ⟨_, _, eo⟩ := S.out
      simp only [List.mem_cons, List.not_mem_nil, or_false] at hc
      rcases hc with rfl | rfl | rfl | rfl | rfl
      · exact Heap.lt_size S.zip
      · exact Heap.lt_size S.src
      · exact Heap.lt_size eo
      · exact Heap.lt_size e1
      · exact Heap.lt_size e2
    refine ZS.next_item D S px py (x := u) (y := v) (by simpa using hu) (by simpa using hv) fun h1 S1 hp r1 => ⟨_, rfl, ?_⟩
    refine lets_go (s := { s with heap := h1 }) S1.zip fun h2 hz2 k2 => ?_
    have r2 : ∀ c o, c ∉ [z, TI, TO, i1, i2] → s.heap.get? c = some o → h2.get? c = some o := fun c o n e => by
      simp only [List.mem_cons, List.not_mem_nil, or_false, not_or] at n
      exact k2.extBut _ _ n.1 (r1 c o (by simp; exact ⟨n.1, n.2.2.1, n.2.2.2.1, n.2.2.2.2⟩) e)
    have new : h2.get? s.heap.objs.size = some { cls := .type "tuple", data := .seq #[u, v] } := k2.extBut _ _ (Nat.ne_of_gt (there z (by simp))) hp
    have J : Inv X pins σ (upd H s.heap.objs.size (.tup [x, y])) { s with heap := h2 } := I.turnedNew (t' := s.toks) (ch := [z, TI, TO, i1, i2]) r2 hf (Nat.le_refl _) ⟨by show 2 ≤ sizeLine; decide, [u, v], .cons ru (.cons rv .nil), _, new, rfl, _, rfl⟩
    refine ⟨.ref s.heap.objs.size, _, J, rfl, ⟨_, x, y, rfl, I.hok.fresh (Nat.le_refl _), rfl, fun l hl => by rw [I.tuple_inj hl hqx]; exact hx, fun l hl => by rw [I.tuple_inj hl hqy]; exact hy⟩, ?_, fun c hc => ?_⟩
    · obtain ⟨x1, y1, eo⟩ := S1.out
      exact ⟨hz2, k2.extBut _ _ D.TIz S1.src, ⟨x1, y1, k2.extBut _ _ D.TOz eo⟩, S1.one.at fun o q => k2.extBut _ o D.i1z q, S1.two.at fun o q => k2.extBut _ o D.i2z q⟩
    · rw [upd_ne (Nat.ne_of_lt (there c hc))]
      exact (hf c hc).1
  done := by
    intro X hP hw hK hc i pins s σ H E I hf S hg
    subst hP hw hK
    obtain ⟨xs, ys, hqx, hqy, lx, ly⟩ := hg
    obtain ⟨us, rx, px, _⟩ := I.tuple hqx
    obtain ⟨vs, ry, py, _⟩ := I.tuple hqy
    have l1 := rx.length
    have l2 := ry.length
    refine ZS.next_end (I.ok.hd hc) D S px py (by simp; omega) (by simp; omega) fun h1 r1 => ⟨rfl, I.turnedL (t' := s.toks) (ch := [z, TI, TO, i1, i2]) (fun c o n e => r1 c o (fun m => n (by simp at m ⊢; rcases m with q | q | q | q <;> simp [q])) e) hf⟩
  self := fun A i s Q E S h => its_self S.zip h
end L2
namespace L2
open PySem PySem.Spec PyProof.Rows ZS
/-- a built-in class called with one keyword that is written out -/
theorem type_with {M : Model} {A : Around} {E : Value → Shared → Prop} {s : Shared} {env : Env} {pos kp cp : Pos} {T : String} {e : Expr} {rest : List Expr} {k : Str} {v : Bool} {n : Nat} {Q : Value → Shared → Prop}
    (he : starEach (e :: rest) env = (false, eval e env) :: starEach rest env) (hp : (backTo pos (starEach rest env)).any (·.1) = false)
    (h : wpAny M A (spliced (backTo pos (starEach (e :: rest) env))) (fun us s1 => wpAny M A (call (.type T) us [(k, .bool v)]) Q E s1) E s) :
    wpAny M A (callWith pos (.type T) [] (backTo pos (starEach (e :: rest) env)) (backToKw pos (keywordEach [⟨some k, .Constant (.bool v) n cp, kp⟩] env))) Q E s := by
  unfold callWith
  refine wpAny_bind (wpAny_holding (wpAny_mono (Q := fun (a : Args) s1 => wpAny M A (call (.type T) ([] ++ a.pos) a.kw) Q E s1) (PyProof.Rows.evalArgs_kw2 rfl ?_ he) (fun a s1 h1 => wpAny_bind (wpAny_standAt ?_)) fun _ _ z => z))
  · refine wpAny_mono h (fun us s1 h1 => PyProof.Rows.kwAll_cons ?_) fun _ _ z => z
    exact wpAny_Constant_bool (PyProof.Rows.kwAll_nil h1)
  · have hf : ((backTo pos (starEach (e :: rest) env)).any (·.1) || (backToKw pos (keywordEach [⟨some k, .Constant (.bool v) n cp, kp⟩] env)).any (·.1.isNone)) = false := by
      rw [he]
      show ((false || (backTo pos (starEach rest env)).any (·.1)) || false) = false
      rw [hp]
      rfl
    rw [hf]
    refine wpAny_bind (wpAny_pure ?_)
    exact wpAny_bind (wpAny_mono h1 (fun r s2 hr => wpAny_bind (wpAny_holding (wpAny_point (wpAny_pure hr)))) fun _ _ z => z)
def iZipS (K : PySem.W.Frag) (ta : TA) : TI := fun σ H R => ta σ H fun vs H1 => ∃ a b xs ys, vs = [.ref a, .ref b] ∧ SqT K H1 a xs ∧ SqT K H1 b ys ∧ R (ItzS K a b) H1
theorem pi_zipS {X : Cx} {e e2 : Expr} {ta : TA} {p pos tpos kp cp : Pos} {elts : List Expr} {n m : Nat} (hg : Gl X "zip") (hm : X.mg "zip" = none) (ha : PA X [e, e2] ta)
    (hs : starEach [e, e2] X.env = (false, eval e X.env) :: starEach [e2] X.env) (hpl : (backTo pos (starEach [e2] X.env)).any (·.1) = false) :
    PI X (.Tuple elts n tpos) (.Call (.Name "zip" p) [e, e2] [⟨some "strict", .Constant (.bool true) m cp, kp⟩] pos) (iZipS X.K ta) := by
  refine ⟨fun pins s σ H R I h => wpAny_Call_Name_kw (ld_blt I hg hm PyProof.Rows.boot_zip (type_with hs hpl (thn (ha.run pos pins s σ H _ I h) fun us s1 h1 => ?_)) (by decide) (by decide))⟩
  obtain ⟨vs, H1, I1, r1, a, b, xs, ys, rfl, hx, hy, q⟩ := h1
  cases r1 with
  | cons r rr =>
    cases rr with
    | cons r' rr =>
      cases rr
      cases r
      cases r'
      obtain ⟨us, rx, px, _⟩ := I1.tuple hx
      obtain ⟨ws, ry, py, _⟩ := I1.tuple hy
      obtain ⟨o1, ho1, _⟩ := id px
      obtain ⟨o2, ho2, _⟩ := id py
      refine call_zips (s := s1) (show s1.heap.IsTuple a us.toArray from px) (show s1.heap.IsTuple b ws.toArray from py) fun h' S k => its_self S.zip ?_
      have fresh : ∀ c ∈ [s1.heap.objs.size + 4, s1.heap.objs.size + 2, s1.heap.objs.size + 3, s1.heap.objs.size, s1.heap.objs.size + 1], FpOk X pins H1 c := fun c hc => by
        have hle : s1.heap.objs.size ≤ c := by
          simp only [List.mem_cons, List.not_mem_nil, or_false] at hc
          rcases hc with rfl | rfl | rfl | rfl | rfl <;> omega
        exact I1.fpOk hle (I1.hok.fresh hle)
      exact ⟨_, _, _, ItzS X.K a b, H1, rfl, I1.kept (t' := s1.toks) k, turn_zipS (PySem.W.ktu_apart s1.heap.objs.size a b (Heap.lt_size ho1) (Heap.lt_size ho2)), S, fresh, q⟩
end L2
end

section
/-! EvRel: how plain data and a store lie in the layer's abstract heap. -/
namespace Ev
open PySem L2

def toS (s : List Nat) : Str := ⟨s.toArray⟩
/-- where the defs and the classes of the text stand, the fields' names -/
structure Cn where
  K : PySem.W.Frag
  fa : Nat → Addr
  ca : Nat → Addr
  nm : Nat → Nat → Str
/-- a list that nobody changes -/
def FzL (K : PySem.W.Frag) (H : Hp) (a : Addr) (vs : List V) : Prop :=
  (∃ o, H a = some (.frz o (.lst vs))) ∨
    ∃ (o : Obj) (its : Array Value) (n : Nat), K.lookup a = some o ∧ o.cls = .type "list" ∧ o.dict = none ∧ o.data = .seq its n ∧ its.size ≤ sizeLine ∧ Vals vs its.toList
theorem FzL.sq {K : PySem.W.Frag} {H : Hp} {a : Addr} {vs : List V} (h : FzL K H a vs) : SqL K H a vs := h.elim (fun z => .inl (.inr z)) .inr
variable {C : Cn} {μ μ' : List Addr} {H H' : Hp} {M M' : Sto} {bs : List Nat}
mutual
def RelD (C : Cn) (μ : List Addr) (H : Hp) : D → V → Prop
  | .non, v => v = .non
  | .bl b, v => v = .bl b
  | .int i, v => v = .int i
  | .str s, v => v = .str ⟨s.toArray⟩
  | .tup xs, v => ∃ a vs, v = .ref a ∧ SqT C.K H a vs ∧ RelDs C μ H xs vs ∧ ((pairsD xs).isSome = true → ND C.K H a) ∧ (intT xs = true → H a = some (.tup vs))
  | .frz xs, v => ∃ a vs, v = .ref a ∧ FzL C.K H a vs ∧ RelDs C μ H xs vs
  | .loc n, v => ∃ a, μ[n]? = some a ∧ v = .ref a
  | .fn f, v => v = .ref (C.fa f)
def RelDs (C : Cn) (μ : List Addr) (H : Hp) : List D → List V → Prop
  | [], vs => vs = []
  | d :: ds, vs => ∃ v vr, vs = v :: vr ∧ RelD C μ H d v ∧ RelDs C μ H ds vr
end
/-- tuples and frozen things stay -/
structure Stay (H H' : Hp) : Prop where
  tup : ∀ a xs, H a = some (.tup xs) → H' a = some (.tup xs)
  frz : ∀ a o u, H a = some (.frz o u) → H' a = some (.frz o u)
theorem Stay.refl (H : Hp) : Stay H H := ⟨fun _ _ h => h, fun _ _ _ h => h⟩
theorem Stay.trans {H1 H2 H3 : Hp} (a : Stay H1 H2) (b : Stay H2 H3) : Stay H1 H3 := ⟨fun _ _ h => b.tup _ _ (a.tup _ _ h), fun _ _ _ h => b.frz _ _ _ (a.frz _ _ _ h)⟩
theorem Stay.new {H : Hp} {p : Addr} {o : HO} (h : H p = none) : Stay H (upd H p o) :=
  ⟨fun a xs e => by rw [upd_ne (ne_of_none e h)]; exact e, fun a ob u e => by rw [upd_ne (ne_of_none e h)]; exact e⟩
theorem Stay.put {H : Hp} {p : Addr} {o : HO} (h : Mut (H p)) : Stay H (upd H p o) :=
  ⟨fun a xs e => by
    have z : a ≠ p := fun q => by subst q; rw [e] at h; exact h
    rw [upd_ne z]; exact e, fun a ob u e => by
    have z : a ≠ p := fun q => by subst q; rw [e] at h; exact h
    rw [upd_ne z]; exact e⟩
theorem sqT_stay {K : PySem.W.Frag} {a : Addr} {vs : List V} (h : SqT K H a vs) (s : Stay H H') : SqT K H' a vs := by
  rcases h with (h | ⟨o, h⟩) | h
  · exact .inl (.inl (s.tup _ _ h))
  · exact .inl (.inr ⟨o, s.frz _ _ _ h⟩)
  · exact .inr h
theorem FzL.stay {K : PySem.W.Frag} {a : Addr} {vs : List V} (h : FzL K H a vs) (s : Stay H H') : FzL K H' a vs := by
  rcases h with ⟨o, h⟩ | h
  · exact .inl ⟨o, s.frz _ _ _ h⟩
  · exact .inr h
theorem nd_stay {K : PySem.W.Frag} {a : Addr} (h : ND K H a) (s : Stay H H') : ND K H' a := h.imp (fun ⟨o, u, e, d⟩ => ⟨o, u, s.frz _ _ _ e, d⟩) id
theorem pre_get {μ μ' : List Addr} (h : μ <+: μ') {n : Nat} {a : Addr} (e : μ[n]? = some a) : μ'[n]? = some a := by
  obtain ⟨t, rfl⟩ := h
  rw [List.getElem?_append_left (List.getElem?_eq_some_iff.mp e).1]
  exact e
mutual
theorem RelD.mono (p : μ <+: μ') (s : Stay H H') : ∀ {d : D} {v : V}, RelD C μ H d v → RelD C μ' H' d v
  | .non, _, h => by unfold RelD at *; exact h
  | .bl _, _, h => by unfold RelD at *; exact h
  | .int _, _, h => by unfold RelD at *; exact h
  | .str _, _, h => by unfold RelD at *; exact h
  | .tup xs, _, h => by
    unfold RelD at *
    obtain ⟨a, vs, e, q, r, nd, it⟩ := h
    exact ⟨a, vs, e, sqT_stay q s, RelDs.mono p s r, fun z => nd_stay (nd z) s, fun z => s.tup _ _ (it z)⟩
  | .frz xs, _, h => by
    unfold RelD at *
    obtain ⟨a, vs, e, q, r⟩ := h
    exact ⟨a, vs, e, q.stay s, RelDs.mono p s r⟩
  | .loc n, _, h => by
    unfold RelD at *
    obtain ⟨a, e, r⟩ := h
    exact ⟨a, pre_get p e, r⟩
  | .fn _, _, h => by unfold RelD at *; exact h
theorem RelDs.mono (p : μ <+: μ') (s : Stay H H') : ∀ {ds : List D} {vs : List V}, RelDs C μ H ds vs → RelDs C μ' H' ds vs
  | [], _, h => by unfold RelDs at *; exact h
  | d :: ds, _, h => by
    unfold RelDs at *
    obtain ⟨v, vr, e, r, q⟩ := h
    exact ⟨v, vr, e, r.mono p s, RelDs.mono p s q⟩
end
mutual
theorem RelD.flat : ∀ {d : D} {v : V}, d.flat = true → RelD C μ H d v → RelD C μ' H d v
  | .non, _, _, h => by unfold RelD at *; exact h
  | .bl _, _, _, h => by unfold RelD at *; exact h
  | .int _, _, _, h => by unfold RelD at *; exact h
  | .str _, _, _, h => by unfold RelD at *; exact h
  | .tup xs, _, f, h => by
    unfold RelD at *
    obtain ⟨a, vs, e, q, r, nd, it⟩ := h
    exact ⟨a, vs, e, q, RelDs.flat (by unfold D.flat at f; exact f) r, nd, it⟩
  | .frz xs, _, f, h => by
    unfold RelD at *
    obtain ⟨a, vs, e, q, r⟩ := h
    exact ⟨a, vs, e, q, RelDs.flat (by unfold D.flat at f; exact f) r⟩
  | .loc n, _, f, h => by unfold D.flat at f; cases f
  | .fn _, _, _, h => by unfold RelD at *; exact h
theorem RelDs.flat : ∀ {ds : List D} {vs : List V}, flats ds = true → RelDs C μ H ds vs → RelDs C μ' H ds vs
  | [], _, _, h => by unfold RelDs at *; exact h
  | d :: ds, _, f, h => by
    unfold RelDs at *
    unfold flats at f
    rw [Bool.and_eq_true] at f
    obtain ⟨v, vr, e, r, q⟩ := h
    exact ⟨v, vr, e, r.flat f.1, RelDs.flat f.2 q⟩
end
/-! ### lists of them -/
theorem RelDs.length : ∀ {ds : List D} {vs : List V}, RelDs C μ H ds vs → ds.length = vs.length
  | [], _, h => by unfold RelDs at h; rw [h]; rfl
  | d :: ds, _, h => by
    unfold RelDs at h
    obtain ⟨v, vr, rfl, _, q⟩ := h
    exact congrArg Nat.succ q.length
theorem RelDs.nil : RelDs C μ H [] [] := by unfold RelDs; rfl
theorem RelDs.cons {d : D} {v : V} {ds : List D} {vs : List V} (r : RelD C μ H d v) (q : RelDs C μ H ds vs) : RelDs C μ H (d :: ds) (v :: vs) := by
  unfold RelDs
  exact ⟨v, vs, rfl, r, q⟩
theorem RelDs.inv {d : D} {ds : List D} {vs : List V} (h : RelDs C μ H (d :: ds) vs) : ∃ v vr, vs = v :: vr ∧ RelD C μ H d v ∧ RelDs C μ H ds vr := by
  unfold RelDs at h
  exact h
theorem RelDs.nil_inv {vs : List V} (h : RelDs C μ H [] vs) : vs = [] := by unfold RelDs at h; exact h
theorem RelDs.app : ∀ {ds es : List D} {vs ws : List V}, RelDs C μ H ds vs → RelDs C μ H es ws → RelDs C μ H (ds ++ es) (vs ++ ws)
  | [], _, _, _, h, q => by rw [h.nil_inv]; exact q
  | d :: ds, _, _, _, h, q => by
    obtain ⟨v, vr, rfl, r, z⟩ := h.inv
    exact .cons r (z.app q)
theorem RelDs.get : ∀ {ds : List D} {vs : List V} {i : Nat} {d : D}, RelDs C μ H ds vs → ds[i]? = some d → ∃ v, vs[i]? = some v ∧ RelD C μ H d v
  | [], _, _, _, _, e => by simp at e
  | d :: ds, _, 0, _, h, e => by
    obtain ⟨v, vr, rfl, r, z⟩ := h.inv
    simp at e
    subst e
    exact ⟨v, rfl, r⟩
  | d :: ds, _, i + 1, _, h, e => by
    obtain ⟨v, vr, rfl, r, z⟩ := h.inv
    obtain ⟨w, e1, e2⟩ := z.get (i := i) (by simpa using e)
    exact ⟨w, by simpa using e1, e2⟩
theorem RelDs.take : ∀ {ds : List D} {vs : List V} (n : Nat), RelDs C μ H ds vs → RelDs C μ H (ds.take n) (vs.take n)
  | _, _, 0, _ => by simpa using RelDs.nil
  | [], _, n + 1, h => by rw [h.nil_inv]; simpa using RelDs.nil
  | d :: ds, _, n + 1, h => by
    obtain ⟨v, vr, rfl, r, z⟩ := h.inv
    simpa using RelDs.cons r (z.take n)
theorem RelDs.drop : ∀ {ds : List D} {vs : List V} (n : Nat), RelDs C μ H ds vs → RelDs C μ H (ds.drop n) (vs.drop n)
  | _, _, 0, h => by simpa using h
  | [], _, n + 1, h => by rw [h.nil_inv]; simpa using RelDs.nil
  | d :: ds, _, n + 1, h => by
    obtain ⟨v, vr, rfl, r, z⟩ := h.inv
    simpa using z.drop n
theorem RelDs.set : ∀ {ds : List D} {vs : List V} (n : Nat) {d : D} {v : V}, RelDs C μ H ds vs → RelD C μ H d v → RelDs C μ H (ds.set n d) (vs.set n v)
  | [], _, n, _, _, h, r => by rw [h.nil_inv]; simpa using RelDs.nil
  | d :: ds, _, 0, _, _, h, r => by
    obtain ⟨v, vr, rfl, _, z⟩ := h.inv
    simpa using RelDs.cons r z
  | d :: ds, _, n + 1, _, _, h, r => by
    obtain ⟨v, vr, rfl, q, z⟩ := h.inv
    simpa using RelDs.cons q (z.set n r)
theorem RelDs.erase : ∀ {ds : List D} {vs : List V} (n : Nat), RelDs C μ H ds vs → RelDs C μ H (ds.eraseIdx n) (vs.eraseIdx n)
  | [], _, n, h => by rw [h.nil_inv]; simpa using RelDs.nil
  | d :: ds, _, 0, h => by
    obtain ⟨v, vr, rfl, _, z⟩ := h.inv
    simpa using z
  | d :: ds, _, n + 1, h => by
    obtain ⟨v, vr, rfl, q, z⟩ := h.inv
    simpa using RelDs.cons q (z.erase n)
theorem RelDs.rev : ∀ {ds : List D} {vs : List V}, RelDs C μ H ds vs → RelDs C μ H ds.reverse vs.reverse
  | [], _, h => by rw [h.nil_inv]; simpa using RelDs.nil
  | d :: ds, _, h => by
    obtain ⟨v, vr, rfl, q, z⟩ := h.inv
    simpa using z.rev.app (.cons q .nil)
theorem RelDs.rep {ds : List D} {vs : List V} (h : RelDs C μ H ds vs) : ∀ n : Nat, RelDs C μ H (List.replicate n ds).flatten (List.replicate n vs).flatten
  | 0 => by simpa using RelDs.nil
  | n + 1 => by
    rw [List.replicate_succ, List.replicate_succ, List.flatten_cons, List.flatten_cons]
    exact h.app (h.rep n)
theorem relDs_int : ∀ (is : List Int), RelDs C μ H (is.map D.int) (is.map V.int)
  | [] => .nil
  | i :: is => .cons (by unfold RelD; rfl) (relDs_int is)
theorem ints_rel : ∀ {ds : List D} {is : List Int} {vs : List V}, intsD ds = some is → RelDs C μ H ds vs → vs = is.map V.int
  | [], is, vs, e, h => by
    unfold intsD at e
    cases e
    exact h.nil_inv
  | d :: ds, is, vs, e, h => by
    obtain ⟨v, vr, rfl, r, z⟩ := h.inv
    cases d with
    | int i =>
      unfold intsD at e
      cases q : intsD ds with
      | none => rw [q] at e; cases e
      | some js =>
        rw [q] at e
        cases e
        unfold RelD at r
        rw [r, ints_rel q z]
        rfl
    | _ => unfold intsD at e; cases e
theorem ints_map : ∀ {ds : List D} {is : List Int}, intsD ds = some is → ds = is.map D.int
  | [], is, e => by
    unfold intsD at e
    cases e
    rfl
  | d :: ds, is, e => by
    cases d with
    | int i =>
      unfold intsD at e
      cases q : intsD ds with
      | none => rw [q] at e; cases e
      | some js =>
        rw [q] at e
        cases e
        rw [ints_map q]
        rfl
    | _ => unfold intsD at e; cases e
theorem bools_rel : ∀ {ds : List D} {is : List Bool} {vs : List V}, boolsD ds = some is → RelDs C μ H ds vs → vs = is.map V.bl
  | [], is, vs, e, h => by
    unfold boolsD at e
    cases e
    exact h.nil_inv
  | d :: ds, is, vs, e, h => by
    obtain ⟨v, vr, rfl, r, z⟩ := h.inv
    cases d with
    | bl i =>
      unfold boolsD at e
      cases q : boolsD ds with
      | none => rw [q] at e; cases e
      | some js =>
        rw [q] at e
        cases e
        unfold RelD at r
        rw [r, bools_rel q z]
        rfl
    | _ => unfold boolsD at e; cases e
theorem strs_rel : ∀ {ds : List D} {is : List (List Nat)} {vs : List V}, strsD ds = some is → RelDs C μ H ds vs → vs = (is.map toS).map V.str
  | [], is, vs, e, h => by
    unfold strsD at e
    cases e
    exact h.nil_inv
  | d :: ds, is, vs, e, h => by
    obtain ⟨v, vr, rfl, r, z⟩ := h.inv
    cases d with
    | str i =>
      unfold strsD at e
      cases q : strsD ds with
      | none => rw [q] at e; cases e
      | some js =>
        rw [q] at e
        cases e
        unfold RelD at r
        rw [r, strs_rel q z]
        rfl
    | _ => unfold strsD at e; cases e

/-! ### the store -/
def KY.key : KY → Key
  | .n i => .inl i
  | .s t => .inr (toS t)
/-- the dict's entries in the layer's words -/
def kz (kvs : List (KY × D)) (vs : List V) : List (Key × V) := (kvs.map fun p => p.1.key).zip vs
/-- the names of a class's first fields -/
def fnames (C : Cn) (c n : Nat) : List Str := (List.range n).map (C.nm c)
/-- an instance's fields as they lie -/
def fz (C : Cn) (c : Nat) (vs : List V) : List (Str × V) := (fnames C c vs.length).zip vs
theorem fnames_len (c n : Nat) : (fnames C c n).length = n := by simp [fnames]
theorem fnames_at {c n j : Nat} (h : j < n) : (fnames C c n)[j]? = some (C.nm c j) := by simp [fnames, h]
theorem fnames_succ (c n : Nat) : fnames C c (n + 1) = fnames C c n ++ [C.nm c n] := by simp [fnames, List.range_succ]
theorem zip_miss {k : Str} : ∀ {ks : List Str} {vs : List V}, k ∉ ks → (ks.zip vs).lookup k = none
  | [], _, _ => rfl
  | _ :: _, [], _ => rfl
  | x :: ks, v :: vs, h => by
    rw [List.mem_cons, not_or] at h
    rw [List.zip_cons_cons, List.lookup_cons, beq_eq_false_iff_ne.mpr h.1]
    exact zip_miss h.2
theorem zip_hit {k : Str} {v : V} : ∀ {ks : List Str} {vs : List V} {j : Nat}, ks.Nodup → ks[j]? = some k → vs[j]? = some v → (ks.zip vs).lookup k = some v
  | [], _, _, _, e, _ => by simp at e
  | _ :: _, [], _, _, _, e => by simp at e
  | x :: ks, w :: vs, 0, _, e1, e2 => by
    simp at e1 e2
    subst e1 e2
    rw [List.zip_cons_cons, List.lookup_cons, beq_self_eq_true]
  | x :: ks, w :: vs, j + 1, h, e1, e2 => by
    rw [List.nodup_cons] at h
    have e1' : ks[j]? = some k := by simpa using e1
    have ne : k ≠ x := fun z => h.1 (z ▸ List.mem_of_getElem? e1')
    rw [List.zip_cons_cons, List.lookup_cons, beq_eq_false_iff_ne.mpr ne]
    exact zip_hit h.2 e1' (by simpa using e2)
theorem zip_lay {k : Str} {v : V} : ∀ {ks : List Str} {vs : List V}, k ∉ ks → ks.length = vs.length → putF k v (ks.zip vs) = (ks ++ [k]).zip (vs ++ [v])
  | [], [], _, _ => rfl
  | [], _ :: _, _, e => by cases e
  | _ :: _, [], _, e => by cases e
  | x :: ks, w :: vs, h, e => by
    rw [List.mem_cons, not_or] at h
    show (if x = k then _ else (x, w) :: putF k v (ks.zip vs)) = _
    rw [if_neg (Ne.symm h.1), zip_lay h.2 (Nat.succ.inj e)]
    rfl
theorem zip_swap {k : Str} {v : V} : ∀ {ks : List Str} {vs : List V} {j : Nat}, ks.Nodup → ks[j]? = some k → ks.length = vs.length → putF k v (ks.zip vs) = ks.zip (vs.set j v)
  | [], _, _, _, e, _ => by simp at e
  | _ :: _, [], _, _, _, e => by cases e
  | x :: ks, w :: vs, 0, _, e1, _ => by
    simp at e1
    subst e1
    show (if x = x then _ else _) = _
    rw [if_pos rfl]
    rfl
  | x :: ks, w :: vs, j + 1, h, e1, e2 => by
    rw [List.nodup_cons] at h
    have e1' : ks[j]? = some k := by simpa using e1
    have ne : x ≠ k := fun z => h.1 (z ▸ List.mem_of_getElem? e1')
    show (if x = k then _ else (x, w) :: putF k v (ks.zip vs)) = _
    rw [if_neg ne, zip_swap h.2 e1' (Nat.succ.inj e2)]
    rfl
theorem fz_at {c j : Nat} {vs : List V} {v : V} (h : (fnames C c vs.length).Nodup) (e : vs[j]? = some v) : (fz C c vs).lookup (C.nm c j) = some v :=
  zip_hit h (fnames_at (List.getElem?_eq_some_iff.mp e).1) e
theorem fz_miss {c : Nat} {vs : List V} {m : Str} (h : ∀ j, j < vs.length → C.nm c j ≠ m) : (fz C c vs).lookup m = none := zip_miss fun z => by
  obtain ⟨j, hj, e⟩ := List.mem_map.mp z
  exact h j (List.mem_range.mp hj) e
theorem fz_len (c : Nat) (vs : List V) : (fz C c vs).length = vs.length := by simp [fz, fnames_len]
/-- a field laid or changed -/
theorem fz_put {c j : Nat} {xs : List D} {d : D} {vs : List V} {v : V} (h : (fnames C c (xs.length)).Nodup) (hn : (fnames C c (j + 1)).Nodup) (hj : j ≤ xs.length) (r : RelDs C μ H xs vs) (q : RelD C μ H d v) (hl : xs.length = vs.length) :
    ∃ ws, putF (C.nm c j) v (fz C c vs) = fz C c ws ∧ (fnames C c (putJ xs j d).length).Nodup ∧ (putJ xs j d).length = ws.length ∧ ∀ {μ' : List Addr} {H' : Hp}, RelDs C μ' H' xs vs → RelD C μ' H' d v → RelDs C μ' H' (putJ xs j d) ws := by
  unfold putJ
  by_cases e : j = xs.length
  · rw [if_pos e]
    refine ⟨vs ++ [v], ?_, ?_, by simp [hl], fun r q => r.app (.cons q .nil)⟩
    · unfold fz
      rw [List.length_append, List.length_singleton, fnames_succ, e, hl]
      refine zip_lay (fun z => ?_) (fnames_len _ _)
      rw [e, hl, fnames_succ, List.nodup_append] at hn
      exact hn.2.2 _ z _ (List.mem_singleton.mpr rfl) rfl
    · rw [List.length_append, List.length_singleton, ← e]; exact hn
  · rw [if_neg e]
    refine ⟨vs.set j v, ?_, by rw [List.length_set]; exact h, by simp [hl], fun r q => r.set j q⟩
    unfold fz
    rw [List.length_set]
    exact zip_swap (by rw [← hl]; exact h) (fnames_at (by omega)) (fnames_len _ _)
/-- .. of a dict by tuples of numbers -/
def kzT (kvs : List (List Int × D)) (vs : List V) : List (List Key × V) := (kvs.map fun p => p.1.map Sum.inl).zip vs
def RepO (C : Cn) (μ : List Addr) (H : Hp) (a : Addr) : O → Prop
  | .lst xs => ∃ vs, H a = some (.lst vs) ∧ RelDs C μ H xs vs
  | .dct kvs => ∃ vs, H a = some (.dK (kz kvs vs)) ∧ RelDs C μ H (kvs.map (·.2)) vs
  | .ins c xs => ∃ dx vs, H a = some (.ins (C.ca c) dx (fz C c vs)) ∧ RelDs C μ H xs vs ∧ (fnames C c xs.length).Nodup
  | .dctT kvs => ∃ vs, H a = some (.dT (kzT kvs vs)) ∧ RelDs C μ H (kvs.map (·.2)) vs
structure Rep (C : Cn) (bs : List Nat) (μ : List Addr) (M : Sto) (H : Hp) : Prop where
  len : μ.length = M.length
  nd : μ.Nodup
  le : ∀ c ∈ bs, c ≤ μ.length
  ob : ∀ n a o, μ[n]? = some a → M[n]? = some o → ∀ c, (c ∈ bs ∧ n < c) ∨ c = μ.length → RepO C (μ.take c) H a o
theorem RepO.mono {a : Addr} {o : O} (p : μ <+: μ') (s : Stay H H') (e : H' a = H a) (h : RepO C μ H a o) : RepO C μ' H' a o := by
  cases o with
  | lst xs =>
    obtain ⟨vs, q, r⟩ := h
    exact ⟨vs, e.trans q, r.mono p s⟩
  | dct kvs =>
    obtain ⟨vs, q, r⟩ := h
    exact ⟨vs, e.trans q, r.mono p s⟩
  | ins c xs =>
    obtain ⟨dx, vs, q, r, l⟩ := h
    exact ⟨dx, vs, e.trans q, r.mono p s, l⟩
  | dctT kvs =>
    obtain ⟨vs, q, r⟩ := h
    exact ⟨vs, e.trans q, r.mono p s⟩
theorem RepO.mut {a : Addr} {o : O} (h : RepO C μ H a o) : Mut (H a) := by
  cases o with
  | lst xs =>
    obtain ⟨vs, q, r⟩ := h
    rw [q]; trivial
  | dct kvs =>
    obtain ⟨vs, q, r⟩ := h
    rw [q]; trivial
  | ins c xs =>
    obtain ⟨dx, vs, q, r, l⟩ := h
    rw [q]; trivial
  | dctT kvs =>
    obtain ⟨vs, q, r⟩ := h
    rw [q]; trivial
theorem Rep.at (R : Rep C bs μ M H) {n : Nat} {a : Addr} {o : O} (e : μ[n]? = some a) (q : M[n]? = some o) : RepO C μ H a o := by
  have z := R.ob n a o e q μ.length (.inr rfl)
  rwa [List.take_length] at z
theorem Rep.find (R : Rep C bs μ M H) {n : Nat} {o : O} (q : M[n]? = some o) : ∃ a, μ[n]? = some a ∧ RepO C μ H a o := by
  have h : n < μ.length := by rw [R.len]; exact (List.getElem?_eq_some_iff.mp q).1
  exact ⟨μ[n], List.getElem?_eq_getElem h, R.at (List.getElem?_eq_getElem h) q⟩
theorem Rep.there (R : Rep C bs μ M H) {n : Nat} {a : Addr} (e : μ[n]? = some a) : ∃ o, M[n]? = some o ∧ RepO C μ H a o := by
  have h : n < M.length := by rw [← R.len]; exact (List.getElem?_eq_some_iff.mp e).1
  exact ⟨M[n], List.getElem?_eq_getElem h, R.at e (List.getElem?_eq_getElem h)⟩
theorem Rep.mut (R : Rep C bs μ M H) {n : Nat} {a : Addr} (e : μ[n]? = some a) : Mut (H a) := by
  obtain ⟨o, _, r⟩ := R.there e
  exact r.mut
theorem Rep.fresh (R : Rep C bs μ M H) {p : Addr} (h : H p = none) : p ∉ μ := fun m => by
  obtain ⟨n, e⟩ := List.getElem?_of_mem m
  have z := R.mut e
  rw [h] at z
  exact z
theorem Rep.keep (R : Rep C bs μ M H) (s : Stay H H') (e : ∀ a ∈ μ, H' a = H a) : Rep C bs μ M H' :=
  ⟨R.len, R.nd, R.le, fun n a o e1 e2 c hc => (R.ob n a o e1 e2 c hc).mono (List.prefix_refl _) s (e a (List.mem_of_getElem? e1))⟩
theorem Rep.new (R : Rep C bs μ M H) {p : Addr} {o : HO} (h : H p = none) : Rep C bs μ M (upd H p o) :=
  R.keep (.new h) fun a m => upd_ne fun z => R.fresh h (z ▸ m)
theorem Rep.add (R : Rep C bs μ M H) {p : Addr} {o : O} (h : p ∉ μ) (q : RepO C (μ ++ [p]) H p o) : Rep C bs (μ ++ [p]) (M ++ [o]) H := by
  have hp : μ <+: μ ++ [p] := List.prefix_append _ _
  refine ⟨by simp [R.len], ?_, fun c hc => by have := R.le c hc; simp; omega, fun n a o' e1 e2 c hc => ?_⟩
  · rw [List.nodup_append]
    exact ⟨R.nd, by simp, fun a ha b hb => by simp at hb; subst hb; exact fun z => h (z ▸ ha)⟩
  · by_cases hn : n < μ.length
    · rw [List.getElem?_append_left hn] at e1
      rw [List.getElem?_append_left (by rw [← R.len]; exact hn)] at e2
      rcases hc with ⟨hc, hl⟩ | hc
      · have z := R.ob n a o' e1 e2 c (.inl ⟨hc, hl⟩)
        rw [List.take_append_of_le_length (R.le c hc)]
        exact z
      · rw [hc, List.take_length]
        exact (R.at e1 e2).mono hp (.refl _) rfl
    · have hn' : n = μ.length := by
        have z := (List.getElem?_eq_some_iff.mp e1).1
        simp at z
        omega
      subst hn'
      have e1' : p = a := by simpa using e1
      have e2' : o = o' := by
        rw [R.len] at e2
        simpa using e2
      subst e1' e2'
      rcases hc with ⟨hc, hl⟩ | hc
      · exact absurd (R.le c hc) (by omega)
      · rw [hc, List.take_length]
        exact q
theorem Rep.alloc (R : Rep C bs μ M H) {p : Addr} {ho : HO} {o : O} (h : H p = none) (q : RepO C (μ ++ [p]) (upd H p ho) p o) : Rep C bs (μ ++ [p]) (M ++ [o]) (upd H p ho) :=
  (R.new h).add (R.fresh h) q
theorem nodup_get {l : List Addr} (h : l.Nodup) {i j : Nat} {a : Addr} (e1 : l[i]? = some a) (e2 : l[j]? = some a) : i = j := by
  obtain ⟨h1, q1⟩ := List.getElem?_eq_some_iff.mp e1
  obtain ⟨h2, q2⟩ := List.getElem?_eq_some_iff.mp e2
  exact (List.getElem_inj h).mp (q1.trans q2.symm)
theorem Rep.put (R : Rep C bs μ M H) {n : Nat} {a : Addr} {ho : HO} {o' : O} (e : μ[n]? = some a)
    (q : ∀ c, (c ∈ bs ∧ n < c) ∨ c = μ.length → RepO C (μ.take c) (upd H a ho) a o') : Rep C bs μ (M.set n o') (upd H a ho) := by
  have hm := R.mut e
  refine ⟨by rw [List.length_set]; exact R.len, R.nd, R.le, fun j b o e1 e2 c hc => ?_⟩
  by_cases hj : j = n
  · subst hj
    rw [e] at e1
    cases e1
    have hl : j < M.length := by rw [← R.len]; exact (List.getElem?_eq_some_iff.mp e).1
    rw [List.getElem?_set_self hl] at e2
    cases e2
    exact q c hc
  · rw [List.getElem?_set_ne (Ne.symm hj)] at e2
    have hne : b ≠ a := fun z => by subst z; exact hj (nodup_get R.nd e1 e)
    exact (R.ob j b o e1 e2 c hc).mono (List.prefix_refl _) (.put hm) (upd_ne hne)
theorem Rep.enter (R : Rep C bs μ M H) : Rep C (M.length :: bs) μ M H :=
  ⟨R.len, R.nd, fun c hc => by
    rcases List.mem_cons.mp hc with rfl | hc
    · rw [R.len]; exact Nat.le_refl _
    · exact R.le c hc, fun n a o e1 e2 c hc => by
    rcases hc with ⟨hc, hl⟩ | hc
    · rcases List.mem_cons.mp hc with rfl | hc
      · rw [← R.len, List.take_length]; exact R.at e1 e2
      · exact R.ob n a o e1 e2 c (.inl ⟨hc, hl⟩)
    · exact R.ob n a o e1 e2 c (.inr hc)⟩
theorem Rep.leave {n0 : Nat} (R : Rep C (n0 :: bs) μ M H) : Rep C bs μ M H :=
  ⟨R.len, R.nd, fun c hc => R.le c (List.mem_cons_of_mem _ hc), fun n a o e1 e2 c hc => R.ob n a o e1 e2 c (hc.imp (fun z => ⟨List.mem_cons_of_mem _ z.1, z.2⟩) fun z => z)⟩
theorem Rep.cut {n0 : Nat} (R : Rep C (n0 :: bs) μ M H) (hb : ∀ c ∈ bs, c ≤ n0) : Rep C bs (μ.take n0) (M.take n0) H := by
  have h0 : n0 ≤ μ.length := R.le n0 (List.mem_cons_self ..)
  refine ⟨by rw [List.length_take, List.length_take, R.len], R.nd.sublist (List.take_sublist _ _), fun c hc => by rw [List.length_take]; have := hb c hc; omega, fun n a o e1 e2 c hc => ?_⟩
  have hn : n < n0 := by
    have z := (List.getElem?_eq_some_iff.mp e1).1
    rw [List.length_take] at z
    omega
  rw [List.getElem?_take_of_lt hn] at e1 e2
  rcases hc with ⟨hc, hl⟩ | hc
  · rw [List.take_take, Nat.min_eq_left (hb c hc)]
    exact R.ob n a o e1 e2 c (.inl ⟨List.mem_cons_of_mem _ hc, hl⟩)
  · rw [hc, List.length_take, Nat.min_eq_left h0, List.take_take, Nat.min_self]
    exact R.ob n a o e1 e2 n0 (.inl ⟨List.mem_cons_self .., hn⟩)
/-- onwards: what was walked stays, the new ones were free, what the store does not know is left alone -/
structure Lo (μ : List Addr) (H : Hp) (μ' : List Addr) (H' : Hp) : Prop where
  pre : μ <+: μ'
  st : Stay H H'
theorem Lo.trans {μ1 μ2 μ3 : List Addr} {H1 H2 H3 : Hp} (a : Lo μ1 H1 μ2 H2) (b : Lo μ2 H2 μ3 H3) : Lo μ1 H1 μ3 H3 := ⟨a.pre.trans b.pre, a.st.trans b.st⟩
structure Le (μ : List Addr) (H : Hp) (μ' : List Addr) (H' : Hp) : Prop extends Lo μ H μ' H' where
  fr : ∀ a ∈ μ', a ∉ μ → H a = none
  off : ∀ a, a ∉ μ → H a ≠ none → H' a = H a
theorem Le.refl (μ : List Addr) (H : Hp) : Le μ H μ H := ⟨⟨List.prefix_refl _, .refl _⟩, fun _ h n => absurd h n, fun _ _ _ => rfl⟩
theorem Le.trans {μ1 μ2 μ3 : List Addr} {H1 H2 H3 : Hp} (a : Le μ1 H1 μ2 H2) (b : Le μ2 H2 μ3 H3) : Le μ1 H1 μ3 H3 := by
  have out : ∀ x, x ∉ μ1 → H1 x ≠ none → x ∉ μ2 := fun x n h m => h (a.fr x m n)
  refine ⟨a.toLo.trans b.toLo, fun x m n => ?_, fun x n h => ?_⟩
  · by_cases q : x ∈ μ2
    · exact a.fr x q n
    · cases e : H1 x with
      | none => rfl
      | some o =>
        have z := a.off x n (by rw [e]; exact fun c => by cases c)
        have y := b.fr x m q
        rw [z, e] at y
        cases y
  · have q := a.off x n h
    rw [b.off x (out x n h) (by rw [q]; exact h), q]
/-- the store's new part forgotten -/
theorem Le.cut (l : Le μ H μ' H') (n : Nat) (hn : μ.length = n) : Le μ H (μ'.take n) H' := by
  obtain ⟨t, rfl⟩ := l.pre
  subst hn
  rw [List.take_left]
  exact ⟨⟨List.prefix_refl _, l.st⟩, fun _ h n => absurd h n, l.off⟩
theorem RelD.lo {d : D} {v : V} (h : RelD C μ H d v) (l : Lo μ H μ' H') : RelD C μ' H' d v := h.mono l.pre l.st
theorem RelDs.lo {d : List D} {v : List V} (h : RelDs C μ H d v) (l : Lo μ H μ' H') : RelDs C μ' H' d v := h.mono l.pre l.st
theorem RelD.le {d : D} {v : V} (h : RelD C μ H d v) (l : Le μ H μ' H') : RelD C μ' H' d v := h.mono l.pre l.st
theorem RelDs.le {d : List D} {v : List V} (h : RelDs C μ H d v) (l : Le μ H μ' H') : RelDs C μ' H' d v := h.mono l.pre l.st
def RelEn (C : Cn) (μ : List Addr) (H : Hp) (ρ : Enn) (σ : St) : Prop := ρ.length = σ.length ∧ ∀ (i : Nat) (d : D), ρ[i]? = some (some d) → ∃ v, σ[i]? = some (some v) ∧ RelD C μ H d v
theorem RelEn.lo {ρ : Enn} {σ : St} (h : RelEn C μ H ρ σ) (l : Lo μ H μ' H') : RelEn C μ' H' ρ σ := ⟨h.1, fun i d e => by
  obtain ⟨v, e1, r⟩ := h.2 i d e
  exact ⟨v, e1, r.lo l⟩⟩
theorem RelEn.le {ρ : Enn} {σ : St} (h : RelEn C μ H ρ σ) (l : Le μ H μ' H') : RelEn C μ' H' ρ σ := ⟨h.1, fun i d e => by
  obtain ⟨v, e1, r⟩ := h.2 i d e
  exact ⟨v, e1, r.le l⟩⟩
theorem RelEn.set {ρ : Enn} {σ : St} (h : RelEn C μ H ρ σ) {i : Nat} {d : D} {v : V} (r : RelD C μ H d v) : RelEn C μ H (ρ.set i (some d)) (σ.set i (some v)) :=
  ⟨by simp [h.1], fun j e q => by
    by_cases hj : j = i
    · subst hj
      have hl : j < ρ.length := by
        have z := (List.getElem?_eq_some_iff.mp q).1
        simpa using z
      rw [List.getElem?_set_self hl] at q
      cases q
      exact ⟨v, List.getElem?_set_self (by rw [← h.1]; exact hl), r⟩
    · rw [List.getElem?_set_ne (Ne.symm hj)] at q
      obtain ⟨w, e1, r1⟩ := h.2 j e q
      exact ⟨w, by rw [List.getElem?_set_ne (Ne.symm hj)]; exact e1, r1⟩⟩
theorem wipe_len (ρ : Enn) : ∀ vs : List Nat, (wipe ρ vs).length = ρ.length
  | [] => rfl
  | v :: vs => by unfold wipe; rw [List.length_set, wipe_len ρ vs]
theorem RelEn.wipe {ρ : Enn} {σ : St} (h : RelEn C μ H ρ σ) : ∀ vs : List Nat, RelEn C μ H (wipe ρ vs) (L2.wipe σ vs)
  | [] => h
  | x :: vs => by
    have ih := h.wipe vs
    unfold Ev.wipe L2.wipe
    refine ⟨by simp [ih.1], fun j e q => ?_⟩
    by_cases hj : j = x
    · subst hj
      have hl : j < (Ev.wipe ρ vs).length := by
        have z := (List.getElem?_eq_some_iff.mp q).1
        simpa using z
      rw [List.getElem?_set_self hl] at q
      cases q
    · rw [List.getElem?_set_ne (Ne.symm hj)] at q
      obtain ⟨w, e1, r1⟩ := ih.2 j e q
      exact ⟨w, by rw [List.getElem?_set_ne (Ne.symm hj)]; exact e1, r1⟩

/-! ### what is wanted of an end -/
def RelX (C : Cn) (μ : List Addr) (H : Hp) (x : Xn) (cls : Value) (d : Option Addr) : Prop :=
  cls = .ref (C.ca x.cls) ∧ ((x.xs = [] ∧ d = none) ∨ x.xs ≠ [] ∧ ∃ a fs vs, d = some a ∧ H a = some (.xd fs) ∧ RelDs C μ H x.xs vs ∧ ∀ (j : Nat) (v : V), vs[j]? = some v → fs.lookup (C.nm x.cls j) = some v)
def Post {α : Type} (C : Cn) (bs : List Nat) (W : XK) (μ : List Addr) (H : Hp) (o : Out α) (Q : α → List Addr → Sto → Hp → Prop) : Prop := match o with
  | .no => False
  | .ok a M' => ∀ μ' H', Le μ H μ' H' → Rep C bs μ' M' H' → Q a μ' M' H'
  | .ex x M' => ∀ μ' H' cls d, Le μ H μ' H' → Rep C bs μ' M' H' → RelX C μ' H' x cls d → W cls d H'
theorem Post.imp {α : Type} {W : XK} {o : Out α} {Q Q' : α → List Addr → Sto → Hp → Prop} (h : Post C bs W μ H o Q) (f : ∀ a μ' M' H', Le μ H μ' H' → Rep C bs μ' M' H' → Q a μ' M' H' → Q' a μ' M' H') : Post C bs W μ H o Q' := by
  cases o with
  | no => exact h
  | ok a M' => exact fun μ' H' l r => f _ _ _ _ l r (h μ' H' l r)
  | ex x M' => exact h
theorem Post.le {α : Type} {W : XK} {o : Out α} {Q : α → List Addr → Sto → Hp → Prop} (h : Post C bs W μ H o Q) (l : Le μ H μ' H') : Post C bs W μ' H' o Q := by
  cases o with
  | no => exact h
  | ok a M' => exact fun μ2 H2 l2 r => h μ2 H2 (l.trans l2) r
  | ex x M' => exact fun μ2 H2 c d l2 r => h μ2 H2 c d (l.trans l2) r
/-- one behind another -/
theorem Post.bind {α β : Type} {W : XK} {o : Out α} {f : α → Sto → Out β} {Q : β → List Addr → Sto → Hp → Prop} (h : Post C bs W μ H (o.bind f) Q) :
    Post C bs W μ H o (fun a μ' M' H' => Post C bs W μ' H' (f a M') Q) := by
  cases o with
  | no => exact h
  | ok a M' => exact fun μ' H' l r => Post.le h l
  | ex x M' => exact h
theorem Post.here {α : Type} {W : XK} {a : α} {Q : α → List Addr → Sto → Hp → Prop} (h : Post C bs W μ H (.ok a M) Q) (r : Rep C bs μ M H) : Q a μ M H := h μ H (.refl _ _) r
end Ev
end

section
/-! EvMul: a tuple taken once, or not at all. -/
namespace Ev
open PySem PySem.Spec PyProof.Rows L2
/-- once: the tuple itself -/
theorem tuple_once (l : Addr) (its : Array Value) (n : Nat) (dd : Option Addr) (sl : Array (Option Value)) (k : Int) (u : Tok) (far : (decide (k < -(2 ^ 63)) || decide (k ≥ 2 ^ 63)) = false) (once : (its.isEmpty || k == 1) = true) :
    Meets (Builtin.«tuple.__mul__» ⟨[.ref l, .int k u], []⟩) (fun _ R z => z.heap.get? l = some { cls := .type "tuple", dict := dd, data := .seq its n, slots := sl } ∧ R (.ok (.ret (.ref l))) z) :=
  .of_wp fun P w A R z h => by
    obtain ⟨hp, gg, dd', tk, os⟩ := z
    obtain ⟨hl, h⟩ := h
    have ix := AutoSeq1.idx_int
    wp_walk using wpAny_loadPart' hl
    repeat (first
      | (refine wpAny_ite_false (decide_eq_false (by rw [far]; exact Bool.false_ne_true)) ?_; wp_walk using wpAny_loadPart' hl)
      | (refine wpAny_ite_true (decide_eq_true (by rw [once])) ?_; wp_walk using wpAny_loadPart' hl))
    exact ⟨_, rfl, h⟩
/-- not at all: a new empty one -/
theorem tuple_never (l : Addr) (its : Array Value) (n : Nat) (dd : Option Addr) (sl : Array (Option Value)) (k : Int) (u : Tok) (far : (decide (k < -(2 ^ 63)) || decide (k ≥ 2 ^ 63)) = false) (once : (its.isEmpty || k == 1) = false) (low : (decide (k ≤ 0) || its.isEmpty) = true) :
    Meets (Builtin.«tuple.__mul__» ⟨[.ref l, .int k u], []⟩) (fun _ R z => z.heap.get? l = some { cls := .type "tuple", dict := dd, data := .seq its n, slots := sl } ∧
      R (.ok (.ret (.ref z.heap.objs.size))) { z with heap := z.heap.push { cls := .type "tuple", data := .seq #[] } }) :=
  .of_wp fun P w A R z h => by
    obtain ⟨hp, gg, dd', tk, os⟩ := z
    obtain ⟨hl, h⟩ := h
    have ix := AutoSeq1.idx_int
    wp_walk using wpAny_loadPart' hl
    repeat (first
      | (refine wpAny_ite_false (decide_eq_false (by rw [far]; exact Bool.false_ne_true)) ?_; wp_walk using wpAny_loadPart' hl)
      | (refine wpAny_ite_false (decide_eq_false (by rw [once]; exact Bool.false_ne_true)) ?_; wp_walk using wpAny_loadPart' hl)
      | (refine wpAny_ite_true (decide_eq_true (by rw [low])) ?_; wp_walk using wpAny_loadPart' hl))
    exact ⟨_, rfl, h⟩
def rMulT (K : PySem.W.Frag) : R2 := fun x y H Q => ∃ l k xs, x = .ref l ∧ y = .int k ∧ SqT K H l xs ∧ -9223372036854775808 ≤ k ∧ k < 9223372036854775808 ∧ (((xs = [] ∨ k = 1) ∧ Q (.ref l) H) ∨ (xs ≠ [] ∧ k ≤ 0 ∧ QT [] H Q))
theorem op_mulT {X : Cx} : OpR X (binaryOp .Mult) (rMulT X.K) := by
  intro pins s σ H x y v u Q I rx ry h
  obtain ⟨l, k, xs, rfl, rfl, hT, k1, k2, q⟩ := h
  cases rx
  obtain ⟨t, rfl⟩ := ry
  obtain ⟨its, r, ⟨⟨cls, dd, data, sl⟩, ho, hc, n, hd⟩, hs⟩ := I.tuple hT
  cases (show cls = .type "tuple" from hc)
  cases (show data = .seq its.toArray n from hd)
  have far : (decide (k < -(2 ^ 63)) || decide (k ≥ 2 ^ 63)) = false := by
    rw [decide_eq_false (by omega), decide_eq_false (by omega)]
    rfl
  have tup : ∀ {z : Shared}, z.heap.get? l = some { cls := .type "tuple", dict := dd, data := .seq its.toArray n, slots := sl } → z.TypeIs (.ref l) "tuple" := fun e => ⟨_, e, rfl⟩
  refine wpAny_binaryOp_repeat_ref (T := "tuple") (U := "int") (by decide) (tup ho) (fun s' => typeIs_int s' k t) noFill_tuple_mul F.fills_int_mul F.slot_int_rmul repeat_tuple F.slot_int_index.lookup
    (call_meets F.slot_int_rmul (typeIs_int s k t) F.entry_int_rmul (F.args_int_rmul_2 _ _) (int_rmul_tuple k t l its.toArray n dd sl) ⟨ho, rfl, tup ho, ?_⟩)
  rcases q with ⟨h1, q⟩ | ⟨h1, h2, q⟩
  · refine call_meets F.slot_tuple_mul (tup ho) F.entry_tuple_mul (F.args_tuple_mul_2 _ _) (tuple_once l its.toArray n dd sl k t far ?_) ⟨ho, .ref l, H, I, rfl, q⟩
    rcases h1 with rfl | rfl
    · cases its with
      | nil => rfl
      | cons a b => cases r
    · rw [Bool.or_eq_true]; exact .inr rfl
  · have some : its.toArray.isEmpty = false := by
      cases its with
      | nil => cases r; exact absurd rfl h1
      | cons a b => rfl
    refine call_meets F.slot_tuple_mul (tup ho) F.entry_tuple_mul (F.args_tuple_mul_2 _ _) (tuple_never l its.toArray n dd sl k t far ?_ ?_) ⟨ho, q.go (us := []) (tk := s.toks) I .nil (by rw [List.length_nil]; exact Nat.zero_le _)⟩
    · rw [some, Bool.false_or]
      exact beq_eq_false_iff_ne.mpr (by omega)
    · rw [decide_eq_true h2, Bool.true_or]
end Ev
end

section
/-! EvDcL: dict comprehensions of two clauses: one theorem for any clause's loop, used twice. -/
namespace L2
open PySem PySem.Spec PyProof.Rows

/-- a clause's turn: yes behind an item that passes the tests, no behind another one -/
def oneTurn (tg : Expr) (p : Pos) (ifs : List Expr) (it : Value) (env : Env) (yes no : Sem Fin) : Sem Fin := do
  standAt p
  match ← pyNext it with
  | none => pure (.done .next)
  | some v =>
    letOwnedTupleGo tg it v
    assign tg env v
    let mut ok := true
    for c in ifs do
      if ok then ok ← isTrue c env (eval c env)
    if ok then yes else no
/-- what the slots knew is known still -/
def Knows (σ σ' : St) : Prop := σ.length = σ'.length ∧ ∀ (j : Nat) (v : V), σ[j]? = some (some v) → σ'[j]? = some (some v)
theorem Knows.refl (σ : St) : Knows σ σ := ⟨rfl, fun _ _ e => e⟩
theorem Knows.trans {a b c : St} (x : Knows a b) (y : Knows b c) : Knows a c := ⟨x.1.trans y.1, fun j v e => y.2 j v (x.2 j v e)⟩
theorem knows_wiped {σ σ' : St} {vs : List Nat} (h : wipe σ' vs = wipe σ vs) : Knows (wipe σ vs) σ' :=
  ⟨by rw [← h, wipe_length], fun j v e => by rw [← h] at e; exact (wipe_some e).1⟩
theorem knows_less {σ : St} {vs ws : List Nat} (h : ∀ i ∈ ws, i ∈ vs) {σ' : St} (k : Knows (wipe σ vs) σ') : Knows (wipe σ vs) (wipe σ' ws) :=
  ⟨k.1.trans (wipe_length _ _).symm, fun j v e => by
    have e2 := k.2 j v e
    rw [wipe_out fun m => (wipe_some e).2 (h j m)]
    exact e2⟩

section
variable {Y : Cx} {kx vx tg : Expr} {gens : List Comprehension} {scope : Scope} {pos p : Pos} {depth : Nat} {acc : Value} {ifs : List Expr} {yes : Sem Fin} {J : It} {fp : List Addr} {it : Addr} {tn : Nat → Heap → Prop} {g : TG} {tt : TT}
  {pins : List (Addr × Obj)} {σ0 : St} {Wt : Nat → Nat → Hp → Prop} {Stop : Hp → Prop} {Act : St → Hp → (Hp → Prop) → Prop} {R : Result → Shared → Prop} {Kn : St → Prop}
/-- the loop of a clause, wherever it stands -/
theorem clause_runs (hc : Y.calm = true) (hx : Y.xe = fun _ _ => False) (T : Turn Y.prog Y.w Y.K tg J fp it tn) (pg : PG Y tg g) (pt : PTs Y ifs tt)
    (form : compTurn (.DictComp kx vx gens scope pos) depth (.ref it) acc Y.env = oneTurn tg p ifs (.ref it) Y.env yes (again (.compLoop (.DictComp kx vx gens scope pos) depth (.ref it) acc Y.env)))
    (own : ∀ {H' : Hp}, (∀ b ∈ fp, H' b = none) → ∀ b ∈ fp, FpOk Y pins H' b)
    (spec : ∀ i m H, Wt i m H → (J.stop i H ∧ Stop H) ∨ (J.go i H ∧ ∃ Nx : Hp → Prop, (∀ H', Nx H' → ∃ m', m' < m ∧ Wt (i + 1) m' H') ∧ ∀ x H', J.yld i H x H' → g x σ0 H' fun σ2 H2 => Kn σ2 ∧ tt σ2 H2 fun b H3 => if b = true then Act σ2 H3 Nx else Nx H3))
    (kno : ∀ σ2, Kn σ2 → Knows σ0 σ2)
    (act : ∀ (pl : List (Addr × Obj)) (σ2 : St) (H : Hp) (s : Shared) (Nx : Hp → Prop), L2.Inv Y (pins ++ pl) σ2 H s → Kn σ2 → Act σ2 H Nx →
      wpAny (model Y.prog Y.w) Y.A yes (fun fin s' => fin = .again (.compLoop (.DictComp kx vx gens scope pos) depth (.ref it) acc Y.env) ∧ ∃ σ3 H', L2.Inv Y (pins ++ pl) σ3 H' s' ∧ Knows σ0 σ3 ∧ Nx H') (fun _ _ => False) s)
    (stop : ∀ s' H', L2.Inv Y pins σ0 H' s' → Stop H' → R (.ok .next) s')
    {s : Shared} {H : Hp} {m : Nat} (I : L2.Inv Y pins σ0 H s) (st : tn 0 s.heap) (n0 : ∀ b ∈ fp, H b = none) (w : Wt 0 m H) :
    codeAny (model Y.prog Y.w) Y.A (.compLoop (.DictComp kx vx gens scope pos) depth (.ref it) acc Y.env) R s := by
  refine codeAny_loop rfl (fun m s => ∃ i H, L2.Inv Y pins σ0 H s ∧ tn i s.heap ∧ (∀ b ∈ fp, H b = none) ∧ Wt i m H) (fun n s hI => ?_) m ⟨0, H, I, st, n0, w⟩
  clear st n0 w I
  obtain ⟨i, H, I, st, n0, w⟩ := hI
  show wpAny _ Y.A ((compTurn (.DictComp kx vx gens scope pos) depth (.ref it) acc Y.env).onRaise (fun x => do noteFrame x Y.env; theTreesLotGoes x)) _ _ s
  refine wpAny_noted (wpAny_mono ?_ (fun _ _ z => z) fun e s' (z : False) => z.elim)
  rw [form]
  refine wpAny_bind (wpAny_standAt ?_)
  rcases spec i n H w with ⟨hs, q⟩ | ⟨hg, Nx, less, turn⟩
  · refine wpAny_bind (thnF (T.done Y rfl rfl rfl hc i pins s σ0 H (fun _ _ => False) I (own n0) st hs) fun r s1 h1 => ?_)
    obtain ⟨rfl, I1⟩ := h1
    exact wpAny_pure (stop s1 H I1 q)
  · refine wpAny_bind (thnF (T.item Y rfl rfl rfl hc i pins s σ0 H (fun _ _ => False) I (own n0) st hg) fun r s1 h1 => ?_)
    obtain ⟨u, rfl, h1⟩ := h1
    refine wpAny_bind (thnF h1 fun _ s2 h2 => ?_)
    obtain ⟨x, H2, I2, rx, hy, st2, n2⟩ := h2
    have there := T.obj _ _ st2
    have I2' := I2.pinned (own n2) there
    -- back to the loop's start, from any slots that know enough
    have back : ∀ {σ3 : St} {H' : Hp} {s' : Shared}, L2.Inv Y (pins ++ pinsAt fp s2.heap) σ3 H' s' → Knows σ0 σ3 → Nx H' → ∃ m', m' < n ∧ ∃ i H, L2.Inv Y pins σ0 H s' ∧ tn i s'.heap ∧ (∀ b ∈ fp, H b = none) ∧ Wt i m' H := fun {σ3 H' s'} I3 kn nx => by
      obtain ⟨m', lt, w'⟩ := less _ nx
      have kept : ∀ b ∈ fp, ∀ o, s2.heap.get? b = some o → s'.heap.get? b = some o ∧ H' b = none := fun b hb o e => by
        obtain ⟨z1, z2, _⟩ := I3.pin (b, o) (List.mem_append_right _ (List.mem_append_right _ (mem_pinsAt hb e)))
        exact ⟨z1, z2⟩
      refine ⟨m', lt, i + 1, H', I3.unpinned.weak kn.1 kn.2, T.keep _ _ _ st2 fun b hb o e => (kept b hb o e).1, fun b hb => ?_, w'⟩
      obtain ⟨o, e, _⟩ := there b hb
      exact (kept b hb o e).2
    have pgr := pg.run (pins ++ pinsAt fp s2.heap) s2 σ0 H2 x u _ I2' rx (turn x H2 hy)
    rw [hx] at pgr
    refine wpAny_bind (thnF pgr fun _ s3 h3 => ?_)
    obtain ⟨σ3, H3, I3, kn, q3⟩ := h3
    have ptr := pt.run (pins ++ pinsAt fp s2.heap) s3 σ3 H3 _ I3 q3
    rw [hx] at ptr
    refine wpAny_bind (thnF ptr fun b s4 h4 => ?_)
    obtain ⟨H4, I4, q4⟩ := h4
    cases b with
    | false =>
      exact wpAny_pure ⟨rfl, back I4 (kno _ kn) q4⟩
    | true =>
      refine thnF (act _ σ3 H4 s4 Nx I4 kn q4) fun fin s5 h5 => ?_
      obtain ⟨rfl, σ5, H5, I5, kn5, nx⟩ := h5
      exact ⟨rfl, back I5 kn5 nx⟩
end
end L2
namespace L2
open PySem PySem.Spec PyProof.Rows
section
variable {X : Cx} {kx vx tg tg1 iter iter1 : Expr} {ifs ifs1 : List Expr} {scope : Scope} {own : List (Str × Nat)} {ws : List Nat} {pos : Pos} {wi wi1 : TI} {g g1 : TG} {tt tt1 : TT} {tk tv : TE}
/-- what is asked of an entry -/
def tEntry (tk tv : TE) (D : Addr) : St → Hp → (Hp → Prop) → Prop := fun σ H Nx => tk σ H fun y H4 => tv σ H4 fun z H5 => ∃ kvs k, y = kV k ∧ H5 D = some (.dK kvs) ∧ kvs.length < sizeLine ∧ Nx (upd H5 D (.dK (putK kvs k z)))
/-- .. of a clause's loop behind which Stop holds -/
def tClause (J : It) (g : TG) (tt : TT) (vs : List Nat) (σ : St) (Act : St → Hp → (Hp → Prop) → Prop) (Stop : Hp → Prop) (H0 : Hp) : Prop := ∃ Wt : Nat → Nat → Hp → Prop, (∃ m, Wt 0 m H0) ∧ ∀ i m H, Wt i m H →
  (J.stop i H ∧ Stop H) ∨ (J.go i H ∧ ∃ Nx : Hp → Prop, (∀ H', Nx H' → ∃ m', m' < m ∧ Wt (i + 1) m' H') ∧ ∀ x H', J.yld i H x H' → g x (wipe σ vs) H' fun σ2 H2 => wipe σ2 vs = wipe σ vs ∧ tt σ2 H2 fun b H3 => if b = true then Act σ2 H3 Nx else Nx H3)
/-- {k: v for tg in iter if .. for tg1 in iter1 if ..}: vs the block's names, ws the second target's -/
def tDc2 (wi : TI) (g : TG) (tt : TT) (wi1 : TI) (g1 : TG) (tt1 : TT) (tk tv : TE) (vs ws : List Nat) : TE := fun σ H Q => wi σ H fun J H1 => ∀ D, H1 D = none →
  tClause J g tt vs σ (fun σ2 H3 Nx => wi1 σ2 H3 fun J1 H4 => tClause J1 g1 tt1 ws σ2 (tEntry tk tv D) Nx H4) (fun H => Q (.ref D) H) (upd H1 D (.dK []))

variable {s : Shared} {σ : St} {pins : List (Addr × Obj)} {H : Hp} {Y : Cx} {acc : Value} {D : Addr}
/-- an entry laid -/
theorem entry_runs {c : Code} {pl : List (Addr × Obj)} {σ0 : St} {Nx : Hp → Prop} {p : Pos} (hx : Y.xe = fun _ _ => False) (pk : PE Y kx tk) (pv : PE Y vx tv) (I : L2.Inv Y pl σ H s) (kn : Knows σ0 σ) (h : tEntry tk tv D σ H Nx) :
    wpAny (model Y.prog Y.w) Y.A (do
      (do
        let kv ← eval kx Y.env
        let vv ← holding [kv] (eval vx Y.env)
        standAt p
        holding [kv, vv] (dictSet D kv vv))
      again c) (fun fin s' => fin = .again c ∧ ∃ σ3 H', L2.Inv Y pl σ3 H' s' ∧ Knows σ0 σ3 ∧ Nx H') (fun _ _ => False) s := by
  have hk := pk.run pl s σ H _ I h
  rw [hx] at hk
  refine wpAny_bind (wpAny_bind (thnF hk fun kv s1 h1 => ?_))
  obtain ⟨y, H1, I1, ry, h1⟩ := h1
  have hv := pv.run pl s1 σ H1 _ I1 h1
  rw [hx] at hv
  refine wpAny_bind (wpAny_holding (thnF hv fun vv s2 h2 => ?_))
  obtain ⟨z, H2, I2, rz, kvs, k, ek, hD, hl, nx⟩ := h2
  subst ek
  refine wpAny_bind (wpAny_standAt (wpAny_holding (d_dictSet I2 hD hl ry rz fun s3 I3 => ?_)))
  exact wpAny_pure ⟨rfl, σ, _, I3, kn, nx⟩
/-- the second clause's start -/
theorem second_starts {c0 : Comprehension} {t1 i1 : Expr} {fs1 : List Expr} {it : Value} {env : Env} {A : Around} {P : Program} {w : World} {R : Result → Shared → Prop}
    (h0 : codeAny (model P w) A (.compLoop (.DictComp kx vx [c0, ⟨t1, i1, fs1, 0⟩] scope pos) 1 it acc env) R s)
    (h : wpAny (model P w) A (pyIter it) (fun it' s' => codeAny (model P w) A (.compLoop (.DictComp kx vx [c0, ⟨t1, i1, fs1, 0⟩] scope pos) 1 it' acc env) R s') (fun _ _ => False) s) :
    codeAny (model P w) A (.compStart (.DictComp kx vx [c0, ⟨t1, i1, fs1, 0⟩] scope pos) 1 it acc env) R s := by
  refine codeAny_of_tree ?_
  show wpAny _ _ ((compStart (.DictComp kx vx [c0, ⟨t1, i1, fs1, 0⟩] scope pos) 1 it acc env).onRaise (fun x => do noteFrame x env; standAt theWindowsPlace)) _ _ s
  refine wpAny_notedAt (wpAny_mono (E := fun _ _ => False) ?_ (fun _ _ z => z) fun e s' (z : False) => z.elim)
  unfold compStart
  show wpAny _ _ (ask >>= _) _ _ s
  refine wpAny_bind (wpAny_askSetting ?_)
  refine wpAny_ite ?_
  split
  · exact wpAny_bind (wpAny_pure (wpAny_pure ⟨rfl, h0⟩))
  · exact wpAny_bind (wpAny_rule (wpAny_bind (wpAny_standAt (wpAny_bind (thnF h fun it' s' h' => wpAny_pure ⟨rfl, h'⟩)))))
/-- a comprehension's block, as it is opened over a new dict: what its loop starts from, and how one comes back -/
theorem block_opens {fp : List Addr} {it : Addr} {tn : Nat → Heap → Prop} {J : It} (hN : X.N.Nodup) (ok : BlkOk X.N X.env.scope scope own) (I : L2.Inv X pins σ H s) (T : Turn X.prog X.w X.K tg J fp it tn) (st : tn 0 s.heap) (f : ∀ b ∈ fp, FpOk X pins H b) :
    ∃ (s3 : Shared) (ce : Env), s3 = { s with heap := s.heap.push { cls := .type "dict", data := .dict #[] } } ∧ ce = compEnvC scope (cellsFrom (s3.heap.objs.size + 1) scope.names (cloFrom X.env.cells scope.names [])) s3.heap.objs.size X.env ∧ H s.heap.objs.size = none ∧
      L2.Inv (X.blk s3 (upd H s.heap.objs.size (.dK [])) scope ce fp) [] (wipe σ (own.map (·.2))) (upd H s.heap.objs.size (.dK [])) { s3 with heap := pushCells (s3.heap.push { cls := .type "dict", data := .dict #[] }) scope.names } ∧
      tn 0 (pushCells (s3.heap.push { cls := .type "dict", data := .dict #[] }) scope.names) ∧ (∀ b ∈ fp, upd H s.heap.objs.size (.dK []) b = none) ∧
      (∀ {H' : Hp}, (∀ b ∈ fp, H' b = none) → ∀ b ∈ fp, FpOk (X.blk s3 (upd H s.heap.objs.size (.dK [])) scope ce fp) [] H' b) ∧
      (∀ s' H', L2.Inv (X.blk s3 (upd H s.heap.objs.size (.dK [])) scope ce fp) [] (wipe σ (own.map (·.2))) H' s' → ∃ m, s'.heap.Ns s3.heap.objs.size m ∧ ∀ h', Heap.SameBut s3.heap.objs.size s'.heap h' → L2.Inv X pins σ H' { s' with heap := h' }) := by
  have hD : H s.heap.objs.size = none := I.hok.fresh (Nat.le_refl _)
  have hfp : ∀ b ∈ fp, b < s.heap.objs.size := fun b hb => by
    obtain ⟨o, e, _⟩ := T.obj _ _ st b hb
    exact Heap.lt_size e
  have I3 : L2.Inv X pins σ (upd H s.heap.objs.size (.dK [])) { s with heap := s.heap.push { cls := .type "dict", data := .dict #[] } } := I.laid (t' := s.toks) (fun b o e => Heap.get?_push_of_some _ e) (Nat.le_refl _) (dk_empty s.heap I.big)
  have f3 : ∀ b ∈ fp, FpOk X pins (upd H s.heap.objs.size (.dK [])) b ∧ b < (s.heap.push { cls := .type "dict", data := .dict #[] }).objs.size := fun b hb => by
    obtain ⟨f0, fr⟩ := f b hb
    refine ⟨⟨?_, fr⟩, by rw [Heap.size_push]; exact Nat.lt_succ_of_lt (hfp b hb)⟩
    rw [upd_ne (Nat.ne_of_lt (hfp b hb))]
    exact f0
  have I4 := block_start I3 ok hN f3
  refine ⟨_, _, rfl, rfl, hD, I4, ?_, fun b hb => (f3 b hb).1.1, fun {H'} hn b hb => ?_, fun s' H' I' => ?_⟩
  · exact T.keep _ _ _ st fun b _ o e => pushCells_keeps _ _ _ _ (Heap.get?_push_of_some _ (Heap.get?_push_of_some _ e))
  · have z := I4.ok
    exact ⟨hn b hb, (z.exf b hb).1, z.exfs b hb, .inl hb, fun x c e => (z.exf b hb).2 x c e, fun p hp => (by cases hp)⟩
  · have I5 : L2.Inv X pins σ H' s' := I3.call' (ch := fp) I'.os I'.base I'.hok I'.bare fun b hb => by
      obtain ⟨⟨_, x1, x2, x3, x4, x5⟩, _⟩ := f3 b hb
      exact ⟨x3, x1, x4, x5⟩
    obtain ⟨m, hn, _⟩ := I'.loc
    have hC : H' (s.heap.push { cls := .type "dict", data := .dict #[] }).objs.size = none := I'.free
    refine ⟨m, hn, fun h' sb => ?_⟩
    obtain ⟨g0, g1, g2, g3, g4, g5⟩ := I3.fpOk (Nat.le_refl _) hC
    exact I5.turned (t' := s'.toks) (fun b o hb e => (sb.2 b hb).trans e) g0 g1 g3 g4 g5
theorem pe_dc2 (hc : X.calm = true) (hN : X.N.Nodup) (hi : PI X tg iter wi) (ok : BlkOk X.N X.env.scope scope own) (hv : ∀ i ∈ ws, i ∈ own.map (·.2))
    (hg : ∀ (s : Shared) (H : Hp) (C : Addr) (cl : List (Str × Addr)) (fp : List Addr), PG (X.blk s H scope (compEnvC scope cl C X.env) fp) tg g) (ht : ∀ (s : Shared) (H : Hp) (C : Addr) (cl : List (Str × Addr)) (fp : List Addr), PTs (X.blk s H scope (compEnvC scope cl C X.env) fp) ifs tt)
    (hi1 : ∀ (s : Shared) (H : Hp) (C : Addr) (cl : List (Str × Addr)) (fp : List Addr), PI (X.blk s H scope (compEnvC scope cl C X.env) fp) tg1 iter1 wi1)
    (hg1 : ∀ (s : Shared) (H : Hp) (C : Addr) (cl : List (Str × Addr)) (fp : List Addr), PG (X.blk s H scope (compEnvC scope cl C X.env) fp) tg1 g1) (ht1 : ∀ (s : Shared) (H : Hp) (C : Addr) (cl : List (Str × Addr)) (fp : List Addr), PTs (X.blk s H scope (compEnvC scope cl C X.env) fp) ifs1 tt1)
    (hk : ∀ (s : Shared) (H : Hp) (C : Addr) (cl : List (Str × Addr)) (fp : List Addr), PE (X.blk s H scope (compEnvC scope cl C X.env) fp) kx tk) (he : ∀ (s : Shared) (H : Hp) (C : Addr) (cl : List (Str × Addr)) (fp : List Addr), PE (X.blk s H scope (compEnvC scope cl C X.env) fp) vx tv)
    (hs : ∀ x, foldedSetIterable iter X.env x = pure x) (hs1 : ∀ env x, foldedSetIterable iter1 env x = pure x) :
    PE X (.DictComp kx vx [⟨tg, iter, ifs, 0⟩, ⟨tg1, iter1, ifs1, 0⟩] scope pos) (tDc2 wi g tt wi1 g1 tt1 tk tv (own.map (·.2)) ws) := by
  refine ⟨fun pins s σ H Q I h => ?_⟩
  rw [arm_eval_DictComp]
  have hfree : ∀ y ∈ scope.names, y.2 = .free → ∃ c, X.env.cells.lookup y.1 = some c := fun y hy e => I.ok.has _ (ok.free y hy e)
  refine wpAny_comprehension_free (use := none) rfl hs (closure_ok hfree) ok.kind (fun y hy e => by rw [ok.uniq y hy, e]) (thn (hi.run pins s σ H _ I h) fun xv s1 hx => thn hx fun itv s2 h2 => ?_)
  obtain ⟨it, fp, tn, J, H2, rfl, I2, T, st2, f2, q⟩ := h2
  obtain ⟨s3, ce, e3, ec, hD, I4, st4, n4, own4, back⟩ := block_opens hN ok I2 T st2 f2
  obtain ⟨Wt, ⟨m0, w0⟩, spec⟩ := q _ hD
  refine wpAny_newObj_type (newEnv_comp ?_)
  rw [← e3]
  show codeAny _ _ (.compStart (.DictComp kx vx [⟨tg, iter, ifs, 0⟩, ⟨tg1, iter1, ifs1, 0⟩] scope pos) 0 (.ref it) (.ref s2.heap.objs.size) (compEnvC scope (cellsFrom (s3.heap.objs.size + 1) scope.names (cloFrom X.env.cells scope.names [])) s3.heap.objs.size X.env)) (compPost (model X.prog X.w) X.A X.xe none _ (.ref s2.heap.objs.size) s3.heap.objs.size) { s3 with heap := pushCells (s3.heap.push { cls := .type "dict", data := .dict #[] }) scope.names }
  have pg := hg s3 (upd H2 s2.heap.objs.size (.dK [])) s3.heap.objs.size (cellsFrom (s3.heap.objs.size + 1) scope.names (cloFrom X.env.cells scope.names [])) fp
  have pt := ht s3 (upd H2 s2.heap.objs.size (.dK [])) s3.heap.objs.size (cellsFrom (s3.heap.objs.size + 1) scope.names (cloFrom X.env.cells scope.names [])) fp
  have pi1 := hi1 s3 (upd H2 s2.heap.objs.size (.dK [])) s3.heap.objs.size (cellsFrom (s3.heap.objs.size + 1) scope.names (cloFrom X.env.cells scope.names [])) fp
  have pg1 := hg1 s3 (upd H2 s2.heap.objs.size (.dK [])) s3.heap.objs.size (cellsFrom (s3.heap.objs.size + 1) scope.names (cloFrom X.env.cells scope.names [])) fp
  have pt1 := ht1 s3 (upd H2 s2.heap.objs.size (.dK [])) s3.heap.objs.size (cellsFrom (s3.heap.objs.size + 1) scope.names (cloFrom X.env.cells scope.names [])) fp
  have pk := hk s3 (upd H2 s2.heap.objs.size (.dK [])) s3.heap.objs.size (cellsFrom (s3.heap.objs.size + 1) scope.names (cloFrom X.env.cells scope.names [])) fp
  have pv := he s3 (upd H2 s2.heap.objs.size (.dK [])) s3.heap.objs.size (cellsFrom (s3.heap.objs.size + 1) scope.names (cloFrom X.env.cells scope.names [])) fp
  rw [← ec] at pg pt pi1 pg1 pt1 pk pv ⊢
  clear ec e3
  have outer : codeAny (model X.prog X.w) X.A (.compLoop (.DictComp kx vx [⟨tg, iter, ifs, 0⟩, ⟨tg1, iter1, ifs1, 0⟩] scope pos) 0 (.ref it) (.ref s2.heap.objs.size) ce)
      (compPost (model X.prog X.w) X.A X.xe none (EP X pins σ Q) (.ref s2.heap.objs.size) s3.heap.objs.size) { s3 with heap := pushCells (s3.heap.push { cls := .type "dict", data := .dict #[] }) scope.names } := by
    refine clause_runs (Y := X.blk s3 (upd H2 s2.heap.objs.size (.dK [])) scope ce fp) (Kn := fun σ2 => wipe σ2 (own.map (·.2)) = wipe σ (own.map (·.2))) hc rfl T pg pt rfl own4 spec (fun _ z => knows_wiped z) ?_ ?_ I4 st4 n4 w0
    · -- the second clause, from its source on
      intro pl σ5 H5 s5 Nx I5 kn q5
      refine wpAny_bind (thnF (pi1.run _ s5 σ5 H5 _ I5 q5) fun xv s6 h6 => ?_)
      refine wpAny_bind (wpAny_standAt (wpAny_bind (wpAny_of_eq (hs1 ce xv) (wpAny_bind (wpAny_holding (thnF h6 fun itv s7 h7 => ?_))))))
      obtain ⟨it1, fp1, tn1, J1, H7, rfl, I7, T1, st7, f7, Wt1, ⟨m1, w1⟩, spec1⟩ := h7
      refine wpAny_bind (wpAny_runOwn ?_)
      rw [Around.mark_none]
      have inner : codeAny (model X.prog X.w) X.A (.compLoop (.DictComp kx vx [⟨tg, iter, ifs, 0⟩, ⟨tg1, iter1, ifs1, 0⟩] scope pos) 1 (.ref it1) (.ref s2.heap.objs.size) ce)
          (fun r s' => match r with
            | .ok _ => ∃ σ3 H', L2.Inv (X.blk s3 (upd H2 s2.heap.objs.size (.dK [])) scope ce fp) ([] ++ pl) σ3 H' s' ∧ Knows (wipe σ (own.map (·.2))) σ3 ∧ Nx H'
            | .error _ => False) s7 := by
        refine clause_runs (Y := X.blk s3 (upd H2 s2.heap.objs.size (.dK [])) scope ce fp) (pins := [] ++ pl) (σ0 := wipe σ5 ws) (Stop := Nx) (Kn := fun σ2 => wipe σ2 ws = wipe σ5 ws) hc rfl T1 pg1 pt1 rfl (fun {H'} hn b hb => ⟨hn b hb, (f7 b hb).2⟩) spec1 (fun _ z => knows_wiped z) (fun pl' σ8 H8 s8 Nx' I8 kn8 q8 => entry_runs rfl pk pv I8 (knows_wiped kn8) q8) (fun s' H' I' nx => ?_)
          (I7.weak (wipe_length _ _) fun j v e => (wipe_some e).1) st7 (fun b hb => (f7 b hb).1) w1
        exact ⟨_, H', I', knows_less hv (knows_wiped kn), nx⟩
      refine codeAny_mono (second_starts inner (T1.self X.A 0 _ _ _ st7 inner)) fun r s' hr => ?_
      cases r with
      | ok f => exact wpAny_pure ⟨rfl, hr⟩
      | error e => exact hr.elim
    · -- the end
      intro s' H' I' qq
      obtain ⟨m, hn, b⟩ := back s' H' I'
      exact ⟨m, hn, fun h' sb => ⟨.ref s2.heap.objs.size, H', b h' sb, rfl, qq⟩⟩
  exact codeAny_compStart_dict outer (T.self X.A 0 _ _ _ st4 outer)
end
end L2
end

section
/-! EvOp1: operators and comparisons of values. -/
namespace Ev
open PySem L2
variable {C : Cn} {μ μ' : List Addr} {H H' : Hp} {M M' : Sto} {bs : List Nat} {v : V}
theorem relD_non : RelD C μ H .non v ↔ v = .non := by unfold RelD; rfl
theorem relD_bl {b : Bool} : RelD C μ H (.bl b) v ↔ v = .bl b := by unfold RelD; rfl
theorem relD_int {i : Int} : RelD C μ H (.int i) v ↔ v = .int i := by unfold RelD; rfl
theorem relD_str {s : List Nat} : RelD C μ H (.str s) v ↔ v = .str ⟨s.toArray⟩ := by unfold RelD; rfl
theorem relD_tupF {xs : List D} : RelD C μ H (.tup xs) v ↔ ∃ a vs, v = .ref a ∧ SqT C.K H a vs ∧ RelDs C μ H xs vs ∧ ((pairsD xs).isSome = true → ND C.K H a) ∧ (intT xs = true → H a = some (.tup vs)) := by conv => lhs; unfold RelD
theorem int_pairs {xs : List D} (h : intT xs = true) : (pairsD xs).isSome = false := by
  cases xs with
  | nil => cases h
  | cons d ds =>
    cases d with
    | tup ys =>
      unfold intT intsD at h
      cases h
    | _ => rfl
theorem relD_tup {xs : List D} (h : RelD C μ H (.tup xs) v) : ∃ a vs, v = .ref a ∧ SqT C.K H a vs ∧ RelDs C μ H xs vs := by
  obtain ⟨a, vs, e, q, r, _⟩ := relD_tupF.mp h
  exact ⟨a, vs, e, q, r⟩
theorem relD_frz {xs : List D} : RelD C μ H (.frz xs) v ↔ ∃ a vs, v = .ref a ∧ FzL C.K H a vs ∧ RelDs C μ H xs vs := by conv => lhs; unfold RelD
theorem relD_loc {n : Nat} : RelD C μ H (.loc n) v ↔ ∃ a, μ[n]? = some a ∧ v = .ref a := by unfold RelD; rfl
theorem relD_fn {n : Nat} : RelD C μ H (.fn n) v ↔ v = .ref (C.fa n) := by unfold RelD; rfl
/-- a list in the store -/
theorem Rep.lst (R : Rep C bs μ M H) {n : Nat} {xs : List D} (q : M[n]? = some (.lst xs)) (r : RelD C μ H (.loc n) v) : ∃ a vs, v = .ref a ∧ μ[n]? = some a ∧ H a = some (.lst vs) ∧ RelDs C μ H xs vs := by
  obtain ⟨a, e, rfl⟩ := relD_loc.mp r
  obtain ⟨vs, h, z⟩ := R.at e q
  exact ⟨a, vs, rfl, e, h, z⟩
/-- what is wanted of a value -/
def VP (C : Cn) (bs : List Nat) (W : XK) (μ : List Addr) (H : Hp) (o : Out D) (Q : VK) : Prop := Post C bs W μ H o (fun d μ' _ H' => ∀ v, RelD C μ' H' d v → Q v H')
variable {W : XK} {Q : VK}
theorem VP.at {d : D} (h : VP C bs W μ H (.ok d M) Q) (R : Rep C bs μ M H) {v : V} (r : RelD C μ H d v) : Q v H := Post.here h R v r
theorem VP.on {d : D} (h : VP C bs W μ H (.ok d M') Q) (l : Le μ H μ' H') (R : Rep C bs μ' M' H') {v : V} (r : RelD C μ' H' d v) : Q v H' := h _ _ l R v r
theorem Le.new {p : Addr} {o : HO} (h : H p = none) : Le μ H μ (upd H p o) :=
  ⟨⟨List.prefix_refl _, .new h⟩, fun _ m n => absurd m n, fun a _ q => upd_ne fun e => q (e ▸ h)⟩
theorem Le.add {p : Addr} {o : HO} (h : H p = none) : Le μ H (μ ++ [p]) (upd H p o) :=
  ⟨⟨List.prefix_append _ _, .new h⟩, fun a m n => by
    rcases List.mem_append.mp m with m | m
    · exact absurd m n
    · rw [List.mem_singleton.mp m]; exact h, fun a _ q => upd_ne fun e => q (e ▸ h)⟩
theorem Le.put {p : Addr} {o : HO} (m : p ∈ μ) (h : Mut (H p)) : Le μ H μ (upd H p o) :=
  ⟨⟨List.prefix_refl _, .put h⟩, fun _ m n => absurd m n, fun a n _ => upd_ne fun e => n (e ▸ m)⟩
/-- a new list -/
theorem VP.newL {xs : List D} {vs : List V} (h : VP C bs W μ H (new xs M) Q) (R : Rep C bs μ M H) (r : RelDs C μ H xs vs) {p : Addr} (hp : H p = none) : Q (.ref p) (upd H p (.lst vs)) := by
  refine h.on (Le.add hp) (R.alloc hp ⟨vs, upd_same, r.mono (List.prefix_append _ _) (.new hp)⟩) (relD_loc.mpr ⟨p, ?_, rfl⟩)
  rw [← R.len]
  simp
/-- a new tuple -/
theorem VP.newT {xs : List D} {vs : List V} (h : VP C bs W μ H (.ok (.tup xs) M) Q) (R : Rep C bs μ M H) (r : RelDs C μ H xs vs) : QT vs H Q := by
  cases e : intT xs with
  | true => exact .inr fun p hp => h.on (Le.new hp) (R.new hp) (relD_tupF.mpr ⟨p, vs, rfl, .of upd_same, r.mono (List.prefix_refl _) (.new hp), fun z => absurd z (by rw [int_pairs e]; exact Bool.noConfusion), fun _ => upd_same⟩)
  | false => exact .inl fun p o hp ho => h.on (Le.new hp) (R.new hp) (relD_tupF.mpr ⟨p, vs, rfl, .inl (.inr ⟨o, upd_same⟩), r.mono (List.prefix_refl _) (.new hp), fun _ => .inl ⟨o, _, upd_same, ho⟩, fun z => by rw [e] at z; cases z⟩)

/-! ### operators -/
def rB (C : Cn) (o : B2) : R2 := fun x y H Q => ∃ bs W μ M dx dy, Rep C bs μ M H ∧ RelD C μ H dx x ∧ RelD C μ H dy y ∧ VP C bs W μ H (semB o dx dy M) Q
def opB : B2 → Operator
  | .add => .Add
  | .sub => .Sub
  | .mul => .Mult
  | .div => .FloorDiv
  | .mod => .Mod
  | .pow => .Pow
theorem small_iff {i : Int} (h : small i = true) : -(2 ^ 64) < i ∧ i < 2 ^ 64 := by
  unfold small at h
  rw [Bool.and_eq_true, decide_eq_true_eq, decide_eq_true_eq] at h
  omega
theorem len_arr (s : List Nat) : (⟨s.toArray⟩ : Str).length = s.length := by show s.toArray.size = _; simp
theorem app_str (s t : List Nat) : ((⟨s.toArray⟩ : Str) ++ (⟨t.toArray⟩ : Str)) = ⟨(s ++ t).toArray⟩ := by
  show (⟨s.toArray ++ t.toArray⟩ : Str) = _
  simp
/-- the first of pairs are pairs -/
theorem pairs_front : ∀ {as bs : List D}, (pairsD (as ++ bs)).isSome = true → (pairsD as).isSome = true
  | [], _, _ => rfl
  | d :: as, bs, h => by
    rw [List.cons_append] at h
    unfold pairsD at h ⊢
    split at h
    · rename_i e
      cases e
    · rename_i e
      obtain ⟨rfl, rfl⟩ := List.cons.inj e
      split at h
      · rename_i e2
        have ih := pairs_front (as := as) (bs := bs) (by rw [e2]; rfl)
        obtain ⟨x, e3⟩ := Option.isSome_iff_exists.mp ih
        dsimp only
        rw [e3]
        rfl
      · cases h
    · cases h
variable {X : Cx}
theorem op_rB (hK : X.K = C.K) (o : B2) : OpR X (binaryOp (opB o)) (rB C o) := by
  intro pins s σ H x y vx vy Q I rx ry h
  obtain ⟨bs, W, μ, M, dx, dy, R, r1, r2, p⟩ := h
  cases o with
  | add =>
    cases dx with
    | int i =>
      cases dy with
      | int j => exact op_add pins s σ H x y vx vy Q I rx ry ⟨i, j, relD_int.mp r1, relD_int.mp r2, p.at R (relD_int.mpr rfl)⟩
      | _ => exact p.elim
    | str i =>
      cases dy with
      | str j =>
        dsimp only [semB] at p
        by_cases hl : i.length + j.length ≤ cap
        · rw [if_pos hl] at p
          refine op_add_str pins s σ H x y vx vy Q I rx ry ⟨_, _, relD_str.mp r1, relD_str.mp r2, ?_, ?_⟩
          · rw [len_arr, len_arr, sizeLine_eq]; exact hl
          · rw [app_str]; exact p.at R (relD_str.mpr rfl)
        · rw [if_neg hl] at p; exact p.elim
      | _ => exact p.elim
    | tup xs =>
      cases dy with
      | tup ys =>
        dsimp only [semB] at p
        by_cases hl : xs.length + ys.length ≤ cap
        · rw [if_pos hl] at p
          obtain ⟨a, vs, e1, q1, z1⟩ := relD_tup r1
          obtain ⟨b, ws, e2, q2, z2⟩ := relD_tup r2
          refine op_catF pins s σ H x y vx vy Q I rx ry ⟨a, b, vs, ws, e1, e2, hK ▸ q1, hK ▸ q2, ?_, fun hn => ?_, fun hn hm => ?_, fun _ _ => ?_⟩
          · rw [← z1.length, ← z2.length, sizeLine_eq]; exact hl
          · subst hn
            have : xs = [] := List.eq_nil_of_length_eq_zero (by rw [z1.length]; rfl)
            subst this
            cases e2
            exact p.at R r2
          · subst hm
            have : ys = [] := List.eq_nil_of_length_eq_zero (by rw [z2.length]; rfl)
            subst this
            rw [List.append_nil] at p
            cases e1
            exact p.at R r1
          · exact p.newT R (z1.app z2)
        · rw [if_neg hl] at p; exact p.elim
      | _ => exact p.elim
    | loc n =>
      cases dy with
      | loc m =>
        dsimp only [semB] at p
        cases e1 : M[n]? with
        | none => rw [e1] at p; exact p.elim
        | some o1 =>
          cases e2 : M[m]? with
          | none => rw [e1, e2] at p; cases o1 <;> exact p.elim
          | some o2 =>
            rw [e1, e2] at p
            cases o1 with
            | lst xs =>
              cases o2 with
              | lst ys =>
                dsimp only at p
                by_cases hl : xs.length + ys.length ≤ cap
                · rw [if_pos hl] at p
                  obtain ⟨a, vs, rfl, _, h1, z1⟩ := R.lst e1 r1
                  obtain ⟨b, ws, rfl, _, h2, z2⟩ := R.lst e2 r2
                  refine op_cat pins s σ H _ _ vx vy Q I rx ry ⟨a, b, vs, ws, rfl, rfl, h1, h2, ?_, fun t ht => ?_⟩
                  · rw [← z1.length, ← z2.length, sizeLine_eq]; exact hl
                  · exact p.newL R (z1.app z2) ht
                · rw [if_neg hl] at p; exact p.elim
              | _ => exact p.elim
            | _ => exact p.elim
      | _ => exact p.elim
    | _ => exact p.elim
  | sub =>
    cases dx with
    | int i =>
      cases dy with
      | int j => exact op_sub pins s σ H x y vx vy Q I rx ry ⟨i, j, relD_int.mp r1, relD_int.mp r2, p.at R (relD_int.mpr rfl)⟩
      | _ => exact p.elim
    | _ => exact p.elim
  | mul =>
    cases dx with
    | int i =>
      cases dy with
      | int j =>
        dsimp only [semB] at p
        cases hs : (small i || small j) with
        | false => rw [hs] at p; exact p.elim
        | true =>
          rw [hs] at p
          rw [Bool.or_eq_true] at hs
          exact op_mul pins s σ H x y vx vy Q I rx ry ⟨i, j, relD_int.mp r1, relD_int.mp r2, hs.imp small_iff small_iff, p.at R (relD_int.mpr rfl)⟩
      | _ => exact p.elim
    | tup xs =>
      cases dy with
      | int k =>
        dsimp only [semB] at p
        by_cases hk : -9223372036854775808 ≤ k ∧ k ≤ 1000
        · rw [if_pos hk] at p
          obtain ⟨a, vs, rfl, h1, z1⟩ := relD_tup r1
          have len := z1.length
          cases h2 : (xs.isEmpty || k == 1) with
          | true =>
            rw [h2] at p
            rw [Bool.or_eq_true] at h2
            refine op_mulT pins s σ H _ y vx vy Q I rx ry ⟨a, k, vs, rfl, relD_int.mp r2, hK ▸ h1, hk.1, by omega, .inl ⟨h2.imp (fun z => ?_) fun z => by simpa using z, p.at R r1⟩⟩
            rw [List.isEmpty_iff.mp z] at len
            exact List.eq_nil_of_length_eq_zero len.symm
          | false =>
            rw [h2] at p
            dsimp only at p
            rw [Bool.or_eq_false_iff] at h2
            have ne : vs ≠ [] := fun z => by
              rw [z] at len
              rw [List.eq_nil_of_length_eq_zero len] at h2
              exact absurd h2.1 (by decide)
            have k1 : k ≠ 1 := fun z => by rw [z] at h2; exact absurd h2.2 (by decide)
            by_cases k0 : k ≤ 0
            · rw [if_pos k0] at p
              exact op_mulT pins s σ H _ y vx vy Q I rx ry ⟨a, k, vs, rfl, relD_int.mp r2, hK ▸ h1, hk.1, by omega, .inr ⟨ne, k0, p.newT R .nil⟩⟩
            · rw [if_neg k0] at p
              cases h3 : (Nat.ble xs.length 1000 && !(pairsD xs).isSome) with
              | false => rw [h3] at p; exact p.elim
              | true =>
                rw [h3] at p
                rw [Bool.and_eq_true] at h3
                refine op_repT pins s σ H _ y vx vy Q I rx ry ⟨a, k, vs, rfl, relD_int.mp r2, hK ▸ h1, ne, by omega, by omega, by have := Nat.le_of_ble_eq_true h3.1; omega, fun t ht => ?_⟩
                exact p.on (Le.new ht) (R.new ht) (relD_tupF.mpr ⟨t, _, rfl, .of upd_same, (z1.rep _).le (.new ht), fun z => by
                  have ek : k.toNat = (k.toNat - 1) + 1 := by omega
                  rw [ek, List.replicate_succ, List.flatten_cons] at z
                  have y := pairs_front z
                  rw [y] at h3
                  exact absurd h3.2 (by decide), fun _ => upd_same⟩)
        · rw [if_neg hk] at p; exact p.elim
      | _ => exact p.elim
    | loc n =>
      cases dy with
      | int k =>
        dsimp only [semB] at p
        cases e1 : M[n]? with
        | none => rw [e1] at p; exact p.elim
        | some o1 =>
          rw [e1] at p
          cases o1 with
          | lst xs =>
            dsimp only at p
            by_cases hl : -9223372036854775808 ≤ k ∧ k < 9223372036854775808 ∧ xs.length * k.toNat ≤ cap
            · rw [if_pos hl] at p
              obtain ⟨a, vs, rfl, _, h1, z1⟩ := R.lst e1 r1
              refine op_rep pins s σ H _ y vx vy Q I rx ry ⟨a, k, vs, rfl, relD_int.mp r2, h1, by have := hl.1; omega, by have := hl.2.1; omega, ?_, fun t ht => ?_⟩
              · rw [← z1.length, sizeLine_eq]; exact hl.2.2
              · exact p.newL R (z1.rep _) ht
            · rw [if_neg hl] at p; exact p.elim
          | _ => exact p.elim
      | _ => exact p.elim
    | _ => exact p.elim
  | div =>
    cases dx with
    | int i =>
      cases dy with
      | int j =>
        dsimp only [semB] at p
        by_cases hl : 0 < j ∧ j < 1073741824
        · rw [if_pos hl] at p
          exact op_fdiv pins s σ H x y vx vy Q I rx ry ⟨i, j, relD_int.mp r1, relD_int.mp r2, hl, p.at R (relD_int.mpr rfl)⟩
        · rw [if_neg hl] at p; exact p.elim
      | _ => exact p.elim
    | _ => exact p.elim
  | mod =>
    cases dx with
    | int i =>
      cases dy with
      | int j =>
        dsimp only [semB] at p
        by_cases hl : 0 < j
        · rw [if_pos hl] at p
          exact op_mod pins s σ H x y vx vy Q I rx ry ⟨i, j, relD_int.mp r1, relD_int.mp r2, hl, p.at R (relD_int.mpr rfl)⟩
        · rw [if_neg hl] at p; exact p.elim
      | _ => exact p.elim
    | _ => exact p.elim
  | pow =>
    cases dx with
    | int i =>
      cases dy with
      | int j =>
        dsimp only [semB] at p
        by_cases hl : 0 ≤ j ∧ j ≤ 1000000 ∧ i.natAbs < 18446744073709551616
        · rw [if_pos hl] at p
          exact op_pow pins s σ H x y vx vy Q I rx ry ⟨i, j, relD_int.mp r1, relD_int.mp r2, ⟨hl.1, hl.2.1, by have := hl.2.2; omega⟩, p.at R (relD_int.mpr rfl)⟩
        · rw [if_neg hl] at p; exact p.elim
      | _ => exact p.elim
    | _ => exact p.elim

/-! ### plain data -/
theorem strOk_of {s : List Nat} (h : codes s = true) : PyData.strOk ⟨s.toArray⟩ = true := by
  unfold codes at h
  unfold PyData.strOk
  rw [List.all_eq_true] at h
  show s.toArray.all _ = true
  rw [List.all_toArray, List.all_eq_true]
  intro c hc
  have z := h c hc
  rw [decide_eq_true_eq]
  exact Nat.le_of_ble_eq_true z
theorem allS_cons {α : Type} {x : Option α} {xs : List (Option α)} {ys : List α} (h : allS (x :: xs) = some ys) : ∃ y zs, x = some y ∧ allS xs = some zs ∧ ys = y :: zs := by
  cases x with
  | none => unfold allS at h; cases h
  | some y =>
    unfold allS at h
    cases q : allS xs with
    | none => rw [q] at h; cases h
    | some zs => rw [q] at h; cases h; exact ⟨y, zs, rfl, rfl, rfl⟩
structure Shp (d : PyData) (k : Nat) : Prop where
  lay : d.canLay0 = true
  dep : d.depth ≤ k
structure ShpA (d : List PyData) (k : Nat) : Prop where
  lay : PyData.canLayAll0 d = true
  dep : PyData.depthAll d ≤ k
theorem py_all (R : Rep C bs μ M H) {k : Nat} (ih : ∀ {d : D} {p : PyData} {v : V}, py M k d = some p → RelD C μ H d v → Dp C.K H v p ∧ Shp p k) :
    ∀ {xs : List D} {ps : List PyData} {vs : List V}, allS (xs.map (py M k)) = some ps → RelDs C μ H xs vs → DpAll C.K H vs ps ∧ ShpA ps k
  | [], ps, vs, e, r => by
    cases e
    rw [r.nil_inv]
    exact ⟨.nil, ⟨by simp [PyData.canLayAll0], by simp [PyData.depthAll]⟩⟩
  | x :: xs, ps, vs, e, r => by
    rw [List.map_cons] at e
    obtain ⟨y, zs, e1, e2, rfl⟩ := allS_cons e
    obtain ⟨v, vr, rfl, r1, r2⟩ := r.inv
    obtain ⟨d1, s1⟩ := ih e1 r1
    obtain ⟨d2, s2⟩ := py_all R ih e2 r2
    refine ⟨.cons d1 d2, ⟨by simp [PyData.canLayAll0, s1.lay, s2.lay], ?_⟩⟩
    have h1 := s1.dep
    have h2 := s2.dep
    simp only [PyData.depthAll]
    omega
theorem py_dp (R : Rep C bs μ M H) : ∀ {k : Nat} {d : D} {p : PyData} {v : V}, py M k d = some p → RelD C μ H d v → Dp C.K H v p ∧ Shp p k
  | 0, _, _, _, e, _ => by unfold py at e; cases e
  | k + 1, d, p, v, e, r => by
    unfold py at e
    cases d with
    | non => cases e; rw [relD_non.mp r]; exact ⟨.non, ⟨by simp [PyData.canLay0], by simp [PyData.depth]⟩⟩
    | bl b => cases e; rw [relD_bl.mp r]; exact ⟨.bl b, ⟨by simp [PyData.canLay0], by simp [PyData.depth]⟩⟩
    | int b => cases e; rw [relD_int.mp r]; exact ⟨.int b, ⟨by simp [PyData.canLay0], by simp [PyData.depth]⟩⟩
    | str s =>
      dsimp only at e
      cases q : codes s with
      | false => rw [q] at e; cases e
      | true =>
        rw [q] at e
        cases e
        rw [relD_str.mp r]
        exact ⟨.str _, ⟨by simp [PyData.canLay0, strOk_of q], by simp [PyData.depth]⟩⟩
    | tup xs =>
      dsimp only at e
      cases q : allS (xs.map (py M k)) with
      | none => rw [q] at e; cases e
      | some ps =>
        rw [q] at e
        cases e
        obtain ⟨a, vs, rfl, q1, z1⟩ := relD_tup r
        obtain ⟨d1, s1⟩ := py_all R (fun h h' => py_dp R h h') q z1
        exact ⟨.tup q1 d1, ⟨by simp [PyData.canLay0, s1.lay], by simp only [PyData.depth]; have := s1.dep; omega⟩⟩
    | frz xs =>
      dsimp only at e
      cases q : allS (xs.map (py M k)) with
      | none => rw [q] at e; cases e
      | some ps =>
        rw [q] at e
        cases e
        obtain ⟨a, vs, rfl, q1, z1⟩ := relD_frz.mp r
        obtain ⟨d1, s1⟩ := py_all R (fun h h' => py_dp R h h') q z1
        exact ⟨.lst q1.sq d1, ⟨by simp [PyData.canLay0, s1.lay], by simp only [PyData.depth]; have := s1.dep; omega⟩⟩
    | loc n =>
      dsimp only at e
      cases q0 : M[n]? with
      | none => rw [q0] at e; cases e
      | some o =>
        rw [q0] at e
        cases o with
        | lst xs =>
          dsimp only at e
          cases q : allS (xs.map (py M k)) with
          | none => rw [q] at e; cases e
          | some ps =>
            rw [q] at e
            cases e
            obtain ⟨a, vs, rfl, _, q1, z1⟩ := R.lst q0 r
            obtain ⟨d1, s1⟩ := py_all R (fun h h' => py_dp R h h') q z1
            exact ⟨.lst (.of q1) d1, ⟨by simp [PyData.canLay0, s1.lay], by simp only [PyData.depth]; have := s1.dep; omega⟩⟩
        | _ => cases e
    | fn n => cases e
theorem Shp.shaped {d : PyData} {k : Nat} (h : Shp d k) (hk : k ≤ 64) : SeqAt.shaped d = true := by
  unfold SeqAt.shaped
  rw [h.lay, Bool.true_and, decide_eq_true_eq]
  exact Nat.le_trans h.dep hk
end Ev
end

section
/-! EvOp2: comparisons. -/
namespace Ev
open PySem L2
variable {C : Cn} {μ μ' : List Addr} {H H' : Hp} {M M' : Sto} {bs : List Nat} {v : V} {X : Cx}
def opC : C2 → CmpOp
  | .eq => .Eq
  | .ne => .NotEq
  | .lt => .Lt
  | .le => .LtE
  | .gt => .Gt
  | .ge => .GtE
  | .isin => .In
  | .nin => .NotIn
  | .is => .Is
  | .isn => .IsNot
def rC (C : Cn) (o : C2) : R2 := fun x y H Q => ∃ bs μ M dx dy k, Rep C bs μ M H ∧ RelD C μ H dx x ∧ RelD C μ H dy y ∧ semC o M dx dy = some k ∧ Q (.bl k) H
theorem toS_inj {a b : List Nat} : toS a = toS b ↔ a = b := by
  unfold toS
  constructor
  · intro h
    have := congrArg (fun z : Str => z.cps.toList) h
    simpa using this
  · rintro rfl; rfl
theorem key_inj {a b : KY} (h : a.key = b.key) : a = b := by
  cases a <;> cases b
  · cases h; rfl
  · cases h
  · cases h
  · rw [toS_inj.mp (Sum.inr.inj h)]
theorem kz_val : ∀ {kvs : List (KY × D)} {vs : List V} (s : KY), RelDs C μ H (kvs.map (·.2)) vs →
    (∀ d, kvs.lookup s = some d → ∃ v, valV (kz kvs vs) s.key = some v ∧ RelD C μ H d v) ∧ (kvs.lookup s = none → valV (kz kvs vs) s.key = none)
  | [], vs, s, r => by
    refine ⟨fun d e => (by cases e), fun _ => ?_⟩
    unfold kz
    simp [valV]
  | (k, d0) :: kvs, vs, s, r => by
    obtain ⟨v, vr, rfl, r1, r2⟩ := r.inv
    obtain ⟨i1, i2⟩ := kz_val s r2
    have step : valV (kz ((k, d0) :: kvs) (v :: vr)) s.key = if k = s then some v else valV (kz kvs vr) s.key := by
      unfold kz valV
      rw [List.map_cons, List.zip_cons_cons, List.find?_cons]
      by_cases hk : k = s
      · subst hk; simp
      · have hn : ¬ (k.key = s.key) := fun z => hk (key_inj z)
        simp [hn, hk]
    rw [step, List.lookup_cons]
    by_cases hk : k = s
    · subst hk
      simp only [beq_self_eq_true, if_true]
      exact ⟨fun d e => by cases e; exact ⟨v, rfl, r1⟩, fun e => by cases e⟩
    · have hb : (s == k) = false := beq_eq_false_iff_ne.mpr fun z => hk z.symm
      rw [hb, if_neg hk]
      exact ⟨i1, i2⟩
theorem dctAt_inv {x : D} {kvs : List (KY × D)} (h : dctAt M x = some kvs) : ∃ n, x = .loc n ∧ M[n]? = some (.dct kvs) := by
  unfold dctAt at h
  split at h
  · split at h
    · cases h; exact ⟨_, rfl, by assumption⟩
    · cases h
  · cases h
theorem key_rel {x : D} {k : KY} {v : V} (h : keyD x = some k) (r : RelD C μ H x v) : v = kV k.key := by
  cases x with
  | int i => cases h; exact relD_int.mp r
  | str s => cases h; exact relD_str.mp r
  | _ => cases h
theorem inK_inv {x y : D} {k : Bool} (h : inK M x y = some k) : ∃ s kvs, keyD x = some s ∧ dctAt M y = some kvs ∧ k = (kvs.lookup s).isSome := by
  unfold inK at h
  cases e0 : keyD x with
  | none => rw [e0] at h; cases h
  | some s =>
    cases e : dctAt M y with
    | none => rw [e0, e] at h; cases h
    | some kvs => rw [e0, e] at h; cases h; exact ⟨s, kvs, rfl, rfl, rfl⟩
theorem dct_get {x : D} {vx : V} {kvs : List (KY × D)} (R : Rep C bs μ M H) (h : dctAt M x = some kvs) (r : RelD C μ H x vx) (s : KY) :
    ∃ a o, vx = .ref a ∧ IsD H a ∧ DGet H a (kV s.key) o ∧ (∀ d, kvs.lookup s = some d → ∃ v, o = some v ∧ RelD C μ H d v) ∧ (kvs.lookup s = none → o = none) := by
  obtain ⟨n, rfl, e⟩ := dctAt_inv h
  obtain ⟨a, ea, rfl⟩ := relD_loc.mp r
  obtain ⟨vs, hH, q⟩ := R.at ea e
  obtain ⟨i1, i2⟩ := kz_val s q
  exact ⟨a, _, rfl, .inl ⟨_, .inl hH⟩, .inl ⟨_, s.key, .inl hH, rfl, rfl⟩, i1, i2⟩
/-! dicts by tuples of numbers -/
theorem inls_inj : ∀ {a b : List Int}, a.map (Sum.inl : Int → Key) = b.map Sum.inl → a = b
  | [], [], _ => rfl
  | [], _ :: _, h => by cases h
  | _ :: _, [], h => by cases h
  | x :: a, y :: b, h => by
    rw [List.map_cons, List.map_cons] at h
    obtain ⟨h1, h2⟩ := List.cons.inj h
    rw [Sum.inl.inj h1, inls_inj h2]
theorem kzT_val : ∀ {kvs : List (List Int × D)} {vs : List V} (s : List Int), RelDs C μ H (kvs.map (·.2)) vs →
    (∀ d, kvs.lookup s = some d → ∃ v, valV (kzT kvs vs) (s.map Sum.inl) = some v ∧ RelD C μ H d v) ∧ (kvs.lookup s = none → valV (kzT kvs vs) (s.map Sum.inl) = none)
  | [], vs, s, r => by
    refine ⟨fun d e => (by cases e), fun _ => ?_⟩
    unfold kzT
    simp [valV]
  | (k, d0) :: kvs, vs, s, r => by
    obtain ⟨v, vr, rfl, r1, r2⟩ := r.inv
    obtain ⟨i1, i2⟩ := kzT_val s r2
    have step : valV (kzT ((k, d0) :: kvs) (v :: vr)) (s.map Sum.inl) = if k = s then some v else valV (kzT kvs vr) (s.map Sum.inl) := by
      unfold kzT valV
      rw [List.map_cons, List.zip_cons_cons, List.find?_cons]
      by_cases hk : k = s
      · subst hk; simp
      · have hn : ¬ (k.map (Sum.inl : Int → Key) = s.map Sum.inl) := fun z => hk (inls_inj z)
        rw [decide_eq_false hn, if_neg hk]
    rw [step, List.lookup_cons]
    by_cases hk : k = s
    · subst hk
      rw [beq_self_eq_true, if_pos rfl]
      exact ⟨fun d e => by cases e; exact ⟨v, rfl, r1⟩, fun e => by cases e⟩
    · rw [beq_eq_false_iff_ne.mpr fun z => hk z.symm, if_neg hk]
      exact ⟨i1, i2⟩
theorem dctTAt_inv {x : D} {kvs : List (List Int × D)} (h : dctTAt M x = some kvs) : ∃ n, x = .loc n ∧ M[n]? = some (.dctT kvs) := by
  unfold dctTAt at h
  split at h
  · split at h
    · cases h; exact ⟨_, rfl, by assumption⟩
    · cases h
  · cases h
theorem inls_kV (is : List Int) : (is.map Sum.inl).map kV = is.map V.int := by
  rw [List.map_map]
  rfl
theorem keyT_inv {x : D} {k : List Int} (h : keyT x = some k) : ∃ xs, x = .tup xs ∧ intT xs = true ∧ intsD xs = some k := by
  unfold keyT at h
  split at h
  · rename_i xs
    cases e : intT xs with
    | false => rw [e] at h; cases h
    | true => rw [e] at h; exact ⟨xs, rfl, e, h⟩
  · cases h
theorem keyT_rel {x : D} {k : List Int} {v : V} (h : keyT x = some k) (r : RelD C μ H x v) : ∃ b, v = .ref b ∧ H b = some (.tup ((k.map Sum.inl).map kV)) := by
  obtain ⟨xs, rfl, h1, h2⟩ := keyT_inv h
  obtain ⟨a, vs, rfl, _, z, _, t⟩ := relD_tupF.mp r
  have hv := ints_rel h2 z
  refine ⟨a, rfl, ?_⟩
  rw [t h1, hv, inls_kV]
theorem dctT_get {x : D} {vx : V} {kvs : List (List Int × D)} (R : Rep C bs μ M H) (h : dctTAt M x = some kvs) (r : RelD C μ H x vx) {k : List Int} {b : Addr} (hb : H b = some (.tup ((k.map Sum.inl).map kV))) :
    ∃ a o, vx = .ref a ∧ IsD H a ∧ DGet H a (.ref b) o ∧ (∀ d, kvs.lookup k = some d → ∃ v, o = some v ∧ RelD C μ H d v) ∧ (kvs.lookup k = none → o = none) := by
  obtain ⟨n, rfl, e⟩ := dctTAt_inv h
  obtain ⟨a, ea, rfl⟩ := relD_loc.mp r
  obtain ⟨vs, hH, q⟩ := R.at ea e
  obtain ⟨i1, i2⟩ := kzT_val k q
  exact ⟨a, _, rfl, .inr ⟨_, .inl hH⟩, .inr ⟨_, k.map Sum.inl, b, .inl hH, rfl, hb, rfl⟩, i1, i2⟩
theorem eqD_inv {x y : D} {k : Bool} (h : eqD M x y = some k) : ∃ a b, py M MX x = some a ∧ py M MX y = some b ∧ k = PyData.eqv a b := by
  unfold eqD at h
  cases e1 : py M MX x with
  | none => rw [e1] at h; cases h
  | some a =>
    cases e2 : py M MX y with
    | none => rw [e1, e2] at h; cases h
    | some b => rw [e1, e2] at h; cases h; exact ⟨a, b, rfl, rfl, rfl⟩
theorem strEq (a b : List Nat) : ((⟨a.toArray⟩ : Str) == (⟨b.toArray⟩ : Str)) = (a == b) := by
  rw [Bool.eq_iff_iff, beq_iff_eq, beq_iff_eq]
  constructor
  · intro h
    have z := congrArg (fun s : Str => s.cps.toList) h
    simpa using z
  · rintro rfl; rfl
theorem atom_flatV {x : D} (h : atom x = true) (r : RelD C μ H x v) : flatV v = true := by
  cases x with
  | non => rw [relD_non.mp r]; rfl
  | bl _ => rw [relD_bl.mp r]; rfl
  | int _ => rw [relD_int.mp r]; rfl
  | str _ => rw [relD_str.mp r]; rfl
  | _ => cases h
theorem eqA_eqV {x y : D} {v w : V} (hx : atom x = true) (hy : atom y = true) (r : RelD C μ H x v) (q : RelD C μ H y w) : eqV v w = eqA x y := by
  cases x with
  | non =>
    cases relD_non.mp r
    cases y with
    | non => cases relD_non.mp q; rfl
    | bl _ => cases relD_bl.mp q; rfl
    | int _ => cases relD_int.mp q; rfl
    | str _ => cases relD_str.mp q; rfl
    | _ => cases hy
  | bl _ =>
    cases relD_bl.mp r
    cases y with
    | non => cases relD_non.mp q; rfl
    | bl _ => cases relD_bl.mp q; rfl
    | int _ => cases relD_int.mp q; rfl
    | str _ => cases relD_str.mp q; rfl
    | _ => cases hy
  | int _ =>
    cases relD_int.mp r
    cases y with
    | non => cases relD_non.mp q; rfl
    | bl _ => cases relD_bl.mp q; rfl
    | int _ => cases relD_int.mp q; rfl
    | str _ => cases relD_str.mp q; rfl
    | _ => cases hy
  | str s =>
    cases relD_str.mp r
    cases y with
    | non => cases relD_non.mp q; rfl
    | bl _ => cases relD_bl.mp q; rfl
    | int _ => cases relD_int.mp q; rfl
    | str t => cases relD_str.mp q; exact strEq s t
    | _ => cases hy
  | _ => cases hx
theorem any_atoms {x : D} {w : V} (hx : atom x = true) (q : RelD C μ H x w) : ∀ {ys : List D} {vs : List V}, ys.all atom = true → RelDs C μ H ys vs → vs.all flatV = true ∧ (vs.any fun y => eqV y w) = ys.any fun z => eqA z x
  | [], _, _, r => by rw [r.nil_inv]; exact ⟨rfl, rfl⟩
  | y :: ys, _, h, r => by
    obtain ⟨v, vr, rfl, r1, r2⟩ := r.inv
    rw [List.all_cons, Bool.and_eq_true] at h
    obtain ⟨i1, i2⟩ := any_atoms hx q h.2 r2
    refine ⟨?_, ?_⟩
    · rw [List.all_cons, atom_flatV h.1 r1, i1]; rfl
    · rw [List.any_cons, List.any_cons, i2, eqA_eqV h.1 hx r1 q]
theorem items_inv {y : D} {ys : List D} {w : V} (R : Rep C bs μ M H) (h : itemsOf M y = some ys) (q : RelD C μ H y w) : ∃ a vs, w = .ref a ∧ (SqL C.K H a vs ∨ SqT C.K H a vs) ∧ RelDs C μ H ys vs := by
  unfold itemsOf at h
  cases y with
  | tup xs =>
    cases h
    obtain ⟨a, vs, e, h1, z⟩ := relD_tup q
    exact ⟨a, vs, e, .inr h1, z⟩
  | frz xs =>
    cases h
    obtain ⟨a, vs, e, h1, z⟩ := relD_frz.mp q
    exact ⟨a, vs, e, .inl h1.sq, z⟩
  | loc n =>
    dsimp only at h
    cases e : M[n]? with
    | none => rw [e] at h; cases h
    | some o =>
      rw [e] at h
      cases o with
      | lst xs =>
        cases h
        obtain ⟨a, vs, e1, _, h1, z⟩ := R.lst e q
        exact ⟨a, vs, e1, .inl (.of h1), z⟩
      | _ => cases h
  | _ => cases h
theorem list_inv {y : D} {ys : List D} {w : V} (R : Rep C bs μ M H) (h : listOf M y = some ys) (q : RelD C μ H y w) : ∃ a vs, w = .ref a ∧ SqL C.K H a vs ∧ RelDs C μ H ys vs := by
  unfold listOf at h
  cases y with
  | frz xs =>
    cases h
    obtain ⟨a, vs, e, h1, z⟩ := relD_frz.mp q
    exact ⟨a, vs, e, h1.sq, z⟩
  | loc n =>
    dsimp only at h
    cases e : M[n]? with
    | none => rw [e] at h; cases h
    | some o =>
      rw [e] at h
      cases o with
      | lst xs =>
        cases h
        obtain ⟨a, vs, e1, _, h1, z⟩ := R.lst e q
        exact ⟨a, vs, e1, .of h1, z⟩
      | _ => cases h
  | _ => cases h
theorem items_invT {y : D} {ys : List D} {w : V} (R : Rep C bs μ M H) (h : itemsOf M y = some ys) (q : RelD C μ H y w) : ∃ a vs, w = .ref a ∧ (SqL C.K H a vs ∨ (SqT C.K H a vs ∧ y = .tup ys)) ∧ RelDs C μ H ys vs := by
  cases y with
  | tup xs =>
    cases (show xs = ys from Option.some.inj h)
    obtain ⟨a, vs, e, h1, z⟩ := relD_tup q
    exact ⟨a, vs, e, .inr ⟨h1, rfl⟩, z⟩
  | frz xs =>
    obtain ⟨a, vs, e, h1, z⟩ := list_inv R (show listOf M (.frz xs) = some ys from h) q
    exact ⟨a, vs, e, .inl h1, z⟩
  | loc n =>
    obtain ⟨a, vs, e, h1, z⟩ := list_inv R (show listOf M (.loc n) = some ys from h) q
    exact ⟨a, vs, e, .inl h1, z⟩
  | _ => cases h
theorem items_list {y : D} {ys : List D} (h : itemsOf M y = some ys) (hn : ∀ xs, y ≠ .tup xs) : listOf M y = some ys := by
  unfold itemsOf at h
  unfold listOf
  cases y with
  | tup xs => exact absurd rfl (hn xs)
  | frz xs => exact h
  | loc n => exact h
  | _ => cases h
theorem contains_dec (t : List Nat) (c : Nat) : t.contains c = decide (c ∈ t) := by
  rw [Bool.eq_iff_iff, decide_eq_true_eq, List.contains_iff_mem]
/-- what `in` tells -/
theorem in_sound (hK : X.K = C.K) (hu : X.A.units + 65 < cLine) (neg : Bool) {x y : D} {k : Bool} (hk : inD M x y = some k) (R : Rep C bs μ M H) {pins : List (Addr × Obj)} {s : Shared} {σ : St} {vx vy : V} {ux uy : Value} {Q : VK}
    (I : L2.Inv X pins σ H s) (rx : RelV vx ux) (ry : RelV vy uy) (r : RelD C μ H x vx) (q : RelD C μ H y vy) (hQ : Q (.bl (if neg then !k else k)) H) :
    wpAny (model X.prog X.w) X.A (compareOp (if neg then .NotIn else .In) ux uy) (EP X pins σ Q) X.xe s := by
  have other : ∀ ys, itemsOf M y = some ys → inL M x y ys = some k → wpAny (model X.prog X.w) X.A (compareOp (if neg then .NotIn else .In) ux uy) (EP X pins σ Q) X.xe s := by
    intro ys hys hk
    unfold inL at hk
    cases ha : (atom x && ys.all atom) with
    | true =>
      rw [ha] at hk
      cases hk
      rw [Bool.and_eq_true] at ha
      obtain ⟨a, vs, rfl, h1, z⟩ := items_inv R hys q
      obtain ⟨f1, f2⟩ := any_atoms ha.1 r ha.2 z
      have h1' : SqL X.K H a vs ∨ SqT X.K H a vs := hK ▸ h1
      have inq : inV vx vs = ys.any fun z => eqA z x := f2
      cases neg with
      | false => exact op_in_seq pins s σ H _ _ ux uy Q I rx ry ⟨a, vs, rfl, h1', atom_flatV ha.1 r, f1, by rw [inq]; exact hQ⟩
      | true => exact op_notIn_seq pins s σ H _ _ ux uy Q I rx ry ⟨a, vs, rfl, h1', atom_flatV ha.1 r, f1, by rw [inq]; exact hQ⟩
    | false =>
      rw [ha] at hk
      dsimp only at hk
      cases e0 : isTup y with
      | true => rw [e0] at hk; cases hk
      | false =>
        have nt : ∀ xs, y ≠ .tup xs := by
          rintro xs rfl
          cases e0
        cases e1 : py M MX x with
        | none => rw [e0, e1] at hk; cases hk
        | some d =>
          cases e2 : allS (ys.map (py M MX)) with
          | none => rw [e0, e1, e2] at hk; cases hk
          | some ds =>
            rw [e0, e1, e2] at hk
            cases hk
            obtain ⟨a, vs, rfl, h1, z⟩ := list_inv R (items_list hys nt) q
            obtain ⟨d1, s1⟩ := py_dp R e1 r
            obtain ⟨d2, s2⟩ := py_all R (fun h h' => py_dp R h h') e2 z
            have sh1 : SeqAt.shaped d = true := s1.shaped (by unfold MX; omega)
            have sh2 : SeqAt.shaped (.list ds) = true := Shp.shaped (k := MX + 1) ⟨by simp [PyData.canLay0, s2.lay], by simp only [PyData.depth]; have := s2.dep; omega⟩ (by unfold MX; omega)
            have dl : Dp X.K H (.ref a) (.list ds) := hK ▸ Dp.lst h1 d2
            have d1' : Dp X.K H vx d := hK ▸ d1
            cases neg with
            | false => exact op_inD hu pins s σ H _ _ ux uy Q I rx ry ⟨d, ds, d1', dl, sh1, sh2, hQ⟩
            | true => exact op_notInD hu pins s σ H _ _ ux uy Q I rx ry ⟨d, ds, d1', dl, sh1, sh2, hQ⟩
  unfold inD at hk
  split at hk
  · rename_i c t
    cases hk
    cases relD_str.mp r
    cases relD_str.mp q
    cases neg with
    | false => exact op_in_sign pins s σ H _ _ ux uy Q I rx ry ⟨c, ⟨t.toArray⟩, rfl, rfl, by rw [show (⟨t.toArray⟩ : Str).cps.toList = t by simp, ← contains_dec]; exact hQ⟩
    | true => exact op_notIn_sign pins s σ H _ _ ux uy Q I rx ry ⟨c, ⟨t.toArray⟩, rfl, rfl, by rw [show (⟨t.toArray⟩ : Str).cps.toList = t by simp, ← contains_dec]; exact hQ⟩
  · cases hk
  · cases hi : itemsOf M y with
    | some ys => rw [hi] at hk; exact other ys hi hk
    | none =>
      rw [hi] at hk
      dsimp only at hk
      cases eT : dctTAt M y with
      | some kvs =>
        rw [eT] at hk
        dsimp only at hk
        cases ek : keyT x with
        | none => rw [ek] at hk; cases hk
        | some t =>
          rw [ek] at hk
          cases hk
          obtain ⟨b, rfl, hb⟩ := keyT_rel ek r
          obtain ⟨a, o, rfl, _, g, g1, g2⟩ := dctT_get R eT q hb
          cases ry
          have ho : o.isSome = (kvs.lookup t).isSome := by
            cases el : kvs.lookup t with
            | none => rw [g2 el]; rfl
            | some d => obtain ⟨w, ew, _⟩ := g1 d el; rw [ew]; rfl
          cases neg with
          | false => exact d_in (by omega) I g rx fun s' I' => ⟨.bl o.isSome, H, I', rfl, by rw [ho]; exact hQ⟩
          | true => exact d_notIn (by omega) I g rx fun s' I' => ⟨.bl (!o.isSome), H, I', rfl, by rw [ho]; exact hQ⟩
      | none =>
      rw [eT] at hk
      dsimp only at hk
      obtain ⟨t, kvs, ek, ed, rfl⟩ := inK_inv hk
      cases key_rel ek r
      obtain ⟨a, o, rfl, _, g, g1, g2⟩ := dct_get R ed q t
      cases ry
      have ho : o.isSome = (kvs.lookup t).isSome := by
        cases el : kvs.lookup t with
        | none => rw [g2 el]; rfl
        | some d => obtain ⟨w, ew, _⟩ := g1 d el; rw [ew]; rfl
      cases neg with
      | false => exact d_in (by omega) I g rx fun s' I' => ⟨.bl o.isSome, H, I', rfl, by rw [ho]; exact hQ⟩
      | true => exact d_notIn (by omega) I g rx fun s' I' => ⟨.bl (!o.isSome), H, I', rfl, by rw [ho]; exact hQ⟩
theorem isNon_dec {x : D} {v : V} (r : RelD C μ H x v) : decide (v = V.non) = isNon x := by
  cases x with
  | non => rw [relD_non.mp r]; rfl
  | bl _ => rw [relD_bl.mp r]; rfl
  | int _ => rw [relD_int.mp r]; rfl
  | str _ => rw [relD_str.mp r]; rfl
  | tup _ => obtain ⟨a, vs, rfl, _⟩ := relD_tup r; rfl
  | frz _ => obtain ⟨a, vs, rfl, _⟩ := relD_frz.mp r; rfl
  | loc _ => obtain ⟨a, _, rfl⟩ := relD_loc.mp r; rfl
  | fn _ => rw [relD_fn.mp r]; rfl
theorem is_sound (neg : Bool) {x y : D} {k : Bool} (hk : isD x y = some k) {pins : List (Addr × Obj)} {s : Shared} {σ : St} {vx vy : V} {ux uy : Value} {Q : VK}
    (I : L2.Inv X pins σ H s) (rx : RelV vx ux) (ry : RelV vy uy) (r : RelD C μ H x vx) (q : RelD C μ H y vy) (hQ : Q (.bl (if neg then !k else k)) H) :
    wpAny (model X.prog X.w) X.A (compareOp (if neg then .IsNot else .Is) ux uy) (EP X pins σ Q) X.xe s := by
  unfold isD at hk
  split at hk
  · rename_i a b
    cases hk
    have e : decide (a = b) = (a == b) := by cases a <;> cases b <;> rfl
    cases neg with
    | false => exact op_is_bl pins s σ H _ _ ux uy Q I rx ry ⟨a, b, relD_bl.mp r, relD_bl.mp q, by rw [e]; exact hQ⟩
    | true => exact op_isnot_bl pins s σ H _ _ ux uy Q I rx ry ⟨a, b, relD_bl.mp r, relD_bl.mp q, by rw [e]; exact hQ⟩
  · cases hk
    cases neg with
    | false => exact op_isN pins s σ H _ _ ux uy Q I rx ry ⟨relD_non.mp q, by rw [isNon_dec r]; exact hQ⟩
    | true => exact op_notN pins s σ H _ _ ux uy Q I rx ry ⟨relD_non.mp q, by rw [isNon_dec r]; exact hQ⟩
  · cases hk
theorem map_not {o : Option Bool} {k : Bool} (h : o.map not = some k) : ∃ k', o = some k' ∧ k = !k' := by
  cases o with
  | none => cases h
  | some a => cases h; exact ⟨a, rfl, rfl⟩
theorem op_rC (hK : X.K = C.K) (hu : X.A.units + 65 < cLine) (o : C2) : OpR X (compareOp (opC o)) (rC C o) := by
  intro pins s σ H x y vx vy Q I rx ry h
  obtain ⟨bs, μ, M, dx, dy, k, R, r1, r2, p, hQ⟩ := h
  have cmp2 : ∀ {f : Int → Int → Bool}, cmpI f dx dy = some k → ∃ i j, x = .int i ∧ y = .int j ∧ Q (.bl (f i j)) H := by
    intro f e
    unfold cmpI at e
    split at e
    · cases e; exact ⟨_, _, relD_int.mp r1, relD_int.mp r2, hQ⟩
    · cases e
  cases o with
  | eq =>
    obtain ⟨a, b, e1, e2, rfl⟩ := eqD_inv p
    obtain ⟨d1, s1⟩ := py_dp R e1 r1
    obtain ⟨d2, s2⟩ := py_dp R e2 r2
    exact op_eqD (by omega) pins s σ H x y vx vy Q I rx ry ⟨a, b, hK ▸ d1, hK ▸ d2, s1.shaped (by unfold MX; omega), s2.shaped (by unfold MX; omega), hQ⟩
  | ne =>
    obtain ⟨k', p', rfl⟩ := map_not p
    obtain ⟨a, b, e1, e2, rfl⟩ := eqD_inv p'
    obtain ⟨d1, s1⟩ := py_dp R e1 r1
    obtain ⟨d2, s2⟩ := py_dp R e2 r2
    exact op_neD (by omega) pins s σ H x y vx vy Q I rx ry ⟨a, b, hK ▸ d1, hK ▸ d2, s1.shaped (by unfold MX; omega), s2.shaped (by unfold MX; omega), hQ⟩
  | lt => exact op_lt pins s σ H x y vx vy Q I rx ry (cmp2 p)
  | le => exact op_le pins s σ H x y vx vy Q I rx ry (cmp2 p)
  | gt => exact op_gt pins s σ H x y vx vy Q I rx ry (cmp2 (f := fun i j => decide (j < i)) p)
  | ge => exact op_ge pins s σ H x y vx vy Q I rx ry (cmp2 (f := fun i j => decide (j ≤ i)) p)
  | isin => exact in_sound hK hu false p R I rx ry r1 r2 hQ
  | nin =>
    obtain ⟨k', p', rfl⟩ := map_not p
    exact in_sound hK hu true p' R I rx ry r1 r2 hQ
  | is => exact is_sound false p I rx ry r1 r2 hQ
  | isn =>
    obtain ⟨k', p', rfl⟩ := map_not p
    exact is_sound true p' I rx ry r1 r2 hQ
end Ev
end

section
/-! EvSt: lists of tuples of numbers, sorted. -/
namespace Ev
open PySem L2
variable {C : Cn} {μ : List Addr} {H : Hp} {M : Sto} {bs : List Nat} {X : Cx}
theorem code_leT {B : Int} : ∀ {a b : List Int}, a.length = b.length → TS.Bd B a → TS.Bd B b → (TS.code B a ≤ TS.code B b ↔ leT a b = true)
  | [], [], _, _, _ => by simp [TS.code, leT]
  | x :: a, y :: b, hl, ha, hb => by
    have hl' : a.length = b.length := Nat.succ.inj hl
    have ih := code_leT hl' ha.tail hb.tail
    unfold leT
    by_cases h1 : x < y
    · rw [if_pos h1]
      have := TS.code_lt hl' ha.tail hb.tail h1
      simp
      omega
    · rw [if_neg h1]
      by_cases h2 : y < x
      · rw [if_pos h2]
        have := TS.code_lt hl'.symm hb.tail ha.tail h2
        simp
        omega
      · rw [if_neg h2]
        have e : x = y := by omega
        subst e
        rw [← ih]
        show x * B ^ a.length + TS.code B a ≤ x * B ^ b.length + TS.code B b ↔ _
        rw [hl']
        constructor <;> intro z <;> omega
theorem leT_total : ∀ a b : List Int, leT a b = true ∨ leT b a = true
  | [], _ => .inl rfl
  | _ :: _, [] => .inr rfl
  | x :: a, y :: b => by
    unfold leT
    by_cases h1 : x < y
    · exact .inl (if_pos h1)
    · by_cases h2 : y < x
      · exact .inr (by rw [if_pos h2])
      · rw [if_neg h1, if_neg h2, if_neg h2, if_neg h1]
        exact leT_total a b
theorem leT_trans : ∀ {a b c : List Int}, leT a b = true → leT b c = true → leT a c = true
  | [], _, _, _, _ => by unfold leT; rfl
  | _ :: _, [], _, h, _ => by unfold leT at h; cases h
  | _ :: _, _ :: _, [], _, h => by unfold leT at h; cases h
  | x :: a, y :: b, z :: c, h1, h2 => by
    unfold leT at h1 h2 ⊢
    by_cases p1 : x < y
    · by_cases p2 : y < z
      · rw [if_pos (by omega)]
      · rw [if_neg p2] at h2
        by_cases p3 : z < y
        · rw [if_pos p3] at h2; cases h2
        · rw [if_pos (by omega)]
    · rw [if_neg p1] at h1
      by_cases p3 : y < x
      · rw [if_pos p3] at h1; cases h1
      · rw [if_neg p3] at h1
        by_cases p2 : y < z
        · rw [if_pos (by omega)]
        · rw [if_neg p2] at h2
          by_cases p4 : z < y
          · rw [if_pos p4] at h2; cases h2
          · rw [if_neg p4] at h2
            rw [if_neg (by omega), if_neg (by omega)]
            exact leT_trans h1 h2
theorem leT_anti : ∀ {a b : List Int}, leT a b = true → leT b a = true → a = b
  | [], [], _, _ => rfl
  | [], _ :: _, _, h => by unfold leT at h; cases h
  | _ :: _, [], h, _ => by unfold leT at h; cases h
  | x :: a, y :: b, h1, h2 => by
    unfold leT at h1 h2
    by_cases p1 : x < y
    · rw [if_neg (by omega), if_pos p1] at h2; cases h2
    · rw [if_neg p1] at h1
      by_cases p2 : y < x
      · rw [if_pos p2] at h1; cases h1
      · rw [if_neg p2] at h1
        rw [if_neg p2, if_neg p1] at h2
        rw [leT_anti h1 h2, show x = y by omega]
theorem ins1T_perm (i : List Int) : ∀ l, (ins1T i l).Perm (i :: l)
  | [] => .refl _
  | j :: l => by
    unfold ins1T
    split
    · exact .refl _
    · exact ((ins1T_perm i l).cons j).trans (.swap _ _ _)
theorem isortT_perm : ∀ l, (isortT l).Perm l
  | [] => .refl _
  | i :: l => (ins1T_perm i _).trans ((isortT_perm l).cons i)
theorem ins1T_pw {i : List Int} : ∀ {l}, l.Pairwise (fun a b => leT a b = true) → (ins1T i l).Pairwise (fun a b => leT a b = true)
  | [], _ => List.pairwise_singleton _ _
  | j :: l, h => by
    rw [List.pairwise_cons] at h
    unfold ins1T
    cases e : leT i j with
    | true =>
      rw [if_pos rfl]
      refine List.pairwise_cons.mpr ⟨fun x m => ?_, List.pairwise_cons.mpr h⟩
      rcases List.mem_cons.mp m with rfl | m
      · exact e
      · exact leT_trans e (h.1 x m)
    | false =>
      rw [if_neg (by decide)]
      refine List.pairwise_cons.mpr ⟨fun x m => ?_, ins1T_pw h.2⟩
      rcases List.mem_cons.mp ((ins1T_perm i l).mem_iff.mp m) with rfl | m
      · rcases leT_total x j with z | z
        · rw [e] at z; cases z
        · exact z
      · exact h.1 x m
theorem isortT_pw : ∀ l, (isortT l).Pairwise (fun a b => leT a b = true)
  | [] => .nil
  | i :: l => ins1T_pw (isortT_pw l)
theorem sorted_one : ∀ {l m : List (List Int)}, l.Pairwise (fun a b => leT a b = true) → m.Pairwise (fun a b => leT a b = true) → l.Perm m → l = m
  | [], m, _, _, p => by rw [List.nil_perm.mp p]
  | a :: l, [], _, _, p => by cases List.perm_nil.mp p
  | a :: l, b :: m, hl, hm, p => by
    rw [List.pairwise_cons] at hl hm
    have e : a = b := by
      rcases List.mem_cons.mp (p.mem_iff.mp List.mem_cons_self) with z | z
      · exact z
      · rcases List.mem_cons.mp (p.mem_iff.mpr (List.mem_cons_self (a := b) (l := m))) with y | y
        · exact y.symm
        · exact leT_anti (hl.1 b y) (hm.1 a z)
    subst e
    rw [sorted_one hl.2 hm.2 p.cons_inv]
/-! ### what is paired stays so behind an exchange -/
theorem paired_perm {α β : Type} {R : α → β → Prop} {ys xs : List α} (p : ys.Perm xs) : ∀ {ks : List β}, Paired R xs ks → ∃ ls, Paired R ys ls ∧ ls.Perm ks := by
  induction p with
  | nil => intro ks h; cases h; exact ⟨[], .nil, .refl _⟩
  | cons x p ih =>
    intro ks h
    cases h with
    | cons r t =>
      obtain ⟨ls, h1, h2⟩ := ih t
      exact ⟨_ :: ls, .cons r h1, h2.cons _⟩
  | swap x y l =>
    intro ks h
    cases h with
    | cons r t =>
      cases t with
      | cons r2 t => exact ⟨_, .cons r2 (.cons r t), .swap _ _ _⟩
  | trans p q ih1 ih2 =>
    intro ks h
    obtain ⟨ls, h1, h2⟩ := ih2 h
    obtain ⟨ms, h3, h4⟩ := ih1 h1
    exact ⟨ms, h3, h4.trans h2⟩
theorem paired_mem {α β : Type} {R : α → β → Prop} {xs : List α} {ks : List β} (h : Paired R xs ks) : ∀ {k : β}, k ∈ ks → ∃ x ∈ xs, R x k := by
  induction h with
  | nil => intro k m; cases m
  | cons r t ih =>
    intro k m
    rcases List.mem_cons.mp m with rfl | m
    · exact ⟨_, List.mem_cons_self, r⟩
    · obtain ⟨x, mx, q⟩ := ih m
      exact ⟨x, List.mem_cons_of_mem _ mx, q⟩
theorem paired_left {α β : Type} {R : α → β → Prop} {xs : List α} {ks : List β} (h : Paired R xs ks) : ∀ {x : α}, x ∈ xs → ∃ k ∈ ks, R x k := by
  induction h with
  | nil => intro k m; cases m
  | cons r t ih =>
    intro k m
    rcases List.mem_cons.mp m with rfl | m
    · exact ⟨_, List.mem_cons_self, r⟩
    · obtain ⟨x, mx, q⟩ := ih m
      exact ⟨x, List.mem_cons_of_mem _ mx, q⟩
theorem paired_pw {α β : Type} {R : α → β → Prop} {S : α → α → Prop} {S' : β → β → Prop} {xs : List α} {ks : List β} (f : ∀ x y k l, k ∈ ks → l ∈ ks → R x k → R y l → S x y → S' k l) (h : Paired R xs ks) (p : xs.Pairwise S) : ks.Pairwise S' := by
  induction h with
  | nil => exact .nil
  | cons r t ih =>
    rw [List.pairwise_cons] at p
    refine List.pairwise_cons.mpr ⟨fun l m => ?_, ih (fun x y k l mk ml => f x y k l (List.mem_cons_of_mem _ mk) (List.mem_cons_of_mem _ ml)) p.2⟩
    obtain ⟨y, my, q⟩ := paired_mem t m
    exact f _ y _ l List.mem_cons_self (List.mem_cons_of_mem _ m) r q (p.1 y my)
/-! ### the tuples -/
theorem tups_rel : ∀ {ds : List D} {ks : List (List Int)} {vs : List V}, tupsD ds = some ks → RelDs C μ H ds vs → Paired (fun v k => RelD C μ H (.tup (k.map D.int)) v ∧ k ≠ []) vs ks
  | [], ks, vs, e, r => by
    unfold tupsD at e
    cases e
    rw [r.nil_inv]
    exact .nil
  | d :: ds, ks, vs, e, r => by
    obtain ⟨v, vr, rfl, r1, r2⟩ := r.inv
    unfold tupsD at e
    cases e1 : keyT d with
    | none => rw [e1] at e; cases e
    | some k =>
      cases e2 : tupsD ds with
      | none => rw [e1, e2] at e; cases e
      | some ks' =>
        rw [e1, e2] at e
        cases e
        obtain ⟨xs, rfl, h1, h2⟩ := keyT_inv e1
        refine .cons ⟨by rw [← ints_map h2]; exact r1, fun z => ?_⟩ (tups_rel e2 r2)
        subst z
        unfold intT at h1
        rw [h2] at h1
        cases h1
theorem rel_tups : ∀ {ks : List (List Int)} {vs : List V}, Paired (fun v k => RelD C μ H (.tup (k.map D.int)) v ∧ k ≠ []) vs ks → RelDs C μ H (ks.map fun k => D.tup (k.map D.int)) vs
  | [], _, h => by cases h; exact .nil
  | k :: ks, _, h => by
    cases h with
    | cons r t => exact .cons r.1 (rel_tups t)
theorem tup_is {k : List Int} {v : V} (hK : X.K = C.K) (r : RelD C μ H (.tup (k.map D.int)) v) : TupI X.K H v k := by
  obtain ⟨a, vs, rfl, h1, z⟩ := relD_tup r
  refine ⟨a, rfl, ?_⟩
  have e : vs = k.map V.int := by
    have key : ∀ {is : List Int} {vs : List V}, RelDs C μ H (is.map D.int) vs → vs = is.map V.int := fun {is} => by
      induction is with
      | nil => intro vs r; exact r.nil_inv
      | cons i is ih =>
        intro vs r
        obtain ⟨v, vr, rfl, r1, r2⟩ := r.inv
        rw [relD_int.mp r1, ih r2]
        rfl
    exact key z
  rw [hK, ← e]
  exact h1
/-- all that is needed of the numbers -/
def most : List (List Int) → Int
  | [] => 1
  | k :: ks => k.foldr (fun i m => max m (i + 1)) (most ks)
theorem most_pos : ∀ ks, 1 ≤ most ks
  | [] => Int.le_refl _
  | k :: ks => by
    have : ∀ (l : List Int) (m : Int), 1 ≤ m → 1 ≤ l.foldr (fun i m => max m (i + 1)) m := fun l => by
      induction l with
      | nil => intro m h; exact h
      | cons i l ih => intro m h; have := ih m h; simp only [List.foldr_cons]; omega
    exact this k _ (most_pos ks)
theorem most_ge : ∀ {ks : List (List Int)} {k : List Int} {i : Int}, k ∈ ks → i ∈ k → i < most ks
  | [], _, _, m, _ => by cases m
  | l :: ks, k, i, m, mi => by
    have up : ∀ (l : List Int) (m : Int), m ≤ l.foldr (fun i m => max m (i + 1)) m := fun l => by
      induction l with
      | nil => intro m; exact Int.le_refl _
      | cons i l ih => intro m; have := ih m; simp only [List.foldr_cons]; omega
    have at_ : ∀ (l : List Int) (m : Int), i ∈ l → i < l.foldr (fun i m => max m (i + 1)) m := fun l => by
      induction l with
      | nil => intro m h; cases h
      | cons j l ih =>
        intro m h
        simp only [List.foldr_cons]
        rcases List.mem_cons.mp h with rfl | h
        · omega
        · have := ih m h; omega
    rcases List.mem_cons.mp m with rfl | m
    · exact at_ _ _ mi
    · exact Int.lt_of_lt_of_le (most_ge m mi) (up l _)
theorem sort_ok {Q : VK} {a : Addr} {ds : List D} {ks : List (List Int)} {vs : List V} (hK : X.K = C.K) (e : tupsD ds = some ks) (same : sameL ks = true) (pos : nonneg ks = true) (h64 : ks.length < 64) (hl : SqL C.K H a vs) (z : RelDs C μ H ds vs)
    (q : ∀ (ys : List V) (p : Addr), RelDs C μ H ((isortT ks).map fun k => D.tup (k.map D.int)) ys → H p = none → Q (.ref p) (upd H p (.lst ys))) {pins : List (Addr × Obj)} {s : Shared} {σ : St} {us : List Value} (I : L2.Inv X pins σ H s) (r : Vals [V.ref a] us) :
    wpAny (model X.prog X.w) X.A (call (.builtin "sorted") us) (EP X pins σ Q) X.xe s := by
  have pr := tups_rel e z
  have len : vs.length = ks.length := pr.length
  cases ks with
  | nil =>
    have e0 : vs = [] := List.eq_nil_of_length_eq_zero len
    subst e0
    refine cr_sortT (d := 1) (B := 1) (Nat.le_refl _) pins s σ H _ us Q I r ⟨a, [], rfl, hK ▸ hl, by decide, fun x m => (by cases m), fun ys p hp _ hn => ?_⟩
    rw [List.perm_nil.mp hp]
    exact q [] p .nil hn
  | cons k0 ks =>
    have bd : ∀ k ∈ k0 :: ks, k.length = k0.length ∧ TS.Bd (most (k0 :: ks)) k := fun k m => by
      refine ⟨?_, fun i mi => ⟨?_, most_ge m mi⟩⟩
      · rcases List.mem_cons.mp m with rfl | m
        · rfl
        · unfold sameL at same
          have := List.all_eq_true.mp same k m
          exact beq_iff_eq.mp this
      · unfold nonneg at pos
        exact of_decide_eq_true (List.all_eq_true.mp (List.all_eq_true.mp pos k m) i mi)
    have h0 : 1 ≤ k0.length := by
      cases pr with
      | cons r0 _ =>
        cases k0 with
        | nil => exact absurd rfl r0.2
        | cons _ _ => simp
    refine cr_sortT (d := k0.length) (B := most (k0 :: ks)) h0 pins s σ H _ us Q I r ⟨a, vs, rfl, hK ▸ hl, by rw [len]; exact h64, fun x m => ?_, fun ys p hp hw hn => ?_⟩
    · obtain ⟨k, mk, rk⟩ := paired_left pr m
      exact ⟨k, tup_is hK rk.1, bd k mk⟩
    · obtain ⟨ls, h1, h2⟩ := paired_perm hp pr
      have e2 : ls = isortT (k0 :: ks) := sorted_one (paired_pw (fun x y k l mk ml rk rl h => (code_leT ?_ (bd k (h2.mem_iff.mp mk)).2 (bd l (h2.mem_iff.mp ml)).2).mp (h k l (tup_is hK rk.1) (tup_is hK rl.1))) h1 hw) (isortT_pw _) (h2.trans (isortT_perm _).symm)
      · rw [← e2] at q
        exact q ys p (rel_tups h1) hn
      · rw [(bd k (h2.mem_iff.mp mk)).1, (bd l (h2.mem_iff.mp ml)).1]
end Ev
end

section
/-! EvOp3: built-in functions of values. -/
namespace Ev
open PySem L2
variable {C : Cn} {μ μ' : List Addr} {H H' : Hp} {M M' : Sto} {bs : List Nat} {v : V} {X : Cx} {W : XK} {Q : VK}
def rF (C : Cn) (b : BI) : List V → Hp → VK → Prop := fun xs H Q => ∃ bs W μ M ds, Rep C bs μ M H ∧ RelDs C μ H ds xs ∧ VP C bs W μ H (semBI b ds M) Q
def fvB : BI → Value
  | .len => .builtin "len"
  | .max2 => .builtin "max"
  | .min2 => .builtin "min"
  | .abs => .builtin "abs"
  | .int => .type "int"
  | .str => .type "str"
  | .repr => .builtin "repr"
  | .lst => .type "list"
  | .tup => .type "tuple"
  | .srt => .builtin "sorted"
  | .all => .builtin "all"
  | .any => .builtin "any"
  | .sum => .builtin "sum"
theorem ins1_perm (i : Int) : ∀ l : List Int, (ins1 i l).Perm (i :: l)
  | [] => .refl _
  | j :: js => by
    unfold ins1
    split
    · exact .refl _
    · exact ((ins1_perm i js).cons j).trans (.swap ..)
theorem isort_perm : ∀ l : List Int, (isort l).Perm l
  | [] => .refl _
  | i :: l => (ins1_perm i (isort l)).trans ((isort_perm l).cons i)
theorem ins1_pw (i : Int) : ∀ l : List Int, l.Pairwise (· ≤ ·) → (ins1 i l).Pairwise (· ≤ ·)
  | [], _ => by unfold ins1; simp
  | j :: js, h => by
    unfold ins1
    rw [List.pairwise_cons] at h
    split
    · rename_i hl
      rw [List.pairwise_cons]
      refine ⟨fun a ha => ?_, List.pairwise_cons.mpr h⟩
      rcases List.mem_cons.mp ha with rfl | ha
      · exact hl
      · exact Int.le_trans hl (h.1 a ha)
    · rename_i hl
      rw [List.pairwise_cons]
      refine ⟨fun a ha => ?_, ins1_pw i js h.2⟩
      rcases List.mem_cons.mp ((ins1_perm i js).mem_iff.mp ha) with rfl | ha
      · omega
      · exact h.1 a ha
theorem isort_pw : ∀ l : List Int, (isort l).Pairwise (· ≤ ·)
  | [] => by unfold isort; simp
  | i :: l => ins1_pw i _ (isort_pw l)
theorem one_inv {ds : List D} {xs : List V} (h : RelDs C μ H ds xs) {d : D} (e : ds = [d]) : ∃ v, xs = [v] ∧ RelD C μ H d v := by
  subst e
  obtain ⟨v, vr, rfl, r, z⟩ := h.inv
  rw [z.nil_inv]
  exact ⟨v, rfl, r⟩
/-- repr of data -/
theorem repr_sound (hK : X.K = C.K) (hu : X.A.units + 80 < cLine) (hg : X.A.guards = some []) {d : PyData} {vx : V} {u : Value} (hd : Dp C.K H vx d) (hs : d.showable = true) (hl : d.canLay0 = true) (hz : d.depth ≤ 64) (hn : d.shown.length + 64 ≤ cap)
    {pins : List (Addr × Obj)} {s : Shared} {σ : St} (I : L2.Inv X pins σ H s) (rx : RelV vx u) (q : Q (.str d.shown) H) : wpAny (model X.prog X.w) X.A (call (.builtin "repr") [u]) (EP X pins σ Q) X.xe s := by
  have hn' : d.shown.length ≤ sizeLine := by rw [sizeLine_eq]; unfold cap at hn; omega
  cases hd with
  | non =>
    cases rx
    exact PySem.P.repr_of_none ⟨.str _, H, I.tok _, ⟨_, rfl⟩, q⟩
  | bl b =>
    cases rx
    refine PySem.P.repr_of_bool ⟨.str _, H, I.tok _, ⟨_, rfl⟩, ?_⟩
    cases b <;> exact q
  | int i =>
    obtain ⟨t, rfl⟩ := rx
    exact PySem.P.repr_of_int (by simpa [PyData.showable] using hs) ⟨.str _, H, I.tok _, ⟨_, rfl⟩, q⟩
  | str x =>
    obtain ⟨t, rfl⟩ := rx
    exact PySem.P.repr_of_str ⟨.str _, H, I.tok _, ⟨_, rfl⟩, q⟩ hn'
  | lst h1 h2 =>
    obtain ⟨as, rd⟩ := Dp.reads I _ _ _ (hK ▸ Dp.lst h1 h2) rx
    cases rx
    exact repr_of_reads' rd hs (PyData.noDict_hsm (PyData.hasDict_of_canLay _ hl)) hg (by omega) (fun _ _ e => e) (fun h' u' tk hk => ⟨.str _, H, I.kept hk, ⟨_, rfl⟩, q⟩) hn'
  | tup h1 h2 =>
    obtain ⟨as, rd⟩ := Dp.reads I _ _ _ (hK ▸ Dp.tup h1 h2) rx
    cases rx
    exact repr_of_reads' rd hs (PyData.noDict_hsm (PyData.hasDict_of_canLay _ hl)) hg (by omega) (fun _ _ e => e) (fun h' u' tk hk => ⟨.str _, H, I.kept hk, ⟨_, rfl⟩, q⟩) hn'
theorem call_repr1 (hK : X.K = C.K) (hu : X.A.units + 80 < cLine) (hg : X.A.guards = some []) {d : D} {vx : V} (R : Rep C bs μ M H) (r1 : RelD C μ H d vx) (p : VP C bs W μ H (semB1 .repr d M) Q)
    {pins : List (Addr × Obj)} {s : Shared} {σ : St} {u : Value} (I : L2.Inv X pins σ H s) (ru : RelV vx u) : wpAny (model X.prog X.w) X.A (call (.builtin "repr") [u]) (EP X pins σ Q) X.xe s := by
  dsimp only [semB1] at p
  cases e : reprD M d with
  | none => rw [e] at p; exact p.elim
  | some t =>
    rw [e] at p
    have hQ : Q (.str ⟨t.toArray⟩) H := p.at R (relD_str.mpr rfl)
    unfold reprD at e
    cases e1 : py M MX d with
    | some pd =>
      rw [e1] at e
      dsimp only at e
      cases e2 : (pd.showable && Nat.ble (pd.shown.length + 64) cap) with
      | false => rw [e2] at e; cases e
      | true =>
        rw [e2] at e
        cases e
        rw [Bool.and_eq_true] at e2
        obtain ⟨dp, sh⟩ := py_dp R e1 r1
        exact repr_sound hK hu hg dp e2.1 sh.lay (Nat.le_trans sh.dep (by unfold MX; omega)) (Nat.le_of_ble_eq_true e2.2) I ru hQ
    | none =>
      rw [e1] at e
      cases d with
      | loc n =>
        dsimp only at e
        cases e2 : M[n]? with
        | none => rw [e2] at e; cases e
        | some o =>
          rw [e2] at e
          cases o with
          | dct kvs =>
            cases kvs with
            | cons _ _ => cases e
            | nil =>
              cases e
              obtain ⟨a, ea, rfl⟩ := relD_loc.mp r1
              obtain ⟨_, hH, _⟩ := R.at ea e2
              obtain ⟨z1, z2, vs, rk, o, es, ep, ho, hx, hdat, hko, hpr, hnd⟩ := (show ObjOk X.prog X.w H s.heap a (.dK []) from I.hok a _ hH)
              cases ru
              have hvs : vs = [] := by
                cases rk
                rfl
              subst hvs
              have hnil : es.toList = [] := by
                cases hq : es.toList with
                | nil => rfl
                | cons a l => rw [hq] at hpr; cases hpr
              have rd : Reads s.heap (.ref a) (.dict []) (a :: [] ++ []) := .dict ho hx.1 hdat (by rw [hnil]; exact .nil) (by rw [hnil]; exact .nil)
              refine repr_of_reads' rd (by rfl) (fun _ hm => ?_) hg (by simp only [PyData.depth, PyData.depthKv]; omega) (fun _ _ e => e) (fun h' u' tk hk => ⟨.str _, H, I.kept hk, ⟨_, rfl⟩, ?_⟩) (by decide +kernel)
              · simp at hm
                rw [← hm] at z2
                simp at z2
              · exact hQ
          | _ => cases e
      | _ => cases e
theorem lenD_inv {d : D} {n : Nat} (h : lenD M d = some n) : (∃ s, d = .str s ∧ s.length ≤ cap ∧ n = s.length) ∨ ∃ ys, itemsOf M d = some ys ∧ n = ys.length := by
  unfold lenD at h
  cases d with
  | str s =>
    dsimp only at h
    by_cases hl : s.length ≤ cap
    · rw [if_pos hl] at h; cases h; exact .inl ⟨s, rfl, hl, rfl⟩
    · rw [if_neg hl] at h; cases h
  | _ =>
    dsimp only at h
    cases e : itemsOf M _ with
    | none => rw [e] at h; cases h
    | some ys => rw [e] at h; cases h; exact .inr ⟨ys, rfl, rfl⟩
theorem onInts_inv {o : Option (List D)} {f : List Int → Out D} (h : VP C bs W μ H (onInts o f) Q) : ∃ ys is, o = some ys ∧ intsD ys = some is ∧ VP C bs W μ H (f is) Q := by
  unfold onInts at h
  cases o with
  | none => exact h.elim
  | some ys =>
    dsimp only at h
    cases e : intsD ys with
    | none => rw [e] at h; exact h.elim
    | some is => rw [e] at h; exact ⟨ys, is, rfl, e, h⟩
theorem onBools_inv {o : Option (List D)} {f : List Bool → Out D} (h : VP C bs W μ H (onBools o f) Q) : ∃ ys is, o = some ys ∧ boolsD ys = some is ∧ VP C bs W μ H (f is) Q := by
  unfold onBools at h
  cases o with
  | none => exact h.elim
  | some ys =>
    dsimp only at h
    cases e : boolsD ys with
    | none => rw [e] at h; exact h.elim
    | some is => rw [e] at h; exact ⟨ys, is, rfl, e, h⟩
theorem call_rF1 (hK : X.K = C.K) (hc : X.calm = true) (hu : X.A.units + 80 < cLine) (hg : X.A.guards = some []) (b : BI) {d : D} {vx : V} (R : Rep C bs μ M H) (r2 : RelD C μ H d vx) (p : VP C bs W μ H (semB1 b d M) Q)
    {pins : List (Addr × Obj)} {s : Shared} {σ : St} {us : List Value} (I : L2.Inv X pins σ H s) (r : Vals [vx] us) : wpAny (model X.prog X.w) X.A (call (fvB b) us) (EP X pins σ Q) X.xe s := by
  cases b with
  | repr =>
    obtain ⟨u, rfl, ru⟩ := Vals.one r
    exact call_repr1 hK hu hg R r2 p I ru
  | max2 => exact p.elim
  | min2 => exact p.elim
  | abs =>
    cases d with
    | int i =>
      cases relD_int.mp r2
      exact call_abs pins s σ H _ us Q I r ⟨i, rfl, p.at R (relD_int.mpr rfl)⟩
    | _ => exact p.elim
  | int =>
    cases d with
    | int i =>
      cases relD_int.mp r2
      exact call_int1 pins s σ H _ us Q I r (.inl ⟨i, rfl, p.at R (relD_int.mpr rfl)⟩)
    | bl i =>
      cases relD_bl.mp r2
      exact call_int1 pins s σ H _ us Q I r (.inr ⟨i, rfl, p.at R (relD_int.mpr rfl)⟩)
    | _ => exact p.elim
  | str =>
    cases d with
    | int i =>
      cases relD_int.mp r2
      dsimp only [semB1] at p
      by_cases hl : i.natAbs.log2 < 1920
      · rw [if_pos hl] at p
        exact call_str_int pins s σ H _ us Q I r ⟨i, rfl, hl, p.at R (relD_str.mpr (by simp))⟩
      · rw [if_neg hl] at p; exact p.elim
    | _ => exact p.elim
  | len =>
    dsimp only [semB1] at p
    cases e : lenD M d with
    | none => rw [e] at p; exact p.elim
    | some n =>
      rw [e] at p
      have hQ : Q (.int (n : Nat)) H := p.at R (relD_int.mpr rfl)
      rcases lenD_inv e with ⟨t, rfl, hl, rfl⟩ | ⟨ys, hi, rfl⟩
      · cases relD_str.mp r2
        exact call_len_str pins s σ H _ us Q I r ⟨_, rfl, by rw [len_arr, sizeLine_eq]; exact hl, by rw [len_arr]; exact hQ⟩
      · obtain ⟨a, vs, rfl, h1, z⟩ := items_inv R hi r2
        exact call_len_seq pins s σ H _ us Q I r ⟨a, vs, rfl, hK ▸ h1, by rw [← z.length]; exact hQ⟩
  | lst =>
    dsimp only [semB1] at p
    cases e : itemsOf M d with
    | none => rw [e] at p; exact p.elim
    | some ys =>
      rw [e] at p
      obtain ⟨a, vs, rfl, h1, z⟩ := items_inv R e r2
      exact call_list_of pins s σ H _ us Q I r ⟨a, vs, rfl, hK ▸ h1, fun l hl => VP.newL p R z hl⟩
  | tup =>
    dsimp only [semB1] at p
    cases e : itemsOf M d with
    | none => rw [e] at p; exact p.elim
    | some ys =>
      rw [e] at p
      obtain ⟨a, vs, rfl, h1, z⟩ := items_invT R e r2
      refine call_tupF pins s σ H _ us Q I r ⟨a, vs, rfl, ?_⟩
      rcases h1 with h1 | h1
      · exact .inl ⟨hK ▸ h1, VP.newT p R z⟩
      · obtain ⟨h1, rfl⟩ := h1
        exact .inr ⟨hK ▸ h1, p.at R r2⟩
  | srt =>
    dsimp only [semB1] at p
    cases e : listOf M d with
    | none => rw [e] at p; exact p.elim
    | some ys =>
      rw [e] at p
      dsimp only at p
      obtain ⟨a, vs, rfl, h1, z⟩ := list_inv R e r2
      cases e2 : intsD ys with
      | some is =>
        rw [e2] at p
        refine cr_sortedI pins s σ H _ us Q I r ⟨a, is, rfl, hK ▸ (ints_rel e2 z ▸ h1), fun ns' l hp hw hl => ?_⟩
        rw [PySem.W.ksm_same (hp.trans (isort_perm is).symm) hw (isort_pw is)]
        exact VP.newL p R (relDs_int _) hl
      | none =>
        rw [e2] at p
        dsimp only at p
        cases e3 : tupsD ys with
        | none => rw [e3] at p; exact p.elim
        | some ks =>
          rw [e3] at p
          dsimp only at p
          cases e4 : (sameL ks && nonneg ks && Nat.blt ks.length 64) with
          | false => rw [e4] at p; exact p.elim
          | true =>
            rw [e4] at p
            simp only [Bool.and_eq_true] at e4
            exact sort_ok hK e3 e4.1.1 e4.1.2 (Nat.le_of_ble_eq_true e4.2) h1 z (fun zs l rz hl => VP.newL p R rz hl) I r
  | all =>
    obtain ⟨ys, is, e, e2, p⟩ := onBools_inv p
    obtain ⟨a, vs, rfl, h1, z⟩ := list_inv R e r2
    exact cr_all hc pins s σ H _ us Q I r ⟨a, is, rfl, hK ▸ (bools_rel e2 z ▸ h1), p.at R (relD_bl.mpr rfl)⟩
  | any =>
    obtain ⟨ys, is, e, e2, p⟩ := onBools_inv p
    obtain ⟨a, vs, rfl, h1, z⟩ := list_inv R e r2
    exact cr_any hc pins s σ H _ us Q I r ⟨a, is, rfl, hK ▸ (bools_rel e2 z ▸ h1), p.at R (relD_bl.mpr rfl)⟩
  | sum =>
    obtain ⟨ys, is, e, e2, p⟩ := onInts_inv p
    obtain ⟨a, vs, rfl, h1, z⟩ := list_inv R e r2
    exact cr_sum hc pins s σ H _ us Q I r ⟨a, is, rfl, hK ▸ (ints_rel e2 z ▸ h1), p.at R (relD_int.mpr rfl)⟩
theorem call_rF (hK : X.K = C.K) (hc : X.calm = true) (hu : X.A.units + 80 < cLine) (hg : X.A.guards = some []) (b : BI) : CallR X (fvB b) (rF C b) := by
  intro pins s σ H xs us Q I r h
  obtain ⟨bs, W, μ, M, ds, R, rd, p⟩ := h
  cases ds with
  | nil => exact p.elim
  | cons d dr =>
    obtain ⟨v, vr, rfl, r1, rd⟩ := rd.inv
    cases dr with
    | nil =>
      cases rd.nil_inv
      exact call_rF1 hK hc hu hg b R r1 p I r
    | cons d2 dr =>
      obtain ⟨v2, vr, rfl, r2, rd⟩ := rd.inv
      cases dr with
      | cons _ _ => exact p.elim
      | nil =>
        cases rd.nil_inv
        have p' : VP C bs W μ H (semB2 b d d2 M) Q := p
        cases b with
        | max2 =>
          cases d with
          | int i =>
            cases d2 with
            | int j =>
              cases relD_int.mp r1
              cases relD_int.mp r2
              exact call_max2 hc pins s σ H _ us Q I r ⟨i, j, rfl, p'.at R (relD_int.mpr rfl)⟩
            | _ => exact p'.elim
          | _ => exact p'.elim
        | min2 =>
          cases d with
          | int i =>
            cases d2 with
            | int j =>
              cases relD_int.mp r1
              cases relD_int.mp r2
              exact call_min2 hc pins s σ H _ us Q I r ⟨i, j, rfl, p'.at R (relD_int.mpr rfl)⟩
            | _ => exact p'.elim
          | _ => exact p'.elim
        | _ => exact p'.elim
end Ev
end

section
/-! EvOp4: methods of built-in types, subscripts, slices, isinstance, truth. -/
namespace Ev
open PySem L2
variable {C : Cn} {μ μ' : List Addr} {H H' : Hp} {M M' : Sto} {bs : List Nat} {v : V} {X : Cx} {W : XK} {Q : VK} {b : Nat}
theorem lstAt_inv {o : D} {n : Nat} {xs : List D} (h : lstAt M o = some (n, xs)) : o = .loc n ∧ M[n]? = some (.lst xs) := by
  unfold lstAt at h
  cases o with
  | loc m =>
    dsimp only at h
    cases e : M[m]? with
    | none => rw [e] at h; cases h
    | some ob =>
      rw [e] at h
      cases ob with
      | lst ys => cases h; exact ⟨rfl, e⟩
      | _ => cases h
  | _ => cases h
theorem onL_inv {o : D} {f : Nat → List D → Out D} (h : VP C bs W μ H (onL M o f) Q) : ∃ n xs, o = .loc n ∧ M[n]? = some (.lst xs) ∧ VP C bs W μ H (f n xs) Q := by
  unfold onL at h
  cases e : lstAt M o with
  | none => rw [e] at h; exact h.elim
  | some p =>
    obtain ⟨n, xs⟩ := p
    rw [e] at h
    obtain ⟨e1, e2⟩ := lstAt_inv e
    exact ⟨n, xs, e1, e2, h⟩
theorem may_rel {n : Nat} {y : D} (h : may b n y = true) (hb : ∀ c ∈ bs, c ≤ b) (R : Rep C bs μ M H) {c : Nat} (hc : (c ∈ bs ∧ n < c) ∨ c = μ.length) (r : RelD C μ H y v) : RelD C (μ.take c) H y v := by
  rcases hc with ⟨h1, h2⟩ | rfl
  · unfold may at h
    rw [Bool.or_eq_true] at h
    rcases h with h | h
    · have := Nat.le_of_ble_eq_true h
      have := hb c h1
      omega
    · exact r.flat h
  · rw [List.take_length]; exact r
theorem mays_rel {n : Nat} {y : List D} {vs : List V} (h : mays b n y = true) (hb : ∀ c ∈ bs, c ≤ b) (R : Rep C bs μ M H) {c : Nat} (hc : (c ∈ bs ∧ n < c) ∨ c = μ.length) (r : RelDs C μ H y vs) : RelDs C (μ.take c) H y vs := by
  rcases hc with ⟨h1, h2⟩ | rfl
  · unfold mays at h
    rw [Bool.or_eq_true] at h
    rcases h with h | h
    · have := Nat.le_of_ble_eq_true h
      have := hb c h1
      omega
    · exact r.flat h
  · rw [List.take_length]; exact r
/-- a list in the store is stored anew -/
theorem Rep.putL (R : Rep C bs μ M H) {n : Nat} {a : Addr} {xs ys : List D} {vs ws : List V} (e : μ[n]? = some a) (q : M[n]? = some (.lst xs)) (h : H a = some (.lst vs))
    (f : ∀ c, (c ∈ bs ∧ n < c) ∨ c = μ.length → RelDs C (μ.take c) H xs vs → RelDs C (μ.take c) H ys ws) : Rep C bs μ (M.set n (.lst ys)) (upd H a (.lst ws)) := by
  refine R.put e fun c hc => ⟨ws, upd_same, ?_⟩
  obtain ⟨vs', h', z⟩ := R.ob n a _ e q c hc
  rw [h] at h'
  cases h'
  exact (f c hc z).mono (List.prefix_refl _) (.put (by rw [h]; trivial))
theorem mutL {a : Addr} {vs : List V} (h : H a = some (.lst vs)) : Mut (H a) := by rw [h]; trivial
def rM (C : Cn) (m : MT) : V → List V → Hp → VK → Prop := fun x xs H Q => ∃ bs W μ M b d ds, (∀ c ∈ bs, c ≤ b) ∧ Rep C bs μ M H ∧ RelD C μ H d x ∧ RelDs C μ H ds xs ∧ VP C bs W μ H (semM m d ds b M) Q
def idM : MT → String
  | .append => "list.append"
  | .extend => "list.extend"
  | .pop => "list.pop"
  | .popAt => "list.pop"
  | .insert => "list.insert"
  | .count => "list.count"
  | .index => "list.index"
  | .clear => "list.clear"
  | .join => "str.join"
def tyM : MT → String
  | .join => "str"
  | _ => "list"
theorem firstAt_inv {p : D → Bool} : ∀ {ys : List D} {n j : Nat}, firstAt p ys n = some j → n ≤ j ∧ (∃ y, ys[j - n]? = some y ∧ p y = true) ∧ ∀ m y, m < j - n → ys[m]? = some y → p y = false
  | [], n, j, h => by unfold firstAt at h; cases h
  | y :: ys, n, j, h => by
    unfold firstAt at h
    cases e : p y with
    | true =>
      rw [e] at h
      cases h
      exact ⟨Nat.le_refl _, ⟨y, by simp, e⟩, fun m y hm => by omega⟩
    | false =>
      rw [e] at h
      obtain ⟨h1, ⟨z, h2, h3⟩, h4⟩ := firstAt_inv (n := n + 1) h
      refine ⟨by omega, ⟨z, ?_, h3⟩, fun m w hm hw => ?_⟩
      · have : j - n = (j - (n + 1)) + 1 := by omega
        rw [this]
        simpa using h2
      · cases m with
        | zero => simp at hw; subst hw; exact e
        | succ m => exact h4 m w (by omega) (by simpa using hw)
theorem strJoin_D (S : List Nat) : ∀ ts : List (List Nat), Str.join (toS S) (ts.map toS) = toS (joinD S ts)
  | [] => rfl
  | [_] => rfl
  | p :: q :: r => by
    show toS p ++ toS S ++ Str.join (toS S) ((q :: r).map toS) = toS (p ++ S ++ joinD S (q :: r))
    rw [strJoin_D S (q :: r)]
    show ((⟨p.toArray⟩ : Str) ++ (⟨S.toArray⟩ : Str)) ++ (⟨(joinD S (q :: r)).toArray⟩ : Str) = _
    rw [app_str, app_str]
    rfl
theorem txtJoin_D (S : List Nat) (ts : List (List Nat)) : Txt.join (toS S) (ts.map toS) = toS (joinD S ts) := by
  rw [← strJoin_D]
  exact StrLaws.glued_eq_join _ _
theorem sum_lens (ts : List (List Nat)) : ((ts.map toS).map (·.length)).sum = (ts.map List.length).sum := by
  rw [List.map_map]
  congr 1
theorem mt_rM (hK : X.K = C.K) (m : MT) : MtR X (idM m) (rM C m) := by
  intro pins s σ H x xs v us Q I rx rxs h
  obtain ⟨bs, W, μ, M, b, d, ds, hb, R, r, rs, p⟩ := h
  cases ds with
  | nil =>
    cases rs.nil_inv
    have p : VP C bs W μ H (semM0 m d M) Q := p
    cases m with
    | pop =>
      obtain ⟨n, ys, rfl, e, p⟩ := onL_inv p
      obtain ⟨a, vs, rfl, ea, h, z⟩ := R.lst e r
      cases e2 : ys[ys.length - 1]? with
      | none => rw [e2] at p; exact p.elim
      | some y =>
        rw [e2] at p
        obtain ⟨w, hw, rw'⟩ := z.get e2
        have hl := z.length
        refine mt_pop pins s σ H _ _ v us Q I rx rxs ⟨a, vs, w, rfl, rfl, h, by rw [← hl]; exact hw, ?_⟩
        refine p.on (Le.put (List.mem_of_getElem? ea) (mutL h)) (R.putL (ws := vs.dropLast) ea e h fun c hc z' => ?_) (rw'.le (Le.put (List.mem_of_getElem? ea) (mutL h)))
        rw [List.dropLast_eq_take, List.dropLast_eq_take, hl]
        exact z'.take _
    | clear =>
      obtain ⟨n, ys, rfl, e, p⟩ := onL_inv p
      obtain ⟨a, vs, rfl, ea, h, z⟩ := R.lst e r
      exact mt_clear pins s σ H _ _ v us Q I rx rxs ⟨a, vs, rfl, rfl, h, p.on (Le.put (List.mem_of_getElem? ea) (mutL h)) (R.putL ea e h fun c hc z' => .nil) (relD_non.mpr rfl)⟩
    | _ => exact p.elim
  | cons d1 ds =>
    obtain ⟨w1, wr, rfl, r1, rs⟩ := rs.inv
    cases ds with
    | nil =>
      cases rs.nil_inv
      have p : VP C bs W μ H (semM1 m d d1 b M) Q := p
      cases m with
      | append =>
        obtain ⟨n, ys, rfl, e, p⟩ := onL_inv p
        obtain ⟨a, vs, rfl, ea, h, z⟩ := R.lst e r
        by_cases hl : ys.length < cap
        · rw [if_pos hl] at p
          cases hm : may b n d1 with
          | false => rw [hm] at p; exact p.elim
          | true =>
            rw [hm] at p
            refine mt_append pins s σ H _ _ v us Q I rx rxs ⟨a, vs, w1, rfl, rfl, h, by rw [← z.length, sizeLine_eq]; exact hl, ?_⟩
            exact p.on (Le.put (List.mem_of_getElem? ea) (mutL h)) (R.putL ea e h fun c hc z' => z'.app (.cons (may_rel hm hb R hc r1) .nil)) (relD_non.mpr rfl)
        · rw [if_neg hl] at p; exact p.elim
      | extend =>
        obtain ⟨n, ys, rfl, e, p⟩ := onL_inv p
        obtain ⟨n2, zs, rfl, e2, p⟩ := onL_inv p
        obtain ⟨a, vs, rfl, ea, h, z⟩ := R.lst e r
        obtain ⟨a2, ws, rfl, ea2, h2, z2⟩ := R.lst e2 r1
        by_cases hl : ys.length + zs.length ≤ cap
        · rw [if_pos hl] at p
          cases hm : mays b n zs with
          | false => rw [hm] at p; exact p.elim
          | true =>
            rw [hm] at p
            refine mt_extend pins s σ H _ _ v us Q I rx rxs ⟨a, a2, vs, ws, rfl, rfl, h, h2, by rw [← z.length, ← z2.length, sizeLine_eq]; exact hl, ?_⟩
            exact p.on (Le.put (List.mem_of_getElem? ea) (mutL h)) (R.putL ea e h fun c hc z' => z'.app (mays_rel hm hb R hc z2)) (relD_non.mpr rfl)
        · rw [if_neg hl] at p; exact p.elim
      | popAt =>
        cases d1 with
        | int i =>
          cases relD_int.mp r1
          obtain ⟨n, ys, rfl, e, p⟩ := onL_inv p
          obtain ⟨a, vs, rfl, ea, h, z⟩ := R.lst e r
          unfold popAt at p
          by_cases hl : -9223372036854775808 ≤ i ∧ i < 9223372036854775808
          · rw [if_pos hl] at p
            cases e2 : ixN ys.length i with
            | none => rw [e2] at p; exact p.elim
            | some k =>
              rw [e2] at p
              dsimp only at p
              cases e3 : ys[k]? with
              | none => rw [e3] at p; exact p.elim
              | some y =>
                rw [e3] at p
                obtain ⟨w, hw, rw'⟩ := z.get e3
                refine mt_popAt pins s σ H _ _ v us Q I rx rxs ⟨a, vs, i, k, w, rfl, rfl, h, by have := hl.1; omega, by have := hl.2; omega, by rw [← z.length]; exact (ixN_seq e2).1, hw, ?_⟩
                exact p.on (Le.put (List.mem_of_getElem? ea) (mutL h)) (R.putL ea e h fun c hc z' => z'.erase k) (rw'.le (Le.put (List.mem_of_getElem? ea) (mutL h)))
          · rw [if_neg hl] at p; exact p.elim
        | _ => exact p.elim
      | count =>
        cases d1 with
        | int i =>
          cases relD_int.mp r1
          obtain ⟨ys, is, e, e2, p⟩ := onInts_inv p
          obtain ⟨a, vs, rfl, h1, z⟩ := list_inv R e r
          exact mt_lcount pins s σ H _ _ v us Q I rx rxs ⟨a, is, i, rfl, rfl, hK ▸ (ints_rel e2 z ▸ h1), p.at R (relD_int.mpr rfl)⟩
        | _ => exact p.elim
      | index =>
        dsimp only [semM1] at p
        cases e : listOf M d with
        | none => rw [e] at p; exact p.elim
        | some ys =>
          rw [e] at p
          dsimp only at p
          cases ha : (atom d1 && ys.all atom) with
          | false => rw [ha] at p; exact p.elim
          | true =>
            rw [ha] at p
            dsimp only at p
            cases ef : firstAt (fun z => eqA z d1) ys 0 with
            | none => rw [ef] at p; exact p.elim
            | some j =>
              rw [ef] at p
              rw [Bool.and_eq_true] at ha
              obtain ⟨a, vs, rfl, h1, z⟩ := list_inv R e r
              obtain ⟨_, ⟨y, hy, hp⟩, hno⟩ := firstAt_inv ef
              rw [Nat.sub_zero] at hy hno
              obtain ⟨w, hw, rw'⟩ := z.get hy
              obtain ⟨f1, _⟩ := any_atoms ha.1 r1 ha.2 z
              have ay : ∀ {m : Nat} {y : D}, ys[m]? = some y → atom y = true := fun hm => List.all_eq_true.mp ha.2 _ (List.mem_of_getElem? hm)
              refine mt_index pins s σ H _ _ v us Q I rx rxs ⟨a, vs, w1, j, w, rfl, rfl, hK ▸ h1, atom_flatV ha.1 r1, f1, hw, ?_, fun m z' hm hz => ?_, p.at R (relD_int.mpr rfl)⟩
              · rw [eqA_eqV (ay hy) ha.1 rw' r1]; exact hp
              · have hlt : m < ys.length := by rw [z.length]; exact (List.getElem?_eq_some_iff.mp hz).1
                obtain ⟨w', hw', rr⟩ := z.get (List.getElem?_eq_getElem hlt)
                rw [hz] at hw'
                cases hw'
                rw [eqA_eqV (ay (List.getElem?_eq_getElem hlt)) ha.1 rr r1]
                exact hno m _ hm (List.getElem?_eq_getElem hlt)
      | join =>
        cases d with
        | str S =>
          cases relD_str.mp r
          dsimp only [semM1] at p
          cases e : itemsOf M d1 with
          | none => rw [e] at p; exact p.elim
          | some ys =>
            rw [e] at p
            dsimp only at p
            cases e2 : strsD ys with
            | none => rw [e2] at p; exact p.elim
            | some ts =>
              rw [e2] at p
              dsimp only at p
              by_cases hl : (ts.map List.length).sum + ts.length * S.length ≤ cap
              · rw [if_pos hl] at p
                obtain ⟨a, vs, rfl, h1, z⟩ := items_inv R e r1
                have hv := strs_rel e2 z
                subst hv
                refine mt_join pins s σ H _ _ v us Q I rx rxs ⟨toS S, a, ts.map toS, rfl, rfl, hK ▸ h1, ?_, ?_⟩
                · rw [sum_lens, List.length_map, show (toS S).length = S.length from len_arr S]
                  exact hl
                · rw [txtJoin_D]
                  exact p.at R (relD_str.mpr rfl)
              · rw [if_neg hl] at p; exact p.elim
        | _ => exact p.elim
      | _ => exact p.elim
    | cons d2 ds =>
      obtain ⟨w2, wr, rfl, r2, rs⟩ := rs.inv
      cases ds with
      | cons _ _ => exact p.elim
      | nil =>
        cases rs.nil_inv
        have p : VP C bs W μ H (semM2 m d d1 d2 b M) Q := p
        cases m with
        | insert =>
          cases d1 with
          | int i =>
            cases relD_int.mp r1
            obtain ⟨n, ys, rfl, e, p⟩ := onL_inv p
            obtain ⟨a, vs, rfl, ea, h, z⟩ := R.lst e r
            by_cases hl : ys.length < cap ∧ 0 ≤ i ∧ i < 9223372036854775808
            · rw [if_pos hl] at p
              cases hm : may b n d2 with
              | false => rw [hm] at p; exact p.elim
              | true =>
                rw [hm] at p
                refine mt_insert pins s σ H _ _ v us Q I rx rxs ⟨a, vs, i, w2, rfl, rfl, h, by rw [← z.length, sizeLine_eq]; exact hl.1, hl.2.1, by have := hl.2.2; omega, ?_⟩
                exact p.on (Le.put (List.mem_of_getElem? ea) (mutL h)) (R.putL ea e h fun c hc z' => ((z'.take _).app (.cons (may_rel hm hb R hc r2) .nil)).app (z'.drop _)) (relD_non.mpr rfl)
            · rw [if_neg hl] at p; exact p.elim
          | _ => exact p.elim
        | _ => exact p.elim
end Ev
end

section
/-! EvOp5: subscripts, slices, stores at a place, truth, isinstance. -/
namespace Ev
open PySem L2
variable {C : Cn} {μ μ' : List Addr} {H H' : Hp} {M M' : Sto} {bs : List Nat} {v : V} {X : Cx} {W : XK} {Q : VK} {b : Nat}
theorem atI_rel {xs : List D} {vs : List V} {i : Int} {d : D} (z : RelDs C μ H xs vs) (h : atI xs i = some d) : ∃ w, atI vs i = some w ∧ RelD C μ H d w := by
  unfold atI at *
  rw [← z.length]
  cases e : ixN xs.length i with
  | none => rw [e] at h; cases h
  | some k =>
    rw [e] at h
    exact z.get h
def rIxE (C : Cn) : R2 := fun x y H Q => ∃ bs μ M dx dy d, Rep C bs μ M H ∧ RelD C μ H dx x ∧ RelD C μ H dy y ∧ semIx M dx dy = some d ∧ ∀ v, RelD C μ H d v → Q v H
theorem ix_rIxE (hK : X.K = C.K) (hu : X.A.units + 65 < cLine) : IxR X (rIxE C) := by
  intro value slice pins s σ H x y v u Q I rx ry h hs
  obtain ⟨bs, μ, M, dx, dy, d, R, r1, r2, e, q⟩ := h
  have dic : ∀ k, dIx M dx k = some d → y = kV k.key → wpAny (model X.prog X.w) X.A (PyProof.Rows.subscriptTail value slice v u) (EP X pins σ Q) X.xe s := fun k e ey => by
    subst ey
    unfold dIx at e
    cases ed : dctAt M dx with
    | none => rw [ed] at e; cases e
    | some kvs =>
      rw [ed] at e
      obtain ⟨a, o, rfl, isd, g, g1, _⟩ := dct_get R ed r1 k
      obtain ⟨w, rfl, rw'⟩ := g1 d e
      cases rx
      exact PyProof.Rows.tail_any (isD_at I isd).1 PySem.F.slot_dict_getitem.lookup (d_getItem (by omega) I g ry fun w' s3 I3 rw3 => ⟨w, H, I3, rw3, q w rw'⟩) hs
  cases dy with
  | int i =>
    cases relD_int.mp r2
    have other : ∀ xs, itemsOf M dx = some xs → atI xs i = some d → wpAny (model X.prog X.w) X.A (PyProof.Rows.subscriptTail value slice v u) (EP X pins σ Q) X.xe s := fun xs hi e => by
      obtain ⟨a, vs, rfl, h1, z⟩ := items_inv R hi r1
      obtain ⟨w, hw, rw'⟩ := atI_rel z e
      refine ix_seq value slice pins s σ H _ _ v u Q I rx ry ?_ hs
      rcases h1 with h1 | h1
      · exact .inl ⟨a, vs, i, w, rfl, rfl, hK ▸ h1, hw, q w rw'⟩
      · exact .inr (.inl ⟨a, vs, i, w, rfl, rfl, hK ▸ h1, hw, q w rw'⟩)
    cases dx with
    | str t =>
      cases relD_str.mp r1
      dsimp only [semIx] at e
      cases e1 : Nat.ble t.length cap with
      | false => rw [e1] at e; cases e
      | true =>
        cases e2 : atI t i with
        | none => rw [e1, e2] at e; cases e
        | some c =>
          rw [e1, e2] at e
          cases e
          exact ix_seq value slice pins s σ H _ _ v u Q I rx ry (.inr (.inr ⟨⟨t.toArray⟩, i, c, rfl, rfl, by rw [len_arr, sizeLine_eq]; exact Nat.le_of_ble_eq_true e1, by simpa using e2, q _ (relD_str.mpr rfl)⟩)) hs
    | tup xs => exact other xs rfl e
    | frz xs => exact other xs rfl e
    | loc n =>
      dsimp only [semIx] at e
      cases e1 : itemsOf M (.loc n) with
      | none => rw [e1] at e; exact dic (.n i) e rfl
      | some xs => rw [e1] at e; exact other xs e1 e
    | non => cases e
    | bl _ => cases e
    | int _ => cases e
    | fn _ => cases e
  | str t =>
    dsimp only [semIx] at e
    cases relD_str.mp r2
    exact dic (.s t) e rfl
  | tup ys =>
    dsimp only [semIx] at e
    cases ed : dctTAt M dx with
    | none => rw [ed] at e; cases e
    | some kvs =>
      cases ek : keyT (.tup ys) with
      | none => rw [ed, ek] at e; cases e
      | some k =>
        rw [ed, ek] at e
        obtain ⟨kb, rfl, hkb⟩ := keyT_rel ek r2
        obtain ⟨a, o, rfl, isd, g, g1, _⟩ := dctT_get R ed r1 hkb
        obtain ⟨w, rfl, rw'⟩ := g1 d e
        cases rx
        exact PyProof.Rows.tail_any (isD_at I isd).1 PySem.F.slot_dict_getitem.lookup (d_getItem (by omega) I g ry fun w' s3 I3 rw3 => ⟨w, H, I3, rw3, q w rw'⟩) hs
  | _ => cases e
theorem cut_rel {xs : List D} {vs : List V} (z : RelDs C μ H xs vs) (lo hi : Option Int) : RelDs C μ H (cutD xs lo hi) (cutV vs lo hi) := by
  unfold cutD cutV
  rw [z.length]
  exact (z.drop _).take _
theorem cutS_str (t : List Nat) (lo hi : Option Int) : cutS ⟨t.toArray⟩ lo hi = ⟨(cutD t lo hi).toArray⟩ := by
  unfold cutS cutD
  rw [len_arr]
def rSlE (C : Cn) : V → Option Int → Option Int → Hp → VK → Prop := fun x lo hi H Q => ∃ bs W μ M dx, Rep C bs μ M H ∧ RelD C μ H dx x ∧ VP C bs W μ H (semSl dx lo hi M) Q
theorem whole_cut {α : Type} {xs : List α} {lo hi : Option Int} (h : HT.sIx xs.length 0 lo = 0 ∧ HT.sIx xs.length xs.length hi = xs.length) : cutD xs lo hi = xs := by
  unfold cutD
  rw [h.1, h.2]
  simp
theorem sl_rSlE (hK : X.K = C.K) : SlR X (rSlE C) := by
  intro pins s σ H x v vl vu lo hi sl Q I rx hs pl pu h
  obtain ⟨bs, W, μ, M, dx, R, r1, p⟩ := h
  have lst : ∀ xs, listOf M dx = some xs → VP C bs W μ H (new (cutD xs lo hi) M) Q → ∃ T id, typeLookup (.type T) "__getitem__" = pure (some (.builtin id)) ∧ s.TypeIs v T ∧ wpAny (model X.prog X.w) X.A (getItem v (.ref sl)) (EP X pins σ Q) X.xe s := fun xs e p => by
    obtain ⟨a, vs, rfl, h1, z⟩ := list_inv R e r1
    exact sl_list pins s σ H _ v vl vu lo hi sl Q I rx hs pl pu ⟨a, vs, rfl, hK ▸ h1, fun t ht => p.newL R (cut_rel z lo hi) ht⟩
  cases dx with
  | str t =>
    cases relD_str.mp r1
    dsimp only [semSl] at p
    by_cases hl : t.length ≤ cap
    · rw [if_pos hl] at p
      exact sl_str pins s σ H _ v vl vu lo hi sl Q I rx hs pl pu ⟨⟨t.toArray⟩, rfl, by rw [len_arr, sizeLine_eq]; exact hl, by rw [cutS_str]; exact p.at R (relD_str.mpr rfl)⟩
    · rw [if_neg hl] at p; exact p.elim
  | tup xs =>
    obtain ⟨a, vs, rfl, h1, z⟩ := relD_tup r1
    refine sl_tupF pins s σ H _ v vl vu lo hi sl Q I rx hs pl pu ⟨a, vs, rfl, hK ▸ h1, fun hw => ?_, fun _ => ?_⟩
    · rw [← z.length] at hw
      have p' : VP C bs W μ H (.ok (.tup (cutD xs lo hi)) M) Q := p
      rw [whole_cut hw] at p'
      exact p'.at R r1
    · exact VP.newT p R (cut_rel z lo hi)
  | frz xs => exact lst xs rfl p
  | loc n =>
    dsimp only [semSl] at p
    cases e : listOf M (.loc n) with
    | none => rw [e] at p; exact p.elim
    | some xs => rw [e] at p; exact lst xs e p
  | _ => exact p.elim
/-- a store at a place -/
def rSetE (C : Cn) : V → V → V → Hp → (Hp → Prop) → Prop := fun o i v H Q => ∃ bs μ M b do_ di dv M', (∀ c ∈ bs, c ≤ b) ∧ Rep C bs μ M H ∧ RelD C μ H do_ o ∧ RelD C μ H di i ∧ RelD C μ H dv v ∧ semSet do_ di dv b M = some M' ∧ ∀ H', Le μ H μ H' → Rep C bs μ M' H' → Q H'
theorem kz_len {kvs : List (KY × D)} {vs : List V} (h : kvs.length = vs.length) : (kz kvs vs).length = kvs.length := by
  unfold kz
  rw [List.length_zip, List.length_map, h, Nat.min_self]
theorem kz_cons {p : KY × D} {kvs : List (KY × D)} {v : V} {vs : List V} : kz (p :: kvs) (v :: vs) = (p.1.key, v) :: kz kvs vs := rfl
theorem kz_any (k : KY) : ∀ {kvs : List (KY × D)} {vs : List V}, kvs.length = vs.length → ((kz kvs vs).any fun kv => decide (kv.1 = k.key)) = kvs.any fun kv => decide (kv.1 = k)
  | [], [], _ => rfl
  | p :: kvs, v :: vs, h => by
    rw [kz_cons, List.any_cons, List.any_cons, kz_any k (Nat.succ.inj h)]
    congr 1
    rw [decide_eq_decide]
    exact ⟨key_inj, fun z => congrArg KY.key z⟩
  | [], _ :: _, h => by cases h
  | _ :: _, [], h => by cases h
/-- d[k] = v, as the layer's dict has it -/
theorem put_rel {k : KY} {d : D} {w : V} (rd : RelD C μ H d w) {kvs : List (KY × D)} {vs : List V} (r : RelDs C μ H (kvs.map (·.2)) vs) :
    ∃ vs', kz (putD kvs k d) vs' = putK (kz kvs vs) k.key w ∧ RelDs C μ H ((putD kvs k d).map (·.2)) vs' := by
  have hl : kvs.length = vs.length := by simpa using r.length
  unfold putD putK
  rw [kz_any k hl]
  by_cases ha : (kvs.any fun kv => decide (kv.1 = k)) = true
  · rw [if_pos ha, if_pos ha]
    clear ha
    induction kvs generalizing vs with
    | nil =>
      have e := r.nil_inv
      subst e
      exact ⟨[], rfl, .nil⟩
    | cons p kvs ih =>
      obtain ⟨v, vr, rfl, r1, r2⟩ := r.inv
      obtain ⟨vs', e, q⟩ := ih r2 (Nat.succ.inj hl)
      rw [kz_cons, List.map_cons, List.map_cons]
      by_cases hk : p.1 = k
      · refine ⟨w :: vs', ?_, ?_⟩
        · rw [if_pos hk, if_pos (by rw [hk]), kz_cons, e]
        · rw [if_pos hk]
          exact .cons rd q
      · refine ⟨v :: vs', ?_, ?_⟩
        · rw [if_neg hk, if_neg (fun z => hk (key_inj z)), kz_cons, e]
        · rw [if_neg hk]
          exact .cons r1 q
  · rw [if_neg ha, if_neg ha]
    refine ⟨vs ++ [w], ?_, ?_⟩
    · unfold kz
      rw [List.map_append, List.zip_append (by simpa using hl)]
      rfl
    · rw [List.map_append]
      exact r.app (.cons rd .nil)
theorem kz_ext : ∀ {kvs : List (KY × D)} {vs ws : List V}, kvs.length = vs.length → kvs.length = ws.length → kz kvs vs = kz kvs ws → vs = ws
  | [], [], [], _, _, _ => rfl
  | p :: kvs, v :: vs, w :: ws, h1, h2, e => by
    rw [kz_cons, kz_cons] at e
    obtain ⟨e1, e2⟩ := List.cons.inj e
    rw [(Prod.mk.inj e1).2, kz_ext (Nat.succ.inj h1) (Nat.succ.inj h2) e2]
  | [], _ :: _, _, h, _, _ => by cases h
  | [], [], _ :: _, _, h, _ => by cases h
  | _ :: _, [], _, h, _, _ => by cases h
  | _ :: _, _ :: _, [], _, h, _ => by cases h
theorem Rep.putD (R : Rep C bs μ M H) {n : Nat} {a : Addr} {kvs : List (KY × D)} {vs : List V} {k : KY} {d : D} {w : V} (e : μ[n]? = some a) (q : M[n]? = some (.dct kvs)) (h : H a = some (.dK (kz kvs vs))) (hl : kvs.length = vs.length)
    (hb : ∀ c ∈ bs, c ≤ b) (hm : may b n d = true) (rd : RelD C μ H d w) : Rep C bs μ (M.set n (.dct (Ev.putD kvs k d))) (upd H a (.dK (putK (kz kvs vs) k.key w))) := by
  have hmut : Mut (H a) := by rw [h]; trivial
  refine R.put e fun c hc => ?_
  obtain ⟨vs2, h2, r2⟩ := R.ob n a _ e q c hc
  rw [h] at h2
  have e2 : vs = vs2 := kz_ext hl (by simpa using r2.length) (HO.dK.inj (Option.some.inj h2))
  subst e2
  obtain ⟨vs', ek, rk⟩ := put_rel (k := k) (may_rel hm hb R hc rd) r2
  exact ⟨vs', by rw [ek]; exact upd_same, rk.mono (List.prefix_refl _) (.put hmut)⟩
theorem kzT_len {kvs : List (List Int × D)} {vs : List V} (h : kvs.length = vs.length) : (kzT kvs vs).length = kvs.length := by
  unfold kzT
  rw [List.length_zip, List.length_map, h, Nat.min_self]
theorem kzT_cons {p : List Int × D} {kvs : List (List Int × D)} {v : V} {vs : List V} : kzT (p :: kvs) (v :: vs) = (p.1.map Sum.inl, v) :: kzT kvs vs := rfl
theorem kzT_any (k : List Int) : ∀ {kvs : List (List Int × D)} {vs : List V}, kvs.length = vs.length → ((kzT kvs vs).any fun kv => decide (kv.1 = (k.map Sum.inl))) = kvs.any fun kv => decide (kv.1 = k)
  | [], [], _ => rfl
  | p :: kvs, v :: vs, h => by
    rw [kzT_cons, List.any_cons, List.any_cons, kzT_any k (Nat.succ.inj h)]
    congr 1
    rw [decide_eq_decide]
    exact ⟨inls_inj, fun z => congrArg (List.map Sum.inl) z⟩
  | [], _ :: _, h => by cases h
  | _ :: _, [], h => by cases h
/-- d[k] = v, as the layer's dict has it -/
theorem putT_rel {k : List Int} {d : D} {w : V} (rd : RelD C μ H d w) {kvs : List (List Int × D)} {vs : List V} (r : RelDs C μ H (kvs.map (·.2)) vs) :
    ∃ vs', kzT (putT kvs k d) vs' = putK (kzT kvs vs) (k.map Sum.inl) w ∧ RelDs C μ H ((putT kvs k d).map (·.2)) vs' := by
  have hl : kvs.length = vs.length := by simpa using r.length
  unfold putT putK
  rw [kzT_any k hl]
  by_cases ha : (kvs.any fun kv => decide (kv.1 = k)) = true
  · rw [if_pos ha, if_pos ha]
    clear ha
    induction kvs generalizing vs with
    | nil =>
      have e := r.nil_inv
      subst e
      exact ⟨[], rfl, .nil⟩
    | cons p kvs ih =>
      obtain ⟨v, vr, rfl, r1, r2⟩ := r.inv
      obtain ⟨vs', e, q⟩ := ih r2 (Nat.succ.inj hl)
      rw [kzT_cons, List.map_cons, List.map_cons]
      by_cases hk : p.1 = k
      · refine ⟨w :: vs', ?_, ?_⟩
        · rw [if_pos hk, if_pos (by rw [hk]), kzT_cons, e]
        · rw [if_pos hk]
          exact .cons rd q
      · refine ⟨v :: vs', ?_, ?_⟩
        · rw [if_neg hk, if_neg (fun z => hk (inls_inj z)), kzT_cons, e]
        · rw [if_neg hk]
          exact .cons r1 q
  · rw [if_neg ha, if_neg ha]
    refine ⟨vs ++ [w], ?_, ?_⟩
    · unfold kzT
      rw [List.map_append, List.zip_append (by simpa using hl)]
      rfl
    · rw [List.map_append]
      exact r.app (.cons rd .nil)
theorem kzT_ext : ∀ {kvs : List (List Int × D)} {vs ws : List V}, kvs.length = vs.length → kvs.length = ws.length → kzT kvs vs = kzT kvs ws → vs = ws
  | [], [], [], _, _, _ => rfl
  | p :: kvs, v :: vs, w :: ws, h1, h2, e => by
    rw [kzT_cons, kzT_cons] at e
    obtain ⟨e1, e2⟩ := List.cons.inj e
    rw [(Prod.mk.inj e1).2, kzT_ext (Nat.succ.inj h1) (Nat.succ.inj h2) e2]
  | [], _ :: _, _, h, _, _ => by cases h
  | [], [], _ :: _, _, h, _ => by cases h
  | _ :: _, [], _, h, _, _ => by cases h
  | _ :: _, _ :: _, [], _, h, _ => by cases h
theorem Rep.putT (R : Rep C bs μ M H) {n : Nat} {a : Addr} {kvs : List (List Int × D)} {vs : List V} {k : List Int} {d : D} {w : V} (e : μ[n]? = some a) (q : M[n]? = some (.dctT kvs)) (h : H a = some (.dT (kzT kvs vs))) (hl : kvs.length = vs.length)
    (hb : ∀ c ∈ bs, c ≤ b) (hm : may b n d = true) (rd : RelD C μ H d w) : Rep C bs μ (M.set n (.dctT (Ev.putT kvs k d))) (upd H a (.dT (putK (kzT kvs vs) (k.map Sum.inl) w))) := by
  have hmut : Mut (H a) := by rw [h]; trivial
  refine R.put e fun c hc => ?_
  obtain ⟨vs2, h2, r2⟩ := R.ob n a _ e q c hc
  rw [h] at h2
  have e2 : vs = vs2 := kzT_ext hl (by simpa using r2.length) (HO.dT.inj (Option.some.inj h2))
  subst e2
  obtain ⟨vs', ek, rk⟩ := putT_rel (k := k) (may_rel hm hb R hc rd) r2
  exact ⟨vs', by rw [ek]; exact upd_same, rk.mono (List.prefix_refl _) (.put hmut)⟩
theorem setT_ok (hu : X.A.units + 1 < cLine) {pins : List (Addr × Obj)} {s : Shared} {σ : St} {H : Hp} {o i v : V} {ov iv u : Value} {Q : Unit → Shared → Prop} {do_ di dv : D} {M' : Sto} (I : L2.Inv X pins σ H s) (ro : RelV o ov) (ri : RelV i iv) (rv : RelV v u)
    (hb : ∀ c ∈ bs, c ≤ b) (R : Rep C bs μ M H) (r1 : RelD C μ H do_ o) (r2 : RelD C μ H di i) (r3 : RelD C μ H dv v) (e : setT do_ di dv b M = some M') (q : ∀ H' s', Le μ H μ H' → Rep C bs μ M' H' → L2.Inv X pins σ H' s' → Q () s') {E : Value → Shared → Prop} :
    wpAny (model X.prog X.w) X.A (setItem ov iv u) Q E s := by
  unfold setT at e
  cases do_ with
  | loc n =>
    try dsimp only at e
    cases ek : keyT di with
    | none => rw [ek] at e; cases e
    | some k =>
      rw [ek] at e
      try dsimp only at e
      cases e2 : M[n]? with
      | none => rw [e2] at e; cases e
      | some ob =>
        rw [e2] at e
        cases ob with
        | dctT kvs =>
          try dsimp only at e
          cases e4 : may b n dv with
          | false => rw [e4] at e; cases e
          | true =>
            rw [e4] at e
            try dsimp only at e
            by_cases hc : kvs.length < cap
            · rw [if_pos hc] at e
              cases e
              obtain ⟨a, ea, rfl⟩ := relD_loc.mp r1
              obtain ⟨vs, hH, rs⟩ := R.at ea e2
              have hl : kvs.length = vs.length := by simpa using rs.length
              obtain ⟨kb, rfl, hkb⟩ := keyT_rel ek r2
              have hmut : Mut (H a) := by rw [hH]; trivial
              cases (show ov = Value.ref a from ro)
              exact d_setItem (by omega) I (.t hH hkb (by rw [kzT_len hl]; exact hc)) ri rv fun s' I' => q _ s' (Le.put (List.mem_of_getElem? ea) hmut) (R.putT ea e2 hH hl hb e4 r3) I'
            · rw [if_neg hc] at e; cases e
        | _ => cases e
  | _ => cases e
theorem set_rSetE (hu : X.A.units + 1 < cLine) : PSet X (rSetE C) := by
  intro pins s σ H o i v ov iv u Q I ro ri rv h
  obtain ⟨bs, μ, M, b, do_, di, dv, M', hb, R, r1, r2, r3, e, q⟩ := h
  unfold semSet at e
  cases e1 : lstAt M do_ with
  | none =>
    rw [e1] at e
    dsimp only at e
    cases eT : dctTAt M do_ with
    | some kvs0 =>
      rw [eT] at e
      exact setT_ok (by omega) I ro ri rv hb R r1 r2 r3 e fun H' s' l R' I' => ⟨H', I', q H' l R'⟩
    | none =>
    rw [eT] at e
    dsimp only at e
    unfold setD at e
    cases do_ with
    | loc n =>
      try dsimp only at e
      cases ek : keyD di with
      | none => rw [ek] at e; cases e
      | some k =>
        rw [ek] at e
        try dsimp only at e
        cases e2 : M[n]? with
        | none => rw [e2] at e; cases e
        | some ob =>
          rw [e2] at e
          cases ob with
          | dct kvs =>
            try dsimp only at e
            cases e4 : may b n dv with
            | false => rw [e4] at e; cases e
            | true =>
              rw [e4] at e
              try dsimp only at e
              by_cases hc : kvs.length < cap
              · rw [if_pos hc] at e
                cases e
                obtain ⟨a, ea, rfl⟩ := relD_loc.mp r1
                obtain ⟨vs, hH, rs⟩ := R.at ea e2
                have hl : kvs.length = vs.length := by simpa using rs.length
                cases key_rel ek r2
                have hmut : Mut (H a) := by rw [hH]; trivial
                cases (show ov = Value.ref a from ro)
                refine d_setItem (by omega) I (.k hH (by rw [kz_len hl]; exact hc)) ri rv fun s' I' => ⟨_, I', q _ (Le.put (List.mem_of_getElem? ea) hmut) (R.putD ea e2 hH hl hb e4 r3)⟩
              · rw [if_neg hc] at e; cases e
          | _ => cases e
    | _ => cases e
  | some p =>
    obtain ⟨n, xs⟩ := p
    rw [e1] at e
    obtain ⟨rfl, e2⟩ := lstAt_inv e1
    cases di with
    | int k =>
      dsimp only at e
      cases e3 : ixN xs.length k with
      | none => rw [e3] at e; cases e
      | some j =>
        cases e4 : may b n dv with
        | false => rw [e3, e4] at e; cases e
        | true =>
          rw [e3, e4] at e
          cases e
          obtain ⟨a, vs, rfl, ea, h, z⟩ := R.lst e2 r1
          cases relD_int.mp r2
          refine set_list pins s σ H _ _ v ov iv u Q I ro ri rv ⟨a, vs, k, j, rfl, rfl, h, by rw [← z.length]; exact e3, ?_⟩
          exact q _ (Le.put (List.mem_of_getElem? ea) (mutL h)) (R.putL ea e2 h fun c hc z' => z'.set _ (may_rel e4 hb R hc r3))
    | _ => cases e
/-- a dict's thing, by values -/
def rGetE (C : Cn) : V → V → Hp → VK → Prop := fun o i H Q => ∃ bs μ M do_ di d, Rep C bs μ M H ∧ RelD C μ H do_ o ∧ RelD C μ H di i ∧ augIx M do_ di = some d ∧ ∀ v, RelD C μ H d v → Q v H
theorem get_rGetE (hu : X.A.units + 1 < cLine) : PGet X (rGetE C) := by
  intro pins s σ H o i ov iv Q I ro ri h
  obtain ⟨bs, μ, M, do_, di, d, R, r1, r2, e, q⟩ := h
  unfold augIx at e
  cases ek : keyD di with
  | none => rw [ek] at e; cases e
  | some k =>
    rw [ek] at e
    have e' : dIx M do_ k = some d := e
    unfold dIx at e'
    cases ed : dctAt M do_ with
    | none => rw [ed] at e'; cases e'
    | some kvs =>
      rw [ed] at e'
      cases key_rel ek r2
      obtain ⟨a, o', rfl, _, g, g1, _⟩ := dct_get R ed r1 k
      obtain ⟨w, rfl, rw'⟩ := g1 d e'
      cases (show ov = Value.ref a from ro)
      exact d_getItem hu I g ri fun w' s3 I3 rw3 => ⟨w, H, I3, rw3, q w rw'⟩
/-- truth -/
theorem truth_sound (hK : X.K = C.K) (R : Rep C bs μ M H) {d : D} {k : Bool} (e : truth M d = some k) (r : RelD C μ H d v) : TruV X.K v H k := by
  unfold truth at e
  have em : ∀ {xs : List D} {vs : List V}, RelDs C μ H xs vs → (!xs.isEmpty) = !vs.isEmpty := fun {xs vs} z => by
    cases xs with
    | nil => rw [z.nil_inv]; rfl
    | cons _ _ => obtain ⟨_, _, rfl, _⟩ := z.inv; rfl
  cases d with
  | non => cases e; rw [relD_non.mp r]; rfl
  | bl _ => cases e; rw [relD_bl.mp r]; rfl
  | int _ => cases e; rw [relD_int.mp r]; rfl
  | str s =>
    dsimp only at e
    cases hb : Nat.ble s.length cap with
    | false => rw [hb] at e; cases e
    | true =>
      rw [hb] at e
      cases e
      rw [relD_str.mp r]
      refine ⟨by rw [len_arr, sizeLine_eq]; exact Nat.le_of_ble_eq_true hb, ?_⟩
      rw [len_arr]
      cases s with
      | nil => rfl
      | cons a l => simp; omega
  | tup xs =>
    cases e
    obtain ⟨a, vs, rfl, h1, z⟩ := relD_tup r
    exact .inr (.inl ⟨vs, hK ▸ h1, em z⟩)
  | frz xs =>
    cases e
    obtain ⟨a, vs, rfl, h1, z⟩ := relD_frz.mp r
    exact .inl ⟨vs, hK ▸ h1.sq, em z⟩
  | loc n =>
    dsimp only at e
    cases e2 : M[n]? with
    | none => rw [e2] at e; cases e
    | some o =>
      rw [e2] at e
      cases o with
      | lst xs =>
        cases e
        obtain ⟨a, vs, rfl, _, h1, z⟩ := R.lst e2 r
        exact .inl ⟨vs, .of h1, em z⟩
      | _ => cases e
  | fn _ => cases e
/-! ### isinstance -/
def nmT : Ty → Value
  | .non => .type "NoneType"
  | .bl => .type "bool"
  | .int => .type "int"
  | .str => .type "str"
  | .tup => .type "tuple"
  | .lst => .type "list"
  | .dct => .type "dict"
theorem ty_sound (hK : X.K = C.K) (R : Rep C bs μ M H) {d : D} {t : Ty} (e : tyD M d = some t) (r : RelD C μ H d v) : TyX X.K H v (nmT t) := by
  unfold tyD at e
  cases d with
  | non => cases e; rw [relD_non.mp r]; exact .base .non
  | bl b => cases e; rw [relD_bl.mp r]; exact .base (.bl b)
  | int b => cases e; rw [relD_int.mp r]; exact .base (.int b)
  | str b => cases e; rw [relD_str.mp r]; exact .base (.str _)
  | tup xs =>
    cases e
    obtain ⟨a, vs, rfl, h1, z⟩ := relD_tup r
    rcases h1 with (h1 | ⟨o, h1⟩) | ⟨o, its, n, h1, h2, _⟩
    · exact .base (.tup h1)
    · exact .fTuple h1
    · exact .kTuple (hK ▸ h1) h2
  | frz xs =>
    cases e
    obtain ⟨a, vs, rfl, h1, z⟩ := relD_frz.mp r
    rcases h1 with ⟨o, h1⟩ | ⟨o, its, n, h1, h2, _⟩
    · exact .base (.frz h1)
    · exact .kList (hK ▸ h1) h2
  | loc n =>
    dsimp only at e
    cases e2 : M[n]? with
    | none => rw [e2] at e; cases e
    | some o =>
      rw [e2] at e
      cases o with
      | lst xs =>
        cases e
        obtain ⟨a, vs, rfl, _, h1, z⟩ := R.lst e2 r
        exact .base (.lst h1)
      | dct kvs =>
        cases e
        obtain ⟨a, ea, rfl⟩ := relD_loc.mp r
        obtain ⟨_, h1, _⟩ := R.at ea e2
        exact .base (.dK h1)
      | _ => cases e
  | fn _ => cases e
def nmC : CL → Option String
  | .int => some "int"
  | .bool => some "bool"
  | .str => some "str"
  | .tup => some "tuple"
  | .lst => some "list"
  | .dct => some "dict"
  | .own _ => none
theorem kit_sound (K : PySem.W.Frag) {t : Ty} {c : CL} {k : Bool} (e : isTy t c = some k) : ∃ n, nmC c = some n ∧ PySem.W.kitOne K (nmT t) (.type n) = some k := by
  cases c with
  | own _ => cases t <;> cases e
  | int => cases t <;> (cases e; exact ⟨_, rfl, by first | rfl | decide +kernel | kernel_rfl⟩)
  | bool => cases t <;> (cases e; exact ⟨_, rfl, by first | rfl | decide +kernel | kernel_rfl⟩)
  | str => cases t <;> (cases e; exact ⟨_, rfl, by first | rfl | decide +kernel | kernel_rfl⟩)
  | tup => cases t <;> (cases e; exact ⟨_, rfl, by first | rfl | decide +kernel | kernel_rfl⟩)
  | lst => cases t <;> (cases e; exact ⟨_, rfl, by first | rfl | decide +kernel | kernel_rfl⟩)
  | dct => cases t <;> (cases e; exact ⟨_, rfl, by first | rfl | decide +kernel | kernel_rfl⟩)
theorem kitAny_sound (K : PySem.W.Frag) {t : Ty} : ∀ {cs : List CL} {k : Bool}, isAny t cs = some k → ∃ ns : List String, cs.map nmC = ns.map some ∧ PySem.W.kitAny K (nmT t) (ns.map Value.type) = some k
  | [], k, e => by cases e; exact ⟨[], rfl, rfl⟩
  | c :: cs, k, e => by
    unfold isAny at e
    cases e1 : isTy t c with
    | none => rw [e1] at e; cases e
    | some a =>
      cases e2 : isAny t cs with
      | none => rw [e1, e2] at e; cases e
      | some b =>
        rw [e1, e2] at e
        cases e
        obtain ⟨n, h1, h2⟩ := kit_sound K e1
        obtain ⟨ns, h3, h4⟩ := kitAny_sound K e2
        refine ⟨n :: ns, by simp [h1, h3], ?_⟩
        show (match PySem.W.kitOne K (nmT t) (.type n) with
          | some true => some true
          | some false => PySem.W.kitAny K (nmT t) (ns.map Value.type)
          | none => none) = _
        rw [h2]
        cases a with
        | true => rfl
        | false => exact h4
end Ev
end

section
/-! EvEnu: enumerate of a tuple, or of a list. -/
namespace Ev
open PySem PySem.Spec PyProof.Rows L2
section
variable {P : Program} {w : World} {A : Around} {E : Value → Shared → Prop} {z : Shared}
/-- whether the class calls itself makes no difference -/
theorem told_through {c : Value} {Q : Bool → Shared → Prop} (k : ∀ b, Q b z) : wpAny (model P w) A (Builtin.SmallTypes.calledThroughType c) Q E z := by
  unfold Builtin.SmallTypes.calledThroughType
  refine wpAny_bind (wpAny_stack_any fun st => wpAny_pure ?_)
  split
  · exact k _
  · exact k _
theorem own_class {r : List Value} {Q : Value × List Value → Shared → Prop} (k : Q (.type "enumerate", r) z) : wpAny (model P w) A (Builtin.SmallTypes.newClass "enumerate" ⟨.type "enumerate" :: r, []⟩) Q E z := by
  have own := sub_enumerate
  unfold Builtin.SmallTypes.newClass
  wp_walk
  exact k
end
/-- the new enumerate over an iterator at c -/
def enumCell (c : Addr) : Obj := { cls := .type "enumerate", data := .fields #[.none, .bool false, .ref c, rawInt 0, .none, .none] }
/-- enumerate(v), whatever can be begun upon -/
theorem enum_made {v : Value} {o : Obj} {Hh : Heap → Prop} (B : Begins v o Hh) : Meets (Builtin.«enumerate.__new__» ⟨[.type "enumerate", v], []⟩) fun P R z =>
    Hh z.heap ∧ R (.ok (.ret (.ref (z.heap.push o).objs.size))) { z with heap := (z.heap.push o).push (enumCell z.heap.objs.size) } :=
  .of_wp fun P w A R z h => by
    unfold Builtin.«enumerate.__new__»
    refine wpAny_bind (own_class (wpAny_bind (told_through fun b => ?_)))
    cases b <;>
    · refine wpAny_bind (wpAny_pure (wpAny_bind (B.iter P w _ _ z _ h.1 ?_)))
      refine wpAny_bind ?_
      unfold Builtin.SmallTypes.newRecord
      wp_walk
      exact ⟨_, rfl, h.2⟩
theorem enum_of {P : Program} {w : World} {A : Around} {E : Value → Shared → Prop} {z : Shared} {v : Value} {o : Obj} {Hh : Heap → Prop} {Q : Value → Shared → Prop} (B : Begins v o Hh) (h : Hh z.heap)
    (k : Q (.ref (z.heap.push o).objs.size) { z with heap := (z.heap.push o).push (enumCell z.heap.objs.size) }) : wpAny (model P w) A (call (.type "enumerate") [v]) Q E z := by
  refine callType_new F.called_enumerate (by decide) (F.typeCall_enumerate_1 _) (F.newCall_enumerate_1 _) (fun obj => F.args_object_init_2 obj _) F.entry_enumerate_new (enum_made B) ⟨h, ?_, k⟩
  exact ⟨_, Heap.get?_push_size _ rfl, rfl⟩
/-- .. within the layer: two new records, nothing of the tracked touched -/
theorem enum_starts {X : Cx} {pins : List (Addr × Obj)} {σ : L2.St} {H : Hp} {z : Shared} {a : Addr} {o : Obj} {Hh : Heap → Prop} {Q : Value → Shared → Prop} (I : Inv X pins σ H z) (B : Begins (.ref a) o Hh) (h : Hh z.heap)
    (k : ∀ e it h', e = it + 1 → it = z.heap.objs.size → Inv X pins σ H { z with heap := h' } → (∀ c ∈ [e, it], FpOk X pins H c) → IsEnum h' e it 0 .none → h'.get? it = some o → Q (.ref e) { z with heap := h' }) :
    wpAny (model X.prog X.w) X.A (call (.type "enumerate") [.ref a]) Q X.xe z := by
  have sz : (z.heap.push o).objs.size = z.heap.objs.size + 1 := Heap.size_push ..
  refine enum_of B h ?_
  rw [sz]
  refine k _ _ _ rfl rfl (I.kept (t' := z.toks) fun c u y => Heap.get?_push_of_some _ (Heap.get?_push_of_some _ y)) (fun c hc => ?_) ?_ (Heap.get?_push_of_some _ (Heap.get?_push_size _ B.free))
  · have hle : z.heap.objs.size ≤ c := by
      rcases (by simpa using hc : c = z.heap.objs.size + 1 ∨ c = z.heap.objs.size) with rfl | rfl
      · exact Nat.le_succ _
      · exact Nat.le_refl _
    exact I.fpOk hle (I.hok.fresh hle)
  · have y := Heap.get?_push_size (z.heap.push o) (o := enumCell z.heap.objs.size) rfl
    rw [sz] at y
    exact y
/-- the tuple at a, each item in a new pair -/
def IteT (K : PySem.W.Frag) (a : Addr) : It where
  go := fun i H => ∃ (xs : List V) (x : V), SqT K H a xs ∧ xs[i]? = some x
  yld := fun i H v H' => ∃ T x, v = .ref T ∧ H T = none ∧ H' = upd H T (.tup [.int (i : Nat), x]) ∧ ∀ xs, SqT K H a xs → xs[i]? = some x
  stop := fun i H => ∃ xs : List V, SqT K H a xs ∧ xs.length ≤ i
theorem enumT_end {P : Program} {w : World} {A : Around} {E : Value → Shared → Prop} {z : Shared} {e it q : Addr} {i : Nat} {ys : Array Value} {old : Value} {Q : Option Value → Shared → Prop} (hh : A.handled = none)
    (he : IsEnum z.heap e it i old) (hit : z.heap.IsTupleIter it q i) (hT : z.heap.IsTuple q ys) (hx : ys[i]? = none) (k : ∀ h', Heap.ExtBut it z.heap h' → Q none { z with heap := h' }) : wpAny (model P w) A (pyNext (.ref e)) Q E z := by
  have ty : z.TypeIs (.ref e) "enumerate" := ⟨_, he, rfl⟩
  unfold pyNext
  refine wpAny_bind (wpAny_attempt (wpAny_callSpecial?_slot (name := Str.ofString "__next__") ty F.slot_enumerate_next (wpAny_call_entry F.slot_enumerate_next ty F.entry_enumerate_next ?_ (F.args_enumerate_next_1 _))))
  show wpAny _ _ (field (.ref e) 2 >>= _) _ _ z
  refine wpAny_bind (wpAny_field he rfl (x := .ref it) rfl (wpAny_bind (RZ.nextOf_tuple_end hh hit hT hx fun h' x eb hx' => ?_)))
  obtain ⟨o, ho, hc⟩ := hx'
  exact wpAny_bind (wpAny_isInstance (T := "StopIteration") (b := true) ⟨o, ho, hc⟩ isSubtype_stop (wpAny_pure (k _ eb)))
/-- what stands at a place among values stands there among the layer's -/
theorem vals_at {x : V} : ∀ {xs : List V} {us : List Value} {i : Nat}, Vals xs us → xs[i]? = some x → ∃ u, us[i]? = some u ∧ RelV x u
  | _, _, 0, .cons r _, h => ⟨_, rfl, by cases (Option.some.inj h); exact r⟩
  | _, _, i + 1, .cons _ q, h => vals_at (i := i) q (by simpa using h)
  | _, _, _, .nil, h => by cases (show (none : Option V) = some x from h)
/-- a value stands for one thing alone -/
theorem relV_one {x y : V} {u : Value} (r : RelV x u) (q : RelV y u) : x = y := by
  cases x <;> cases y <;> unfold L2.RelV at r q <;> grind
/-- where an enumerate of the tuple at a stands -/
def AtEnum (a e it : Addr) (i : Nat) (h : Heap) : Prop := (∃ old, IsEnum h e it ((i : Nat) : Int) old) ∧ h.IsTupleIter it a i ∧ e ≠ it
theorem AtEnum.thing {a e it : Addr} {i : Nat} {h : Heap} (st : AtEnum a e it i h) {c : Addr} (m : c ∈ [e, it]) : ∃ o, h.get? c = some o ∧ ∀ v : Option Value, o.data ≠ Data.cell v := by
  obtain ⟨⟨old, he⟩, ⟨o, ho, _, hd⟩, _⟩ := st
  simp only [List.mem_cons, List.not_mem_nil, or_false] at m
  rcases m with rfl | rfl
  · exact ⟨_, he, fun v => nofun⟩
  · exact ⟨o, ho, fun v z => by rw [hd] at z; cases z⟩
/-- the layer's heap behind a turn: a new pair, the two iterators gone on -/
theorem pair_laid {X : Cx} {pins : List (Addr × Obj)} {s : Shared} {σ : L2.St} {H : Hp} (I : Inv X pins σ H s) {e it T : Addr} {t : Tok} {n : Int} {x : V} {u : Value} {h' : Heap} {tk : Nat} (fp : ∀ c ∈ [e, it], FpOk X pins H c)
    (new : s.heap.objs.size ≤ T) (tup : h'.IsTuple T #[Value.int n t, u]) (r : RelV x u) (kept : ∀ c o, ¬ c ∈ [e, it] → s.heap.get? c = some o → h'.get? c = some o) (lives : ∀ c ∈ [e, it], ∃ o, h'.get? c = some o) :
    Inv X pins σ (upd H T (.tup [.int n, x])) { s with heap := h', toks := tk } := by
  have hT : H T = none := I.hok.fresh new
  have old : ∀ {c o}, s.heap.get? c = some o → c ≠ T := fun z => Nat.ne_of_lt (Nat.lt_of_lt_of_le (Heap.lt_size z) new)
  have tracked : ∀ {c v}, H c = some v → ¬ c ∈ [e, it] := fun {c v} z m => by
    rw [(fp c m).1] at z
    cases z
  refine I.call' (ch := [e, it]) rfl ?_ (fun c v z => ?_) I.bare fun c m => ?_
  · refine { keep := fun c o z _ _ m => kept c o m z, slot := fun c o z _ _ m => ⟨o.slots, kept c o m z⟩, free := fun c o z q _ => by rw [upd_ne (old z)]; exact q, there := fun c o z m => ⟨o, kept c o m z⟩,
             tups := fun c ys z => by rw [upd_ne (ne_of_none z hT)]; exact z, frzs := fun c o v z => by rw [upd_ne (ne_of_none z hT)]; exact z, tbls := fun c ps z => ⟨#[], by rw [upd_ne (ne_of_none z hT), z]; simp⟩ }
  · by_cases hc : c = T
    · subst hc
      rw [upd_same] at z
      cases z
      exact ⟨by show 2 ≤ sizeLine; decide, [Value.int n t, u], .cons ⟨t, rfl⟩ (.cons r .nil), tup⟩
    · rw [upd_ne hc] at z
      refine (I.hok c v z).stay (fun d o hd q => kept d o ?_ q) (fun d hd => by rw [upd_ne (ne_of_none hd hT)]; exact hd) fun d ys hd => by rw [upd_ne (ne_of_none hd hT)]; exact hd
      rcases hd with rfl | hd
      · exact tracked z
      · exact tracked hd
  · obtain ⟨_, f2, _, f4, f5, f6⟩ := fp c m
    exact ⟨f4, f2, f5, f6⟩
theorem turn_enumT {P : Program} {w : World} {K : PySem.W.Frag} {elts : List Expr} {kk : Nat} {tpos : Pos} (a e it : Addr) (nit : a ≠ it) (nea : e ≠ a) : Turn P w K (.Tuple elts kk tpos) (IteT K a) [e, it] e (AtEnum a e it) where
  mem := List.mem_cons_self
  obj := fun i h st c m => st.thing m
  keep := fun i h h' st k => by
    obtain ⟨⟨old, he⟩, ⟨o, ho, q⟩, hne⟩ := st
    exact ⟨⟨old, k e (by simp) _ he⟩, ⟨o, k it (by simp) _ ho, q⟩, hne⟩
  item := by
    rintro X rfl rfl rfl calm i pins s σ H E I fp ⟨⟨old, he⟩, hit, hne⟩ ⟨xs, x, hq, hx⟩
    obtain ⟨its, rv, ht, _⟩ := I.tuple hq
    obtain ⟨u, hu, ru⟩ := vals_at rv hx
    have hi : i < its.toArray.size := by simpa using (List.getElem?_eq_some_iff.mp hu).1
    have go := GoesN.enumFrom (prog := X.prog) (w := X.w) (A := X.A) (elts := elts) (x1 := kk) (pos := tpos) 0 (Draws.tuple (prog := X.prog) (w := X.w) (A := X.A.in1) (show X.A.in1.handled = none from I.ok.hd calm) it a nit its.toArray) e hne (by simp [hne, nea]) (by simp)
    refine go.goes i s (fun v s2 => ∃ y H', Inv X pins σ H' s2 ∧ RelV y v ∧ (IteT X.K a).yld i H y H' ∧ AtEnum a e it (i + 1) s2.heap ∧ ∀ c ∈ [e, it], H' c = none) E hi ⟨⟨old, by rw [Int.zero_add]; exact he⟩, hit, ht⟩ fun v h' tk y st kept _ => ?_
    obtain ⟨T, t, u', rfl, new, hu', tup⟩ := y
    obtain ⟨⟨old', he'⟩, hit', _⟩ := st
    rw [Int.zero_add] at tup he'
    have eu : u' = u := by
      have z : its[i]? = some u' := by simpa using hu'
      rw [hu] at z
      exact (Option.some.inj z).symm
    subst eu
    have at' : AtEnum a e it (i + 1) h' := ⟨⟨old', he'⟩, hit', hne⟩
    refine ⟨.ref T, _, pair_laid I fp new tup ru kept (fun c m => (at'.thing m).imp fun _ z => z.1), rfl, ⟨T, x, rfl, I.hok.fresh new, rfl, fun ys hys => ?_⟩, at', fun c m => ?_⟩
    · obtain ⟨its2, rv2, ⟨o2, ho2, _, n2, hd2⟩, _⟩ := I.tuple hys
      obtain ⟨o1, ho1, _, n1, hd1⟩ := ht
      cases ho1.symm.trans ho2
      rw [hd1] at hd2
      have same : its = its2 := by simpa using (Data.seq.inj hd2).1
      subst same
      have hl : i < ys.length := by rw [rv2.length]; simpa using hi
      have hy : ys[i]? = some ys[i] := List.getElem?_eq_getElem hl
      obtain ⟨u2, hu2, ru2⟩ := vals_at rv2 hy
      rw [hu] at hu2
      cases hu2
      rw [hy, relV_one ru2 ru]
    · obtain ⟨o, ho, _⟩ := AtEnum.thing ⟨⟨old, he⟩, hit, hne⟩ m
      rw [upd_ne (Nat.ne_of_lt (Nat.lt_of_lt_of_le (Heap.lt_size ho) new))]
      exact (fp c m).1
  done := by
    rintro X rfl rfl rfl calm i pins s σ H E I fp ⟨⟨old, he⟩, hit, _⟩ ⟨xs, hq, hl⟩
    obtain ⟨its, rv, ht, _⟩ := I.tuple hq
    refine enumT_end (I.ok.hd calm) he hit ht (by rw [Array.getElem?_eq_none]; simpa [← rv.length] using hl) fun h' ext => ⟨rfl, ?_⟩
    obtain ⟨f1, f2, _, f4, f5, f6⟩ := fp it (by simp)
    exact I.turned (t' := s.toks) (fun c o z y => ext c o z y) f1 f2 f4 f5 f6
  self := fun A i s Q E st q => by
    obtain ⟨⟨_, he⟩, _⟩ := st
    exact wpAny_pyIter_enum he q
def iEnumA (K : PySem.W.Frag) (ta : TA) : TI := fun σ H R => ta σ H fun vs H1 => ∃ a xs, vs = [.ref a] ∧ ((SqL K H1 a xs ∧ R (Ite K a) H1) ∨ (SqT K H1 a xs ∧ R (IteT K a) H1))
theorem pi_enumA {X : Cx} {e : Expr} {ta : TA} {p pos tpos : Pos} {elts : List Expr} {kk : Nat} (hg : Gl X "enumerate") (hm : X.mg "enumerate" = none) (ha : PA X [e] ta) (hs : starEach [e] X.env = [(false, eval e X.env)] := by rfl) :
    PI X (.Tuple elts kk tpos) (.Call (.Name "enumerate" p) [e] [] pos) (iEnumA X.K ta) := by
  refine ⟨fun pins z σ H R I h => Call_ (ld_blt I hg hm boot_enumerate (PyProof.Rows.callWith_type1 (thn (ha.run pos pins z σ H _ I h) fun us z1 ⟨vs, H1, I1, r1, a, xs, ex, q1⟩ => ?_) hs rfl))⟩
  subst ex
  obtain ⟨u, rfl, ru⟩ : ∃ u, us = [u] ∧ RelV (.ref a) u := by
    cases r1 with
    | cons r rr => cases rr; exact ⟨_, rfl, r⟩
  cases (show u = .ref a from ru)
  rcases q1 with ⟨hq, q⟩ | ⟨hq, q⟩
  · obtain ⟨its, rv, p', _⟩ := I1.list hq
    refine enum_starts I1 (begins_list a its.toArray) p'.isList fun e' it h' e1 e2 I2 fp he hit => wpAny_pyIter_enum he ?_
    have ne : e' ≠ it := by omega
    exact ⟨e', [e', it], _, _, H1, rfl, I2, turn_enum a e' it, ⟨⟨.none, he⟩, ⟨_, hit, rfl, rfl⟩, ne⟩, fp, q⟩
  · obtain ⟨its, rv, p', _⟩ := I1.tuple hq
    refine enum_starts I1 (begins_tuple a its.toArray) p' fun e' it h' e1 e2 I2 fp he hit => wpAny_pyIter_enum he ?_
    have ne : e' ≠ it := by omega
    obtain ⟨o, ho, _⟩ := id p'
    have la : a < z1.heap.objs.size := Heap.lt_size ho
    exact ⟨e', [e', it], _, _, H1, rfl, I2, turn_enumT a e' it (by rw [e2]; exact Nat.ne_of_lt la) (by rw [e1, e2]; exact Nat.ne_of_gt (Nat.lt_succ_of_lt la)), ⟨⟨.none, he⟩, ⟨_, hit, rfl, rfl⟩, ne⟩, fp, q⟩
end Ev
end

section
/-! EvStar: a row of targets whose last one bears a star, over a tuple. -/
namespace Ev
open PySem PySem.Spec PyProof.Rows L2
section
variable {prog : Program} {w : World} {A : Around} {E : Value → Shared → Prop} {s : Shared}
/-- an iterator of a tuple, from its i-th thing on -/
theorem tail_walk (hh : A.handled = none) (it t : Addr) (hne : t ≠ it) (items : Array Value) (i : Nat) :
    Walks prog w A it [it, t] [it] (items.size - i) (fun j v => items[i + j]? = some v) (fun j h => IsTupIter h it t (i + j) ∧ IsTup h t items ∧ i ≤ items.size) where
  sub := fun b hb => by simp at hb; simp [hb]
  frame := fun _ _ _ st hk => ⟨let ⟨o, ho, r⟩ := st.1; ⟨o, hk it (by simp) _ ho, r⟩, (let ⟨o, ho, r⟩ := st.2.1; ⟨o, hk t (by simp) _ ho, r⟩), st.2.2⟩
  item := fun j s Q E hj st hQ => by
    have hlt : i + j < items.size := by omega
    refine next_tuple_item st.1 st.2.1 (x := items[i + j]) (by simp [hlt]) fun h' hit' hs' => ?_
    exact hQ _ h' s.toks (by simp [hlt]) ⟨hit', st.2.1.extBut hs'.extBut hne, st.2.2⟩ fun b o hb e => hs'.extBut b o (fun h => hb (by simp [h])) e
  done := fun s Q E st hQ => next_tuple_end hh st.1 st.2.1 (by have := st.2.2; simp; omega) fun h' he' => hQ h' s.toks fun b o hb e => he' b o (fun h => hb (by simp [h])) e
  self := fun _ _ _ _ st hQ => wpAny_pyIter_tupleiter (show Heap.IsTupleIter _ it t _ from st.1) hQ
theorem items_star {t : Addr} {items : Array Value} {i : Nat} {Q : List Value → Shared → Prop} (hh : A.handled = none) (ht : IsTup s.heap t items) (hi : i ≤ items.size) (hz : items.size ≤ sizeLine)
    (hQ : ∀ (h' : Heap) (tk : Nat), (∀ b o, s.heap.get? b = some o → h'.get? b = some o) → Q (items.toList.take i ++ [.ref h'.objs.size]) { s with heap := h'.push { cls := .type "list", data := .seq (items.toList.drop i).toArray }, toks := tk }) :
    wpAny (model prog w) A (unpackItems (.ref t) (i + 1) (some i)) Q E s := by
  have hlt : t ≠ s.heap.objs.size := by obtain ⟨o, ho, _⟩ := ht; exact Nat.ne_of_lt (Heap.lt_size ho)
  unfold unpackItems
  refine wpAny_bind ?_
  unfold notIterableAtAll
  refine wpAny_bind (wpAny_specialOf ht.typeIs slot_tuple_iter.lookup ?_)
  refine wpAny_pure ?_
  simp only [Bool.false_eq_true, if_false]
  refine wpAny_bind (wpAny_holding (iter_tuple ht ?_))
  refine wpAny_bind (wpAny_holding (draw_tuple hlt i 0 _ _ ⟨_, Heap.get?_push_size _ rfl, rfl, rfl⟩ (ht.push _) (by omega) fun h₁ hit₁ hs₁ => ?_))
  rw [List.drop_zero, Nat.zero_add] at *
  rw [if_neg (by simp; omega)]
  have ht₁ : IsTup h₁ t items := (ht.push _).extBut hs₁.extBut hlt
  have keep1 : ∀ b o, s.heap.get? b = some o → h₁.get? b = some o := fun b o e => hs₁.extBut b o (Nat.ne_of_lt (Heap.lt_size e)) (Heap.get?_push_of_some _ e)
  refine wpAny_bind (wpAny_holding (wpAny_collect_iter (T := "tuple_iterator") (.inr (.inr (.inr rfl))) (tail_walk (A := A.in1) hh s.heap.objs.size t hlt items i).toS (fun j s st => let ⟨o, ho, hc, _⟩ := st.1; ⟨o, ho, hc⟩)
    ⟨hit₁, ht₁, hi⟩ (fun b hb => ?_) (by simp) (fun s' acc mv ia => ?_) (by omega)))
  · simp at hb
    rcases hb with rfl | rfl
    · obtain ⟨o, ho, _⟩ := hit₁; exact Heap.lt_size ho
    · obtain ⟨o, ho, _⟩ := ht₁; exact Heap.lt_size ho
  · obtain ⟨h', g', d', tk', os'⟩ := s'
    obtain rfl : g' = s.gens := mv.gens
    obtain rfl : d' = s.drawn := mv.drawn
    obtain rfl : os' = s.os := mv.os
    have ea : acc.toList = items.toList.drop i := by
      have l : acc.toList.length = items.size - i := by rw [Array.length_toList]; exact ia.1
      refine List.ext_getElem? fun j => ?_
      rw [List.getElem?_drop]
      by_cases hj : j < items.size - i
      · have hj2 : j < acc.size := by rw [ia.1]; exact hj
        have e1 : acc[j]? = some (acc[j]'hj2) := Array.getElem?_eq_getElem hj2
        have e2 := ia.2 j _ e1
        simp only [Array.getElem?_toList]
        rw [e1, e2]
      · rw [List.getElem?_eq_none (by omega), List.getElem?_eq_none (by simp; omega)]
    rw [ea]
    have c1 : ¬ (items.toList.drop i).length < i + 1 - 1 - i := by omega
    rw [if_neg c1]
    have c2 : (items.toList.drop i).length - (i + 1 - 1 - i) = (items.toList.drop i).length := by omega
    rw [c2, List.take_length, List.drop_length]
    simp only [List.append_nil]
    refine wpAny_bind (wpAny_newList (wpAny_pure ?_) (by rw [List.length_drop, Array.length_toList]; omega))
    exact hQ h' tk' fun b o e => mv.heap b o (fun z => by
      simp at z
      subst z
      exact absurd (Heap.lt_size e) (Nat.lt_irrefl _)) (keep1 b o e)
/-- the whole row -/
theorem unpack_star {t : Addr} {items : Array Value} {targets : List (Bool × (Value → Sem Unit))} {i : Nat} {Q : Unit → Shared → Prop} (hh : A.handled = none) (ht : IsTup s.heap t items) (hn : targets.length = i + 1) (hstar : targets.findIdx? (·.1) = some i) (hi : i ≤ items.size) (hz : items.size ≤ sizeLine)
    (h : ∀ (h' : Heap) (tk : Nat), (∀ b o, s.heap.get? b = some o → h'.get? b = some o) → wpAny (model prog w) A (assignInOrder (targets.map (·.2)) (items.toList.take i ++ [.ref h'.objs.size])) Q E { s with heap := h'.push { cls := .type "list", data := .seq (items.toList.drop i).toArray }, toks := tk }) :
    wpAny (model prog w) A (unpack (.ref t) targets) Q E s := by
  unfold unpack
  rw [hn, hstar]
  exact wpAny_bind (wpAny_holding (items_star hh ht hi hz h))
end
/-- (a, b, .., *r) = a tuple -/
def gStar (K : PySem.W.Frag) (i : Nat) (t : TGs) : TG := fun v σ H Q => ∃ a xs, v = .ref a ∧ SqT K H a xs ∧ i ≤ xs.length ∧ ∀ l, H l = none → t (xs.take i ++ [.ref l]) σ (upd H l (.lst (xs.drop i))) Q
theorem pg_star {X : Cx} {es : List Expr} {k : Nat} {t : TGs} {i : Nat} {pos : Pos} (hc : X.calm = true) (h : PGs X es t) (hn : (assignEach es X.env).length = i + 1) (hst : (assignEach es X.env).findIdx? (·.1) = some i) : PG X (.Tuple es k pos) (gStar X.K i t) := by
  refine ⟨fun pins s σ H v u Q I r hw => ?_⟩
  obtain ⟨a, xs, rfl, hq, hl, hw⟩ := hw
  cases r
  obtain ⟨its, rv, ht, hz⟩ := I.tuple hq
  have ls : its.length = xs.length := rv.length.symm
  rw [PyProof.Rows.assign_Tuple]
  refine wpAny_bind (wpAny_standAt (unpack_star (I.ok.hd hc) ht hn hst (by simp; omega) (by simpa [ls] using hz) fun h' tk keep => ?_))
  have rd : Vals (xs.drop i) (its.drop i) := rv.drop i
  have I0 : L2.Inv X pins σ H { s with heap := h', toks := tk } := I.kept keep
  have I1 : L2.Inv X pins σ (upd H h'.objs.size (.lst (xs.drop i))) { s with heap := h'.push { cls := .type "list", data := .seq (its.drop i).toArray }, toks := tk } :=
    I0.laid (fun b o e => Heap.get?_push_of_some _ e) (Nat.le_refl _) ⟨by rw [List.length_drop]; omega, its.drop i, _, rd, Heap.get?_push_size _ rfl⟩
  refine h.run pins _ σ _ (xs.take i ++ [.ref h'.objs.size]) _ Q I1 ?_ (hw _ (I0.hok.fresh (Nat.le_refl _)))
  exact (rv.take i).append (.cons rfl .nil)
end Ev
end

section
/-! EvIt: what loops walk. -/
namespace Ev
open PySem L2
variable {C : Cn} {μ μ' : List Addr} {H H' : Hp} {M M' : Sto} {bs : List Nat} {v : V} {X : Cx} {W : XK} {Q : VK} {b : Nat}
/-- an iterator of the layer walks what a source says -/
structure SrcJ (C : Cn) (μ0 : List Addr) (H0 : Hp) (s : Src) (J : It) : Prop where
  stop : ∀ bs μ M H i, Lo μ0 H0 μ H → Rep C bs μ M H → s.next M i = some none → J.stop i H
  go : ∀ bs μ M H i d, Lo μ0 H0 μ H → Rep C bs μ M H → s.next M i = some (some d) → J.go i H ∧ ∀ x H', J.yld i H x H' → Le μ H μ H' ∧ Rep C bs μ M H' ∧ RelD C μ H' d x
theorem get_none {α β : Type} {xs : List α} {ys : List β} {i : Nat} (h : xs.length = ys.length) (e : xs[i]? = none) : ys.length ≤ i := by
  have := List.getElem?_eq_none_iff.mp e
  omega
theorem lst_next {n i : Nat} {o : Option D} (h : (Src.lst n).next M i = some o) : ∃ xs, M[n]? = some (.lst xs) ∧ xs[i]? = o := by
  unfold Src.next at h
  cases e : M[n]? with
  | none => rw [e] at h; cases h
  | some ob =>
    rw [e] at h
    cases ob with
    | lst xs => cases h; exact ⟨xs, rfl, rfl⟩
    | _ => cases h
/-- a list source: at each turn it lies at a -/
structure LSrc (C : Cn) (μ0 : List Addr) (H0 : Hp) (s : Src) (a : Addr) : Prop where
  at_ : ∀ bs μ M H i o, Lo μ0 H0 μ H → Rep C bs μ M H → s.next M i = some o → ∃ xs vs, SqL C.K H a vs ∧ RelDs C μ H xs vs ∧ xs[i]? = o
theorem lsrc_ok (R : Rep C bs μ M H) {d : D} {s : Src} (e : lsrc M d = some s) (r : RelD C μ H d v) : ∃ a vs, v = .ref a ∧ SqL C.K H a vs ∧ LSrc C μ H s a := by
  unfold lsrc at e
  cases d with
  | frz xs =>
    cases e
    obtain ⟨a, vs, rfl, h1, z⟩ := relD_frz.mp r
    refine ⟨a, vs, rfl, h1.sq, ⟨fun bs' μ' M' H' i o l R' e => ?_⟩⟩
    unfold Src.next at e
    cases e
    exact ⟨xs, vs, (h1.stay l.st).sq, z.lo l, rfl⟩
  | loc n =>
    dsimp only at e
    cases e1 : M[n]? with
    | none => rw [e1] at e; cases e
    | some ob =>
      rw [e1] at e
      cases ob with
      | lst xs =>
        cases e
        obtain ⟨a, vs, rfl, ea, h1, z⟩ := R.lst e1 r
        refine ⟨a, vs, rfl, .of h1, ⟨fun bs' μ' M' H' i o l R' e => ?_⟩⟩
        obtain ⟨ys, e2, e3⟩ := lst_next e
        obtain ⟨ws, h2, z2⟩ := R'.at (pre_get l.pre ea) e2
        exact ⟨ys, ws, .of h2, z2, e3⟩
      | _ => cases e
  | _ => cases e
variable {pins : List (Addr × Obj)} {σ : St} {s : Shared}
/-- two readings of one list agree -/
theorem sqL_inj {K : PySem.W.Frag} {a : Addr} {vs ws : List V} (h : ∀ o, H a = some o → K.lookup a = none) (p : SqL K H a vs) (q : SqL K H a ws) : vs = ws := by
  rcases p with (p | ⟨o, p⟩) | ⟨o, its, n, p, _, _, p2, _, p3⟩
  · rcases q with (q | ⟨o', q⟩) | ⟨o', its', n', q, _⟩
    · rw [p] at q; cases q; rfl
    · rw [p] at q; cases q
    · rw [h _ p] at q; cases q
  · rcases q with (q | ⟨o', q⟩) | ⟨o', its', n', q, _⟩
    · rw [p] at q; cases q
    · rw [p] at q; cases q; rfl
    · rw [h _ p] at q; cases q
  · rcases q with (q | ⟨o', q⟩) | ⟨o', its', n', q, _, _, q2, _, q3⟩
    · rw [h _ q] at p; cases p
    · rw [h _ q] at p; cases p
    · rw [p] at q
      cases q
      rw [p2] at q2
      cases q2
      exact Vals.inj p3 q3
theorem LSrc.list {s : Src} {a : Addr} (L : LSrc C μ H s a) : SrcJ C μ H s (Itl C.K a) where
  stop := fun bs' μ' M' H' i l R' e => by
    obtain ⟨xs, vs, h1, z, e1⟩ := L.at_ _ _ _ _ _ _ l R' e
    exact ⟨vs, h1, get_none z.length e1⟩
  go := fun bs' μ' M' H' i d l R' e => by
    obtain ⟨xs, vs, h1, z, e1⟩ := L.at_ _ _ _ _ _ _ l R' e
    obtain ⟨w, hw, r⟩ := z.get e1
    refine ⟨⟨vs, w, h1, hw⟩, fun x H2 y => ?_⟩
    obtain ⟨e2, y⟩ := y
    subst e2
    have hx := y vs h1
    rw [hw] at hx
    cases hx
    exact ⟨.refl _ _, R', r⟩
theorem its_tup {xs : List D} {a : Addr} {vs : List V} (h : SqT C.K H a vs) (z : RelDs C μ H xs vs) : SrcJ C μ H (.its xs) (Itt C.K a) where
  stop := fun bs' μ' M' H' i l R' e => by
    unfold Src.next at e
    exact ⟨vs, sqT_stay h l.st, get_none z.length (by injection e)⟩
  go := fun bs' μ' M' H' i d l R' e => by
    unfold Src.next at e
    obtain ⟨w, hw, r⟩ := (z.lo l).get (i := i) (d := d) (by injection e)
    refine ⟨⟨vs, w, sqT_stay h l.st, hw⟩, fun x H2 y => ?_⟩
    obtain ⟨e2, y⟩ := y
    subst e2
    have hx := y vs (sqT_stay h l.st)
    rw [hw] at hx
    cases hx
    exact ⟨.refl _ _, R', r⟩
theorem rng_J (lo : Int) (n : Nat) : SrcJ C μ H (.rng lo n) (Itr lo n) where
  stop := fun bs' μ' M' H' i l R' e => by
    unfold Src.next at e
    by_cases hi : i < n
    · rw [if_pos hi] at e; cases e
    · show n ≤ i; omega
  go := fun bs' μ' M' H' i d l R' e => by
    unfold Src.next at e
    by_cases hi : i < n
    · rw [if_pos hi] at e
      cases e
      refine ⟨hi, fun x H2 y => ?_⟩
      obtain ⟨e2, y⟩ := y
      subst e2
      exact ⟨.refl _ _, R', relD_int.mpr y⟩
    · rw [if_neg hi] at e; cases e
theorem str_J (t : List Nat) : SrcJ C μ H (.str t) (Its ⟨t.toArray⟩) where
  stop := fun bs' μ' M' H' i l R' e => by
    unfold Src.next at e
    show t.toArray.size ≤ i
    cases q : t[i]? with
    | none => simpa using List.getElem?_eq_none_iff.mp q
    | some c => rw [q] at e; cases e
  go := fun bs' μ' M' H' i d l R' e => by
    unfold Src.next at e
    cases q : t[i]? with
    | none => rw [q] at e; cases e
    | some c =>
      rw [q] at e
      cases e
      refine ⟨by show i < t.toArray.size; simpa using (List.getElem?_eq_some_iff.mp q).1, fun x H2 y => ?_⟩
      obtain ⟨e2, c', hc, y⟩ := y
      subst e2
      have hc' : t[i]? = some c' := by simpa using hc
      rw [q] at hc'
      cases hc'
      exact ⟨.refl _ _, R', relD_str.mpr y⟩
theorem LSrc.enu {s : Src} {a : Addr} (L : LSrc C μ H s a) : SrcJ C μ H (.enu s) (Ite C.K a) where
  stop := fun bs' μ' M' H' i l R' e => by
    unfold Src.next at e
    cases q : s.next M' i with
    | none => rw [q] at e; cases e
    | some o =>
      rw [q] at e
      cases o with
      | some d => cases e
      | none =>
        obtain ⟨xs, vs, h1, z, e1⟩ := L.at_ _ _ _ _ _ _ l R' q
        exact ⟨vs, h1, get_none z.length e1⟩
  go := fun bs' μ' M' H' i d l R' e => by
    unfold Src.next at e
    cases q : s.next M' i with
    | none => rw [q] at e; cases e
    | some o =>
      rw [q] at e
      cases o with
      | none => cases e
      | some d =>
        cases e
        obtain ⟨xs, vs, h1, z, e1⟩ := L.at_ _ _ _ _ _ _ l R' q
        obtain ⟨w, hw, r⟩ := z.get e1
        refine ⟨⟨vs, w, h1, hw⟩, fun x H2 y => ?_⟩
        obtain ⟨T, w', ex, hT, e2, y⟩ := y
        subst e2 ex
        have hx := y vs h1
        rw [hw] at hx
        cases hx
        exact ⟨.new hT, R'.new hT, relD_tupF.mpr ⟨T, _, rfl, .of upd_same, .cons (relD_int.mpr rfl) (.cons (r.le (.new hT)) .nil), fun z => (by cases z), fun _ => upd_same⟩⟩
theorem pairs_head {d : D} {ds : List D} {kvs : List (KY × D)} (h : pairsD (d :: ds) = some kvs) : isTup d = true ∧ ∃ r, pairsD ds = some r := by
  unfold pairsD at h
  split at h
  · rename_i e0; cases e0
  · rename_i e0
    obtain ⟨rfl, rfl⟩ := List.cons.inj e0
    split at h
    · rename_i r e1; exact ⟨rfl, r, e1⟩
    · cases h
  · cases h
theorem pairs_tup {d e : D} {kvs : List (KY × D)} (h : pairsD [d, e] = some kvs) : isTup d = true ∧ isTup e = true := by
  obtain ⟨h1, r, h2⟩ := pairs_head h
  exact ⟨h1, (pairs_head h2).1⟩
theorem zip_next {s t : Src} {i : Nat} {o : Option D} (h : (Src.zip s t).next M i = some o) : (∃ d e, s.next M i = some (some d) ∧ t.next M i = some (some e) ∧ o = some (.tup [d, e]) ∧ pairsD [d, e] = none) ∨
    (o = none ∧ ∃ p q, s.next M i = some p ∧ t.next M i = some q ∧ (p = none ∨ q = none)) := by
  unfold Src.next at h
  cases e1 : s.next M i with
  | none => rw [e1] at h; cases h
  | some p =>
    cases e2 : t.next M i with
    | none => rw [e1, e2] at h; cases p <;> cases h
    | some q =>
      rw [e1, e2] at h
      cases p with
      | none => cases h; exact .inr ⟨rfl, none, q, rfl, rfl, .inl rfl⟩
      | some d =>
        cases q with
        | none => cases h; exact .inr ⟨rfl, some d, none, rfl, rfl, .inr rfl⟩
        | some e =>
          dsimp only at h
          cases ht : isTup d && isTup e with
          | true => rw [ht] at h; cases h
          | false =>
            rw [ht] at h
            cases h
            refine .inl ⟨d, e, rfl, rfl, rfl, ?_⟩
            cases q : pairsD [d, e] with
            | none => rfl
            | some kvs =>
              obtain ⟨h1, h2⟩ := pairs_tup q
              rw [h1, h2] at ht
              cases ht
theorem LSrc.zip {s t : Src} {a a' : Addr} (L : LSrc C μ H s a) (L' : LSrc C μ H t a') : SrcJ C μ H (.zip s t) (Itz C.K a a') where
  stop := fun bs' μ' M' H' i l R' e => by
    rcases zip_next e with ⟨_, _, _, _, h, _⟩ | ⟨_, p, q, e1, e2, h⟩
    · cases h
    · obtain ⟨xs, vs, h1, z1, f1⟩ := L.at_ _ _ _ _ _ _ l R' e1
      obtain ⟨ys, ws, h2, z2, f2⟩ := L'.at_ _ _ _ _ _ _ l R' e2
      refine ⟨vs, ws, h1, h2, h.imp (fun z => ?_) fun z => ?_⟩
      · subst z; exact get_none z1.length f1
      · subst z; exact get_none z2.length f2
  go := fun bs' μ' M' H' i d l R' e => by
    rcases zip_next e with ⟨d1, d2, e1, e2, h, hnp⟩ | ⟨h, _⟩
    · cases h
      obtain ⟨xs, vs, h1, z1, f1⟩ := L.at_ _ _ _ _ _ _ l R' e1
      obtain ⟨ys, ws, h2, z2, f2⟩ := L'.at_ _ _ _ _ _ _ l R' e2
      obtain ⟨w1, hw1, r1⟩ := z1.get f1
      obtain ⟨w2, hw2, r2⟩ := z2.get f2
      refine ⟨⟨vs, ws, w1, w2, h1, h2, hw1, hw2⟩, fun x H2 y => ?_⟩
      obtain ⟨T, w1', w2', ex, hT, e3, y1, y2⟩ := y
      subst e3 ex
      have hx := y1 vs h1
      have hy := y2 ws h2
      rw [hw1] at hx
      rw [hw2] at hy
      cases hx
      cases hy
      exact ⟨.new hT, R'.new hT, relD_tupF.mpr ⟨T, _, rfl, .of upd_same, .cons (r1.le (.new hT)) (.cons (r2.le (.new hT)) .nil), fun z => absurd z (by rw [hnp]; decide), fun _ => upd_same⟩⟩
    · cases h
theorem zip_tup {xs ys : List D} {a a' : Addr} {vs ws : List V} (h1 : SqT C.K H a vs) (z1 : RelDs C μ H xs vs) (h2 : SqT C.K H a' ws) (z2 : RelDs C μ H ys ws) : SrcJ C μ H (.zip (.its xs) (.its ys)) (RZ.ItzT C.K a a') where
  stop := fun bs' μ' M' H' i l R' e => by
    rcases zip_next e with ⟨_, _, _, _, h, _⟩ | ⟨_, p, q, e1, e2, h⟩
    · cases h
    · unfold Src.next at e1 e2
      refine ⟨vs, ws, sqT_stay h1 l.st, sqT_stay h2 l.st, h.imp (fun z => ?_) fun z => ?_⟩
      · subst z; exact get_none z1.length (by injection e1)
      · subst z; exact get_none z2.length (by injection e2)
  go := fun bs' μ' M' H' i d l R' e => by
    rcases zip_next e with ⟨d1, d2, e1, e2, h, hnp⟩ | ⟨h, _⟩
    · cases h
      unfold Src.next at e1 e2
      have h1' := sqT_stay h1 l.st
      have h2' := sqT_stay h2 l.st
      obtain ⟨w1, hw1, r1⟩ := (z1.lo l).get (i := i) (d := d1) (by injection e1)
      obtain ⟨w2, hw2, r2⟩ := (z2.lo l).get (i := i) (d := d2) (by injection e2)
      refine ⟨⟨vs, ws, w1, w2, h1', h2', hw1, hw2⟩, fun x H2 y => ?_⟩
      obtain ⟨T, w1', w2', ex, hT, e3, y1, y2⟩ := y
      subst e3 ex
      have hx := y1 vs h1'
      have hy := y2 ws h2'
      rw [hw1] at hx
      rw [hw2] at hy
      cases hx
      cases hy
      exact ⟨.new hT, R'.new hT, relD_tupF.mpr ⟨T, _, rfl, .of upd_same, .cons (r1.le (.new hT)) (.cons (r2.le (.new hT)) .nil), fun z => absurd z (by rw [hnp]; decide), fun _ => upd_same⟩⟩
    · cases h
theorem zips_next {s t : Src} {i : Nat} {o : Option D} (h : (Src.zips s t).next M i = some o) : (∃ d e, s.next M i = some (some d) ∧ t.next M i = some (some e) ∧ o = some (.tup [d, e]) ∧ pairsD [d, e] = none) ∨
    (o = none ∧ s.next M i = some none ∧ t.next M i = some none) := by
  unfold Src.next at h
  cases e1 : s.next M i with
  | none => rw [e1] at h; cases h
  | some p =>
    cases e2 : t.next M i with
    | none => rw [e1, e2] at h; cases p <;> cases h
    | some q =>
      rw [e1, e2] at h
      cases p with
      | none =>
        cases q with
        | none => cases h; exact .inr ⟨rfl, rfl, rfl⟩
        | some _ => cases h
      | some d =>
        cases q with
        | none => cases h
        | some e =>
          dsimp only at h
          cases ht : isTup d && isTup e with
          | true => rw [ht] at h; cases h
          | false =>
            rw [ht] at h
            cases h
            refine .inl ⟨d, e, rfl, rfl, rfl, ?_⟩
            cases q : pairsD [d, e] with
            | none => rfl
            | some kvs =>
              obtain ⟨h1, h2⟩ := pairs_tup q
              rw [h1, h2] at ht
              cases ht
theorem zips_tup {xs ys : List D} {a a' : Addr} {vs ws : List V} (h1 : SqT C.K H a vs) (z1 : RelDs C μ H xs vs) (h2 : SqT C.K H a' ws) (z2 : RelDs C μ H ys ws) : SrcJ C μ H (.zips (.its xs) (.its ys)) (ItzS C.K a a') where
  stop := fun bs' μ' M' H' i l R' e => by
    rcases zips_next e with ⟨_, _, _, _, h, _⟩ | ⟨_, e1, e2⟩
    · cases h
    · unfold Src.next at e1 e2
      exact ⟨vs, ws, sqT_stay h1 l.st, sqT_stay h2 l.st, get_none z1.length (by injection e1), get_none z2.length (by injection e2)⟩
  go := fun bs' μ' M' H' i d l R' e => by
    rcases zips_next e with ⟨d1, d2, e1, e2, h, hnp⟩ | ⟨h, _⟩
    · cases h
      unfold Src.next at e1 e2
      have h1' := sqT_stay h1 l.st
      have h2' := sqT_stay h2 l.st
      obtain ⟨w1, hw1, r1⟩ := (z1.lo l).get (i := i) (d := d1) (by injection e1)
      obtain ⟨w2, hw2, r2⟩ := (z2.lo l).get (i := i) (d := d2) (by injection e2)
      refine ⟨⟨vs, ws, w1, w2, h1', h2', hw1, hw2⟩, fun x H2 y => ?_⟩
      obtain ⟨T, w1', w2', ex, hT, e3, y1, y2⟩ := y
      subst e3 ex
      have hx := y1 vs h1'
      have hy := y2 ws h2'
      rw [hw1] at hx
      rw [hw2] at hy
      cases hx
      cases hy
      exact ⟨.new hT, R'.new hT, relD_tupF.mpr ⟨T, _, rfl, .of upd_same, .cons (r1.le (.new hT)) (.cons (r2.le (.new hT)) .nil), fun z => absurd z (by rw [hnp]; decide), fun _ => upd_same⟩⟩
    · cases h
theorem enu_tup {xs : List D} {a : Addr} {vs : List V} (h1 : SqT C.K H a vs) (z1 : RelDs C μ H xs vs) : SrcJ C μ H (.enu (.its xs)) (IteT C.K a) where
  stop := fun bs' μ' M' H' i l R' e => by
    unfold Src.next at e
    unfold Src.next at e
    cases q : xs[i]? with
    | some d => rw [q] at e; cases e
    | none => exact ⟨vs, sqT_stay h1 l.st, get_none z1.length q⟩
  go := fun bs' μ' M' H' i d l R' e => by
    unfold Src.next at e
    unfold Src.next at e
    cases q : xs[i]? with
    | none => rw [q] at e; cases e
    | some d0 =>
      rw [q] at e
      cases e
      have h1' := sqT_stay h1 l.st
      obtain ⟨w, hw, r⟩ := (z1.lo l).get q
      refine ⟨⟨vs, w, h1', hw⟩, fun x H2 y => ?_⟩
      obtain ⟨T, w', rfl, hT, rfl, y⟩ := y
      have hx := y vs h1'
      rw [hw] at hx
      cases hx
      exact ⟨.new hT, R'.new hT, relD_tupF.mpr ⟨T, _, rfl, .of upd_same, .cons (relD_int.mpr rfl) (.cons (r.le (.new hT)) .nil), fun z => (by cases z), fun _ => upd_same⟩⟩
/-- iter(x) of a list, a tuple, a text -/
theorem iter_seq {tg : Expr} {R : It → Hp → Prop} {u : Value} {E : Value → Shared → Prop} (hK : X.K = C.K) (Rp : Rep C bs μ M H) {d : D} {sr : Src} (e : srcOf M d = some sr) (r : RelD C μ H d v) (I : L2.Inv X pins σ H s) (rv : RelV v u)
    (q : ∀ J, SrcJ C μ H sr J → R J H) : wpAny (model X.prog X.w) X.A (pyIter u) (PIE X pins σ tg R) E s := by
  have lst : ∀ {a : Addr} {vs : List V}, v = .ref a → SqL C.K H a vs → R (Itl C.K a) H → wpAny (model X.prog X.w) X.A (pyIter u) (PIE X pins σ tg R) E s := fun {a vs} ev h hR => by
    subst ev
    cases rv
    rw [← hK] at h hR
    obtain ⟨its, rr, p, _⟩ := I.list h
    exact wpAny_pyIter_list p.isList (pi_one (tk := s.toks) I _ (turn_list a _) ⟨_, Heap.get?_push_size _ rfl, rfl, rfl⟩ hR)
  cases d with
  | tup xs =>
    cases e
    obtain ⟨a, vs, rfl, h, z⟩ := relD_tup r
    have hR := q _ (its_tup h z)
    cases rv
    rw [← hK] at h hR
    obtain ⟨its, rr, p, _⟩ := I.tuple h
    exact wpAny_pyIter_tuple (show s.heap.IsTuple a its.toArray from p) (pi_one (tk := s.toks) I _ (turn_tuple a _) ⟨_, Heap.get?_push_size _ rfl, rfl, rfl⟩ hR)
  | frz xs =>
    obtain ⟨a, vs, ev, h, L⟩ := lsrc_ok Rp (d := .frz xs) (s := sr) e r
    exact lst ev h (q _ L.list)
  | loc n =>
    obtain ⟨a, vs, ev, h, L⟩ := lsrc_ok Rp (d := .loc n) (s := sr) e r
    exact lst ev h (q _ L.list)
  | str t =>
    cases e
    cases relD_str.mp r
    obtain ⟨tk, rfl⟩ := rv
    have hR := q _ (str_J t)
    cases ha : (⟨t.toArray⟩ : Str).cps.all (· < 128)
    · exact wpAny_pyIter_wide ha (pi_one (tk := s.toks) I _ (turn_str _ _ tk "str_iterator" (.inr rfl)) ⟨_, Heap.get?_push_size _ rfl, rfl, rfl⟩ hR)
    · exact wpAny_pyIter_ascii ha (pi_one (tk := s.toks) I _ (turn_str _ _ tk "str_ascii_iterator" (.inl rfl)) ⟨_, Heap.get?_push_size _ rfl, rfl, rfl⟩ hR)
  | _ => cases e
end Ev
end

section
/-! EvRd: the readings: what the evaluator says of a text, as the layer wants it. -/
namespace Ev
open PySem L2
variable {C : Cn} {μ μ' μ1 : List Addr} {H H' H1 : Hp} {M M' M1 : Sto} {bs : List Nat} {v : V} {X : Cx} {W : XK} {b : Nat} {ρ : Enn} {σ : St} {cf : Cf}

structure At (C : Cn) (bs : List Nat) (b : Nat) (μ : List Addr) (ρ : Enn) (M : Sto) (σ : St) (H : Hp) : Prop where
  hb : ∀ c ∈ bs, c ≤ b
  R : Rep C bs μ M H
  re : RelEn C μ H ρ σ
theorem At.le (a : At C bs b μ ρ M σ H) (l : Le μ H μ1 H1) (R : Rep C bs μ1 M1 H1) : At C bs b μ1 ρ M1 σ H1 := ⟨a.hb, R, a.re.le l⟩
def tE (C : Cn) (W : XK) (cf : Cf) (e : E) : TE := fun σ H Q => ∃ bs b μ ρ M, At C bs b μ ρ M σ H ∧ VP C bs W μ H (evE cf b e ρ M) Q
def tL (C : Cn) (W : XK) (cf : Cf) (e : EL) : TA := fun σ H Q => ∃ bs b μ ρ M, At C bs b μ ρ M σ H ∧ Post C bs W μ H (evL cf b e ρ M) (fun ds μ' _ H' => ∀ vs, RelDs C μ' H' ds vs → Q vs H')
def tO (C : Cn) (W : XK) (cf : Cf) (e : EO) : TO := fun σ H Q => ∃ bs b μ ρ M, At C bs b μ ρ M σ H ∧ Post C bs W μ H (evO cf b e ρ M) (fun o _ _ H' => Q o H')
def tT (C : Cn) (W : XK) (cf : Cf) (e : T) : TT := fun σ H Q => ∃ bs b μ ρ M, At C bs b μ ρ M σ H ∧ Post C bs W μ H (evT cf b e ρ M) (fun k _ _ H' => Q k H')
def tI (C : Cn) (W : XK) (cf : Cf) (e : IT) : TI := fun σ H R => ∃ bs b μ ρ M, At C bs b μ ρ M σ H ∧ Post C bs W μ H (evI cf b e ρ M) (fun s μ' _ H' => ∀ J, SrcJ C μ' H' s J → R J H')

theorem E_then {β : Type} {e : E} {f : D → Sto → Out β} {Q0 : β → List Addr → Sto → Hp → Prop} {Q : VK} (a : At C bs b μ ρ M σ H) (h : Post C bs W μ H ((evE cf b e ρ M).bind f) Q0)
    (k : ∀ d v μ1 M1 H1, Le μ H μ1 H1 → At C bs b μ1 ρ M1 σ H1 → RelD C μ1 H1 d v → Post C bs W μ1 H1 (f d M1) Q0 → Q v H1) : tE C W cf e σ H Q :=
  ⟨bs, b, μ, ρ, M, a, (Post.bind h).imp fun d μ1 M1 H1 l R p v r => k d v μ1 M1 H1 l (a.le l R) r p⟩
theorem L_then {β : Type} {e : EL} {f : List D → Sto → Out β} {Q0 : β → List Addr → Sto → Hp → Prop} {Q : List V → Hp → Prop} (a : At C bs b μ ρ M σ H) (h : Post C bs W μ H ((evL cf b e ρ M).bind f) Q0)
    (k : ∀ d v μ1 M1 H1, Le μ H μ1 H1 → At C bs b μ1 ρ M1 σ H1 → RelDs C μ1 H1 d v → Post C bs W μ1 H1 (f d M1) Q0 → Q v H1) : tL C W cf e σ H Q :=
  ⟨bs, b, μ, ρ, M, a, (Post.bind h).imp fun d μ1 M1 H1 l R p v r => k d v μ1 M1 H1 l (a.le l R) r p⟩
theorem T_then {β : Type} {e : T} {f : Bool → Sto → Out β} {Q0 : β → List Addr → Sto → Hp → Prop} {Q : Bool → Hp → Prop} (a : At C bs b μ ρ M σ H) (h : Post C bs W μ H ((evT cf b e ρ M).bind f) Q0)
    (k : ∀ d μ1 M1 H1, Le μ H μ1 H1 → At C bs b μ1 ρ M1 σ H1 → Post C bs W μ1 H1 (f d M1) Q0 → Q d H1) : tT C W cf e σ H Q :=
  ⟨bs, b, μ, ρ, M, a, (Post.bind h).imp fun d μ1 M1 H1 l R p => k d μ1 M1 H1 l (a.le l R) p⟩
theorem O_then {β : Type} {e : EO} {f : Option Int → Sto → Out β} {Q0 : β → List Addr → Sto → Hp → Prop} {Q : Option Int → Hp → Prop} (a : At C bs b μ ρ M σ H) (h : Post C bs W μ H ((evO cf b e ρ M).bind f) Q0)
    (k : ∀ d μ1 M1 H1, Le μ H μ1 H1 → At C bs b μ1 ρ M1 σ H1 → Post C bs W μ1 H1 (f d M1) Q0 → Q d H1) : tO C W cf e σ H Q :=
  ⟨bs, b, μ, ρ, M, a, (Post.bind h).imp fun d μ1 M1 H1 l R p => k d μ1 M1 H1 l (a.le l R) p⟩
theorem I_then {β : Type} {e : IT} {f : Src → Sto → Out β} {Q0 : β → List Addr → Sto → Hp → Prop} {Q : It → Hp → Prop} (a : At C bs b μ ρ M σ H) (h : Post C bs W μ H ((evI cf b e ρ M).bind f) Q0)
    (k : ∀ d J μ1 M1 H1, Le μ H μ1 H1 → At C bs b μ1 ρ M1 σ H1 → SrcJ C μ1 H1 d J → Post C bs W μ1 H1 (f d M1) Q0 → Q J H1) : tI C W cf e σ H Q :=
  ⟨bs, b, μ, ρ, M, a, (Post.bind h).imp fun d μ1 M1 H1 l R p J r => k d J μ1 M1 H1 l (a.le l R) r p⟩
theorem O_of {α β : Type} {o : Option α} {f : α → Sto → Out β} {Q0 : β → List Addr → Sto → Hp → Prop} (h : Post C bs W μ H ((ofOpt o M).bind f) Q0) : ∃ a, o = some a ∧ Post C bs W μ H (f a M) Q0 := by
  cases o with
  | none => exact (show False from h).elim
  | some a => exact ⟨a, rfl, h⟩
theorem O_fin {α : Type} {o : Option α} {Q0 : α → List Addr → Sto → Hp → Prop} (h : Post C bs W μ H (ofOpt o M) Q0) : ∃ a, o = some a ∧ Post C bs W μ H (.ok a M) Q0 := by
  cases o with
  | none => exact (show False from h).elim
  | some a => exact ⟨a, rfl, h⟩

/-! ### expressions -/
variable {a a' a'' : E} {es : EL} {t t' : T} {Q : VK}
theorem var_rd {i : Nat} (h : tE C W cf (.var i) σ H Q) : tVar i σ H Q := by
  obtain ⟨bs, b, μ, ρ, M, z, p⟩ := h
  unfold evE at p
  cases e : ρ[i]? with
  | none => rw [e] at p; exact (show False from p).elim
  | some o =>
    rw [e] at p
    cases o with
    | none => exact (show False from p).elim
    | some d =>
      obtain ⟨v, e1, r⟩ := z.re.2 i d e
      exact ⟨v, e1, VP.at p z.R r⟩
theorem cst_rd {d : D} {v : V} (hr : ∀ μ H, RelD C μ H d v) (h : tE C W cf (.cst d) σ H Q) : tC v σ H Q := by
  obtain ⟨bs, b, μ, ρ, M, z, p⟩ := h
  unfold evE at p
  exact VP.at p z.R (hr _ _)
theorem glb_rd {g : Nat} {d : D} {v : V} (e : cf.gv g = some d) (hr : ∀ μ H, RelD C μ H d v) (h : tE C W cf (.glb g) σ H Q) : tC v σ H Q := by
  obtain ⟨bs, b, μ, ρ, M, z, p⟩ := h
  unfold evE at p
  rw [e] at p
  exact VP.at p z.R (hr _ _)
theorem neg_rd (h : tE C W cf (.un .neg a) σ H Q) : tUn (rU fun i => .int (-i)) (tE C W cf a) σ H Q := by
  obtain ⟨bs, b, μ, ρ, M, z, p⟩ := h
  unfold evE at p
  refine E_then z p fun d v μ1 M1 H1 l a1 r p1 => ?_
  cases d with
  | int i =>
    cases relD_int.mp r
    exact ⟨i, rfl, VP.at p1 a1.R (relD_int.mpr rfl)⟩
  | _ => exact (show False from p1).elim
theorem no_rd (hK : X.K = C.K) (h : tE C W cf (.no a) σ H Q) : tNotT X.K (tE C W cf a) σ H Q := by
  obtain ⟨bs, b, μ, ρ, M, z, p⟩ := h
  unfold evE at p
  refine E_then z p fun d v μ1 M1 H1 l a1 r p1 => ?_
  obtain ⟨k, e, p2⟩ := O_of p1
  exact ⟨k, truth_sound hK a1.R e r, VP.at p2 a1.R (relD_bl.mpr rfl)⟩
theorem bin_rd {o : B2} (h : tE C W cf (.bin o a a') σ H Q) : tOp (rB C o) (tE C W cf a) (tE C W cf a') σ H Q := by
  obtain ⟨bs, b, μ, ρ, M, z, p⟩ := h
  unfold evE at p
  exact E_then z p fun d v μ1 M1 H1 l a1 r p1 => E_then a1 p1 fun d' v' μ2 M2 H2 l2 a2 r2 p2 => ⟨bs, W, μ2, M2, d, d', a2.R, r.le l2, r2, p2⟩
theorem cmp_rd {o : C2} (h : tE C W cf (.cmp o a a') σ H Q) : tOp (rC C o) (tE C W cf a) (tE C W cf a') σ H Q := by
  obtain ⟨bs, b, μ, ρ, M, z, p⟩ := h
  unfold evE at p
  refine E_then z p fun d v μ1 M1 H1 l a1 r p1 => E_then a1 p1 fun d' v' μ2 M2 H2 l2 a2 r2 p2 => ?_
  obtain ⟨k, e, p3⟩ := O_of p2
  exact ⟨bs, μ2, M2, d, d', k, a2.R, r.le l2, r2, e, VP.at p3 a2.R (relD_bl.mpr rfl)⟩
theorem cmpT_rd {o : C2} {Q : Bool → Hp → Prop} (h : tT C W cf (.cmp o a a') σ H Q) : tTest (tOp (rC C o) (tE C W cf a) (tE C W cf a')) σ H Q := by
  obtain ⟨bs, b, μ, ρ, M, z, p⟩ := h
  unfold evT at p
  refine E_then z p fun d v μ1 M1 H1 l a1 r p1 => E_then a1 p1 fun d' v' μ2 M2 H2 l2 a2 r2 p2 => ?_
  obtain ⟨k, e, p3⟩ := O_fin p2
  exact ⟨bs, μ2, M2, d, d', k, a2.R, r.le l2, r2, e, k, rfl, Post.here p3 a2.R⟩
theorem chn_rd {o o' : C2} (h : tE C W cf (.chn o o' a a' a'') σ H Q) : tChain (rC C o) (rC C o') (tE C W cf a) (tE C W cf a') (tE C W cf a'') σ H Q := by
  obtain ⟨bs, b, μ, ρ, M, z, p⟩ := h
  unfold evE at p
  refine E_then z p fun d v μ1 M1 H1 l a1 r p1 => E_then a1 p1 fun d' v' μ2 M2 H2 l2 a2 r2 p2 => ?_
  obtain ⟨k, e, p3⟩ := O_of p2
  refine ⟨bs, μ2, M2, d, d', k, a2.R, r.le l2, r2, e, k, rfl, ?_⟩
  cases k with
  | false => exact VP.at p3 a2.R (relD_bl.mpr rfl)
  | true =>
    refine E_then a2 p3 fun d3 v3 μ3 M3 H3 l3 a3 r3 p4 => ?_
    obtain ⟨k, e', p5⟩ := O_of p4
    exact ⟨bs, μ3, M3, d', d3, k, a3.R, r2.le l3, r3, e', VP.at p5 a3.R (relD_bl.mpr rfl)⟩
theorem chnT_rd {o o' : C2} {Q : Bool → Hp → Prop} (h : tT C W cf (.chn o o' a a' a'') σ H Q) : tTest (tChain (rC C o) (rC C o') (tE C W cf a) (tE C W cf a') (tE C W cf a'')) σ H Q := by
  obtain ⟨bs, b, μ, ρ, M, z, p⟩ := h
  unfold evT at p
  refine E_then z p fun d v μ1 M1 H1 l a1 r p1 => E_then a1 p1 fun d' v' μ2 M2 H2 l2 a2 r2 p2 => ?_
  obtain ⟨k, e, p3⟩ := O_of p2
  refine ⟨bs, μ2, M2, d, d', k, a2.R, r.le l2, r2, e, k, rfl, ?_⟩
  cases k with
  | false => exact ⟨false, rfl, Post.here p3 a2.R⟩
  | true =>
    refine E_then a2 p3 fun d3 v3 μ3 M3 H3 l3 a3 r3 p4 => ?_
    obtain ⟨k, e', p5⟩ := O_fin p4
    exact ⟨bs, μ3, M3, d', d3, k, a3.R, r2.le l3, r3, e', k, rfl, Post.here p5 a3.R⟩
theorem and_rd (hK : X.K = C.K) (h : tE C W cf (.and a a') σ H Q) : tAndT X.K (tE C W cf a) (tE C W cf a') σ H Q := by
  obtain ⟨bs, b, μ, ρ, M, z, p⟩ := h
  unfold evE at p
  refine E_then z p fun d v μ1 M1 H1 l a1 r p1 => ?_
  obtain ⟨k, e, p2⟩ := O_of p1
  refine ⟨k, truth_sound hK a1.R e r, ?_⟩
  cases k with
  | true => exact ⟨bs, b, μ1, ρ, M1, a1, p2⟩
  | false => exact VP.at p2 a1.R r
theorem or_rd (hK : X.K = C.K) (h : tE C W cf (.or a a') σ H Q) : tOrT X.K (tE C W cf a) (tE C W cf a') σ H Q := by
  obtain ⟨bs, b, μ, ρ, M, z, p⟩ := h
  unfold evE at p
  refine E_then z p fun d v μ1 M1 H1 l a1 r p1 => ?_
  obtain ⟨k, e, p2⟩ := O_of p1
  refine ⟨k, truth_sound hK a1.R e r, ?_⟩
  cases k with
  | false => exact ⟨bs, b, μ1, ρ, M1, a1, p2⟩
  | true => exact VP.at p2 a1.R r
theorem ife_rd (h : tE C W cf (.ife t a a') σ H Q) : tIf (tT C W cf t) (tE C W cf a) (tE C W cf a') σ H Q := by
  obtain ⟨bs, b, μ, ρ, M, z, p⟩ := h
  unfold evE at p
  refine T_then z p fun k μ1 M1 H1 l a1 p1 => ?_
  cases k with
  | false => exact ⟨bs, b, μ1, ρ, M1, a1, p1⟩
  | true => exact ⟨bs, b, μ1, ρ, M1, a1, p1⟩
theorem tup_rd (h : tE C W cf (.tup es) σ H Q) : tTupF (tL C W cf es) σ H Q := by
  obtain ⟨bs, b, μ, ρ, M, z, p⟩ := h
  unfold evE at p
  refine L_then z p fun d v μ1 M1 H1 l a1 r p1 => ?_
  by_cases hn : d.length ≤ cap
  · rw [if_pos hn] at p1
    exact ⟨by rw [← r.length]; exact hn, VP.newT p1 a1.R r⟩
  · rw [if_neg hn] at p1
    exact (show False from p1).elim
theorem lst_rd (h : tE C W cf (.lst es) σ H Q) : tLst (tL C W cf es) σ H Q := by
  obtain ⟨bs, b, μ, ρ, M, z, p⟩ := h
  unfold evE at p
  refine L_then z p fun d v μ1 M1 H1 l a1 r p1 => ?_
  by_cases hn : d.length ≤ cap
  · rw [if_pos hn] at p1
    exact ⟨by rw [← r.length]; exact hn, fun q hq => VP.newL p1 a1.R r hq⟩
  · rw [if_neg hn] at p1
    exact (show False from p1).elim
theorem dic0_rd (h : tE C W cf .dic0 σ H Q) : tDNewK σ H Q := by
  obtain ⟨bs, b, μ, ρ, M, z, p⟩ := h
  unfold evE at p
  intro q hq
  exact p.on (Le.add hq) (z.R.alloc hq ⟨[], upd_same, .nil⟩) (relD_loc.mpr ⟨q, by rw [← z.R.len]; simp, rfl⟩)
theorem ix_rd (h : tE C W cf (.ix a a') σ H Q) : tOp (rIxE C) (tE C W cf a) (tE C W cf a') σ H Q := by
  obtain ⟨bs, b, μ, ρ, M, z, p⟩ := h
  unfold evE at p
  refine E_then z p fun d v μ1 M1 H1 l a1 r p1 => E_then a1 p1 fun d' v' μ2 M2 H2 l2 a2 r2 p2 => ?_
  obtain ⟨k, e, p3⟩ := O_fin p2
  exact ⟨bs, μ2, M2, d, d', k, a2.R, r.le l2, r2, e, fun w rw' => VP.at p3 a2.R rw'⟩
theorem onone_rd {Q : Option Int → Hp → Prop} (h : tO C W cf .none σ H Q) : tNoPart σ H Q := by
  obtain ⟨bs, b, μ, ρ, M, z, p⟩ := h
  unfold evO at p
  exact Post.here p z.R
theorem osome_rd {Q : Option Int → Hp → Prop} (h : tO C W cf (.some a) σ H Q) : tPart (tE C W cf a) σ H Q := by
  obtain ⟨bs, b, μ, ρ, M, z, p⟩ := h
  unfold evO at p
  refine E_then z p fun d v μ1 M1 H1 l a1 r p1 => ?_
  cases d with
  | int i =>
    cases relD_int.mp r
    exact ⟨i, rfl, Post.here p1 a1.R⟩
  | _ => exact (show False from p1).elim
theorem sl_rd {lo hi : EO} (h : tE C W cf (.sl a lo hi) σ H Q) : tSl (rSlE C) (tE C W cf a) (tO C W cf lo) (tO C W cf hi) σ H Q := by
  obtain ⟨bs, b, μ, ρ, M, z, p⟩ := h
  unfold evE at p
  exact E_then z p fun d v μ1 M1 H1 l a1 r p1 => O_then a1 p1 fun o μ2 M2 H2 l2 a2 p2 => O_then a2 p2 fun o' μ3 M3 H3 l3 a3 p3 => ⟨bs, W, μ3, M3, d, a3.R, (r.le l2).le l3, p3⟩
theorem rev_rd (hK : X.K = C.K) (h : tE C W cf (.rev a) σ H Q) : tRevL X.K (tE C W cf a) σ H Q := by
  obtain ⟨bs, b, μ, ρ, M, z, p⟩ := h
  unfold evE at p
  refine E_then z p fun d v μ1 M1 H1 l a1 r p1 => ?_
  unfold semRev at p1
  cases e : listOf M1 d with
  | none => rw [e] at p1; exact (show False from p1).elim
  | some xs =>
    rw [e] at p1
    obtain ⟨ad, vs, rfl, h1, rs⟩ := list_inv a1.R e r
    exact ⟨ad, vs, rfl, by rw [hK]; exact h1, fun q hq => VP.newL p1 a1.R rs.rev hq⟩
theorem bi_rd {k : BI} (h : tE C W cf (.bi k es) σ H Q) : tCB (rF C k) (tL C W cf es) σ H Q := by
  obtain ⟨bs, b, μ, ρ, M, z, p⟩ := h
  unfold evE at p
  exact L_then z p fun d v μ1 M1 H1 l a1 r p1 => ⟨bs, W, μ1, M1, d, a1.R, r, p1⟩
theorem rcv_ty (hK : X.K = C.K) {m : MT} {d : D} (R : Rep C bs μ M H) (e : rcv m M d = true) (r : RelD C μ H d v) : tyV X.K (tyM m) v H := by
  have lst : (listOf M d).isSome = true → tyV X.K "list" v H := fun e => by
    obtain ⟨xs, e⟩ := Option.isSome_iff_exists.mp e
    obtain ⟨ad, vs, rfl, h1, _⟩ := list_inv R e r
    exact .inl ⟨rfl, vs, by rw [hK]; exact h1⟩
  cases m with
  | join =>
    cases d with
    | str s => cases relD_str.mp r; exact rfl
    | _ => cases e
  | _ => exact lst e
theorem mth_rd (hK : X.K = C.K) {m : MT} (h : tE C W cf (.mth m a es) σ H Q) : tBM X.K (tyM m) (rM C m) (tE C W cf a) (tL C W cf es) σ H Q := by
  obtain ⟨bs, b, μ, ρ, M, z, p⟩ := h
  unfold evE at p
  refine E_then z p fun d v μ1 M1 H1 l a1 r p1 => ?_
  cases e : rcv m M1 d with
  | false => rw [e] at p1; exact (show False from p1).elim
  | true =>
    rw [e] at p1
    exact ⟨rcv_ty hK a1.R e r, L_then a1 p1 fun ds vs μ2 M2 H2 l2 a2 rs p2 => ⟨bs, W, μ2, M2, b, d, ds, a2.hb, a2.R, r.le l2, rs, p2⟩⟩
theorem lnil_rd {Q : List V → Hp → Prop} (h : tL C W cf .nil σ H Q) : tNil σ H Q := by
  obtain ⟨bs, b, μ, ρ, M, z, p⟩ := h
  unfold evL at p
  exact Post.here p z.R _ .nil
theorem lcons_rd {Q : List V → Hp → Prop} (h : tL C W cf (.cons a es) σ H Q) : tCons (tE C W cf a) (tL C W cf es) σ H Q := by
  obtain ⟨bs, b, μ, ρ, M, z, p⟩ := h
  unfold evL at p
  exact E_then z p fun d v μ1 M1 H1 l a1 r p1 => L_then a1 p1 fun ds vs μ2 M2 H2 l2 a2 rs p2 => Post.here p2 a2.R _ (.cons (r.le l2) rs)
/-! ### isinstance -/
theorem isi_rd {cs : List CL} (hK : X.K = C.K) (h : tE C W cf (.isi a cs) σ H Q) : tE C W cf a σ H fun v H1 => ∃ t k, isAny t cs = some k ∧ TyX X.K H1 v (nmT t) ∧ (∀ p o, H1 p = none → TyX X.K (upd H1 p o) v (nmT t) ∧ Q (.bl k) (upd H1 p o)) ∧ Q (.bl k) H1 := by
  obtain ⟨bs, b, μ, ρ, M, z, p⟩ := h
  unfold evE at p
  refine E_then z p fun d v μ1 M1 H1 l a1 r p1 => ?_
  cases e : tyD M1 d with
  | none => rw [e] at p1; exact (show False from p1).elim
  | some t =>
    rw [e] at p1
    obtain ⟨k, e2, p2⟩ := O_of p1
    exact ⟨t, k, e2, ty_sound hK a1.R e r, fun q o hq => ⟨ty_sound hK (a1.R.new hq) e (r.le (.new hq)), VP.on p2 (.new hq) (a1.R.new hq) (relD_bl.mpr rfl)⟩, VP.at p2 a1.R (relD_bl.mpr rfl)⟩
/-! ### list(range(..)) -/
theorem rg_ok {i j : Int} (hi : big i = true) (hj : big j = true) (hn : (j - i).toNat ≤ cap) : RgOk i j := by
  unfold big at hi hj
  rw [Bool.and_eq_true, decide_eq_true_eq, decide_eq_true_eq] at hi hj
  unfold cap at hn
  exact ⟨by omega, by omega, by omega, by omega, by omega⟩
theorem rg_rel {i j : Int} : RelDs C μ H ((List.range (j - i).toNat).map fun k => D.int (i + (k : Nat))) (rgV i j) := by
  unfold rgV
  have z := relDs_int (C := C) (μ := μ) (H := H) ((List.range (j - i).toNat).map fun k => i + ((k : Nat) : Int))
  rw [List.map_map, List.map_map] at z
  exact z
theorem lrng_fin {ds : List D} (R : Rep C bs μ M H) (p : VP C bs W μ H (match rngOf ds with
    | some (.rng lo n) => if n ≤ cap then new ((List.range n).map fun i => D.int (lo + (i : Nat))) M else .no
    | _ => .no) Q) : ∃ i j, (ds = [.int i, .int j] ∨ (i = 0 ∧ ds = [.int j])) ∧ RgOk i j ∧ ∀ q, H q = none → Q (.ref q) (upd H q (.lst (rgV i j))) := by
  have key : ∀ i j : Int, big i = true → big j = true → VP C bs W μ H (if (j - i).toNat ≤ cap then new ((List.range (j - i).toNat).map fun k => D.int (i + (k : Nat))) M else .no) Q → RgOk i j ∧ ∀ q, H q = none → Q (.ref q) (upd H q (.lst (rgV i j))) := fun i j hi hj p => by
    by_cases hn : (j - i).toNat ≤ cap
    · rw [if_pos hn] at p
      exact ⟨rg_ok hi hj hn, fun q hq => VP.newL p R rg_rel hq⟩
    · rw [if_neg hn] at p
      exact (show False from p).elim
  match ds, p with
  | [.int j], p =>
    dsimp only [rngOf] at p
    cases e : big j with
    | false => rw [e] at p; exact (show False from p).elim
    | true =>
      rw [e] at p
      refine ⟨0, j, .inr ⟨rfl, rfl⟩, key 0 j (by decide) e ?_⟩
      have e0 : (j - 0).toNat = j.toNat := by rw [Int.sub_zero]
      rw [e0]
      exact p
  | [.int i, .int j], p =>
    dsimp only [rngOf] at p
    cases e : big i with
    | false => rw [e] at p; exact (show False from p).elim
    | true =>
      cases e' : big j with
      | false => rw [e, e'] at p; exact (show False from p).elim
      | true =>
        rw [e, e'] at p
        exact ⟨i, j, .inl rfl, key i j e e' p⟩
  | [], p => exact (show False from p).elim
  | .non :: _, p => exact (show False from p).elim
  | .bl _ :: _, p => exact (show False from p).elim
  | .str _ :: _, p => exact (show False from p).elim
  | .tup _ :: _, p => exact (show False from p).elim
  | .frz _ :: _, p => exact (show False from p).elim
  | .loc _ :: _, p => exact (show False from p).elim
  | .fn _ :: _, p => exact (show False from p).elim
  | .int _ :: .non :: _, p => exact (show False from p).elim
  | .int _ :: .bl _ :: _, p => exact (show False from p).elim
  | .int _ :: .str _ :: _, p => exact (show False from p).elim
  | .int _ :: .tup _ :: _, p => exact (show False from p).elim
  | .int _ :: .frz _ :: _, p => exact (show False from p).elim
  | .int _ :: .loc _ :: _, p => exact (show False from p).elim
  | .int _ :: .fn _ :: _, p => exact (show False from p).elim
  | .int _ :: .int _ :: _ :: _, p => exact (show False from p).elim
theorem lrng1_rd (h : tE C W cf (.lrng (.cons a .nil)) σ H Q) : tLstRg (tRg1 (tE C W cf a)) σ H Q := by
  obtain ⟨bs, b, μ, ρ, M, z, p⟩ := h
  unfold evE at p
  have p' : Post C bs W μ H ((evE cf b a ρ M).bind fun x M => (evL cf b .nil ρ M).bind fun xs M => (fun xs M => match rngOf xs with
    | some (.rng lo n) => if n ≤ cap then new ((List.range n).map fun i => D.int (lo + (i : Nat))) M else .no
    | _ => .no) (x :: xs) M) (fun d μ' _ H' => ∀ v, RelD C μ' H' d v → Q v H') := by
    unfold evL at p
    cases e : evE cf b a ρ M with
    | no => rw [e] at p; exact p
    | ok x M' =>
      rw [e] at p
      unfold evL at p ⊢
      exact p
    | ex x M' => rw [e] at p; exact p
  refine E_then z p' fun d v μ1 M1 H1 l a1 r p1 => ?_
  unfold evL at p1
  obtain ⟨i, j, hd, ok, q⟩ := lrng_fin (ds := [d]) a1.R p1
  rcases hd with hd | ⟨rfl, hd⟩
  · cases hd
  · cases hd
    cases relD_int.mp r
    exact ⟨j, rfl, ok, q⟩
theorem lrng2_rd (h : tE C W cf (.lrng (.cons a (.cons a' .nil))) σ H Q) : tLstRg (tRg2 (tE C W cf a) (tE C W cf a')) σ H Q := by
  obtain ⟨bs, b, μ, ρ, M, z, p⟩ := h
  unfold evE at p
  have p' : Post C bs W μ H ((evE cf b a ρ M).bind fun x M => (evE cf b a' ρ M).bind fun y M => (fun xs M => match rngOf xs with
    | some (.rng lo n) => if n ≤ cap then new ((List.range n).map fun i => D.int (lo + (i : Nat))) M else .no
    | _ => .no) [x, y] M) (fun d μ' _ H' => ∀ v, RelD C μ' H' d v → Q v H') := by
    unfold evL at p
    cases e : evE cf b a ρ M with
    | no => rw [e] at p; exact p
    | ok x M' =>
      rw [e] at p
      unfold evL at p
      show Post C bs W μ H ((evE cf b a' ρ M').bind _) _
      cases e2 : evE cf b a' ρ M' with
      | no => simp only [bind_ok] at p; rw [e2] at p; exact p
      | ok y M'' => simp only [bind_ok] at p; rw [e2] at p; unfold evL at p; exact p
      | ex x M'' => simp only [bind_ok] at p; rw [e2] at p; exact p
    | ex x M' => rw [e] at p; exact p
  refine E_then z p' fun d v μ1 M1 H1 l a1 r p1 => E_then a1 p1 fun d' v' μ2 M2 H2 l2 a2 r2 p2 => ?_
  obtain ⟨i, j, hd, ok, q⟩ := lrng_fin (ds := [d, d']) a2.R p2
  rcases hd with hd | ⟨rfl, hd⟩
  · cases hd
    cases relD_int.mp r
    cases relD_int.mp r2
    exact ⟨i, j, rfl, rfl, ok, q⟩
  · cases hd
/-! ### tests -/
variable {QB : Bool → Hp → Prop}
theorem val_rd (hK : X.K = C.K) (h : tT C W cf (.val a) σ H QB) : tE C W cf a σ H fun x H' => ∃ k, TruV X.K x H' k ∧ QB k H' := by
  obtain ⟨bs, b, μ, ρ, M, z, p⟩ := h
  unfold evT at p
  refine E_then z p fun d v μ1 M1 H1 l a1 r p1 => ?_
  obtain ⟨k, e, p2⟩ := O_fin p1
  exact ⟨k, truth_sound hK a1.R e r, Post.here p2 a1.R⟩
theorem tnot_rd (h : tT C W cf (.not t) σ H QB) : tNot (tT C W cf t) σ H QB := by
  obtain ⟨bs, b, μ, ρ, M, z, p⟩ := h
  unfold evT at p
  exact T_then z p fun d μ1 M1 H1 l a1 p1 => Post.here p1 a1.R
theorem tand_rd (h : tT C W cf (.and t t') σ H QB) : tAnd (tT C W cf t) (tT C W cf t') σ H QB := by
  obtain ⟨bs, b, μ, ρ, M, z, p⟩ := h
  unfold evT at p
  refine T_then z p fun k μ1 M1 H1 l a1 p1 => ?_
  cases k with
  | true => exact ⟨bs, b, μ1, ρ, M1, a1, p1⟩
  | false => exact Post.here p1 a1.R
theorem tor_rd (h : tT C W cf (.or t t') σ H QB) : tOr (tT C W cf t) (tT C W cf t') σ H QB := by
  obtain ⟨bs, b, μ, ρ, M, z, p⟩ := h
  unfold evT at p
  refine T_then z p fun k μ1 M1 H1 l a1 p1 => ?_
  cases k with
  | false => exact ⟨bs, b, μ1, ρ, M1, a1, p1⟩
  | true => exact Post.here p1 a1.R
theorem yes_rd (h : tT C W cf .yes σ H QB) : tYes σ H QB := by
  obtain ⟨bs, b, μ, ρ, M, z, p⟩ := h
  unfold evT at p
  exact Post.here p z.R
end Ev
end

section
/-! EvRd2: the readings of targets and of comprehensions. -/
namespace Ev
open PySem L2
variable {C : Cn} {μ μ' μ1 : List Addr} {H H' H1 : Hp} {M M' M1 : Sto} {bs : List Nat} {v : V} {X : Cx} {W : XK} {b : Nat} {ρ : Enn} {σ : St} {cf : Cf}

/-! ### targets -/
mutual
def gsl : G → List Nat
  | .nam i => [i]
  | .tup gs => gsls gs
  | .sub _ _ => []
  | .star gs => gsls gs
  | .fld _ _ _ => []
def gsls : GL → List Nat
  | .nil => []
  | .cons g gs => gsl g ++ gsls gs
end
/-- only these slots differ -/
def Chg (l : List Nat) (σ σ' : St) : Prop := ∀ vs, (∀ i ∈ l, i ∈ vs) → L2.wipe σ' vs = L2.wipe σ vs
theorem wipe_set (σ : St) (i : Nat) (x : Option V) : ∀ vs : List Nat, L2.wipe (σ.set i x) vs = if i ∈ vs then L2.wipe σ vs else (L2.wipe σ vs).set i x
  | [] => by simp [L2.wipe]
  | w :: vs => by
    unfold L2.wipe
    rw [wipe_set σ i x vs]
    by_cases h : i ∈ vs
    · simp [h]
    · by_cases e : i = w
      · subst e
        rw [if_neg h, if_pos List.mem_cons_self, List.set_set]
      · have n : i ∉ w :: vs := fun z => (List.mem_cons.mp z).elim e h
        rw [if_neg h, if_neg n, List.set_comm _ _ e]
theorem wipe_in {σ : St} {i : Nat} {x : Option V} {vs : List Nat} (h : i ∈ vs) : L2.wipe (σ.set i x) vs = L2.wipe σ vs := by rw [wipe_set, if_pos h]
theorem wipe_wipe (σ : St) (us : List Nat) : ∀ vs : List Nat, (∀ i ∈ us, i ∈ vs) → L2.wipe (L2.wipe σ us) vs = L2.wipe σ vs := by
  induction us with
  | nil => intro vs _; rfl
  | cons u us ih =>
    intro vs h
    show L2.wipe ((L2.wipe σ us).set u none) vs = _
    rw [wipe_in (h u List.mem_cons_self)]
    exact ih vs fun i hi => h i (List.mem_cons_of_mem _ hi)
theorem Chg.refl (l : List Nat) (σ : St) : Chg l σ σ := fun _ _ => rfl
theorem Chg.trans {l l' : List Nat} {σ1 σ2 σ3 : St} (a : Chg l σ1 σ2) (c : Chg l' σ2 σ3) : Chg (l ++ l') σ1 σ3 := fun vs h => (c vs fun i hi => h i (List.mem_append_right _ hi)).trans (a vs fun i hi => h i (List.mem_append_left _ hi))
def tG (C : Cn) (cf : Cf) (g : G) : TG := fun v σ H Q => ∃ bs b μ ρ M d ρ' M', At C bs b μ ρ M σ H ∧ RelD C μ H d v ∧ evG cf b g d ρ M = some (ρ', M') ∧ ∀ μ' H' σ', Le μ H μ' H' → At C bs b μ' ρ' M' σ' H' → Chg (gsl g) σ σ' → Q σ' H'
def tGs (C : Cn) (cf : Cf) (g : GL) : TGs := fun vs σ H Q => ∃ bs b μ ρ M ds ρ' M', At C bs b μ ρ M σ H ∧ RelDs C μ H ds vs ∧ evGs cf b g ds ρ M = some (ρ', M') ∧ ∀ μ' H' σ', Le μ H μ' H' → At C bs b μ' ρ' M' σ' H' → Chg (gsls g) σ σ' → Q σ' H'
variable {Q : St → Hp → Prop} {g : G} {gs : GL}
theorem gnam_rd {i : Nat} (h : tG C cf (.nam i) v σ H Q) : gName i v σ H Q := by
  obtain ⟨bs, b, μ, ρ, M, d, ρ', M', z, r, e, k⟩ := h
  unfold evG at e
  cases e
  exact k μ H _ (.refl _ _) ⟨z.hb, z.R, z.re.set r⟩ fun vs hv => wipe_in (hv i (by unfold gsl; simp))
theorem evGs_len : ∀ {gs : GL} {ds : List D} {ρ : Enn} {M : Sto} {r : Enn × Sto}, evGs cf b gs ds ρ M = some r → ds.length = glen gs
  | .nil, ds, ρ, M, r, h => by
    unfold evGs at h
    cases ds with
    | nil => rfl
    | cons _ _ => cases h
  | .cons g gs, ds, ρ, M, r, h => by
    unfold evGs at h
    cases ds with
    | nil => cases h
    | cons d ds =>
      dsimp only at h
      cases e : evG cf b g d ρ M with
      | none => rw [e] at h; cases h
      | some p =>
        rw [e] at h
        exact congrArg Nat.succ (evGs_len h)
theorem gtup_rd (h : tG C cf (.tup gs) v σ H Q) : gTup C.K (glen gs) (tGs C cf gs) v σ H Q ∨ gUnl C.K (glen gs) (tGs C cf gs) v σ H Q := by
  obtain ⟨bs, b, μ, ρ, M, d, ρ', M', z, r, e, k⟩ := h
  unfold evG at e
  cases hi : itemsOf M d with
  | none => rw [hi] at e; cases e
  | some ds =>
    rw [hi] at e
    obtain ⟨a, vs, rfl, h1, rs⟩ := items_inv z.R hi r
    have go : vs.length = glen gs ∧ tGs C cf gs vs σ H Q := ⟨by rw [← rs.length]; exact evGs_len e, bs, b, μ, ρ, M, ds, ρ', M', z, rs, e, fun μ' H' σ' l a' c => k μ' H' σ' l a' (by unfold gsl; exact c)⟩
    exact h1.elim (fun z => .inr ⟨a, vs, rfl, z, go⟩) fun z => .inl ⟨a, vs, rfl, z, go⟩
theorem gstar_rd (h : tG C cf (.star gs) v σ H Q) : gStar C.K (glen gs - 1) (tGs C cf gs) v σ H Q := by
  obtain ⟨bs, b, μ, ρ, M, d, ρ', M', z, r, e, k⟩ := h
  unfold evG at e
  cases d with
  | tup ds =>
    dsimp only at e
    obtain ⟨a, vs, rfl, h1, rs⟩ := relD_tup r
    cases hl : Nat.ble (glen gs) (ds.length + 1) with
    | false => rw [hl] at e; cases e
    | true =>
      rw [hl] at e
      have hl' := Nat.le_of_ble_eq_true hl
      have len := rs.length
      refine ⟨a, vs, rfl, h1, by omega, fun l hn => ⟨bs, b, μ ++ [l], ρ, M ++ [.lst (ds.drop (glen gs - 1))], ds.take (glen gs - 1) ++ [.loc M.length], ρ', M', ⟨z.hb, z.R.alloc (o := .lst (ds.drop (glen gs - 1))) hn ⟨_, upd_same, (rs.drop _).le (.add hn)⟩, z.re.le (.add hn)⟩, ((rs.take _).le (.add hn)).app (.cons (relD_loc.mpr ⟨l, ?_, rfl⟩) .nil), e,
        fun μ' H' σ' l' a' c => k μ' H' σ' ((Le.add hn).trans l') a' (by unfold gsl; exact c)⟩⟩
      rw [← z.R.len]
      simp
  | _ => cases e
theorem gnil_rd {vs : List V} (h : tGs C cf .nil vs σ H Q) : gNil vs σ H Q := by
  obtain ⟨bs, b, μ, ρ, M, ds, ρ', M', z, r, e, k⟩ := h
  unfold evGs at e
  cases ds with
  | nil => cases e; exact ⟨r.nil_inv, k μ H σ (.refl _ _) z (.refl _ _)⟩
  | cons _ _ => cases e
theorem gcons_rd {vs : List V} (h : tGs C cf (.cons g gs) vs σ H Q) : gCons (tG C cf g) (tGs C cf gs) vs σ H Q := by
  obtain ⟨bs, b, μ, ρ, M, ds, ρ', M', z, r, e, k⟩ := h
  unfold evGs at e
  cases ds with
  | nil => cases e
  | cons d ds =>
    dsimp only at e
    obtain ⟨w, wr, rfl, r1, rs⟩ := r.inv
    cases e1 : evG cf b g d ρ M with
    | none => rw [e1] at e; cases e
    | some p =>
      rw [e1] at e
      refine ⟨w, wr, rfl, bs, b, μ, ρ, M, d, p.1, p.2, z, r1, e1, fun μ1 H1 σ1 l1 a1 c1 => ?_⟩
      exact ⟨bs, b, μ1, p.1, p.2, ds, ρ', M', a1, rs.le l1, e, fun μ2 H2 σ2 l2 a2 c2 => k μ2 H2 σ2 (l1.trans l2) a2 (by unfold gsls; exact c1.trans c2)⟩
theorem gsub_rd {o i : E} (h : tG C cf (.sub o i) v σ H Q) : gSub (tE C W cf o) (tE C W cf i) (rSetE C) v σ H Q := by
  obtain ⟨bs, b, μ, ρ, M, d, ρ', M', z, r, e, k⟩ := h
  unfold evG at e
  have p : Post C bs W μ H ((evE cf b o ρ M).bind fun x M => (evE cf b i ρ M).bind fun y M => ofOpt (semSet x y d b M) M) fun M2 _ _ _ => M2 = M' ∧ ρ' = ρ := by
    cases q : ((evE cf b o ρ M).bind fun x M => (evE cf b i ρ M).bind fun y M => ofOpt (semSet x y d b M) M) with
    | no => rw [q] at e; cases e
    | ok M2 _ => rw [q] at e; cases e; exact fun _ _ _ _ => ⟨rfl, rfl⟩
    | ex _ _ => rw [q] at e; cases e
  refine E_then z p fun x vx μ1 M1 H1 l1 a1 r1 p1 => E_then a1 p1 fun y vy μ2 M2 H2 l2 a2 r2 p2 => ?_
  obtain ⟨M3, e3, p3⟩ := O_fin p2
  obtain ⟨rfl, rfl⟩ := Post.here p3 a2.R
  exact ⟨bs, μ2, M2, b, x, y, d, M3, a2.hb, a2.R, r1.le l2, r2, (r.le l1).le l2, e3, fun H3 l3 R3 => k μ2 H3 σ ((l1.trans l2).trans l3) (a2.le l3 R3) (.refl _ _)⟩

/-! ### comprehensions -/
def W0 : XK := fun _ _ _ => False
theorem hush_bind {α β γ : Type} (o : Out α) (g : α → Sto → Out β) (F : β → Sto → Out γ) : (hush (o.bind g)).bind F = (hush o).bind fun a M => (hush (g a M)).bind F := by cases o <;> rfl
section
variable {μs : List Addr} {Hs : Hp} {β : Type} {Q0 : β → List Addr → Sto → Hp → Prop}
theorem Post.anch {α : Type} {o : Out α} {f : α → Sto → Out β} {bs' : List Nat} {W' : XK} {Q : α → List Addr → Sto → Hp → Prop} (h : Post C bs W μs Hs ((hush o).bind f) Q0)
    (k : ∀ a μ' M' H', Le μ H μ' H' → Rep C bs' μ' M' H' → Post C bs W μs Hs (f a M') Q0 → Q a μ' M' H') : Post C bs' W' μ H o Q := by
  cases o with
  | no => exact h
  | ok a M' => exact fun μ' H' l R => k a μ' M' H' l R h
  | ex _ _ => exact (show False from h).elim
theorem turn_step {next : Sto → Nat → Option (Option D)} {turn : D → Sto → Out (List D)} {c i : Nat} {K : List D → Sto → Out β} (h : Post C bs W μs Hs ((hush (turns next turn c i M)).bind K) Q0) :
    (next M i = some none ∧ Post C bs W μs Hs (K [] M) Q0) ∨ ∃ c' d, c = c' + 1 ∧ next M i = some (some d) ∧
      Post C bs W μs Hs ((hush (turn d M)).bind fun xs M' => (hush (turns next turn c' (i + 1) M')).bind fun ys M'' => K (xs ++ ys) M'') Q0 := by
  cases c with
  | zero => exact (show False from h).elim
  | succ c =>
    unfold turns at h
    cases e : next M i with
    | none => rw [e] at h; exact (show False from h).elim
    | some o =>
      rw [e] at h
      cases o with
      | none => exact .inl ⟨rfl, h⟩
      | some d =>
        refine .inr ⟨c, d, rfl, rfl, ?_⟩
        dsimp only at h
        cases e1 : turn d M with
        | no => rw [e1] at h; exact h
        | ex _ _ => rw [e1] at h; exact h
        | ok xs M1 =>
          rw [e1] at h
          simp only [hush_ok, bind_ok] at h ⊢
          cases e2 : turns next turn c (i + 1) M1 with
          | no => rw [e2] at h; exact h
          | ex _ _ => rw [e2] at h; exact h
          | ok ys M2 => rw [e2] at h; exact h
theorem item_step {fg : D → Enn → Sto → Option (Enn × Sto)} {ft : Enn → Sto → Out Bool} {fe : Enn → Sto → Out (List D)} {d : D} {F : List D → Sto → Out β} (h : Post C bs W μs Hs ((hush (itemT fg ft fe ρ d M)).bind F) Q0) :
    ∃ ρ2 M2, fg d ρ M = some (ρ2, M2) ∧ Post C bs W μs Hs ((hush (ft ρ2 M2)).bind fun k M3 => (hush (match k with
      | false => .ok [] M3
      | true => fe ρ2 M3)).bind F) Q0 := by
  unfold itemT at h
  cases e : fg d ρ M with
  | none => rw [e] at h; exact (show False from h).elim
  | some p =>
    rw [e] at h
    rw [hush_bind] at h
    exact ⟨p.1, p.2, rfl, h⟩
/-- the list that is being made -/
structure Acc (C : Cn) (μ : List Addr) (H : Hp) (p : Addr) (ds : List D) (acc : List V) : Prop where
  off : p ∉ μ
  at_ : H p = some (.lst acc)
  rel : RelDs C μ H ds acc
theorem Acc.le {p : Addr} {ds : List D} {acc : List V} (a : Acc C μ H p ds acc) (l : Le μ H μ' H') : Acc C μ' H' p ds acc := by
  have h0 : H p ≠ none := by rw [a.at_]; exact fun z => by cases z
  exact ⟨fun m => h0 (l.fr p m a.off), (l.off p a.off h0).trans a.at_, a.rel.le l⟩
theorem Le.beside {p : Addr} {o : HO} (l : Le μs Hs μ H) (hp : Hs p = none) (hm : Mut (H p)) : Le μs Hs μ (upd H p o) :=
  ⟨⟨l.pre, l.st.trans (.put hm)⟩, l.fr, fun a n q => by
    have e : a ≠ p := fun z => q (z ▸ hp)
    rw [upd_ne e]
    exact l.off a n q⟩
theorem Acc.push {p : Addr} {ds : List D} {acc : List V} {d : D} (a : Acc C μ H p ds acc) (R : Rep C bs μ M H) (r : RelD C μ H d v) : Acc C μ (upd H p (.lst (acc ++ [v]))) p (ds ++ [d]) (acc ++ [v]) ∧ Rep C bs μ M (upd H p (.lst (acc ++ [v]))) := by
  have hm : Mut (H p) := mutL a.at_
  have l : Lo μ H μ (upd H p (.lst (acc ++ [v]))) := ⟨List.prefix_refl _, .put hm⟩
  exact ⟨⟨a.off, upd_same, (a.rel.lo l).app (.cons (r.lo l) .nil)⟩, R.keep (.put hm) fun q m => upd_ne fun z => a.off (z ▸ m)⟩
/-- what bounds the list's length -/
def Bnd (C : Cn) (bs : List Nat) (W : XK) (μs : List Addr) (Hs : Hp) (K : List D → Sto → Out β) (Q0 : β → List Addr → Sto → Hp → Prop) : Prop := ∀ ds M, Post C bs W μs Hs (K ds M) Q0 → ds.length ≤ cap
theorem Bnd.next {K : List D → Sto → Out β} {o : Sto → Out (List D)} (h : Bnd C bs W μs Hs K Q0) : Bnd C bs W μs Hs (fun ds M => (hush (o M)).bind fun ys M' => K (ds ++ ys) M') Q0 := fun ds M p => by
  dsimp only at p
  cases e : o M with
  | no => rw [e] at p; exact (show False from p).elim
  | ex _ _ => rw [e] at p; exact (show False from p).elim
  | ok ys M' =>
    rw [e] at p
    have z := h _ _ p
    rw [List.length_append] at z
    omega
/-- the loop of a comprehension -/
theorem comp_loop {pd : Addr} {n0 : Nat} {K : List D → Sto → Out β} {src : Src} {J : It} {μb : List Addr} {Hb : Hp} {Stop : Hp → Prop} {g : G} {t : T} {fe : Enn → Sto → Out (List D)} {ow : List Nat} {Body : St → Hp → (Hp → Prop) → Prop}
    (hB : Bnd C bs W μs Hs K Q0) (hJ : SrcJ C μb Hb src J) (hn : ∀ c ∈ n0 :: bs, c ≤ n0) (re : RelEn C μb Hb ρ σ) (hs : ∀ i ∈ gsl g, i ∈ ow) (hD : Hs pd = none)
    (hstop : ∀ μ M H ds acc, Le μs Hs μ H → Lo μb Hb μ H → Rep C (n0 :: bs) μ M H → Acc C μ H pd ds acc → Post C bs W μs Hs (K ds M) Q0 → Stop H)
    (hbody : ∀ (K' : List D → Sto → Out β) (Nx : Hp → Prop) σ2 μ H M ρ2 ds acc, Bnd C bs W μs Hs K' Q0 → At C (n0 :: bs) n0 μ ρ2 M σ2 H → Le μs Hs μ H → Lo μb Hb μ H → Acc C μ H pd ds acc → Post C bs W μs Hs ((hush (fe ρ2 M)).bind fun xs M' => K' (ds ++ xs) M') Q0 →
      (∀ μ' M' H' ds' acc', Le μs Hs μ' H' → Lo μb Hb μ' H' → Rep C (n0 :: bs) μ' M' H' → Acc C μ' H' pd ds' acc' → Post C bs W μs Hs (K' ds' M') Q0 → Nx H') → Body σ2 H Nx)
    {m0 : Nat} {ds0 : List D} {acc0 : List V} (l0 : Le μs Hs μ H) (lb0 : Lo μb Hb μ H) (R0 : Rep C (n0 :: bs) μ M H) (A0 : Acc C μ H pd ds0 acc0)
    (p0 : Post C bs W μs Hs ((hush (turns (fun M i => src.next M i) (itemT (evG cf n0 g) (evT cf n0 t) fe (Ev.wipe ρ ow)) m0 0 M)).bind fun ys M' => K (ds0 ++ ys) M') Q0) :
    ∃ Wt : Nat → Nat → Hp → Prop, (∃ m, Wt 0 m H) ∧ ∀ i m H, Wt i m H → (J.stop i H ∧ Stop H) ∨ (J.go i H ∧ ∃ Nx : Hp → Prop, (∀ H', Nx H' → ∃ m', m' < m ∧ Wt (i + 1) m' H') ∧
      ∀ x H', J.yld i H x H' → tG C cf g x (L2.wipe σ ow) H' fun σ2 H2 => L2.wipe σ2 ow = L2.wipe σ ow ∧ tT C W0 cf t σ2 H2 fun b H3 => if b = true then Body σ2 H3 Nx else Nx H3) := by
  refine ⟨fun i m H => ∃ μ M ds acc, Le μs Hs μ H ∧ Lo μb Hb μ H ∧ Rep C (n0 :: bs) μ M H ∧ Acc C μ H pd ds acc ∧
    Post C bs W μs Hs ((hush (turns (fun M i => src.next M i) (itemT (evG cf n0 g) (evT cf n0 t) fe (Ev.wipe ρ ow)) m i M)).bind fun ys M' => K (ds ++ ys) M') Q0, ⟨m0, μ, M, ds0, acc0, l0, lb0, R0, A0, p0⟩, ?_⟩
  rintro i m H ⟨μ, M, ds, acc, l, lb, R, A, p⟩
  rcases turn_step p with ⟨e, q⟩ | ⟨c, d, rfl, e, q⟩
  · exact .inl ⟨hJ.stop _ μ M H i lb R e, hstop μ M H ds acc l lb R A (by rw [List.append_nil] at q; exact q)⟩
  · obtain ⟨h1, h2⟩ := hJ.go _ μ M H i d lb R e
    refine .inr ⟨h1, fun H => ∃ μ M ds acc, Le μs Hs μ H ∧ Lo μb Hb μ H ∧ Rep C (n0 :: bs) μ M H ∧ Acc C μ H pd ds acc ∧
      Post C bs W μs Hs ((hush (turns (fun M i => src.next M i) (itemT (evG cf n0 g) (evT cf n0 t) fe (Ev.wipe ρ ow)) c (i + 1) M)).bind fun ys M' => K (ds ++ ys) M') Q0, fun H' q => ⟨c, Nat.lt_succ_self _, q⟩, fun x H3 y => ?_⟩
    obtain ⟨l3, R3, r3⟩ := h2 x H3 y
    have A3 := A.le l3
    obtain ⟨ρ4, M4, eg, q4⟩ := item_step q
    refine ⟨n0 :: bs, n0, μ, Ev.wipe ρ ow, M, d, ρ4, M4, ⟨hn, R3, (re.lo (lb.trans l3.toLo)).wipe ow⟩, r3, eg, fun μ4 H4 σ4 l4 a4 chg => ⟨?_, n0 :: bs, n0, μ4, ρ4, M4, a4, Post.anch q4 fun k μ5 M5 H5 l5 R5 q5 => ?_⟩⟩
    · rw [chg ow hs]
      exact wipe_wipe σ ow ow fun _ h => h
    · have l35 : Le μ H3 μ5 H5 := l4.trans l5
      have A5 := A3.le l35
      have ls5 := (l.trans l3).trans l35
      have lb5 := (lb.trans l3.toLo).trans l35.toLo
      cases k with
      | false => exact ⟨μ5, M5, ds, acc, ls5, lb5, R5, A5, q5⟩
      | true =>
        have e5 : (fun (xs : List D) M' => (hush (turns (fun M i => src.next M i) (itemT (evG cf n0 g) (evT cf n0 t) fe (Ev.wipe ρ ow)) c (i + 1) M')).bind fun ys M'' => K (ds ++ (xs ++ ys)) M'') =
            fun xs M' => (fun ds' M' => (hush (turns (fun M i => src.next M i) (itemT (evG cf n0 g) (evT cf n0 t) fe (Ev.wipe ρ ow)) c (i + 1) M')).bind fun ys M'' => K (ds' ++ ys) M'') (ds ++ xs) M' := by
          funext xs M'
          simp only [List.append_assoc]
        dsimp only at q5
        rw [e5] at q5
        exact hbody _ _ σ4 μ5 H5 M5 ρ4 ds acc hB.next (a4.le l5 R5) ls5 lb5 A5 q5 fun μ' M' H' ds' acc' l' lb' R' A' p' => ⟨μ', M', ds', acc', l', lb', R', A', p'⟩
end
/-- the end: the new list is laid in the store -/
theorem seal_end {pd : Addr} {n0 : Nat} {ds : List D} {acc : List V} {Q : VK} {μs : List Addr} {Hs : Hp} (hn : ∀ c ∈ n0 :: bs, c ≤ n0) (h0 : μs.length = n0) (hD : Hs pd = none) (l : Le μs Hs μ H) (R : Rep C (n0 :: bs) μ M H) (A : Acc C μ H pd ds acc)
    (p : VP C bs W μs Hs (sealL n0 ds M) Q) : Q (.ref pd) H := by
  unfold sealL at p
  by_cases hl : ds.length ≤ cap
  · rw [if_pos hl] at p
    have hle : n0 ≤ μ.length := R.le n0 List.mem_cons_self
    cases e : flats ds with
    | true =>
      rw [e] at p
      have hp : μ.take n0 = μs := by
        obtain ⟨t, ht⟩ := l.pre
        rw [← ht, ← h0, List.take_left]
      refine p.on (μ' := μ.take n0 ++ [pd]) (H' := H) ⟨⟨?_, l.st⟩, fun a m n => ?_, l.off⟩ ?_ (relD_loc.mpr ⟨pd, ?_, rfl⟩)
      · rw [hp]; exact List.prefix_append _ _
      · rw [hp] at m
        rcases List.mem_append.mp m with m | m
        · exact absurd m n
        · rw [List.mem_singleton.mp m]; exact hD
      · exact (R.cut fun c hc => hn c (List.mem_cons_of_mem _ hc)).add (fun m => A.off (List.mem_of_mem_take m)) ⟨acc, A.at_, RelDs.flat e A.rel⟩
      · rw [List.getElem?_append_right (by rw [List.length_take]; omega), List.length_take, Nat.min_eq_left hle, Nat.sub_self]; rfl
    | false =>
      rw [e] at p
      refine VP.on (μ' := μ ++ [pd]) (H' := H) p ⟨⟨l.pre.trans (List.prefix_append _ _), l.st⟩, fun a m n => ?_, l.off⟩ ?_ (relD_loc.mpr ⟨pd, by rw [← R.len]; simp, rfl⟩)
      · rcases List.mem_append.mp m with m | m
        · exact l.fr a m n
        · rw [List.mem_singleton.mp m]; exact hD
      · exact R.leave.add A.off ⟨acc, A.at_, A.rel.mono (List.prefix_append _ _) (.refl _)⟩
  · rw [if_neg hl] at p
    exact (show False from p).elim
theorem seal_bnd {n0 : Nat} {Q : VK} {μs : List Addr} {Hs : Hp} : Bnd C bs W μs Hs (fun ds M => sealL n0 ds M) (fun d μ' _ H' => ∀ v, RelD C μ' H' d v → Q v H') := fun ds M p => by
  dsimp only at p
  unfold sealL at p
  by_cases hl : ds.length ≤ cap
  · exact hl
  · rw [if_neg hl] at p
    exact (show False from p).elim
/-- the item of a turn, laid behind the others -/
theorem put_item {pd : Addr} {n0 : Nat} {β : Type} {Q0 : β → List Addr → Sto → Hp → Prop} {μs μb : List Addr} {Hs Hb : Hp} {K' : List D → Sto → Out β} {Nx : Hp → Prop} {e : E} {ρ2 : Enn} {σ2 : St} {ds : List D} {acc : List V} (hD : Hs pd = none) (hDb : Hb pd = none ∨ ∃ z, Hb pd = some (.lst z))
    (hB : Bnd C bs W μs Hs K' Q0) (a : At C (n0 :: bs) n0 μ ρ2 M σ2 H) (l : Le μs Hs μ H) (lb : Lo μb Hb μ H) (A : Acc C μ H pd ds acc)
    (p : Post C bs W μs Hs ((hush ((evE cf n0 e ρ2 M).bind fun d M => .ok [d] M)).bind fun xs M' => K' (ds ++ xs) M') Q0)
    (k : ∀ μ' M' H' ds' acc', Le μs Hs μ' H' → Lo μb Hb μ' H' → Rep C (n0 :: bs) μ' M' H' → Acc C μ' H' pd ds' acc' → Post C bs W μs Hs (K' ds' M') Q0 → Nx H') :
    tE C W0 cf e σ2 H fun y H4 => ∃ acc, H4 pd = some (.lst acc) ∧ acc.length < sizeLine ∧ Nx (upd H4 pd (.lst (acc ++ [y]))) := by
  rw [hush_bind] at p
  refine ⟨n0 :: bs, n0, μ, ρ2, M, a, Post.anch p fun d μ6 M6 H6 l6 R6 q6 y ry => ?_⟩
  have A6 := A.le l6
  have hl := hB _ _ q6
  rw [List.length_append] at hl
  obtain ⟨A7, R7⟩ := A6.push R6 ry
  refine ⟨acc, A6.at_, ?_, k μ6 M6 _ _ _ ((l.trans l6).beside hD (mutL A6.at_)) (lb.trans (l6.toLo.trans ⟨List.prefix_refl _, .put (mutL A6.at_)⟩)) R7 A7 q6⟩
  rw [← A6.rel.length]
  have : ([d] : List D).length = 1 := rfl
  have z : sizeLine = cap := rfl
  omega
theorem lc_rd {g : G} {it : IT} {ow : List Nat} {t : T} {e : E} {Q : VK} (hs : ∀ i ∈ gsl g, i ∈ ow) (h : tE C W cf (.lc g it ow t e) σ H Q) : tLc (tI C W cf it) (tG C cf g) (tT C W0 cf t) (tE C W0 cf e) ow σ H Q := by
  obtain ⟨bs, b, μ, ρ, M, z, p⟩ := h
  unfold evE at p
  refine I_then z p fun src J μ1 M1 H1 l1 a1 hJ p1 => ?_
  intro pd hD
  have hn : ∀ c ∈ M1.length :: bs, c ≤ M1.length := fun c hc => by
    rcases List.mem_cons.mp hc with rfl | hc
    · exact Nat.le_refl _
    · rw [← a1.R.len]; exact a1.R.le c hc
  refine comp_loop (μs := μ1) (Hs := H1) (μb := μ1) (Hb := H1) (K := fun ds M => sealL M1.length ds M) (Q0 := fun d μ' _ H' => ∀ v, RelD C μ' H' d v → Q v H') (Stop := fun H => Q (.ref pd) H)
    (Body := fun σ2 H3 Nx => tE C W0 cf e σ2 H3 fun y H4 => ∃ acc, H4 pd = some (.lst acc) ∧ acc.length < sizeLine ∧ Nx (upd H4 pd (.lst (acc ++ [y]))))
    seal_bnd hJ hn a1.re hs hD (fun μ M H ds acc l _ R A p => seal_end hn a1.R.len hD l R A p) (fun K' Nx σ2 μ H M ρ2 ds acc hB a l lb A p k => put_item hD (.inl hD) hB a l lb A p k)
    (Le.new hD) (Le.new hD).toLo (a1.R.enter.new hD) ⟨a1.R.fresh hD, upd_same, .nil⟩ p1
theorem lc2_rd {g g' : G} {it it' : IT} {ow ow' : List Nat} {t t' : T} {e : E} {Q : VK} (hs : ∀ i ∈ gsl g, i ∈ ow) (hs' : ∀ i ∈ gsl g', i ∈ ow') (h : tE C W cf (.lc2 g it t g' it' t' ow ow' e) σ H Q) :
    tLc2 (tI C W cf it) (tG C cf g) (tT C W0 cf t) (tI C W0 cf it') (tG C cf g') (tT C W0 cf t') (tE C W0 cf e) ow ow' σ H Q := by
  obtain ⟨bs, b, μ, ρ, M, z, p⟩ := h
  unfold evE at p
  refine I_then z p fun src J μ1 M1 H1 l1 a1 hJ p1 => ?_
  intro pd hD
  have hn : ∀ c ∈ M1.length :: bs, c ≤ M1.length := fun c hc => by
    rcases List.mem_cons.mp hc with rfl | hc
    · exact Nat.le_refl _
    · rw [← a1.R.len]; exact a1.R.le c hc
  refine comp_loop (μs := μ1) (Hs := H1) (μb := μ1) (Hb := H1) (K := fun ds M => sealL M1.length ds M) (Q0 := fun d μ' _ H' => ∀ v, RelD C μ' H' d v → Q v H') (Stop := fun H => Q (.ref pd) H)
    (Body := fun σ2 H3 Nx => tI C W0 cf it' σ2 H3 fun J1 H4 => ∃ W1 : Nat → Nat → Hp → Prop, (∃ m, W1 0 m H4) ∧ ∀ j k H, W1 j k H →
      (J1.stop j H ∧ Nx H) ∨ (J1.go j H ∧ ∃ Nx1 : Hp → Prop, (∀ H', Nx1 H' → ∃ k', k' < k ∧ W1 (j + 1) k' H') ∧ ∀ x H', J1.yld j H x H' → tG C cf g' x (L2.wipe σ2 ow') H' fun σ3 H5 => L2.wipe σ3 ow' = L2.wipe σ2 ow' ∧ tT C W0 cf t' σ3 H5 fun b H6 =>
        if b = true then tE C W0 cf e σ3 H6 fun y H7 => ∃ acc, H7 pd = some (.lst acc) ∧ acc.length < sizeLine ∧ Nx1 (upd H7 pd (.lst (acc ++ [y]))) else Nx1 H6))
    seal_bnd hJ hn a1.re hs hD (fun μ M H ds acc l _ R A p => seal_end hn a1.R.len hD l R A p) ?_
    (Le.new hD) (Le.new hD).toLo (a1.R.enter.new hD) ⟨a1.R.fresh hD, upd_same, .nil⟩ p1
  intro K' Nx σ2 μ2 H2 M2 ρ2 ds acc hB a2 l2 lb2 A2 p2 k2
  rw [hush_bind] at p2
  refine ⟨M1.length :: bs, M1.length, μ2, ρ2, M2, a2, Post.anch p2 fun s' μ3 M3 H3 l3 R3 q3 J1 hJ1 => ?_⟩
  have A3 := A2.le l3
  exact comp_loop (μs := μ1) (Hs := H1) (μb := μ3) (Hb := H3) (K := K') (Q0 := fun d μ' _ H' => ∀ v, RelD C μ' H' d v → Q v H') (Stop := fun H => Nx H)
    (Body := fun σ2 H3 Nx => tE C W0 cf e σ2 H3 fun y H4 => ∃ acc, H4 pd = some (.lst acc) ∧ acc.length < sizeLine ∧ Nx (upd H4 pd (.lst (acc ++ [y]))))
    hB hJ1 hn (a2.re.le l3) hs' hD (fun μ M H ds acc l lb R A p => k2 μ M H ds acc l (lb2.trans (l3.toLo.trans lb)) R A p) (fun K' Nx σ2 μ H M ρ2 ds acc hB a l lb A p k => put_item hD (.inr ⟨_, A3.at_⟩) hB a l lb A p k)
    (l2.trans l3) ⟨List.prefix_refl _, .refl _⟩ R3 A3 q3
end Ev
end

section
/-! EvDc: the readings of dict comprehensions. -/
namespace Ev
open PySem L2
variable {C : Cn} {μ μ' μ1 : List Addr} {H H' H1 : Hp} {M M' M1 : Sto} {bs : List Nat} {v : V} {X : Cx} {W : XK} {b : Nat} {ρ : Enn} {σ : St} {cf : Cf}
section
variable {μs : List Addr} {Hs : Hp} {β : Type} {Q0 : β → List Addr → Sto → Hp → Prop}
/-- what the end wants of the items -/
def Wants (C : Cn) (bs : List Nat) (W : XK) (μs : List Addr) (Hs : Hp) (G : List D → Prop) (K : List D → Sto → Out β) (Q0 : β → List Addr → Sto → Hp → Prop) : Prop := ∀ ds M, Post C bs W μs Hs (K ds M) Q0 → G ds
theorem Wants.next {Gd : List D → Prop} (hG : ∀ ds ys, Gd (ds ++ ys) → Gd ds) {K : List D → Sto → Out β} {o : Sto → Out (List D)} (h : Wants C bs W μs Hs Gd K Q0) : Wants C bs W μs Hs Gd (fun ds M => (hush (o M)).bind fun ys M' => K (ds ++ ys) M') Q0 := fun ds M p => by
  dsimp only at p
  cases e : o M with
  | no => rw [e] at p; exact (show False from p).elim
  | ex _ _ => rw [e] at p; exact (show False from p).elim
  | ok ys M' =>
    rw [e] at p
    exact hG _ _ (h _ _ p)
/-- the loop of a comprehension, whatever is being made -/
theorem comp_loopG {Ac : List Addr → Hp → List D → Prop} (hA : ∀ {μ H μ' H' ds}, Ac μ H ds → Le μ H μ' H' → Ac μ' H' ds) {Gd : List D → Prop} (hG : ∀ ds ys, Gd (ds ++ ys) → Gd ds)
    {n0 : Nat} {K : List D → Sto → Out β} {src : Src} {J : It} {μb : List Addr} {Hb : Hp} {Stop : Hp → Prop} {g : G} {t : T} {fe : Enn → Sto → Out (List D)} {ow : List Nat} {Body : St → Hp → (Hp → Prop) → Prop}
    (hB : Wants C bs W μs Hs Gd K Q0) (hJ : SrcJ C μb Hb src J) (hn : ∀ c ∈ n0 :: bs, c ≤ n0) (re : RelEn C μb Hb ρ σ) (hs : ∀ i ∈ gsl g, i ∈ ow)
    (hstop : ∀ μ M H ds, Le μs Hs μ H → Lo μb Hb μ H → Rep C (n0 :: bs) μ M H → Ac μ H ds → Post C bs W μs Hs (K ds M) Q0 → Stop H)
    (hbody : ∀ (K' : List D → Sto → Out β) (Nx : Hp → Prop) σ2 μ H M ρ2 ds, Wants C bs W μs Hs Gd K' Q0 → At C (n0 :: bs) n0 μ ρ2 M σ2 H → Le μs Hs μ H → Lo μb Hb μ H → Ac μ H ds → Post C bs W μs Hs ((hush (fe ρ2 M)).bind fun xs M' => K' (ds ++ xs) M') Q0 →
      (∀ μ' M' H' ds', Le μs Hs μ' H' → Lo μb Hb μ' H' → Rep C (n0 :: bs) μ' M' H' → Ac μ' H' ds' → Post C bs W μs Hs (K' ds' M') Q0 → Nx H') → Body σ2 H Nx)
    {m0 : Nat} {ds0 : List D} (l0 : Le μs Hs μ H) (lb0 : Lo μb Hb μ H) (R0 : Rep C (n0 :: bs) μ M H) (A0 : Ac μ H ds0)
    (p0 : Post C bs W μs Hs ((hush (turns (fun M i => src.next M i) (itemT (evG cf n0 g) (evT cf n0 t) fe (Ev.wipe ρ ow)) m0 0 M)).bind fun ys M' => K (ds0 ++ ys) M') Q0) :
    ∃ Wt : Nat → Nat → Hp → Prop, (∃ m, Wt 0 m H) ∧ ∀ i m H, Wt i m H → (J.stop i H ∧ Stop H) ∨ (J.go i H ∧ ∃ Nx : Hp → Prop, (∀ H', Nx H' → ∃ m', m' < m ∧ Wt (i + 1) m' H') ∧
      ∀ x H', J.yld i H x H' → tG C cf g x (L2.wipe σ ow) H' fun σ2 H2 => L2.wipe σ2 ow = L2.wipe σ ow ∧ tT C W0 cf t σ2 H2 fun b H3 => if b = true then Body σ2 H3 Nx else Nx H3) := by
  refine ⟨fun i m H => ∃ μ M ds, Le μs Hs μ H ∧ Lo μb Hb μ H ∧ Rep C (n0 :: bs) μ M H ∧ Ac μ H ds ∧
    Post C bs W μs Hs ((hush (turns (fun M i => src.next M i) (itemT (evG cf n0 g) (evT cf n0 t) fe (Ev.wipe ρ ow)) m i M)).bind fun ys M' => K (ds ++ ys) M') Q0, ⟨m0, μ, M, ds0, l0, lb0, R0, A0, p0⟩, ?_⟩
  rintro i m H ⟨μ, M, ds, l, lb, R, A, p⟩
  rcases turn_step p with ⟨e, q⟩ | ⟨c, d, rfl, e, q⟩
  · exact .inl ⟨hJ.stop _ μ M H i lb R e, hstop μ M H ds l lb R A (by rw [List.append_nil] at q; exact q)⟩
  · obtain ⟨h1, h2⟩ := hJ.go _ μ M H i d lb R e
    refine .inr ⟨h1, fun H => ∃ μ M ds, Le μs Hs μ H ∧ Lo μb Hb μ H ∧ Rep C (n0 :: bs) μ M H ∧ Ac μ H ds ∧
      Post C bs W μs Hs ((hush (turns (fun M i => src.next M i) (itemT (evG cf n0 g) (evT cf n0 t) fe (Ev.wipe ρ ow)) c (i + 1) M)).bind fun ys M' => K (ds ++ ys) M') Q0, fun H' q => ⟨c, Nat.lt_succ_self _, q⟩, fun x H3 y => ?_⟩
    obtain ⟨l3, R3, r3⟩ := h2 x H3 y
    have A3 := hA A l3
    obtain ⟨ρ4, M4, eg, q4⟩ := item_step q
    refine ⟨n0 :: bs, n0, μ, Ev.wipe ρ ow, M, d, ρ4, M4, ⟨hn, R3, (re.lo (lb.trans l3.toLo)).wipe ow⟩, r3, eg, fun μ4 H4 σ4 l4 a4 chg => ⟨?_, n0 :: bs, n0, μ4, ρ4, M4, a4, Post.anch q4 fun k μ5 M5 H5 l5 R5 q5 => ?_⟩⟩
    · rw [chg ow hs]
      exact wipe_wipe σ ow ow fun _ h => h
    · have l35 : Le μ H3 μ5 H5 := l4.trans l5
      have A5 := hA A3 l35
      have ls5 := (l.trans l3).trans l35
      have lb5 := (lb.trans l3.toLo).trans l35.toLo
      cases k with
      | false => exact ⟨μ5, M5, ds, ls5, lb5, R5, A5, q5⟩
      | true =>
        have e5 : (fun (xs : List D) M' => (hush (turns (fun M i => src.next M i) (itemT (evG cf n0 g) (evT cf n0 t) fe (Ev.wipe ρ ow)) c (i + 1) M')).bind fun ys M'' => K (ds ++ (xs ++ ys)) M'') =
            fun xs M' => (fun ds' M' => (hush (turns (fun M i => src.next M i) (itemT (evG cf n0 g) (evT cf n0 t) fe (Ev.wipe ρ ow)) c (i + 1) M')).bind fun ys M'' => K (ds' ++ ys) M'') (ds ++ xs) M' := by
          funext xs M'
          simp only [List.append_assoc]
        dsimp only at q5
        rw [e5] at q5
        exact hbody _ _ σ4 μ5 H5 M5 ρ4 ds (hB.next hG) (a4.le l5 R5) ls5 lb5 A5 q5 fun μ' M' H' ds' l' lb' R' A' p' => ⟨μ', M', ds', l', lb', R', A', p'⟩
end
/-! ### the dict that is being made -/
theorem mergeP_app : ∀ (ds ys : List D) (acc : List (KY × D)), mergeP (ds ++ ys) acc = (mergeP ds acc).bind (mergeP ys)
  | [], ys, acc => rfl
  | d :: ds, ys, acc => by
    rw [List.cons_append]
    unfold mergeP
    cases entD d with
    | none => rfl
    | some p => exact mergeP_app ds ys _
def goodD (ds : List D) : Prop := ds.length ≤ cap ∧ (mergeP ds []).isSome = true
theorem goodD_app (ds ys : List D) (h : goodD (ds ++ ys)) : goodD ds := by
  refine ⟨by have := h.1; rw [List.length_append] at this; omega, ?_⟩
  have z := h.2
  rw [mergeP_app] at z
  cases e : mergeP ds [] with
  | none => rw [e] at z; exact z
  | some _ => rfl
def AccD (C : Cn) (p : Addr) (μ : List Addr) (H : Hp) (ds : List D) : Prop := p ∉ μ ∧ ∃ kvs vs, mergeP ds [] = some kvs ∧ H p = some (.dK (kz kvs vs)) ∧ RelDs C μ H (kvs.map (·.2)) vs
theorem AccD.le {p : Addr} {ds : List D} (a : AccD C p μ H ds) (l : Le μ H μ' H') : AccD C p μ' H' ds := by
  obtain ⟨off, kvs, vs, e, q, r⟩ := a
  have h0 : H p ≠ none := by rw [q]; exact fun z => by cases z
  exact ⟨fun m => h0 (l.fr p m off), kvs, vs, e, (l.off p off h0).trans q, r.le l⟩
theorem putD_len (acc : List (KY × D)) (k : KY) (v : D) : (putD acc k v).length ≤ acc.length + 1 := by
  unfold putD
  split
  · rw [List.length_map]; omega
  · rw [List.length_append]; simp
theorem mergeP_len : ∀ {ds : List D} {acc kvs : List (KY × D)}, mergeP ds acc = some kvs → kvs.length ≤ acc.length + ds.length
  | [], acc, kvs, h => by
    unfold mergeP at h
    cases h
    exact Nat.le_refl _
  | d :: ds, acc, kvs, h => by
    unfold mergeP at h
    cases e : entD d with
    | none => rw [e] at h; cases h
    | some p =>
      rw [e] at h
      have := mergeP_len h
      have := putD_len acc p.1 p.2
      rw [List.length_cons]
      omega
theorem sealD_inv {n0 : Nat} {ds : List D} {W : XK} {Q0 : D → List Addr → Sto → Hp → Prop} (h : Post C bs W μ H (sealD n0 ds M) Q0) : ∃ kvs, mergeP ds [] = some kvs ∧ ds.length ≤ cap ∧ Post C bs W μ H (match flats (kvs.map (·.2)) with
    | true => .ok (.loc n0) (M.take n0 ++ [.dct kvs])
    | false => .ok (.loc M.length) (M ++ [.dct kvs])) Q0 := by
  unfold sealD at h
  cases e : mergeP ds [] with
  | none => rw [e] at h; exact (show False from h).elim
  | some kvs =>
    rw [e] at h
    dsimp only at h
    by_cases hl : ds.length ≤ cap
    · rw [if_pos hl] at h
      exact ⟨kvs, rfl, hl, h⟩
    · rw [if_neg hl] at h
      exact (show False from h).elim
theorem sealD_wants {n0 : Nat} {Q : VK} {μs : List Addr} {Hs : Hp} : Wants C bs W μs Hs goodD (fun ds M => sealD n0 ds M) (fun d μ' _ H' => ∀ v, RelD C μ' H' d v → Q v H') := fun ds M p => by
  obtain ⟨kvs, e, hl, _⟩ := sealD_inv p
  exact ⟨hl, by rw [e]; rfl⟩
theorem sealD_end {pd : Addr} {n0 : Nat} {ds : List D} {Q : VK} {μs : List Addr} {Hs : Hp} (hn : ∀ c ∈ n0 :: bs, c ≤ n0) (h0 : μs.length = n0) (hD : Hs pd = none) (l : Le μs Hs μ H) (R : Rep C (n0 :: bs) μ M H) (A : AccD C pd μ H ds)
    (p : VP C bs W μs Hs (sealD n0 ds M) Q) : Q (.ref pd) H := by
  obtain ⟨kvs, e, hl, p⟩ := sealD_inv p
  obtain ⟨off, kvs', vs, e', q, r⟩ := A
  rw [e] at e'
  cases e'
  have hle : n0 ≤ μ.length := R.le n0 List.mem_cons_self
  cases ef : flats (kvs.map (·.2)) with
  | true =>
    rw [ef] at p
    have hp : μ.take n0 = μs := by
      obtain ⟨t, ht⟩ := l.pre
      rw [← ht, ← h0, List.take_left]
    refine VP.on (μ' := μ.take n0 ++ [pd]) (H' := H) p ⟨⟨?_, l.st⟩, fun a m n => ?_, l.off⟩ ?_ (relD_loc.mpr ⟨pd, ?_, rfl⟩)
    · rw [hp]; exact List.prefix_append _ _
    · rw [hp] at m
      rcases List.mem_append.mp m with m | m
      · exact absurd m n
      · rw [List.mem_singleton.mp m]; exact hD
    · exact (R.cut fun c hc => hn c (List.mem_cons_of_mem _ hc)).add (fun m => off (List.mem_of_mem_take m)) ⟨vs, q, RelDs.flat ef r⟩
    · rw [List.getElem?_append_right (by rw [List.length_take]; omega), List.length_take, Nat.min_eq_left hle, Nat.sub_self]; rfl
  | false =>
    rw [ef] at p
    refine VP.on (μ' := μ ++ [pd]) (H' := H) p ⟨⟨l.pre.trans (List.prefix_append _ _), l.st⟩, fun a m n => ?_, l.off⟩ ?_ (relD_loc.mpr ⟨pd, by rw [← R.len]; simp, rfl⟩)
    · rcases List.mem_append.mp m with m | m
      · exact l.fr a m n
      · rw [List.mem_singleton.mp m]; exact hD
    · exact R.leave.add off ⟨vs, q, r.mono (List.prefix_append _ _) (.refl _)⟩
/-- the entry of a turn -/
theorem put_itemD {pd : Addr} {n0 : Nat} {β : Type} {Q0 : β → List Addr → Sto → Hp → Prop} {μs μb : List Addr} {Hs Hb : Hp} {K' : List D → Sto → Out β} {Nx : Hp → Prop} {ek ev : E} {ρ2 : Enn} {σ2 : St} {ds : List D} (hD : Hs pd = none)
    (hB : Wants C bs W μs Hs goodD K' Q0) (a : At C (n0 :: bs) n0 μ ρ2 M σ2 H) (l : Le μs Hs μ H) (lb : Lo μb Hb μ H) (A : AccD C pd μ H ds)
    (p : Post C bs W μs Hs ((hush ((evE cf n0 ek ρ2 M).bind fun kd M => (evE cf n0 ev ρ2 M).bind fun d M => .ok [.tup [kd, d]] M)).bind fun xs M' => K' (ds ++ xs) M') Q0)
    (k : ∀ μ' M' H' ds', Le μs Hs μ' H' → Lo μb Hb μ' H' → Rep C (n0 :: bs) μ' M' H' → AccD C pd μ' H' ds' → Post C bs W μs Hs (K' ds' M') Q0 → Nx H') :
    tE C W0 cf ek σ2 H fun y H4 => tE C W0 cf ev σ2 H4 fun z H5 => ∃ kvs k, y = kV k ∧ H5 pd = some (.dK kvs) ∧ kvs.length < sizeLine ∧ Nx (upd H5 pd (.dK (putK kvs k z))) := by
  rw [hush_bind] at p
  refine ⟨n0 :: bs, n0, μ, ρ2, M, a, Post.anch p fun kd μ4 M4 H4 l4 R4 q4 y ry => ?_⟩
  rw [hush_bind] at q4
  refine ⟨n0 :: bs, n0, μ4, ρ2, M4, a.le l4 R4, Post.anch q4 fun d μ6 M6 H6 l6 R6 q6 z rz => ?_⟩
  have q6 : Post C bs W μs Hs (K' (ds ++ [.tup [kd, d]]) M6) Q0 := q6
  obtain ⟨off, kvs, vs, e, q, r⟩ := (A.le l4).le l6
  obtain ⟨hl, hs⟩ := hB _ _ q6
  rw [List.length_append] at hl
  rw [mergeP_app, e] at hs
  have hs2 : (mergeP [.tup [kd, d]] kvs).isSome = true := hs
  cases hk : keyD kd with
  | none =>
    have e0 : entD (.tup [kd, d]) = none := by
      unfold entD
      dsimp only
      rw [hk]
    unfold mergeP at hs2
    rw [e0] at hs2
    cases hs2
  | some k' =>
    have e0 : entD (.tup [kd, d]) = some (k', d) := by
      unfold entD
      dsimp only
      rw [hk]
    have e2 : mergeP (ds ++ [.tup [kd, d]]) [] = some (putD kvs k' d) := by
      rw [mergeP_app, e]
      show mergeP [.tup [kd, d]] kvs = _
      unfold mergeP
      rw [e0]
      rfl
    have hkl : kvs.length = vs.length := by simpa using r.length
    have hm : Mut (H6 pd) := by rw [q]; trivial
    obtain ⟨vs', e3, r3⟩ := put_rel (k := k') rz r
    have lo : Lo μ6 H6 μ6 (upd H6 pd (.dK (putK (kz kvs vs) k'.key z))) := ⟨List.prefix_refl _, .put hm⟩
    refine ⟨kz kvs vs, k'.key, key_rel hk ry, q, ?_, k μ6 M6 _ _ (((l.trans l4).trans l6).beside hD hm) ((lb.trans (l4.toLo.trans l6.toLo)).trans lo) (R6.keep (.put hm) fun a m => upd_ne fun z => off (z ▸ m)) ⟨off, _, vs', e2, by rw [e3]; exact upd_same, r3.lo lo⟩ q6⟩
    rw [kz_len hkl]
    have := mergeP_len e
    have z : sizeLine = cap := rfl
    simp at this hl
    omega
variable {g g' : G} {it it' : IT} {ow ow' : List Nat} {t t' : T} {ek ev : E} {Q : VK}
theorem dc_rd (hs : ∀ i ∈ gsl g, i ∈ ow) (h : tE C W cf (.dc g it ow t ek ev) σ H Q) : tDc (tI C W cf it) (tG C cf g) (tT C W0 cf t) (tE C W0 cf ek) (tE C W0 cf ev) ow σ H Q := by
  obtain ⟨bs, b, μ, ρ, M, z, p⟩ := h
  unfold evE at p
  refine I_then z p fun src J μ1 M1 H1 l1 a1 hJ p1 => ?_
  intro pd hD
  have hn : ∀ c ∈ M1.length :: bs, c ≤ M1.length := fun c hc => by
    rcases List.mem_cons.mp hc with rfl | hc
    · exact Nat.le_refl _
    · rw [← a1.R.len]; exact a1.R.le c hc
  refine comp_loopG (Ac := AccD C pd) (fun a l => AccD.le a l) goodD_app (μs := μ1) (Hs := H1) (μb := μ1) (Hb := H1) (K := fun ds M => sealD M1.length ds M) (Q0 := fun d μ' _ H' => ∀ v, RelD C μ' H' d v → Q v H') (Stop := fun H => Q (.ref pd) H) (ds0 := [])
    (Body := fun σ2 H3 Nx => tE C W0 cf ek σ2 H3 fun y H4 => tE C W0 cf ev σ2 H4 fun z H5 => ∃ kvs k, y = kV k ∧ H5 pd = some (.dK kvs) ∧ kvs.length < sizeLine ∧ Nx (upd H5 pd (.dK (putK kvs k z))))
    sealD_wants hJ hn a1.re hs (fun μ M H ds l _ R A p => sealD_end hn a1.R.len hD l R A p) (fun K' Nx σ2 μ H M ρ2 ds hB a l lb A p k => put_itemD hD hB a l lb A p k)
    (Le.new hD) (Le.new hD).toLo (a1.R.enter.new hD) ⟨a1.R.fresh hD, [], [], rfl, upd_same, .nil⟩ p1
end Ev
end

section
/-! EvRdD: the readings of dicts and of instances. -/
namespace Ev
open PySem L2
variable {C : Cn} {μ μ' μ1 : List Addr} {H H' H1 : Hp} {M M' M1 : Sto} {bs : List Nat} {v : V} {X : Cx} {W : XK} {b : Nat} {ρ : Enn} {σ : St} {cf : Cf} {a a' : E} {es : EL} {Q : VK}
/-! ### dicts -/
theorem nodup_of : ∀ {ks : List KY}, nodupB ks = true → ks.Nodup
  | [], _ => .nil
  | k :: ks, h => by
    unfold nodupB at h
    rw [Bool.and_eq_true] at h
    refine List.nodup_cons.mpr ⟨fun m => ?_, nodup_of h.2⟩
    have := h.1
    rw [List.contains_iff_mem.mpr m] at this
    cases this
theorem valV_not {kvs : List (Key × V)} {k : Key} (h : k ∉ kvs.map (·.1)) : valV kvs k = none := by
  induction kvs with
  | nil => rfl
  | cons p r ih =>
    rw [List.map_cons, List.mem_cons, not_or] at h
    rw [valV_neg fun e => h.1 e.symm]
    exact ih h.2
theorem merge_nodup : ∀ {kvs acc : List (Key × V)}, (kvs.map (·.1)).Nodup → (∀ k ∈ kvs.map (·.1), k ∉ acc.map (·.1)) → mergeK acc kvs = acc ++ kvs
  | [], acc, _, _ => by simp [mergeK]
  | (k, w) :: r, acc, h, hd => by
    rw [List.map_cons, List.nodup_cons] at h
    have e : putK acc k w = acc ++ [(k, w)] := putK_new w (valV_not (hd k (by simp)))
    show mergeK (putK acc k w) r = _
    rw [e, merge_nodup h.2 fun k' hk' => ?_]
    · simp
    · rw [List.map_append, List.mem_append, not_or]
      refine ⟨hd k' (by simp [hk']), fun z => ?_⟩
      have : k' = k := by simpa using z
      exact h.1 (this ▸ hk')
theorem kz_keys : ∀ {kvs : List (KY × D)} {vs : List V}, kvs.length = vs.length → (kz kvs vs).map (·.1) = kvs.map fun p => p.1.key
  | [], [], _ => rfl
  | p :: kvs, v :: vs, h => by
    have ih := kz_keys (kvs := kvs) (vs := vs) (Nat.succ.inj h)
    unfold kz at ih ⊢
    simp only [List.map_cons, List.zip_cons_cons]
    rw [ih]
  | [], _ :: _, h => by cases h
  | _ :: _, [], h => by cases h
theorem merge_kz {kvs : List (KY × D)} {vs : List V} (hn : nodupB (kvs.map (·.1)) = true) (hl : kvs.length = vs.length) : mergeK [] (kz kvs vs) = kz kvs vs := by
  have nd : ((kz kvs vs).map (·.1)).Nodup := by
    rw [kz_keys hl]
    have z := nodup_of hn
    rw [show (kvs.map fun p => p.1.key) = (kvs.map (·.1)).map fun k => k.key by rw [List.map_map]; rfl]
    refine List.Pairwise.map _ (fun x y hxy e => hxy (key_inj e)) z
  rw [merge_nodup nd fun k _ z => by simp at z]
  rfl
theorem newD_inv {kvs : List (KY × D)} {W : XK} {Q0 : Ev.D → List Addr → Sto → Hp → Prop} (h : Post C bs W μ H (newD kvs M) Q0) : nodupB (kvs.map (·.1)) = true ∧ kvs.length ≤ cap ∧ Post C bs W μ H (.ok (.loc M.length) (M ++ [.dct kvs])) Q0 := by
  unfold newD at h
  cases e : nodupB (kvs.map (·.1)) && Nat.ble kvs.length cap with
  | false => rw [e] at h; exact (show False from h).elim
  | true =>
    rw [e] at h
    rw [Bool.and_eq_true] at e
    exact ⟨e.1, Nat.le_of_ble_eq_true e.2, h⟩
/-- dict(..) -/
def rDct (C : Cn) : List V → Hp → VK → Prop := fun xs H Q => ∃ bs W μ M d v, xs = [v] ∧ Rep C bs μ M H ∧ RelD C μ H d v ∧ VP C bs W μ H (match itemsOf M d with
    | some ds => match pairsD ds with
      | some kvs => newD kvs M
      | none => .no
    | none => .no) Q
theorem pairs_rel : ∀ {ds : List D} {kvs : List (KY × D)} {vs : List V}, pairsD ds = some kvs → RelDs C μ H ds vs →
    ∃ ps ws, vs = ps.map V.ref ∧ RelDs C μ H (kvs.map (·.2)) ws ∧ Paired (fun p kv => SqT C.K H p [kV kv.1, kv.2]) ps (kz kvs ws)
  | [], kvs, vs, e, r => by
    unfold pairsD at e
    cases e
    exact ⟨[], [], r.nil_inv, .nil, .nil⟩
  | d :: ds, kvs, vs, e, r => by
    obtain ⟨v, vr, rfl, r1, r2⟩ := r.inv
    unfold pairsD at e
    split at e
    · rename_i e0; cases e0
    · rename_i s d0 _ e0
      obtain ⟨rfl, rfl⟩ := List.cons.inj e0
      split at e
      · rename_i kvs' e1
        cases e
        obtain ⟨ps, ws, rfl, r3, pr⟩ := pairs_rel e1 r2
        obtain ⟨p, us, rfl, h1, z⟩ := relD_tup r1
        obtain ⟨u1, _, rfl, z1, z⟩ := z.inv
        obtain ⟨u2, _, rfl, z2, z⟩ := z.inv
        cases z.nil_inv
        cases relD_str.mp z1
        exact ⟨p :: ps, u2 :: ws, rfl, .cons z2 r3, .cons h1 pr⟩
      · cases e
    · cases e
theorem call_rDct (hK : X.K = C.K) (hc : X.calm = true) : CallR X (.type "dict") (rDct C) := by
  intro pins s σ H xs us Q I r h
  obtain ⟨bs, W, μ, M, d, v, rfl, R, rd, p⟩ := h
  cases e : itemsOf M d with
  | none => rw [e] at p; exact p.elim
  | some ds =>
    rw [e] at p
    dsimp only at p
    cases e1 : pairsD ds with
    | none => rw [e1] at p; exact p.elim
    | some kvs =>
      rw [e1] at p
      obtain ⟨hn, _, p1⟩ := newD_inv p
      obtain ⟨ad, vs, rfl, h1, z⟩ := items_invT R e rd
      obtain ⟨ps, ws, rfl, rw', pr⟩ := pairs_rel e1 z
      have hl : kvs.length = ws.length := by
        have := rw'.length
        simpa using this
      have fin : ∀ p, H p = none → Q (.ref p) (upd H p (.dK (mergeK [] (kz kvs ws)))) := fun p hp => by
        rw [merge_kz hn hl]
        exact VP.on (W := W) p1 (Le.add hp) (R.alloc (o := .dct kvs) hp ⟨ws, upd_same, rw'.le (.add hp)⟩) (relD_loc.mpr ⟨p, by rw [← R.len]; simp, rfl⟩)
      rcases h1 with h1 | ⟨h1, rfl⟩
      · exact call_dictP hc pins s σ H _ us Q I r ⟨ad, ps, _, rfl, hK ▸ h1, hK ▸ pr, fin⟩
      · obtain ⟨ad', _, ea, _, _, nd⟩ := relD_tupF.mp rd
        cases ea
        exact call_dctT hc pins s σ H _ us Q I r ⟨ad, ps, _, rfl, hK ▸ h1, hK ▸ nd.1 (by rw [e1]; rfl), hK ▸ pr, fin⟩
theorem dct_rd (h : tE C W cf (.dct a) σ H Q) : tE C W cf a σ H fun v H1 => rDct C [v] H1 Q := by
  obtain ⟨bs, b, μ, ρ, M, z, p⟩ := h
  unfold evE at p
  exact E_then z p fun d v μ1 M1 H1 l a1 r p1 => ⟨bs, W, μ1, M1, d, v, rfl, a1.R, r, p1⟩
theorem get_rd (h : tE C W cf (.get a a') σ H Q) : tDGet1 (tE C W cf a) (tE C W cf a') σ H Q := by
  obtain ⟨bs, b, μ, ρ, M, z, p⟩ := h
  unfold evE at p
  refine E_then z p fun d v μ1 M1 H1 l a1 r p1 => ?_
  cases ed : dctAt M1 d with
  | none => rw [ed] at p1; exact (show False from p1).elim
  | some kvs =>
    rw [ed] at p1
    obtain ⟨ad, o, rfl, isd, _, _, _⟩ := dct_get a1.R ed r (.s [])
    refine ⟨ad, rfl, isd, E_then a1 p1 fun d' v' μ2 M2 H2 l2 a2 r2 p2 => ?_⟩
    obtain ⟨k, e, p3⟩ := O_fin p2
    unfold getD1 at e
    cases e2 : dctAt M2 d with
    | none => rw [e2] at e; cases e
    | some kvs2 =>
      rw [e2] at e
      cases ek : keyD d' with
      | none => rw [ek] at e; cases e
      | some t =>
        rw [ek] at e
        cases key_rel ek r2
        obtain ⟨ad2, o2, ea, _, g, g1, g2⟩ := dct_get a2.R e2 (r.le l2) t
        cases ea
        dsimp only at e
        refine ⟨o2, g, ?_⟩
        cases el : kvs2.lookup t with
        | none =>
          rw [el] at e
          cases e
          rw [g2 el]
          exact VP.at p3 a2.R (relD_non.mpr rfl)
        | some d2 =>
          rw [el] at e
          cases e
          obtain ⟨w, rfl, rw'⟩ := g1 _ el
          exact VP.at p3 a2.R rw'
/-- a dict of the module, asked for one of its keys -/
def tGGet (kvs : List (List Nat × Int)) (t : TE) : TE := fun σ H Q => t σ H fun v H1 => ∃ s i, v = .str (toS s) ∧ kvs.lookup s = some i ∧ Q (.int i) H1
theorem gget_rd {g : Nat} {kvs : List (List Nat × Int)} (h : tE C W cf (.gget g kvs a) σ H Q) : tGGet kvs (tE C W cf a) σ H Q := by
  obtain ⟨bs, b, μ, ρ, M, z, p⟩ := h
  unfold evE at p
  refine E_then z p fun d v μ1 M1 H1 l a1 r p1 => ?_
  obtain ⟨k, e, p3⟩ := O_fin p1
  unfold getG at e
  cases d with
  | str t =>
    dsimp only at e
    cases el : kvs.lookup t with
    | none => rw [el] at e; cases e
    | some i =>
      rw [el] at e
      cases e
      exact ⟨t, i, relD_str.mp r, el, VP.at p3 a1.R (relD_int.mpr rfl)⟩
  | _ => cases e
/-! ### displays -/
def trsOf (C : Cn) (W : XK) (cf : Cf) : List (List Nat) → EL → List (TE × TE)
  | k :: ks, .cons e es => (tC (.str (toS k)), tE C W cf e) :: trsOf C W cf ks es
  | _, _ => []
theorem pairs_go {β : Type} {μs : List Addr} {Hs : Hp} {p : Addr} (hp : Hs p = none) : ∀ {es : EL} {ks : List (List Nat)} {K : List D → Sto → Out β} {Q0 : β → List Addr → Sto → Hp → Prop} {μ : List Addr} {H : Hp} {M : Sto} {Qf : List (V × V) → Hp → Prop},
    At C bs b μ ρ M σ H → Le μs Hs μ H → H p = some (.dK []) → p ∉ μ → Post C bs W μs Hs ((hush (evL cf b es ρ M)).bind K) Q0 → (∀ ds M', Post C bs W μs Hs (K ds M') Q0 → ks.length = ds.length) →
    (∀ ds vs μ' M' H', Le μ H μ' H' → Rep C bs μ' M' H' → H' p = some (.dK []) → p ∉ μ' → RelDs C μ' H' ds vs → Post C bs W μs Hs (K ds M') Q0 → Qf ((ks.map fun k => V.str (toS k)).zip vs) H') →
    tPairs (trsOf C W cf ks es) σ H Qf
  | .nil, ks, K, Q0, μ, H, M, Qf, z, l, hd, hn, h, hl, k => by
    have h' : Post C bs W μs Hs (K [] M) Q0 := by
      unfold evL at h
      exact h
    have e0 : ks = [] := List.eq_nil_of_length_eq_zero (hl _ _ h')
    subst e0
    exact k [] [] μ M H (.refl _ _) z.R hd hn .nil h'
  | .cons e es, ks, K, Q0, μ, H, M, Qf, z, l, hd, hn, h, hl, k => by
    unfold evL at h
    rw [hush_bind] at h
    cases ks with
    | nil =>
      exfalso
      cases e1 : evE cf b e ρ M with
      | no => rw [e1] at h; exact h
      | ex _ _ => rw [e1] at h; exact h
      | ok d M1 =>
        rw [e1] at h
        simp only [hush_ok, bind_ok] at h
        rw [hush_bind] at h
        cases e2 : evL cf b es ρ M1 with
        | no => rw [e2] at h; exact h
        | ex _ _ => rw [e2] at h; exact h
        | ok ds M2 =>
          rw [e2] at h
          simp only [hush_ok, bind_ok] at h
          cases hl _ _ h
    | cons k0 ks =>
      show tC (.str (toS k0)) σ H fun x H1 => tE C W cf e σ H1 fun y H2 => tPairs (trsOf C W cf ks es) σ H2 fun ps H3 => Qf ((x, y) :: ps) H3
      refine ⟨bs, b, μ, ρ, M, z, Post.anch h fun d μ1 M1 H1 l1 R1 q1 v r1 => ?_⟩
      rw [hush_bind] at q1
      have hp1 : H1 p = some (.dK []) := by rw [l1.off p hn (by rw [hd]; exact fun z => by cases z)]; exact hd
      have hn1 : p ∉ μ1 := fun m => by
        have := l1.fr p m hn
        rw [hd] at this
        cases this
      refine pairs_go hp (es := es) (ks := ks) (K := fun xs M => (hush (.ok (d :: xs) M)).bind K) (z.le l1 R1) (l.trans l1) hp1 hn1 q1 (fun ds M' q => Nat.succ.inj (hl _ _ q)) fun ds vs μ' M' H' l' R' h1 h2 rs q => ?_
      exact k (d :: ds) (v :: vs) _ M' H' (l1.trans l') R' h1 h2 (.cons (r1.le l') rs) q
theorem dic_rd {ks : List (List Nat)} (h15 : ks.length ≤ 15) (h : tE C W cf (.dic ks es) σ H Q) : tDisp (trsOf C W cf ks es) σ H Q := by
  obtain ⟨bs, b, μ, ρ, M, z, p⟩ := h
  unfold evE at p
  intro q hq
  have hl : ∀ (ds : List D) (M' : Sto), Post C bs W μ H (if ks.length = ds.length then newD ((ks.map KY.s).zip ds) M' else .no) (fun d μ' _ H' => ∀ v, RelD C μ' H' d v → Q v H') → ks.length = ds.length := fun ds M' h => by
    by_cases e : ks.length = ds.length
    · exact e
    · rw [if_neg e] at h; exact (show False from h).elim
  refine pairs_go hq (z.le (Le.new hq) (z.R.new hq)) (Le.new hq) upd_same (z.R.fresh hq) p hl fun ds vs μ' M' H' l R' h1 h2 rs p2 => ⟨h1, kz ((ks.map KY.s).zip ds) vs, ?_, ?_, ?_⟩
  · have e := hl ds M' p2
    have ev := rs.length
    clear p2 p
    unfold kz
    have key : ∀ (ks : List (List Nat)) (ds : List D) (vs : List V), ks.length = ds.length → ds.length = vs.length → (ks.map fun k => V.str (toS k)).zip vs = ((((ks.map KY.s).zip ds).map fun p => p.1.key).zip vs).map fun kv => (kV kv.1, kv.2) := fun ks => by
      induction ks with
      | nil => intro ds vs _ _; rfl
      | cons k ks ih =>
        intro ds vs e ev
        cases ds with
        | nil => cases e
        | cons d ds =>
          cases vs with
          | nil => cases ev
          | cons v vs =>
            simp only [List.map_cons, List.zip_cons_cons]
            rw [← ih ds vs (Nat.succ.inj e) (Nat.succ.inj ev)]
            rfl
    exact key ks ds vs e ev
  · unfold kz
    rw [List.length_zip, List.length_map, List.length_zip, List.length_map]
    omega
  · have e := hl ds M' p2
    rw [if_pos e] at p2
    obtain ⟨hn, _, p3⟩ := newD_inv p2
    have el : ((ks.map KY.s).zip ds).length = vs.length := by
      rw [List.length_zip, List.length_map, e, Nat.min_self]
      exact rs.length
    rw [merge_kz hn el]
    have l3 : Le μ H μ' H' := (Le.new hq).trans l
    have hm : Mut (H' q) := by rw [h1]; trivial
    have l4 : Le μ H (μ' ++ [q]) (upd H' q (.dK (kz ((ks.map KY.s).zip ds) vs))) := by
      have l5 := l3.beside (o := .dK (kz ((ks.map KY.s).zip ds) vs)) hq hm
      refine ⟨⟨l5.pre.trans (List.prefix_append _ _), l5.st⟩, fun a m n => ?_, l5.off⟩
      rcases List.mem_append.mp m with m | m
      · exact l5.fr a m n
      · rw [List.mem_singleton.mp m]; exact hq
    have lo : Lo μ' H' (μ' ++ [q]) (upd H' q (.dK (kz ((ks.map KY.s).zip ds) vs))) := ⟨List.prefix_append _ _, .put hm⟩
    have ez : ((ks.map KY.s).zip ds).map (·.2) = ds := List.map_snd_zip (by rw [List.length_map]; exact Nat.le_of_eq e.symm)
    exact VP.on (W := W) p3 l4 ((R'.keep (.put hm) fun a m => upd_ne fun z => h2 (z ▸ m)).add h2 (o := .dct ((ks.map KY.s).zip ds)) ⟨vs, upd_same, by rw [ez]; exact rs.lo lo⟩) (relD_loc.mpr ⟨q, by rw [← R'.len]; simp, rfl⟩)
/-! ### instances -/
/-- what a def's word is, with what is wanted of its end -/
def Wd (C : Cn) (W : XK) (F : Nat → List D → Nat → Sto → Out D) (f : Nat) (vs : List V) (H : Hp) (Q : VK) : Prop := ∃ bs b μ M ds, (∀ c ∈ bs, c ≤ b) ∧ Rep C bs μ M H ∧ RelDs C μ H ds vs ∧ VP C bs W μ H (F f ds b M) Q
def tNewI (C : Cn) (W : XK) (F : Nat → List D → Nat → Sto → Out D) (k f : Nat) (t : TA) : TE := fun σ H Q => t σ H fun vs H1 => ∀ x dx, H1 x = none → H1 dx = none → dx ≠ x →
  Wd C W F f (.ref x :: vs) (upd (upd H1 dx (.own x)) x (.ins (C.ca k) dx [])) fun v H2 => v = .non ∧ Q (.ref x) H2
theorem new_rd {k f : Nat} (h : tE C W cf (.new k f es) σ H Q) : tNewI C W cf.F k f (tL C W cf es) σ H Q := by
  obtain ⟨bs, b, μ, ρ, M, z, p⟩ := h
  unfold evE at p
  refine L_then z p fun d v μ1 M1 H1 l a1 r p1 x dx hx hdx hne => ?_
  have hx' : upd H1 dx (.own x) x = none := by rw [upd_ne (Ne.symm hne)]; exact hx
  have l2 : Le μ1 H1 (μ1 ++ [x]) (upd (upd H1 dx (.own x)) x (.ins (C.ca k) dx [])) := (Le.new hdx).trans (Le.add hx')
  refine ⟨bs, b, μ1 ++ [x], M1 ++ [.ins k []], .loc M1.length :: d, a1.hb, (a1.R.new hdx).alloc (o := .ins k []) hx' ⟨dx, [], upd_same, .nil, List.nodup_nil⟩, .cons (relD_loc.mpr ⟨x, by rw [← a1.R.len]; simp, rfl⟩) (r.le l2), ?_⟩
  refine (Post.bind (Post.le p1 l2)).imp fun u μ' M' H' l' R' p2 w rw => ?_
  cases u with
  | non => exact ⟨relD_non.mp rw, VP.at p2 R' (relD_loc.mpr ⟨x, pre_get l'.pre (by rw [← a1.R.len]; simp), rfl⟩)⟩
  | _ => exact (show False from p2).elim
/-- a method's call -/
def tMc (C : Cn) (W : XK) (F : Nat → List D → Nat → Sto → Out D) (ms : List (Nat × Nat)) (ta : TE) (t : TA) : TE := fun σ H Q => ta σ H fun x H1 => ∃ (ad dx : Addr) (k f : Nat) (vs : List V), x = .ref ad ∧ H1 ad = some (.ins (C.ca k) dx (fz C k vs)) ∧ ms.lookup k = some f ∧
  t σ H1 fun ws H2 => Wd C W F f (x :: ws) H2 Q
theorem mc_rd {m : Str} {ms : List (Nat × Nat)} (h : tE C W cf (.mc a m ms es) σ H Q) : tMc C W cf.F ms (tE C W cf a) (tL C W cf es) σ H Q := by
  obtain ⟨bs, b, μ, ρ, M, z, p⟩ := h
  unfold evE at p
  refine E_then z p fun d v μ1 M1 H1 l a1 r p1 => ?_
  cases e : pickM M1 d ms with
  | none => rw [e] at p1; exact (show False from p1).elim
  | some f =>
    rw [e] at p1
    unfold pickM clsAt at e
    cases d with
    | loc n =>
      dsimp only at e
      cases e1 : M1[n]? with
      | none => rw [e1] at e; cases e
      | some o =>
        rw [e1] at e
        cases o with
        | ins k xs =>
          obtain ⟨ad, ea, rfl⟩ := relD_loc.mp r
          obtain ⟨dx, vs, hH, rs, hg⟩ := a1.R.at ea e1
          exact ⟨ad, dx, k, f, vs, rfl, hH, e, L_then a1 p1 fun ds ws μ2 M2 H2 l2 a2 r2 p2 => ⟨bs, b, μ2, M2, _, a2.hb, a2.R, .cons (r.le l2) r2, p2⟩⟩
        | _ => cases e
    | _ => cases e
theorem fld_inv {k j : Nat} {d d2 : D} (R : Rep C bs μ M H) (e : fldD M d k j = some d2) (r : RelD C μ H d v) : ∃ (ad dx : Addr) (vs : List V) (w : V), v = .ref ad ∧ H ad = some (.ins (C.ca k) dx (fz C k vs)) ∧ (fz C k vs).lookup (C.nm k j) = some w ∧ RelD C μ H d2 w := by
  unfold fldD at e
  cases d with
  | loc n =>
    dsimp only at e
    cases e1 : M[n]? with
    | none => rw [e1] at e; cases e
    | some o =>
      rw [e1] at e
      cases o with
      | ins c' xs =>
        dsimp only at e
        by_cases hc : c' = k
        · rw [if_pos hc] at e
          subst hc
          obtain ⟨ad, ea, rfl⟩ := relD_loc.mp r
          obtain ⟨dx, vs, hH, rs, hg⟩ := R.at ea e1
          obtain ⟨w, hw, rw'⟩ := rs.get e
          exact ⟨ad, dx, vs, w, rfl, hH, fz_at (by rw [← rs.length]; exact hg) hw, rw'⟩
        · rw [if_neg hc] at e; cases e
      | _ => cases e
  | _ => cases e
def tFldI (C : Cn) (k j : Nat) (t : TE) : TE := fun σ H Q => t σ H fun v H1 => ∃ (ad dx : Addr) (vs : List V) (w : V), v = .ref ad ∧ H1 ad = some (.ins (C.ca k) dx (fz C k vs)) ∧ (fz C k vs).lookup (C.nm k j) = some w ∧ Q w H1
theorem fld_rd {k j : Nat} (h : tE C W cf (.fld a k j) σ H Q) : tFldI C k j (tE C W cf a) σ H Q := by
  obtain ⟨bs, b, μ, ρ, M, z, p⟩ := h
  unfold evE at p
  refine E_then z p fun d v μ1 M1 H1 l a1 r p1 => ?_
  obtain ⟨d2, e, p2⟩ := O_fin p1
  obtain ⟨ad, dx, vs, w, e1, e2, e3, r2⟩ := fld_inv a1.R e r
  exact ⟨ad, dx, vs, w, e1, e2, e3, VP.at p2 a1.R r2⟩
theorem fz_ext {c : Nat} {vs ws : List V} (hl : vs.length = ws.length) (e : fz C c vs = fz C c ws) : vs = ws := by
  have h : ∀ xs : List V, (fz C c xs).map (·.2) = xs := fun xs => List.map_snd_zip (by rw [fnames_len]; exact Nat.le_refl _)
  rw [← h vs, e, h]
/-- an instance is stored anew -/
theorem setF_ok {x d : D} {k j : Nat} {vx w : V} (R : Rep C bs μ M H) (hb : ∀ c ∈ bs, c ≤ b) (e : setF M x k j d b = some M') (rx : RelD C μ H x vx) (rd : RelD C μ H d w) (hn : (fnames C k (j + 1)).Nodup) :
    ∃ (ad dx : Addr) (vs : List V), vx = .ref ad ∧ H ad = some (.ins (C.ca k) dx (fz C k vs)) ∧ vs.length < 900 ∧ Rep C bs μ M' (upd H ad (.ins (C.ca k) dx (putF (C.nm k j) w (fz C k vs)))) ∧ Le μ H μ (upd H ad (.ins (C.ca k) dx (putF (C.nm k j) w (fz C k vs)))) := by
  unfold setF at e
  cases x with
  | loc n =>
    dsimp only at e
    cases e1 : M[n]? with
    | none => rw [e1] at e; cases e
    | some o =>
      cases e2 : may b n d with
      | false => rw [e1, e2] at e; cases o <;> cases e
      | true =>
        rw [e1, e2] at e
        cases o with
        | ins c' xs =>
          dsimp only at e
          by_cases hc : c' = k ∧ j ≤ xs.length ∧ xs.length < 900
          · rw [if_pos hc] at e
            cases e
            obtain ⟨rfl, hj, h9⟩ := hc
            obtain ⟨ad, ea, rfl⟩ := relD_loc.mp rx
            obtain ⟨dx, vs, hH, rs, hg⟩ := R.at ea e1
            have hmut : Mut (H ad) := by rw [hH]; trivial
            obtain ⟨ws, p1, p2, p3, p4⟩ := fz_put (v := w) hg hn hj rs rd rs.length
            refine ⟨ad, dx, vs, rfl, hH, by rw [← rs.length]; exact h9, ?_, ⟨⟨List.prefix_refl _, .put hmut⟩, fun _ m q => absurd m q, fun a m q => upd_ne fun z => m (z ▸ List.mem_of_getElem? ea)⟩⟩
            refine R.put ea fun c hc => ?_
            obtain ⟨dx2, vs2, h2, r2, _⟩ := R.ob n ad _ ea e1 c hc
            rw [hH] at h2
            have h3 := HO.ins.inj (Option.some.inj h2)
            have e3 : vs = vs2 := fz_ext (rs.length.symm.trans r2.length) h3.2.2
            subst e3
            refine ⟨dx, ws, by rw [p1]; exact upd_same, ?_, p2⟩
            exact (p4 r2 (may_rel e2 hb R hc rd)).mono (List.prefix_refl _) (.put hmut)
          · rw [if_neg hc] at e; cases e
        | _ => cases e
  | _ => cases e
/-- o.f = d as a target -/
def gFldI (C : Cn) (k j : Nat) (to : TE) : TG := fun v σ H Q => to σ H fun x H1 => ∃ (ad dx : Addr) (vs : List V), x = .ref ad ∧ H1 ad = some (.ins (C.ca k) dx (fz C k vs)) ∧ vs.length < 900 ∧ Q σ (upd H1 ad (.ins (C.ca k) dx (putF (C.nm k j) v (fz C k vs))))
theorem gfld_rd {o : E} {k j : Nat} {v : V} {Q : St → Hp → Prop} (hn : (fnames C k (j + 1)).Nodup) (h : tG C cf (.fld o k j) v σ H Q) : gFldI C k j (tE C W cf o) v σ H Q := by
  obtain ⟨bs, b, μ, ρ, M, d, ρ', M', z, r, e, kk⟩ := h
  unfold evG at e
  have p : Post C bs W μ H ((evE cf b o ρ M).bind fun x M => ofOpt (setF M x k j d b) M) fun M2 _ _ _ => M2 = M' ∧ ρ' = ρ := by
    cases q : ((evE cf b o ρ M).bind fun x M => ofOpt (setF M x k j d b) M) with
    | no => rw [q] at e; cases e
    | ok M2 _ => rw [q] at e; cases e; exact fun _ _ _ _ => ⟨rfl, rfl⟩
    | ex _ _ => rw [q] at e; cases e
  refine E_then z p fun x vx μ1 M1 H1 l1 a1 r1 p1 => ?_
  obtain ⟨M3, e3, p3⟩ := O_fin p1
  obtain ⟨rfl, rfl⟩ := Post.here p3 a1.R
  obtain ⟨ad, dx, vs, rfl, hH, h9, R3, l3⟩ := setF_ok a1.R a1.hb e3 r1 (r.le l1) hn
  exact ⟨ad, dx, vs, rfl, hH, h9, kk μ1 _ σ (l1.trans l3) (a1.le l3 R3) (.refl _ _)⟩
end Ev
end

section
/-! EvDcT: {t: v} with a tuple of numbers as its key; the readings of dict comprehensions of two clauses. -/
namespace L2
open PySem PySem.Spec PyProof.Rows
/-- {k: v}, k a tuple -/
def tDispT (tk tv : TE) : TE := fun σ H Q => ∀ p, H p = none → tk σ (upd H p (.dT [])) fun y H1 => tv σ H1 fun z H2 => H2 p = some (.dT []) ∧ ∃ (k : List Key) (b : Addr), y = .ref b ∧ H2 b = some (.tup (k.map kV)) ∧ Q (.ref p) (upd H2 p (.dT [(k, z)]))
theorem pe_dispT {X : Cx} {pos : Pos} {ky vl : Expr} {tk tv : TE} (hu : X.A.units + 1 < cLine) (hk : PE X ky tk) (hv : PE X vl tv) : PE X (.Dict [some ky] [vl] pos) (tDispT tk tv) := by
  refine ⟨fun pins s σ H Q I q => ?_⟩
  have hn := I.hok.fresh (Nat.le_refl s.heap.objs.size)
  have I1 := I.laid (a := s.heap.objs.size) (o := .dT []) (h' := s.heap.push { cls := .type "dict", data := .dict #[] }) (t' := s.toks) (fun _ _ e => Heap.get?_push_of_some _ e) (Nat.le_refl _) (dt_empty s.heap I.big)
  rw [arm_eval_Dict, zip_pairTrees [some ky] [vl] X.env pos rfl rfl, dictDisplay_pairs _ (by intro z; cases z) (by show 1 < 17; decide)]
  refine wpAny_bind (wpAny_standAt (wpAny_bind (wpAny_subDictH (knd := tupleKind (mixKind X.prog X.w)) (Nat.lt_of_succ_lt hu) (by show 1 ≤ 15; decide) ?_)))
  refine pairTrees_cons_walk (thn (hk.run pins _ σ _ _ I1 (q _ hn)) fun kv s1 h1 => ?_)
  obtain ⟨y, H1, I2, ry, h1⟩ := h1
  refine thn (hv.run pins s1 σ H1 _ I2 h1) fun vv s2 h2 => pairTrees_nil_walk ?_
  obtain ⟨z, H2, I3, rz, e, k, b, rfl, eb, q2⟩ := h2
  obtain rfl : kv = Value.ref b := ry
  obtain ⟨_, hd, xs, rel, dd⟩ := dt_of I3.hok e
  cases rel
  refine ⟨[(k, b, vv)], ⟨rfl, rfl, key_of I3.hok eb, trivial⟩, dd, fun h' tk dd' hs => wpAny_pure ⟨.ref s.heap.objs.size, _, ?_, rfl, q2⟩⟩
  have es : storedAllH [] [(k, b, vv)] = [(k, b, vv)] := rfl
  rw [es] at dd'
  obtain ⟨o, es, ep, ho, h2, h3, h4, _, h5⟩ := dd'
  refine d_write I3 (by rw [e]; exact True.intro) hs ⟨o, ho⟩ ⟨by show 1 ≤ sizeLine; rw [sizeLine_eq]; omega, hd, [(k, b, vv)], .cons ⟨rfl, ?_, rz⟩ .nil, o, es, ep, ho, h2, h3, h4, h5⟩
  rw [upd_ne (ne_of eb e (fun z => nomatch z))]
  exact eb
end L2
namespace Ev
open PySem L2
variable {C : Cn} {μ μ' μ1 : List Addr} {H H' H1 : Hp} {M M' M1 : Sto} {bs : List Nat} {v : V} {X : Cx} {W : XK} {b : Nat} {ρ : Enn} {σ : St} {cf : Cf} {a a' : E} {Q : VK}
theorem dicT_rd (h : tE C W cf (.dicT a a') σ H Q) : tDispT (tE C W cf a) (tE C W cf a') σ H Q := by
  obtain ⟨bs, b, μ, ρ, M, z, p⟩ := h
  unfold evE at p
  intro q hq
  have z' := z.le (Le.new (o := .dT []) hq) (z.R.new hq)
  have off : q ∉ μ := z.R.fresh hq
  refine ⟨bs, b, μ, ρ, M, z', Post.anch p fun d μ1 M1 H1 l1 R1 p1 v1 r1 => ⟨bs, b, μ1, ρ, M1, z'.le l1 R1, Post.anch p1 fun d2 μ2 M2 H2 l2 R2 p2 v2 r2 => ?_⟩⟩
  have l12 := l1.trans l2
  have off2 : q ∉ μ2 := fun m => by
    have := l12.fr q m off
    rw [upd_same] at this
    cases this
  have at2 : H2 q = some (.dT []) := by rw [l12.off q off (by rw [upd_same]; exact fun c => by cases c)]; exact upd_same
  cases ek : keyT d with
  | none => rw [ek] at p2; exact (show False from p2).elim
  | some k =>
    rw [ek] at p2
    obtain ⟨kb, rfl, hb⟩ := keyT_rel ek (r1.le l2)
    refine ⟨at2, k.map Sum.inl, kb, rfl, hb, ?_⟩
    have hm : Mut (H2 q) := by rw [at2]; trivial
    have le0 : Le μ H μ2 H2 := (Le.new hq).trans l12
    have le1 : Le μ H (μ2 ++ [q]) (upd H2 q (.dT [(k.map Sum.inl, v2)])) := by
      have l5 := le0.beside (o := .dT [(k.map Sum.inl, v2)]) hq hm
      refine ⟨⟨l5.pre.trans (List.prefix_append _ _), l5.st⟩, fun a m n => ?_, l5.off⟩
      rcases List.mem_append.mp m with m | m
      · exact l5.fr a m n
      · rw [List.mem_singleton.mp m]; exact hq
    have lo : Lo μ2 H2 (μ2 ++ [q]) (upd H2 q (.dT [(k.map Sum.inl, v2)])) := ⟨List.prefix_append _ _, .put hm⟩
    exact VP.on (W := W) p2 le1 ((R2.keep (.put hm) fun a m => upd_ne fun z => off2 (z ▸ m)).add off2 (o := .dctT [(k, d2)]) ⟨[v2], upd_same, .cons (r2.lo lo) .nil⟩) (relD_loc.mpr ⟨q, by rw [← R2.len]; simp, rfl⟩)
/-- the readings of a comprehension of two clauses -/
theorem dc2_rd {g g' : G} {it it' : IT} {ow ow' : List Nat} {t t' : T} {ek ev : E} (hs : ∀ i ∈ gsl g, i ∈ ow) (hs' : ∀ i ∈ gsl g', i ∈ ow') (h : tE C W cf (.dc2 g it t g' it' t' ow ow' ek ev) σ H Q) :
    tDc2 (tI C W cf it) (tG C cf g) (tT C W0 cf t) (tI C W0 cf it') (tG C cf g') (tT C W0 cf t') (tE C W0 cf ek) (tE C W0 cf ev) ow ow' σ H Q := by
  obtain ⟨bs, b, μ, ρ, M, z, p⟩ := h
  unfold evE at p
  refine I_then z p fun src J μ1 M1 H1 l1 a1 hJ p1 => ?_
  intro pd hD
  have hn : ∀ c ∈ M1.length :: bs, c ≤ M1.length := fun c hc => by
    rcases List.mem_cons.mp hc with rfl | hc
    · exact Nat.le_refl _
    · rw [← a1.R.len]; exact a1.R.le c hc
  refine comp_loopG (Ac := AccD C pd) (fun a l => AccD.le a l) goodD_app (μs := μ1) (Hs := H1) (μb := μ1) (Hb := H1) (K := fun ds M => sealD M1.length ds M) (Q0 := fun d μ' _ H' => ∀ v, RelD C μ' H' d v → Q v H') (Stop := fun H => Q (.ref pd) H) (ds0 := [])
    (Body := fun σ2 H3 Nx => tI C W0 cf it' σ2 H3 fun J1 H4 => tClause J1 (tG C cf g') (tT C W0 cf t') ow' σ2 (tEntry (tE C W0 cf ek) (tE C W0 cf ev) pd) Nx H4)
    sealD_wants hJ hn a1.re hs (fun μ M H ds l _ R A p => sealD_end hn a1.R.len hD l R A p) ?_ (Le.new hD) (Le.new hD).toLo (a1.R.enter.new hD) ⟨a1.R.fresh hD, [], [], rfl, upd_same, .nil⟩ p1
  intro K' Nx σ2 μ2 H2 M2 ρ2 ds hB a2 l2 lb2 A2 p2 k2
  rw [hush_bind] at p2
  refine ⟨M1.length :: bs, M1.length, μ2, ρ2, M2, a2, Post.anch p2 fun s' μ3 M3 H3 l3 R3 q3 J1 hJ1 => ?_⟩
  exact comp_loopG (Ac := AccD C pd) (fun a l => AccD.le a l) goodD_app (μs := μ1) (Hs := H1) (μb := μ3) (Hb := H3) (K := K') (Q0 := fun d μ' _ H' => ∀ v, RelD C μ' H' d v → Q v H') (Stop := fun H => Nx H)
    (Body := fun σ2 H3 Nx => tEntry (tE C W0 cf ek) (tE C W0 cf ev) pd σ2 H3 Nx)
    hB hJ1 hn (a2.re.le l3) hs' (fun μ M H ds l lb R A p => k2 μ M H ds l (lb2.trans (l3.toLo.trans lb)) R A p) (fun K' Nx σ2 μ H M ρ2 ds hB a l lb A p k => put_itemD hD hB a l lb A p k)
    (l2.trans l3) ⟨List.prefix_refl _, .refl _⟩ R3 (A2.le l3) q3
end Ev
end

section
/-! EvRd3: the readings of statements. -/
namespace Ev
open PySem L2
variable {C : Cn} {μ μ' μ1 : List Addr} {H H' H1 : Hp} {M M' M1 : Sto} {bs : List Nat} {v : V} {X : Cx} {W : WX} {b : Nat} {ρ : Enn} {σ : St} {cf : Cf} {D : Ends}

/-- what is wanted of an exception, the names being so -/
abbrev at_ (W : WX) (σ : L2.St) : XK := fun c d H => W c d σ H
def nE (C : Cn) (W : WX) (cf : Cf) (e : E) : TE := fun σ H Q => tE C (at_ W σ) cf e σ H Q
def nL (C : Cn) (W : WX) (cf : Cf) (e : EL) : TA := fun σ H Q => tL C (at_ W σ) cf e σ H Q
def nO (C : Cn) (W : WX) (cf : Cf) (e : EO) : TO := fun σ H Q => tO C (at_ W σ) cf e σ H Q
def nT (C : Cn) (W : WX) (cf : Cf) (e : T) : TT := fun σ H Q => tT C (at_ W σ) cf e σ H Q
def nI (C : Cn) (W : WX) (cf : Cf) (e : IT) : TI := fun σ H Q => tI C (at_ W σ) cf e σ H Q
def SPost (C : Cn) (bs : List Nat) (b : Nat) (W : WX) (μ : List Addr) (H : Hp) (o : SO) (D : Ends) : Prop := match o with
  | none => False
  | some (.nx ρ', M') => ∀ μ' H' σ', Le μ H μ' H' → At C bs b μ' ρ' M' σ' H' → D.nx σ' H'
  | some (.bk ρ', M') => ∀ μ' H' σ', Le μ H μ' H' → At C bs b μ' ρ' M' σ' H' → D.bk σ' H'
  | some (.ct ρ', M') => ∀ μ' H' σ', Le μ H μ' H' → At C bs b μ' ρ' M' σ' H' → D.ct σ' H'
  | some (.rt d, M') => ∀ μ' H' v, Le μ H μ' H' → Rep C bs μ' M' H' → RelD C μ' H' d v → D.rt v H'
  | some (.xc x ρ', M') => ∀ μ' H' σ' cls d, Le μ H μ' H' → At C bs b μ' ρ' M' σ' H' → RelX C μ' H' x cls d → W cls d σ' H'
theorem SPost.le {o : SO} (h : SPost C bs b W μ H o D) (l : Le μ H μ' H') : SPost C bs b W μ' H' o D := by
  unfold SPost at *
  split
  · exact h
  · exact fun μ2 H2 σ2 l2 a => h μ2 H2 σ2 (l.trans l2) a
  · exact fun μ2 H2 σ2 l2 a => h μ2 H2 σ2 (l.trans l2) a
  · exact fun μ2 H2 σ2 l2 a => h μ2 H2 σ2 (l.trans l2) a
  · exact fun μ2 H2 σ2 l2 a r => h μ2 H2 σ2 (l.trans l2) a r
  · exact fun μ2 H2 σ2 c d l2 a r => h μ2 H2 σ2 c d (l.trans l2) a r
theorem lift_then {α : Type} {o : Out α} {f : α → Sto → SO} (h : SPost C bs b W μ H (lift o ρ f) D) (a : At C bs b μ ρ M σ H) : Post C bs (at_ W σ) μ H o (fun a μ1 M1 H1 => SPost C bs b W μ1 H1 (f a M1) D) := by
  cases o with
  | no => exact h
  | ok _ M' => exact fun μ1 H1 l R => SPost.le h l
  | ex x M' => exact fun μ' H' cls d l R rx => h μ' H' σ cls d l (a.le l R) rx
def tS (C : Cn) (W : WX) (cf : Cf) (s : S) : TS := fun D σ H => ∃ bs b μ ρ M, At C bs b μ ρ M σ H ∧ SPost C bs b W μ H (evS cf b s ρ M) D
def tSs (C : Cn) (W : WX) (cf : Cf) (s : SL) : TS := fun D σ H => ∃ bs b μ ρ M, At C bs b μ ρ M σ H ∧ SPost C bs b W μ H (evSs cf b s ρ M) D
theorem E_lift {e : E} {f : Ev.D → Sto → SO} {Q : VK} (a : At C bs b μ ρ M σ H) (h : SPost C bs b W μ H (lift (evE cf b e ρ M) ρ f) D)
    (k : ∀ d v μ1 M1 H1, Le μ H μ1 H1 → At C bs b μ1 ρ M1 σ H1 → RelD C μ1 H1 d v → SPost C bs b W μ1 H1 (f d M1) D → Q v H1) : nE C W cf e σ H Q :=
  ⟨bs, b, μ, ρ, M, a, (lift_then h a).imp fun d μ1 M1 H1 l R p v r => k d v μ1 M1 H1 l (a.le l R) r p⟩
theorem nxt_fin (h : SPost C bs b W μ H (some (.nx ρ, M)) D) (a : At C bs b μ ρ M σ H) : D.nx σ H := h μ H σ (.refl _ _) a
variable {e : E} {g : G} {it : IT} {t : T} {s : S} {ss ss' : SL}
theorem expr_rd (h : tS C W cf (.expr e) D σ H) : tDrop (nE C W cf e) D σ H := by
  obtain ⟨bs, b, μ, ρ, M, z, p⟩ := h
  unfold evS at p
  exact E_lift z p fun d v μ1 M1 H1 l a1 r p1 => nxt_fin p1 a1
theorem asg_rd (h : tS C W cf (.asg g e) D σ H) : tAsg (nE C W cf e) (tG C cf g) D σ H := by
  obtain ⟨bs, b, μ, ρ, M, z, p⟩ := h
  unfold evS at p
  refine E_lift z p fun d v μ1 M1 H1 l a1 r p1 => ?_
  cases eg : evG cf b g d ρ M1 with
  | none => rw [eg] at p1; exact (show False from p1).elim
  | some q =>
    rw [eg] at p1
    exact ⟨bs, b, μ1, ρ, M1, d, q.1, q.2, a1, r, eg, fun μ2 H2 σ2 l2 a2 _ => p1 μ2 H2 σ2 l2 a2⟩
theorem setAll_rel2 {i j : Nat} {ds : List Ev.D} {vs : List V} (z : RelEn C μ H ρ σ) (r : RelDs C μ H ds vs) (hl : ds.length = 2) : ∃ v w, vs = [v, w] ∧ RelEn C μ H (setAll [i, j] ds ρ) ((σ.set i (some v)).set j (some w)) := by
  match ds, hl, r with
  | [d1, d2], _, r =>
    obtain ⟨v, _, rfl, r1, r⟩ := r.inv
    obtain ⟨w, _, rfl, r2, r⟩ := r.inv
    cases r.nil_inv
    exact ⟨v, w, rfl, (z.set r1).set r2⟩
theorem par_rd {i j : Nat} {es : EL} (h : tS C W cf (.par [i, j] es) D σ H) : tPar i j (nL C W cf es) D σ H := by
  obtain ⟨bs, b, μ, ρ, M, z, p⟩ := h
  unfold evS at p
  refine ⟨bs, b, μ, ρ, M, z, (lift_then p z).imp fun ds μ1 M1 H1 l R p1 vs r => ?_⟩
  by_cases hl : ds.length = ([i, j] : List Nat).length
  · rw [if_pos hl] at p1
    obtain ⟨v, w, rfl, re⟩ := setAll_rel2 (i := i) (j := j) (z.re.le l) r hl
    exact ⟨v, w, rfl, nxt_fin p1 ⟨z.hb, R, re⟩⟩
  · rw [if_neg hl] at p1
    exact (show False from p1).elim
theorem par3_rd {i j k : Nat} {es : EL} (h : tS C W cf (.par [i, j, k] es) D σ H) : tPar3 i j k (nL C W cf es) D σ H := by
  obtain ⟨bs, b, μ, ρ, M, z, p⟩ := h
  unfold evS at p
  refine ⟨bs, b, μ, ρ, M, z, (lift_then p z).imp fun ds μ1 M1 H1 l R p1 vs r => ?_⟩
  by_cases hl : ds.length = ([i, j, k] : List Nat).length
  · rw [if_pos hl] at p1
    match ds, hl, r, p1 with
    | [d1, d2, d3], _, r, p1 =>
      obtain ⟨v, _, rfl, r1, r⟩ := r.inv
      obtain ⟨w, _, rfl, r2, r⟩ := r.inv
      obtain ⟨u, _, rfl, r3, r⟩ := r.inv
      cases r.nil_inv
      exact ⟨v, w, u, rfl, nxt_fin p1 ⟨z.hb, R, (((z.re.le l).set r1).set r2).set r3⟩⟩
  · rw [if_neg hl] at p1
    exact (show False from p1).elim
theorem ret_rd (h : tS C W cf (.ret e) D σ H) : tRet (nE C W cf e) D σ H := by
  obtain ⟨bs, b, μ, ρ, M, z, p⟩ := h
  unfold evS at p
  exact E_lift z p fun d v μ1 M1 H1 l a1 r p1 => p1 μ1 H1 v (.refl _ _) a1.R r
theorem retn_rd (h : tS C W cf .retn D σ H) : tRetN D σ H := by
  obtain ⟨bs, b, μ, ρ, M, z, p⟩ := h
  unfold evS at p
  exact p μ H _ (.refl _ _) z.R (relD_non.mpr rfl)
theorem pass_rd (h : tS C W cf .pass D σ H) : tNext D σ H := by
  obtain ⟨bs, b, μ, ρ, M, z, p⟩ := h
  unfold evS at p
  exact nxt_fin p z
theorem brk_rd (h : tS C W cf .brk D σ H) : tBreak D σ H := by
  obtain ⟨bs, b, μ, ρ, M, z, p⟩ := h
  unfold evS at p
  exact p μ H σ (.refl _ _) z
theorem cont_rd (h : tS C W cf .cont D σ H) : tCont D σ H := by
  obtain ⟨bs, b, μ, ρ, M, z, p⟩ := h
  unfold evS at p
  exact p μ H σ (.refl _ _) z
theorem iff_rd (h : tS C W cf (.iff t ss ss') D σ H) : tIfS (nT C W cf t) (tSs C W cf ss) (tSs C W cf ss') D σ H := by
  obtain ⟨bs, b, μ, ρ, M, z, p⟩ := h
  unfold evS at p
  refine ⟨bs, b, μ, ρ, M, z, (lift_then p z).imp fun k μ1 M1 H1 l R p1 => ?_⟩
  cases k with
  | true => exact ⟨bs, b, μ1, ρ, M1, z.le l R, p1⟩
  | false => exact ⟨bs, b, μ1, ρ, M1, z.le l R, p1⟩
theorem snil_rd (h : tSs C W cf .nil D σ H) : tNext D σ H := by
  obtain ⟨bs, b, μ, ρ, M, z, p⟩ := h
  unfold evSs at p
  exact nxt_fin p z
theorem scons_rd (h : tSs C W cf (.cons s ss) D σ H) : tSeq (tS C W cf s) (tSs C W cf ss) D σ H := by
  obtain ⟨bs, b, μ, ρ, M, z, p⟩ := h
  unfold evSs at p
  refine ⟨bs, b, μ, ρ, M, z, ?_⟩
  cases eo : evS cf b s ρ M with
  | none => rw [eo] at p; exact p
  | some q =>
    rw [eo] at p
    obtain ⟨f, M'⟩ := q
    cases f with
    | nx ρ' => exact fun μ' H' σ' l a => ⟨bs, b, μ', ρ', M', a, SPost.le p l⟩
    | rt d => exact p
    | bk ρ' => exact p
    | ct ρ' => exact p
    | xc x ρ' => exact p
theorem for_rd (h : tS C W cf (.for_ g it ss) D σ H) : tFor (nI C W cf it) (tG C cf g) (tSs C W cf ss) D σ H := by
  obtain ⟨bs, b, μ, ρ, M, z, p⟩ := h
  unfold evS at p
  refine ⟨bs, b, μ, ρ, M, z, (lift_then p z).imp fun src μ1 M1 H1 l R p1 J hJ => ?_⟩
  refine ⟨fun i m σ' H' => ∃ μ' ρ' M', Le μ1 H1 μ' H' ∧ At C bs b μ' ρ' M' σ' H' ∧ SPost C bs b W μ' H' (loop (fun M i => src.next M i) (fun d ρ M => match evG cf b g d ρ M with
    | some (ρ', M') => evSs cf b ss ρ' M'
    | none => none) m i ρ' M') D, ⟨_, μ1, ρ, M1, .refl _ _, z.le l R, p1⟩, ?_⟩
  rintro i m σ' H' ⟨μ', ρ', M', l', a', p'⟩
  cases m with
  | zero => exact (show False from p').elim
  | succ m =>
    unfold loop at p'
    cases eo : src.next M' i with
    | none => rw [eo] at p'; exact (show False from p').elim
    | some o =>
      rw [eo] at p'
      cases o with
      | none => exact .inl ⟨hJ.stop bs μ' M' H' i l'.toLo a'.R eo, nxt_fin p' a'⟩
      | some d =>
        obtain ⟨h1, h2⟩ := hJ.go bs μ' M' H' i d l'.toLo a'.R eo
        refine .inr ⟨h1, fun σ' H' => ∃ μ' ρ' M', Le μ1 H1 μ' H' ∧ At C bs b μ' ρ' M' σ' H' ∧ SPost C bs b W μ' H' (loop (fun M i => src.next M i) (fun d ρ M => match evG cf b g d ρ M with
          | some (ρ', M') => evSs cf b ss ρ' M'
          | none => none) m (i + 1) ρ' M') D, fun σ2 H2 q => ⟨m, Nat.lt_succ_self _, q⟩, fun x H2 y => ?_⟩
        obtain ⟨l2, R2, r2⟩ := h2 x H2 y
        dsimp only at p'
        cases eg : evG cf b g d ρ' M' with
        | none => rw [eg] at p'; exact (show False from p').elim
        | some q =>
          rw [eg] at p'
          refine ⟨bs, b, μ', ρ', M', d, q.1, q.2, a'.le l2 R2, r2, eg, fun μ3 H3 σ3 l3 a3 _ => ⟨bs, b, μ3, q.1, q.2, a3, ?_⟩⟩
          dsimp only at p'
          cases es : evSs cf b ss q.1 q.2 with
          | none => rw [es] at p'; exact p'
          | some w =>
            rw [es] at p'
            obtain ⟨f, M4⟩ := w
            have l13 : Le μ1 H1 μ3 H3 := (l'.trans l2).trans l3
            have go : ∀ {ρ4}, SPost C bs b W μ' H' (loop (fun M i => src.next M i) (fun d ρ M => match evG cf b g d ρ M with
                | some (ρ', M') => evSs cf b ss ρ' M'
                | none => none) m (i + 1) ρ4 M4) D → ∀ μ4 H4 σ4, Le μ3 H3 μ4 H4 → At C bs b μ4 ρ4 M4 σ4 H4 → ∃ μ' ρ' M', Le μ1 H1 μ' H4 ∧ At C bs b μ' ρ' M' σ4 H4 ∧ SPost C bs b W μ' H4 (loop (fun M i => src.next M i) (fun d ρ M => match evG cf b g d ρ M with
                | some (ρ', M') => evSs cf b ss ρ' M'
                | none => none) m (i + 1) ρ' M') D := fun {ρ4} p' μ4 H4 σ4 l4 a4 => ⟨μ4, ρ4, M4, l13.trans l4, a4, SPost.le p' ((l2.trans l3).trans l4)⟩
            cases f with
            | nx ρ4 => exact go p'
            | ct ρ4 => exact go p'
            | bk ρ4 => exact fun μ4 H4 σ4 l4 a4 => p' μ4 H4 σ4 ((l2.trans l3).trans l4) a4
            | rt d => exact SPost.le (D := D) (o := some (.rt d, M4)) p' (l2.trans l3)
            | xc x ρ4 => exact SPost.le (D := D) (o := some (.xc x ρ4, M4)) p' (l2.trans l3)
theorem whl_rd (h : tS C W cf (.whl t ss) D σ H) : tWhile (nT C W cf t) (tSs C W cf ss) D σ H := by
  obtain ⟨bs, b, μ, ρ, M, z, p⟩ := h
  unfold evS at p
  refine ⟨fun m σ' H' => ∃ μ' ρ' M', At C bs b μ' ρ' M' σ' H' ∧ SPost C bs b W μ' H' (wloop (evT cf b t) (evSs cf b ss) m ρ' M') D, ⟨_, μ, ρ, M, z, p⟩, ?_⟩
  rintro m σ' H' ⟨μ', ρ', M', a', p'⟩
  cases m with
  | zero => exact (show False from p').elim
  | succ m =>
    unfold wloop at p'
    refine ⟨bs, b, μ', ρ', M', a', (lift_then p' a').imp fun k μ1 M1 H1 l R p1 => ?_⟩
    cases k with
    | false => exact nxt_fin p1 (a'.le l R)
    | true =>
      rw [if_pos rfl]
      refine ⟨fun σ' H' => ∃ μ' ρ' M', At C bs b μ' ρ' M' σ' H' ∧ SPost C bs b W μ' H' (wloop (evT cf b t) (evSs cf b ss) m ρ' M') D, fun σ2 H2 q => ⟨m, Nat.lt_succ_self _, q⟩, bs, b, μ1, ρ', M1, a'.le l R, ?_⟩
      dsimp only at p1
      cases es : evSs cf b ss ρ' M1 with
      | none => rw [es] at p1; exact p1
      | some w =>
        rw [es] at p1
        obtain ⟨f, M4⟩ := w
        cases f with
        | nx ρ4 => exact fun μ4 H4 σ4 l4 a4 => ⟨μ4, ρ4, M4, a4, SPost.le p1 l4⟩
        | ct ρ4 => exact fun μ4 H4 σ4 l4 a4 => ⟨μ4, ρ4, M4, a4, SPost.le p1 l4⟩
        | bk ρ4 => exact p1
        | rt d => exact p1
        | xc x ρ4 => exact p1
theorem bad_rd (h : tS C W cf .bad D σ H) : False := by
  obtain ⟨bs, b, μ, ρ, M, z, p⟩ := h
  unfold evS at p
  exact p
theorem rai_rd {k : Nat} (h : tS C W cf (.rai k) D σ H) : W (.ref (C.ca k)) none σ H := by
  obtain ⟨bs, b, μ, ρ, M, z, p⟩ := h
  unfold evS at p
  exact p μ H σ _ none (.refl _ _) z ⟨rfl, .inl ⟨rfl, rfl⟩⟩
theorem tri_rd {c c2 : Nat} {cs : List (Nat × Option Bool)} {W' : WX} (h : tS C W cf (.tri ss c c2 cs) D σ H)
    (hW : ∀ k x, cs.lookup k = some (some x) → ∀ σ' H', D.rt (.bl x) H' → W' (.ref (C.ca k)) none σ' H') (hN : ∀ k, cs.lookup k = some none → ∀ d σ' H', W (.ref (C.ca k)) d σ' H' → W' (.ref (C.ca k)) d σ' H') : tSs C W' cf ss D σ H := by
  obtain ⟨bs, b, μ, ρ, M, z, p⟩ := h
  unfold evS at p
  refine ⟨bs, b, μ, ρ, M, z, ?_⟩
  cases eo : evSs cf b ss ρ M with
  | none => rw [eo] at p; exact p
  | some q =>
    rw [eo] at p
    obtain ⟨f, M'⟩ := q
    cases f with
    | nx ρ' => exact p
    | rt d => exact p
    | bk ρ' => exact p
    | ct ρ' => exact p
    | xc x ρ' =>
      obtain ⟨xc, xx⟩ := x
      dsimp only at p
      cases xx with
      | cons _ _ => exact (show False from p).elim
      | nil =>
        dsimp only at p
        intro μ' H' σ' cls d l a rx
        obtain ⟨rfl, ⟨_, rfl⟩ | ⟨hn, _⟩⟩ := rx
        · cases el : cs.lookup xc with
          | none => rw [el] at p; exact (show False from p).elim
          | some o =>
            rw [el] at p
            cases o with
            | none => exact hN _ el _ _ _ (p μ' H' σ' _ none l a ⟨rfl, .inl ⟨rfl, rfl⟩⟩)
            | some x => exact hW _ _ el _ _ (p μ' H' _ l a.R (relD_bl.mpr rfl))
        · exact absurd rfl hn
def ipF : B2 → Int → Int → Int
  | .sub => fun i j => i - j
  | _ => fun i j => i + j
theorem augs_rd {o i e : E} {op : B2} (ho : op = .add ∨ op = .sub) (h : tS C W cf (.augs o i op e) D σ H) : tAugS (nE C W cf o) (nE C W cf i) (nE C W cf e) (rGetE C) (ipI (ipF op)) (rSetE C) D σ H := by
  obtain ⟨bs, b, μ, ρ, M, z, p⟩ := h
  unfold evS at p
  refine E_lift z p fun dx vx μ1 M1 H1 l1 a1 r1 p1 => E_lift a1 p1 fun dy vy μ2 M2 H2 l2 a2 r2 p2 => ?_
  cases e1 : augIx M2 dx dy with
  | none => rw [e1] at p2; exact (show False from p2).elim
  | some old =>
    rw [e1] at p2
    refine ⟨bs, μ2, M2, dx, dy, old, a2.R, r1.le l2, r2, e1, fun v3 r3 => E_lift a2 p2 fun dz vz μ3 M3 H3 l3 a3 r4 p3 => ?_⟩
    cases e2 : augD op old dz with
    | none => rw [e2] at p3; exact (show False from p3).elim
    | some w =>
      rw [e2] at p3
      dsimp only at p3
      cases e3 : semSet dx dy w b M3 with
      | none => rw [e3] at p3; exact (show False from p3).elim
      | some M4 =>
        rw [e3] at p3
        have fin : ∀ n : Int, w = .int n → rSetE C vx vy (.int n) H3 fun H6 => D.nx σ H6 := fun n hw => by
          subst hw
          exact ⟨bs, μ3, M3, b, dx, dy, .int n, M4, a3.hb, a3.R, (r1.le l2).le l3, r2.le l3, relD_int.mpr rfl, e3, fun H' l' R' => p3 μ3 H' σ l' ⟨a3.hb, R', a3.re.le l'⟩⟩
        have two : ∃ i' j, old = .int i' ∧ dz = .int j ∧ w = .int (ipF op i' j) := by
          unfold augD at e2
          rcases ho with rfl | rfl
          · cases old with
            | int i' =>
              cases dz with
              | int j => cases e2; exact ⟨i', j, rfl, rfl, rfl⟩
              | _ => cases e2
            | _ => cases e2
          · cases old with
            | int i' =>
              cases dz with
              | int j => cases e2; exact ⟨i', j, rfl, rfl, rfl⟩
              | _ => cases e2
            | _ => cases e2
        obtain ⟨i', j, rfl, rfl, hw⟩ := two
        cases relD_int.mp r3
        cases relD_int.mp r4
        exact ⟨i', j, rfl, rfl, fin _ hw⟩
theorem aug_rd {i : Nat} {o : B2} (ho : o = .add ∨ o = .sub) (h : tS C W cf (.aug i o e) D σ H) : tAug i (nE C W cf e) (ipI (ipF o)) D σ H := by
  obtain ⟨bs, b, μ, ρ, M, z, p⟩ := h
  unfold evS at p
  cases ev : ρ[i]? with
  | none => rw [ev] at p; exact (show False from p).elim
  | some q =>
    rw [ev] at p
    cases q with
    | none => exact (show False from p).elim
    | some x =>
      obtain ⟨w, e1, r⟩ := z.re.2 i x ev
      refine ⟨w, e1, E_lift z p fun d v μ1 M1 H1 l a1 rd p1 => ?_⟩
      have r1 := r.le l
      have fin : ∀ i' j : Int, x = .int i' → d = .int j → ∀ n : Int, SPost C bs b W μ1 H1 (some (.nx (ρ.set i (some (.int n))), M1)) D → n = ipF o i' j → ipI (ipF o) w v H1 fun z H2 => D.nx (σ.set i (some z)) H2 := fun i' j hx hd n p1 hn => by
        subst hx hd hn
        cases relD_int.mp r1
        cases relD_int.mp rd
        exact ⟨i', j, rfl, rfl, nxt_fin p1 ⟨a1.hb, a1.R, a1.re.set (relD_int.mpr rfl)⟩⟩
      rcases ho with rfl | rfl
      · cases x with
        | int i' =>
          cases d with
          | int j => exact fin i' j rfl rfl _ p1 rfl
          | _ => exact (show False from p1).elim
        | _ => exact (show False from p1).elim
      · cases x with
        | int i' =>
          cases d with
          | int j => exact fin i' j rfl rfl _ p1 rfl
          | _ => exact (show False from p1).elim
        | _ => exact (show False from p1).elim
/-! ### fields -/
def rAugI (o : B2) : V → V → Hp → VK → Prop := fun x y H Q => ∃ i j, x = .int i ∧ y = .int j ∧ Q (.int (ipF o i j)) H
/-- o.f op= e -/
def sAugI (C : Cn) (k j : Nat) (op : B2) (ta tv : TE) : TS := fun D σ H => ta σ H fun x H1 => ∃ (ad dx : Addr) (vs : List V) (v : V), x = .ref ad ∧ H1 ad = some (.ins (C.ca k) dx (fz C k vs)) ∧ (fz C k vs).lookup (C.nm k j) = some v ∧
  tv σ H1 fun y H2 => rAugI op v y H2 fun z H3 => ∃ (dx' : Addr) (vs' : List V), H3 ad = some (.ins (C.ca k) dx' (fz C k vs')) ∧ vs'.length < 900 ∧ D.nx σ (upd H3 ad (.ins (C.ca k) dx' (putF (C.nm k j) z (fz C k vs'))))
theorem augD_ints {op : B2} (ho : op = .add ∨ op = .sub) {old dz w : Ev.D} (e : augD op old dz = some w) : ∃ i j, old = .int i ∧ dz = .int j ∧ w = .int (ipF op i j) := by
  unfold augD at e
  rcases ho with rfl | rfl <;>
  · cases old with
    | int i =>
      cases dz with
      | int j => cases e; exact ⟨i, j, rfl, rfl, rfl⟩
      | _ => cases e
    | _ => cases e
theorem augf_rd {o e : E} {k j : Nat} {op : B2} (ho : op = .add ∨ op = .sub) (hn : (fnames C k (j + 1)).Nodup) (h : tS C W cf (.augf o k j op e) D σ H) : sAugI C k j op (nE C W cf o) (nE C W cf e) D σ H := by
  obtain ⟨bs, b, μ, ρ, M, z, p⟩ := h
  unfold evS at p
  refine E_lift z p fun dx vx μ1 M1 H1 l1 a1 r1 p1 => ?_
  cases e1 : fldD M1 dx k j with
  | none => rw [e1] at p1; exact (show False from p1).elim
  | some old =>
    rw [e1] at p1
    obtain ⟨ad, dxx, vs, v, rfl, hH, hv, ro⟩ := fld_inv a1.R e1 r1
    refine ⟨ad, dxx, vs, v, rfl, hH, hv, E_lift a1 p1 fun dz vz μ2 M2 H2 l2 a2 r2 p2 => ?_⟩
    cases e2 : augD op old dz with
    | none => rw [e2] at p2; exact (show False from p2).elim
    | some w =>
      rw [e2] at p2
      dsimp only at p2
      cases e3 : setF M2 dx k j w b with
      | none => rw [e3] at p2; exact (show False from p2).elim
      | some M3 =>
        rw [e3] at p2
        obtain ⟨i', j', rfl, rfl, rfl⟩ := augD_ints ho e2
        cases relD_int.mp ro
        cases relD_int.mp r2
        obtain ⟨ad', dx', vs', ea, hH', h9, R3, l3⟩ := setF_ok a2.R a2.hb e3 (r1.le l2) (relD_int.mpr rfl : RelD C μ2 H2 (.int (ipF op i' j')) (.int (ipF op i' j'))) hn
        cases ea
        exact ⟨i', j', rfl, rfl, dx', vs', hH', h9, p2 μ2 _ σ l3 (a2.le l3 R3)⟩
theorem asg2_rd {g g' : G} {e : E} (h : tS C W cf (.asg2 g g' e) D σ H) : tAsg2 (nE C W cf e) (tG C cf g) (tG C cf g') D σ H := by
  obtain ⟨bs, b, μ, ρ, M, z, p⟩ := h
  unfold evS at p
  refine E_lift z p fun d v μ1 M1 H1 l a1 r p1 => ?_
  cases eg : evG cf b g d ρ M1 with
  | none => rw [eg] at p1; exact (show False from p1).elim
  | some q =>
    rw [eg] at p1
    dsimp only at p1
    cases eg2 : evG cf b g' d q.1 q.2 with
    | none => rw [eg2] at p1; exact (show False from p1).elim
    | some q2 =>
      rw [eg2] at p1
      exact ⟨bs, b, μ1, ρ, M1, d, q.1, q.2, a1, r, eg, fun μ2 H2 σ2 l2 a2 _ => ⟨bs, b, μ2, q.1, q.2, d, q2.1, q2.2, a2, r.le l2, eg2, fun μ3 H3 σ3 l3 a3 _ => p1 μ3 H3 σ3 (l2.trans l3) a3⟩⟩
theorem tryc_rd {c : Nat} {cs : List (Nat × Bool)} {d : Ev.D} {W' : WX} (h : tS C W cf (.tryc ss c cs d) D σ H)
    (hW : ∀ k, cs.lookup k = some true → ∀ dd σ' μ' H', (∀ v, RelD C μ' H' d v → D.rt v H') → W' (.ref (C.ca k)) dd σ' H') (hN : ∀ k, cs.lookup k = some false → ∀ dd σ' H', W (.ref (C.ca k)) dd σ' H' → W' (.ref (C.ca k)) dd σ' H') : tSs C W' cf ss D σ H := by
  obtain ⟨bs, b, μ, ρ, M, z, p⟩ := h
  unfold evS at p
  refine ⟨bs, b, μ, ρ, M, z, ?_⟩
  cases eo : evSs cf b ss ρ M with
  | none => rw [eo] at p; exact p
  | some q =>
    rw [eo] at p
    obtain ⟨f, M'⟩ := q
    cases f with
    | nx ρ' => exact p
    | rt d => exact p
    | bk ρ' => exact p
    | ct ρ' => exact p
    | xc x ρ' =>
      dsimp only at p
      intro μ' H' σ' cls dd l a rx
      cases el : cs.lookup x.cls with
      | none => rw [el] at p; exact (show False from p).elim
      | some o =>
        rw [el] at p
        have ec := rx.1
        subst ec
        cases o with
        | true => exact hW _ el dd σ' μ' H' fun v r => p μ' H' v l a.R r
        | false => exact hN _ el dd σ' H' (p μ' H' σ' _ dd l a rx)
end Ev
end

section
/-! EvChk: when a text of the evaluator is the text of the program. -/
namespace Ev
open PySem L2

/-- a class: its name, its fields, the classes above it (itself, too), whether it is one of exceptions -/
structure CD where
  name : Str
  fs : List Str
  up : List Nat
  exc : Bool
/-- the defs; the module's constants -/
structure Tb where
  fns : List Fn
  gl : List (Str × D)
  /-- keyword calls: which def, how many by place, which by name -/
  kw : List (Nat × Nat × List Nat) := []
  /-- calls that leave defaults: which def, how many are written, the defaults behind -/
  df : List (Nat × Nat × List Int) := []
  /-- the classes -/
  cl : List CD := []
  /-- the module's dicts from texts to numbers -/
  gd : List (Str × List (List Nat × Int)) := []
  /-- exceptions over ValueError whose __init__ lays its parameters into fields: the class, the base whose __init__ it calls -/
  xi : List (Nat × Nat) := []
def okN (n : Str) : Bool := !(n == ("__debug__" : Str)) && !(n == ("__classdict__" : Str)) && !(n == ("__name__" : Str))
def visN (sc : Scope) (n : Str) : Bool := match sc.names.lookup n with
  | some .local => true
  | some .cell => true
  | some .free => true
  | _ => false
def glN (sc : Scope) (n : Str) : Bool := match sc.names.lookup n with
  | some .globalImplicit => true
  | _ => false
def locN (cl : Bool) (sc : Scope) (n : Str) : Bool := match sc.names.lookup n with
  | some .local => true
  | some .cell => cl
  | _ => false
def noStar : Expr → Bool
  | .Starred .. => false
  | _ => true
def isComp : Expr → Bool
  | .ListComp .. => true
  | .SetComp .. => true
  | .DictComp .. => true
  | _ => false
def plainT : Expr → Bool
  | .UnaryOp .Not _ _ => false
  | .BoolOp .. => false
  | .IfExp .. => false
  | .Compare .. => false
  | _ => true
def plainIx : Expr → Bool
  | .Slice .. => false
  | _ => true
def noSet : Expr → Bool
  | .Set .. => false
  | _ => true
def baseOk : Expr → Bool
  | .Call (.Name _ _) [] [] _ => false
  | _ => true
def isTupX : Expr → Bool
  | .Tuple .. => true
  | _ => false
/-- and, or of one thing is that thing -/
def one : Expr → Expr
  | .BoolOp op [y] p => y
  | e => e
def cstOk (d : D) (c : Const) : Bool := match d, c with
  | .non, .none => true
  | .bl a, .bool b => a == b
  | .int i, .int j => i == j
  | .str s, .str t => s == t.cps.toList
  | _, _ => false
def nmB : BI → String
  | .len => "len"
  | .max2 => "max"
  | .min2 => "min"
  | .abs => "abs"
  | .int => "int"
  | .str => "str"
  | .repr => "repr"
  | .lst => "list"
  | .tup => "tuple"
  | .srt => "sorted"
  | .all => "all"
  | .any => "any"
  | .sum => "sum"
def nmM : MT → String
  | .append => "append"
  | .extend => "extend"
  | .pop => "pop"
  | .popAt => "pop"
  | .insert => "insert"
  | .count => "count"
  | .index => "index"
  | .clear => "clear"
  | .join => "join"
def nmU : CL → Option String
  | .int => some "int"
  | .bool => some "bool"
  | .str => some "str"
  | .tup => some "tuple"
  | .lst => some "list"
  | .dct => some "dict"
  | .own _ => none
def opBX (o : B2) (x : Operator) : Bool := decide (x = opB o)
def opCX (o : C2) (x : CmpOp) : Bool := decide (x = opC o)
/-- a built-in's name, not hidden -/
def bltX (sc : Scope) (n : String) (x : Str) : Bool := decide (x = Str.ofString n) && glN sc x
def clX (sc : Scope) (c : CL) (x : Expr) : Bool := match x, nmU c with
  | .Name n _, some k => bltX sc k n
  | _, _ => false
def clsX (sc : Scope) : List CL → List Expr → Bool
  | [], [] => true
  | c :: cs, x :: xs => noStar x && clX sc c x && clsX sc cs xs
  | _, _ => false
def isiX (sc : Scope) (cs : List CL) (x : Expr) : Bool := match x with
  | .Tuple xs _ _ => clsX sc cs xs
  | .Name n p => match cs with
    | [c] => clX sc c (.Name n p)
    | _ => false
  | _ => false
def ownOf (N : List Str) (ow : List Nat) : List (Str × Nat) := ow.filterMap fun i => N[i]?.map fun n => (n, i)
def subL (a b : List Nat) : Bool := a.all fun i => b.contains i
def kwsX : List Keyword → List (Option Str × Expr)
  | [] => []
  | k :: ks => (k.arg, k.value) :: kwsX ks
def unstar : List Expr → Option (List Expr)
  | [] => none
  | x :: xs => match x, xs with
    | .Starred e _, [] => match noStar e with
      | true => some [e]
      | false => none
    | x, xs => match noStar x, unstar xs with
      | true, some ys => some (x :: ys)
      | _, _ => none
def tru : Expr → Bool
  | .Constant (.bool true) _ _ => true
  | _ => false
def chkKs : List (List Nat) → List (Option Expr) → Bool
  | [], [] => true
  | k :: ks, some (.Constant (.str s) _ _) :: xs => decide (s = toS k) && chkKs ks xs
  | _, _ => false
/-- a method's name and what it stands for, class by class; no field is called so -/
def mthB (TB : Tb) (m : Str) (ms : List (Nat × Nat)) : Bool := !(m == Str.empty) && ms.all fun p => match TB.cl[p.1]?, TB.fns[p.2]? with
  | some cd, some fn => !cd.exc && !cd.fs.contains m && decide (fn.own = some (p.1, m))
  | _, _ => false
mutual
def chkE (TB : Tb) (N : List Str) (sc : Scope) : E → Expr → Bool
  | .var i, x => match x with
    | .Name n _ => okN n && decide (N[i]? = some n) && visN sc n
    | _ => false
  | .cst d, x => match x with
    | .Constant c _ _ => cstOk d c
    | _ => false
  | .glb g, x => match x with
    | .Name n _ => okN n && glN sc n && (match TB.gl[g]? with
      | some p => decide (p.1 = n)
      | none => false)
    | _ => false
  | .un _ a, x => match x with
    | .UnaryOp .USub y _ => chkE TB N sc a y
    | _ => false
  | .no a, x => match x with
    | .UnaryOp .Not y _ => chkE TB N sc a y
    | _ => false
  | .bin o a a', x => match x with
    | .BinOp y op z _ => opBX o op && chkE TB N sc a y && chkE TB N sc a' z
    | _ => false
  | .cmp o a a', x => match x with
    | .Compare y [op] [z] _ => opCX o op && noSet z && chkE TB N sc a y && chkE TB N sc a' z
    | _ => false
  | .chn o o' a a' a'', x => match x with
    | .Compare y [op, op'] [z, w] _ => opCX o op && opCX o' op' && noSet w && chkE TB N sc a y && chkE TB N sc a' z && chkE TB N sc a'' w
    | _ => false
  | .and a a', x => match x with
    | .BoolOp .And (y :: z :: r) p => chkE TB N sc a y && chkE TB N sc a' (one (.BoolOp .And (z :: r) p))
    | _ => false
  | .or a a', x => match x with
    | .BoolOp .Or (y :: z :: r) p => chkE TB N sc a y && chkE TB N sc a' (one (.BoolOp .Or (z :: r) p))
    | _ => false
  | .ife t a a', x => match x with
    | .IfExp c y z _ => chkT TB N sc t c && chkE TB N sc a y && chkE TB N sc a' z
    | _ => false
  | .tup es, x => match x with
    | .Tuple xs _ _ => chkL TB N sc es xs
    | _ => false
  | .lst es, x => match x with
    | .List xs _ => chkL TB N sc es xs
    | _ => false
  | .dic0, x => match x with
    | .Dict [] [] _ => true
    | _ => false
  | .ix a a', x => match x with
    | .Subscript y z _ => plainIx z && chkE TB N sc a y && chkE TB N sc a' z
    | _ => false
  | .sl a lo hi, x => match x with
    | .Subscript y (.Slice l h none _) _ => chkE TB N sc a y && chkO TB N sc lo l && chkO TB N sc hi h
    | _ => false
  | .rev a, x => match x with
    | .Subscript y (.Slice none none (some (.UnaryOp .USub (.Constant (.int 1) _ _) _)) _) _ => chkE TB N sc a y
    | _ => false
  | .call f es, x => match x with
    | .Call (.Name n _) xs [] _ => okN n && glN sc n && (match TB.fns[f]? with
      | some fn => decide (fn.name = n ∧ fn.own = none ∧ fn.ko = false)
      | none => false) && chkL TB N sc es xs
    | _ => false
  | .callk f es ks kes, x => match x with
    | .Call (.Name n _) xs (kw :: kws) _ => okN n && glN sc n && (match TB.fns[f]? with
      | some fn => decide (fn.name = n ∧ fn.own = none) && decide ((kwsX (kw :: kws)).map (·.1) = ks.map fun i => fn.N[i]?) && (ks.all fun i => (fn.N[i]?).isSome) && TB.kw.contains (f, xs.length, ks)
      | none => false) && chkL TB N sc es xs && chkL TB N sc kes ((kwsX (kw :: kws)).map (·.2))
    | _ => false
  | .bi b es, x => match x with
    | .Call (.Name n _) (y :: ys) [] _ => bltX sc (nmB b) n && chkL TB N sc es (y :: ys)
    | _ => false
  | .lrng es, x => match x with
    | .Call (.Name n _) [.Call (.Name m _) (y :: ys) [] _] [] _ => bltX sc "list" n && bltX sc "range" m && Nat.ble ys.length 1 && chkL TB N sc es (y :: ys)
    | _ => false
  | .mth m o es, x => match x with
    | .Call (.Attribute y n apos) xs [] cpos => decide (n = Str.ofString (nmM m)) && baseOk y && (apos.endLine == cpos.line) && Nat.blt xs.length 30 && chkE TB N sc o y && chkL TB N sc es xs
    | _ => false
  | .isi a cs, x => match x with
    | .Call (.Name n _) [y, z] [] _ => bltX sc "isinstance" n && noStar y && noStar z && isiX sc cs z && Nat.ble cs.length 9 && chkE TB N sc a y
    | _ => false
  | .new c f es, x => match x with
    | .Call (.Name n _) xs [] _ => okN n && glN sc n && (match TB.cl[c]?, TB.fns[f]? with
      | some cd, some fn => decide (cd.name = n) && !cd.exc && decide (fn.own = some (c, ("__init__" : Str)))
      | _, _ => false) && chkL TB N sc es xs
    | _ => false
  | .mc a m ms es, x => match x with
    | .Call (.Attribute y n apos) xs [] cpos => decide (n = m) && baseOk y && (apos.endLine == cpos.line) && Nat.blt xs.length 30 && mthB TB m ms && chkE TB N sc a y && chkL TB N sc es xs
    | _ => false
  | .fld a c j, x => match x with
    | .Attribute y n _ => baseOk y && (match TB.cl[c]? with
      | some cd => !cd.exc && decide (cd.fs[j]? = some n)
      | none => false) && chkE TB N sc a y
    | _ => false
  | .dic ks es, x => match x with
    | .Dict keys vals _ => chkKs ks keys && Nat.blt 0 ks.length && Nat.ble ks.length 15 && decide (ks.length = vals.length) && chkL TB N sc es vals
    | _ => false
  | .dct a, x => match x with
    | .Call (.Name n _) [y] [] _ => bltX sc "dict" n && noStar y && chkE TB N sc a y
    | _ => false
  | .get a e, x => match x with
    | .Call (.Attribute y n apos) [z] [] cpos => decide (n = "get") && baseOk y && (apos.endLine == cpos.line) && noStar z && chkE TB N sc a y && chkE TB N sc e z
    | _ => false
  | .gget g kvs e, x => match x with
    | .Call (.Attribute (.Name m _) n apos) [z] [] cpos => decide (n = "get") && okN m && glN sc m && (match TB.gd[g]? with
      | some p => decide (p.1 = m) && decide (p.2 = kvs)
      | none => false) && (apos.endLine == cpos.line) && noStar z && chkE TB N sc e z
    | _ => false
  | .calld f es ds, x => match x with
    | .Call (.Name n _) (y :: ys) [] _ => okN n && glN sc n && (match TB.fns[f]? with
      | some fn => decide (fn.name = n ∧ fn.own = none)
      | none => false) && TB.df.contains (f, ys.length + 1, ds) && chkL TB N sc es (y :: ys)
    | _ => false
  | .lc g it ow t e, x => match x with
    | .ListComp elt [c] scope _ => decide (c.is_async = 0) && blkC N sc scope (ownOf N ow) && decide ((ownOf N ow).map (·.2) = ow) && subL (gsl g) ow && noSet c.iter &&
      chkI TB N sc it c.target c.iter && chkG TB N (relS scope sc) false g c.target && chkF TB N (relS scope sc) t c.ifs && chkE TB N (relS scope sc) e elt
    | _ => false
  | .lc2 g it t g' it' t' ow ow' e, x => match x with
    | .ListComp elt [c, c'] scope _ => decide (c.is_async = 0) && decide (c'.is_async = 0) && blkC N sc scope (ownOf N ow) && decide ((ownOf N ow).map (·.2) = ow) && subL (gsl g) ow && subL (gsl g') ow' && subL ow' ow && noSet c.iter && noSet c'.iter &&
      chkI TB N sc it c.target c.iter && chkG TB N (relS scope sc) false g c.target && chkF TB N (relS scope sc) t c.ifs && chkI TB N (relS scope sc) it' c'.target c'.iter && chkG TB N (relS scope sc) false g' c'.target && chkF TB N (relS scope sc) t' c'.ifs && chkE TB N (relS scope sc) e elt
    | _ => false
  | .dc g it ow t k v, x => match x with
    | .DictComp kx vx [c] scope _ => decide (c.is_async = 0) && blkC N sc scope (ownOf N ow) && decide ((ownOf N ow).map (·.2) = ow) && subL (gsl g) ow && noSet c.iter &&
      chkI TB N sc it c.target c.iter && chkG TB N (relS scope sc) false g c.target && chkF TB N (relS scope sc) t c.ifs && chkE TB N (relS scope sc) k kx && chkE TB N (relS scope sc) v vx
    | _ => false
  | .dc2 g it t g' it' t' ow ow' k v, x => match x with
    | .DictComp kx vx [c, c'] scope _ => decide (c.is_async = 0) && decide (c'.is_async = 0) && blkC N sc scope (ownOf N ow) && decide ((ownOf N ow).map (·.2) = ow) && subL (gsl g) ow && subL (gsl g') ow' && subL ow' ow && noSet c.iter && noSet c'.iter &&
      chkI TB N sc it c.target c.iter && chkG TB N (relS scope sc) false g c.target && chkF TB N (relS scope sc) t c.ifs && chkI TB N (relS scope sc) it' c'.target c'.iter && chkG TB N (relS scope sc) false g' c'.target && chkF TB N (relS scope sc) t' c'.ifs &&
      chkE TB N (relS scope sc) k kx && chkE TB N (relS scope sc) v vx
    | _ => false
  | .dicT k v, x => match x with
    | .Dict [some y] [z] _ => chkE TB N sc k y && chkE TB N sc v z
    | _ => false
def chkL (TB : Tb) (N : List Str) (sc : Scope) : EL → List Expr → Bool
  | .nil, xs => match xs with
    | [] => true
    | _ :: _ => false
  | .cons e es, xs => match xs with
    | [] => false
    | x :: xs => noStar x && chkE TB N sc e x && chkL TB N sc es xs
def chkO (TB : Tb) (N : List Str) (sc : Scope) : EO → Option Expr → Bool
  | .none, x => x.isNone
  | .some e, x => match x with
    | some x => chkE TB N sc e x
    | none => false
def chkT (TB : Tb) (N : List Str) (sc : Scope) : T → Expr → Bool
  | .yes, _ => false
  | .val a, x => plainT x && chkE TB N sc a x
  | .not t, x => match x with
    | .UnaryOp .Not y _ => chkT TB N sc t y
    | _ => false
  | .and t t', x => match x with
    | .BoolOp .And (y :: z :: r) p => chkT TB N sc t y && chkT TB N sc t' (one (.BoolOp .And (z :: r) p))
    | _ => false
  | .or t t', x => match x with
    | .BoolOp .Or (y :: z :: r) p => chkT TB N sc t y && chkT TB N sc t' (one (.BoolOp .Or (z :: r) p))
    | _ => false
  | .cmp o a a', x => match x with
    | .Compare y [op] [z] _ => opCX o op && noSet z && chkE TB N sc a y && chkE TB N sc a' z
    | _ => false
  | .chn o o' a a' a'', x => match x with
    | .Compare y [op, op'] [z, w] _ => opCX o op && opCX o' op' && noSet w && chkE TB N sc a y && chkE TB N sc a' z && chkE TB N sc a'' w
    | _ => false
  | .ife _ _ _, _ => false
/-- a clause's tests: none or one -/
def chkF (TB : Tb) (N : List Str) (sc : Scope) : T → List Expr → Bool
  | .yes, xs => match xs with
    | [] => true
    | _ :: _ => false
  | .val a, xs => match xs with
    | [x] => plainT x && chkE TB N sc a x
    | _ => false
  | .not t, xs => match xs with
    | [.UnaryOp .Not y _] => chkT TB N sc t y
    | _ => false
  | .and t t', xs => match xs with
    | [.BoolOp .And (y :: z :: r) p] => chkT TB N sc t y && chkT TB N sc t' (one (.BoolOp .And (z :: r) p))
    | _ => false
  | .or t t', xs => match xs with
    | [.BoolOp .Or (y :: z :: r) p] => chkT TB N sc t y && chkT TB N sc t' (one (.BoolOp .Or (z :: r) p))
    | _ => false
  | .cmp o a a', xs => match xs with
    | [.Compare y [op] [z] _] => opCX o op && noSet z && chkE TB N sc a y && chkE TB N sc a' z
    | _ => false
  | .chn o o' a a' a'', xs => match xs with
    | [.Compare y [op, op'] [z, w] _] => opCX o op && opCX o' op' && noSet w && chkE TB N sc a y && chkE TB N sc a' z && chkE TB N sc a'' w
    | _ => false
  | .ife _ _ _, _ => false
def chkI (TB : Tb) (N : List Str) (sc : Scope) : IT → Expr → Expr → Bool
  | .seq a, _, x => chkE TB N sc a x
  | .rng es, _, x => match x with
    | .Call (.Name m _) (y :: ys) [] _ => bltX sc "range" m && Nat.ble ys.length 1 && chkL TB N sc es (y :: ys)
    | _ => false
  | .enu a, tg, x => match x with
    | .Call (.Name m _) [y] [] _ => bltX sc "enumerate" m && isTupX tg && noStar y && chkE TB N sc a y
    | _ => false
  | .zip a a', tg, x => match x with
    | .Call (.Name m _) [y, z] [] _ => bltX sc "zip" m && isTupX tg && noStar y && noStar z && chkE TB N sc a y && chkE TB N sc a' z
    | _ => false
  | .zips a a', tg, x => match x with
    | .Call (.Name m _) [y, z] [kw] _ => bltX sc "zip" m && isTupX tg && noStar y && noStar z && decide (kw.arg = some ("strict" : Str)) && tru kw.value && chkE TB N sc a y && chkE TB N sc a' z
    | _ => false
def chkG (TB : Tb) (N : List Str) (sc : Scope) (cl : Bool) : G → Expr → Bool
  | .nam i, x => match x with
    | .Name n _ => decide (N[i]? = some n) && locN cl sc n
    | _ => false
  | .tup gs, x => match x with
    | .Tuple xs _ _ => chkGs TB N sc cl gs xs
    | _ => false
  | .star gs, x => match x with
    | .Tuple xs _ _ => match unstar xs with
      | some ys => decide (xs.length = glen gs) && chkGs TB N sc cl gs ys
      | none => false
    | _ => false
  | .sub o i, x => match x with
    | .Subscript y z _ => plainIx z && chkE TB N sc o y && chkE TB N sc i z
    | _ => false
  | .fld o c j, x => match x with
    | .Attribute y n _ => (match TB.cl[c]? with
      | some cd => !cd.exc && decide (cd.fs[j]? = some n)
      | none => false) && chkE TB N sc o y
    | _ => false
def chkGs (TB : Tb) (N : List Str) (sc : Scope) (cl : Bool) : GL → List Expr → Bool
  | .nil, xs => match xs with
    | [] => true
    | _ :: _ => false
  | .cons g gs, xs => match xs with
    | [] => false
    | x :: xs => noStar x && chkG TB N sc cl g x && chkGs TB N sc cl gs xs
end
/-- a swap of the stores: the target's name and the comprehension's on one line -/
def swB (sc : Scope) (n : Str) (np : Pos) (x : Expr) : Bool := match x with
  | .ListComp _ _ s p => decide (sc.names.lookup n = some .local) && (np.line == p.line) && !(s.names.any fun (m, k) => m == n && (k == .local || k == .cell))
  | _ => false
/-- no swap of two stores -/
def noPar (tg x : Expr) : Bool := match tg, x with
  | .Tuple ts _ _, .Tuple vs _ _ => vs.all (foldedForSure 8) || !(ts.length == 2 || ts.length == 3) || vs.length != ts.length || ts.any fun
    | .Name .. => false
    | _ => true
  | .List .., .Tuple .. => false
  | _, _ => true
def isLC : Expr → Bool
  | .ListComp .. => true
  | _ => false
def isDC : Expr → Bool
  | .DictComp .. => true
  | _ => false
def tgOk (sc : Scope) (tg y : Expr) : Bool := match tg with
  | .Name n _ => !isComp y || isLC y || (isDC y && !decide (sc.names.lookup n = some .local))
  | _ => noStar tg
mutual
def chkS (TB : Tb) (N : List Str) (sc : Scope) : S → Stmt → Bool
  | .expr e, x => match x with
    | .Expr y _ => !isComp y && chkE TB N sc e y
    | _ => false
  | .asg g e, x => match x with
    | .Assign [tg] y _ => noPar tg y && chkG TB N sc true g tg && chkE TB N sc e y && tgOk sc tg y
    | _ => false
  | .par _ _, _ => false
  | .aug i o e, x => match x with
    | .AugAssign (.Name n _) op y _ => decide (N[i]? = some n) && locN true sc n && (match o with
      | .add => opBX .add op
      | .sub => opBX .sub op
      | _ => false) && chkE TB N sc e y
    | _ => false
  | .augs o i op e, x => match x with
    | .AugAssign (.Subscript y z _) op' v _ => chkE TB N sc o y && chkE TB N sc i z && chkE TB N sc e v && plainIx z && (match op with
      | .add => opBX .add op'
      | .sub => opBX .sub op'
      | _ => false)
    | _ => false
  | .augf o c j op e, x => match x with
    | .AugAssign (.Attribute y n _) op' v _ => (match TB.cl[c]? with
      | some cd => !cd.exc && decide (cd.fs[j]? = some n)
      | none => false) && chkE TB N sc o y && chkE TB N sc e v && (match op with
      | .add => opBX .add op'
      | .sub => opBX .sub op'
      | _ => false)
    | _ => false
  | .asg2 g g' e, x => match x with
    | .Assign [tg, tg'] y _ => noStar tg && noStar tg' && chkG TB N sc true g tg && chkG TB N sc true g' tg' && chkE TB N sc e y
    | _ => false
  | .ret e, x => match x with
    | .Return (some y) _ => chkE TB N sc e y
    | _ => false
  | .retn, x => match x with
    | .Return none _ => true
    | _ => false
  | .pass, x => match x with
    | .Pass _ => true
    | _ => false
  | .brk, x => match x with
    | .Break _ => true
    | _ => false
  | .cont, x => match x with
    | .Continue _ => true
    | _ => false
  | .iff t s s', x => match x with
    | .If c y z _ => chkT TB N sc t c && chkSs TB N sc s y && chkSs TB N sc s' z
    | _ => false
  | .for_ g it s, x => match x with
    | .For tg iter body [] _ => noSet iter && chkI TB N sc it tg iter && chkG TB N sc true g tg && chkSs TB N sc s body
    | _ => false
  | .whl t s, x => match x with
    | .While c body [] _ => chkT TB N sc t c && chkSs TB N sc s body
    | _ => false
  | .bad, _ => true
  | .raiC c es, x => match x with
    | .Raise (some (.Call (.Name n _) (y :: ys) [] _)) none _ => okN n && glN sc n && (match TB.cl[c]? with
      | some cd => decide (cd.name = n) && TB.xi.any (fun z => z.1 == c) && decide (elen es = cd.fs.length) && Nat.ble cd.fs.length 900
      | none => false) && chkL TB N sc es (y :: ys)
    | _ => false
  | .rai c, x => match x with
    | .Raise (some (.Call (.Name n _) [.Constant (.str _) _ _] [] _)) none _ => okN n && glN sc n && (match TB.cl[c]? with
      | some cd => decide (cd.name = n) && cd.exc && cd.fs.isEmpty
      | none => false)
    | _ => false
  | .tri s c c2 cs, x => match x with
    | .Try body [.ExceptHandler (some (.Name n _)) (some e) [.Return (some (.Call (.Name i _) [.Name e' _, .Name y _] [] _)) _] _] [] [] _ =>
      okN n && glN sc n && okN e && N.contains e && decide (sc.names.lookup e = some .local) && decide (e' = e) && bltX sc "isinstance" i && okN y && glN sc y && (match TB.cl[c]?, TB.cl[c2]? with
      | some cd, some cd2 => decide (cd.name = n) && decide (cd2.name = y) && cd.exc && cd2.exc
      | _, _ => false) && (cs.all fun p => match TB.cl[p.1]? with
      | some cd => cd.exc && decide (p.2 = if cd.up.contains c then some (cd.up.contains c2) else none)
      | none => false) && chkSs TB N sc s body
    | _ => false
  | .tryc s c cs d, x => match x with
    | .Try body [.ExceptHandler (some (.Name n _)) none [.Return (some (.Constant k _ _)) _] _] [] [] _ => okN n && glN sc n && cstOk d k && (match TB.cl[c]? with
      | some cd => decide (cd.name = n) && cd.exc
      | none => false) && (cs.all fun p => match TB.cl[p.1]? with
      | some cd => cd.exc && decide (p.2 = cd.up.contains c)
      | none => false) && chkSs TB N sc s body
    | _ => false
def chkSs (TB : Tb) (N : List Str) (sc : Scope) : SL → List Stmt → Bool
  | .nil, xs => match xs with
    | [] => true
    | _ :: _ => false
  | .cons s ss, xs => match xs with
    | [] => false
    | x :: xs => chkS TB N sc s x && chkSs TB N sc ss xs
end
end Ev
end

section
/-! EvG: calls of the text's defs, with no guard around; what a context gives. -/
namespace Ev
open PySem PySem.Spec PyProof.Rows L2
variable {C : Cn} {μ μ' μ1 : List Addr} {H H' H1 : Hp} {M M' M1 : Sto} {bs : List Nat} {v : V} {X : Cx} {W : WX} {b : Nat} {ρ : Enn} {σ : L2.St} {cf : Cf}

/-- a def keeps its word where no repr stands around -/
structure FnG (P : Program) (w : World) (K : PySem.W.Frag) (mg : Str → Option Value) (base : Heap) (CX : CXT) (k : Nat) (f : Addr) (fd : FuncData) (ps : List Str) (sp : Sp) : Prop where
  len : ∀ vs H Q E, sp vs H Q E → vs.length = ps.length
  go : ∀ (A : Around) (outer : List Env) (s : Shared) (H : Hp) (args : Args) (us : List Value) (vs : List V) (Q : VK) (E : XK), A.guards = some [] → Room k A → Env0 P w K mg base A outer s H → sp vs H Q E → Vals vs us → BindsTo s fd args (ps.zip us) →
    codeAny (model P w) A (.call (.ref f) args) (CR CX outer P w H s Q E) s
theorem guards_deeper {A : Around} {e : Env} (h : A.guards = some []) : (A.deeper e).guards = some [] := by
  first | exact h | (unfold Around.deeper; exact h) | (simpa [Around.deeper] using h)
/-- the def runs, called with values by place and by name -/
theorem go_fnG {CX : CXT} {k : Nat} {f : Addr} {fd : FuncData} {ps : List Str} {sp : Sp} {E : XK} {pins : List (Addr × Obj)} {s : Shared} {Q : VK} {us zs : List Value} {kw : List (Str × Value)} {vs : List V}
    (F : FnG X.prog X.w X.K X.mg X.base CX k f fd ps sp) (hg : X.A.guards = some []) (hr : Room k X.A) (hx : ∀ e s', CX X.stack H s E e s' → X.xe e s') (I : L2.Inv X pins σ H s) (r : Vals vs zs) (hb : BindsTo s fd ⟨us, kw⟩ (ps.zip zs)) (h : sp vs H Q E) :
    wpAny (model X.prog X.w) X.A (call (.ref f) us kw) (EP X pins σ Q) X.xe s :=
  wpAny_call (codeAny_mono (F.go X.A X.stack s H ⟨us, kw⟩ zs vs Q E hg hr I.env0 h r hb) fun r s' hq => by
    match r, hq with
    | .error e, hq => exact hx e s' hq
    | .ok (.ret u), hq => exact I.after hq)
/-- what a def's word is: the evaluator's run -/
def spF (C : Cn) (F : Nat → List D → Nat → Sto → Out D) (f : Nat) : Sp := fun vs H Q E => Wd C E F f vs H Q
def bltNs : List String := ["len", "max", "min", "abs", "int", "str", "repr", "list", "tuple", "sorted", "all", "any", "sum", "range", "enumerate", "zip", "isinstance", "bool", "dict"]
/-- a def of the text, as the caller sees it -/
structure FnAt (C : Cn) (P : Program) (w : World) (mg : Str → Option Value) (base : Heap) (CX : CXT) (TB : Tb) (k : Nat) (F : Nat → List D → Nat → Sto → Out D) (f : Nat) (fn : Fn) (fd : FuncData) : Prop where
  nm : fn.own = none → mg fn.name = some (.ref (C.fa f))
  mt : ∀ c m, fn.own = some (c, m) → Meth C.K (C.ca c) m (C.fa f)
  kp : PySem.W.keepIn C.K (.ref (C.fa f)) = true
  np : fn.np ≤ fn.N.length
  bd : (fn.own = none → fn.ko = false) → ∀ (s : Shared) (us : List Value), C.K.In s.heap → us.length = fn.np → BindsTo s fd ⟨us, []⟩ ((fn.N.take fn.np).zip us)
  df : ∀ n ds, TB.df.contains (f, n, ds) = true → ∃ dsv : List Value, Vals (ds.map V.int) dsv ∧ n + ds.length = fn.np ∧ ∀ (s : Shared) (us : List Value), C.K.In s.heap → us.length = n → BindsTo s fd ⟨us, []⟩ ((fn.N.take fn.np).zip (us ++ dsv))
  bk : ∀ n ks, TB.kw.contains (f, n, ks) = true → ∀ (s : Shared) (us ws zs : List Value), us.length = n → ws.length = ks.length → place fn.np us ks ws = some zs → BindsTo s fd ⟨us, (ks.filterMap fun i => fn.N[i]?).zip ws⟩ ((fn.N.take fn.np).zip zs)
  ok : FnG P w C.K mg base CX k (C.fa f) fd (fn.N.take fn.np) (spF C F f)
/-- what a callee lets out is taken -/
def PassS (CX : CXT) (X : Cx) (W : WX) : Prop := ∀ (pins : List (Addr × Obj)) (σ : L2.St) (H : Hp) (s : Shared) (e : Value) (s' : Shared), L2.Inv X pins σ H s → CX X.stack H s (at_ W σ) e s' → X.xe e s'
def W0x : WX := fun _ _ _ _ => False
/-- what such an exception's __init__ does: it lays its arguments into fields -/
def spX (Ca : Addr) (fs : List Str) : Sp := fun vs H Q _ => ∃ (a : Addr) (ws : List V), vs = .ref a :: ws ∧ ws.length = fs.length ∧ H a = some (exo a Ca none) ∧
  ∀ (dx : Addr) (gs : List (Str × V)), H dx = none → dx ≠ a → (∀ (j : Nat) (f : Str) (v : V), fs[j]? = some f → ws[j]? = some v → gs.lookup f = some v) → Q .non (upd (upd H dx (exd dx gs)) a (exo a Ca (some dx)))
structure XInit (K : PySem.W.Frag) (P : Program) (w : World) (mg : Str → Option Value) (base : Heap) (Ca : Addr) (fs : List Str) : Prop where
  T : OexC K Ca
  ini : ∃ fI fd ps, PySem.W.findIn K (.ref Ca) "__init__" = some (some (.ref fI)) ∧ PySem.W.typeIn K (.ref fI) = some (.type "function") ∧ (∀ CX, FnOk P w K mg base CX 1 fI fd ps (spX Ca fs)) ∧ Binds K fd ps []
/-- a class, as the module's heap holds it -/
structure ClF (C : Cn) (P : Program) (w : World) (mg : Str → Option Value) (base : Heap) (TB : Tb) (c : Nat) (cd : CD) : Prop where
  nm : mg cd.name = some (.ref (C.ca c))
  fl : ∀ (j : Nat) (f : Str), cd.fs[j]? = some f → C.nm c j = f
  cl : cd.exc = false → Cls C.K (C.ca c)
  no : cd.exc = false → ∀ f ∈ cd.fs, NoAttr C.K (C.ca c) f
  ndp : cd.exc = false → cd.fs.Nodup
  off : ∀ j, cd.fs[j]? = none → C.nm c j = Str.empty
  mkr : cd.exc = false → PySem.W.makesIn C.K (C.ca c) = true ∧ PySem.W.keepIn C.K (.ref (C.ca c)) = true
  ex : cd.exc = true → cd.fs = [] → PySem.W.excIn C.K (C.ca c) He.veBase "ValueError.__new__" = true ∧ PySem.W.keepIn C.K (.ref (C.ca c)) = true ∧ PySem.W.subIn C.K (.ref (C.ca c)) (.type "BaseException") = some true ∧ PySem.W.typeIn C.K (.ref (C.ca c)) = some (.type "type")
  xin : TB.xi.any (fun z => z.1 == c) = true → cd.exc = true ∧ cd.fs ≠ [] ∧ XInit C.K P w mg base (C.ca c) cd.fs
  is : cd.exc = true → ExcC C.K (C.ca c)
  up : cd.exc = true → ∀ k cd', TB.cl[k]? = some cd' → cd'.exc = true → PySem.W.exmOne C.K (.ref (C.ca c)) (.ref (C.ca k)) = some (cd.up.contains k) ∧ PySem.W.kitOne C.K (.ref (C.ca c)) (.ref (C.ca k)) = some (cd.up.contains k)
/-- what a context gives -/
structure GX (C : Cn) (CX : CXT) (TB : Tb) (k : Nat) (cf : Cf) (N : List Str) (W : WX) (X : Cx) : Prop where
  K : X.K = C.K
  N_ : X.N = N
  nd : N.Nodup
  calm : X.calm = true
  room : Room k X.A
  gd : X.A.guards = some []
  r2 : Room (k + 1) X.A
  r3 : Room 2 X.A
  tk : Takes X W
  cx : CX = L2.CX X.prog X.w
  cls : ∀ c cd, TB.cl[c]? = some cd → ClF C X.prog X.w X.mg X.base TB c cd
  dic : ∀ (g : Nat) (n : Str) (kvs : List (List Nat × Int)), TB.gd[g]? = some (n, kvs) → ∃ d es m, X.mg n = some (.ref d) ∧ KDict C.K X.w d es m ∧ ∀ (s : List Nat) (i : Int), kvs.lookup s = some i → ∃ t, PySem.W.nsIn C.K d (toS s) = some (some (.int i t))
  po : PassesOwn (model X.prog X.w) X.A X.env X.xe
  px : PassS CX X W
  px0 : ∀ outer H s e s', ¬ CX outer H s W0 e s'
  blt : ∀ n ∈ bltNs, X.mg (Str.ofString n) = none
  gv : ∀ g n d, TB.gl[g]? = some (n, d) → cf.gv g = some d ∧ ∃ u v, X.mg n = some u ∧ RelV v u ∧ ∀ μ H, RelD C μ H d v
  fns : ∀ f fn, TB.fns[f]? = some fn → ∃ fd, FnAt C X.prog X.w X.mg X.base CX TB k cf.F f fn fd
variable {CX : CXT} {TB : Tb} {k : Nat} {N : List Str}
/-- within a comprehension -/
theorem GX.blk (G : GX C CX TB k cf N W X) (s : Shared) (H : Hp) (scope : Scope) (cenv : Env) (fp : List Addr) : GX C CX TB k cf N W0x (X.blk s H scope cenv fp) where
  K := G.K
  N_ := G.N_
  nd := G.nd
  calm := G.calm
  room := G.room
  gd := G.gd
  r2 := G.r2
  r3 := G.r3
  tk := takes0
  cx := G.cx
  cls := G.cls
  dic := G.dic
  po := PassesOwn.never
  px := fun _ _ _ _ _ _ _ h => (G.px0 _ _ _ _ _ h).elim
  px0 := G.px0
  blt := G.blt
  gv := G.gv
  fns := G.fns

/-! ### side conditions -/
theorem star_of {e : Expr} {es : List Expr} {env : Env} (h : noStar e = true) : starEach (e :: es) env = (false, eval e env) :: starEach es env := by
  cases e <;> first | rfl | cases h
theorem any_of {es : List Expr} {env : Env} {pos : Pos} (h : es.all noStar = true) : (backTo pos (starEach es env)).any (·.1) = false := by
  induction es with
  | nil => rfl
  | cons e es ih =>
    rw [List.all_cons, Bool.and_eq_true] at h
    rw [star_of h.1]
    show (false || (backTo pos (starEach es env)).any (·.1)) = false
    rw [ih h.2]
    rfl
theorem base_of {o : Expr} {a : Str} {env : Env} {whole : Sem Value} (h : baseOk o = true) : attributeBase o a env whole = whole := by
  unfold attributeBase
  split
  · cases h
  · rfl
theorem plainT_of {e : Expr} {env : Env} (h : plainT e = true) (whole : Sem Value) : isTrue e env whole = (do let v ← whole; standAt e.pos; holding [v] (truthy v)) := by
  cases e <;> first | rfl | cases h | skip
  rename_i op y p
  cases op <;> first | rfl | cases h
theorem marks_of {op : CmpOp} {e : Expr} (h : noSet e = true) : behindInMarks op e = false := by
  cases e <;> first | rfl | cases h
theorem plainIx_of {e : Expr} (h : plainIx e = true) : PlainIx e := by
  intro o i
  cases e <;> first | rfl | cases h
theorem folded_of {e : Expr} {env : Env} (h : noSet e = true) (x : Value) : foldedSetIterable e env x = pure x := by
  cases e <;> first | rfl | cases h
theorem swaps_of {e : Expr} {t : Option Expr} {n : Nat} {env : Env} (h : isComp e = false) : swapsWith e t n env = pure false := by
  cases e <;> first | rfl | cases h
theorem asg_of {e : Expr} {es : List Expr} {env : Env} (h : noStar e = true) : assignEach (e :: es) env = (false, assign e env) :: assignEach es env := by
  cases e <;> first | rfl | cases h
theorem asgs_len {es : List Expr} {env : Env} : (assignEach es env).length = es.length := by
  induction es with
  | nil => rfl
  | cons e es ih =>
    cases e <;> exact congrArg Nat.succ ih
theorem asgs_find {es : List Expr} {env : Env} (h : es.all noStar = true) : (assignEach es env).findIdx? (·.1) = none := by
  induction es with
  | nil => rfl
  | cons e es ih =>
    rw [List.all_cons, Bool.and_eq_true] at h
    rw [asg_of h.1, List.findIdx?_cons]
    simp [ih h.2]
theorem sub_of {o i : Expr} {pos : Pos} {env : Env} (h : plainIx i = true) (v : Value) : assign (.Subscript o i pos) env v = (do
      let ov ← holding [v] (eval o env)
      let iv ← holding [v, ov] (eval i env)
      standAt pos
      holding [v, ov, iv] (setItem ov iv v)
      release [v, ov, iv] []) := by
  cases i <;> first | rfl | cases h
theorem aug_of {i : Expr} (h : plainIx i = true) (ov iv new : Value) : augStore i ov iv new = (do holding [new, ov, iv] (setItem ov iv new); release [new, ov, iv] []; pure .next) := by
  cases i <;> first | rfl | cases h
theorem kw_names (kws : List Keyword) (env : Env) (pos : Pos) : (backToKw pos (keywordEach kws env)).map (·.1) = (kwsX kws).map (·.1) := by
  induction kws with
  | nil => rfl
  | cons k ks ih =>
    cases k
    rename_i nm y p
    show nm :: (backToKw pos (keywordEach ks env)).map (·.1) = nm :: (kwsX ks).map (·.1)
    rw [ih]
theorem blkn_of {sc : Scope} {n : Str} (h : visN sc n = true) : Vis sc n := by
  unfold visN at h
  unfold Vis
  split at h <;> first | (rename_i e; simp only [e]; simp; done) | cases h
theorem gln_of {sc : Scope} {n : Str} (h : glN sc n = true) : sc.names.lookup n = some .globalImplicit := by
  unfold glN at h
  split at h
  · assumption
  · cases h
theorem locn_of {sc : Scope} {n : Str} {cl : Bool} (h : locN cl sc n = true) : sc.names.lookup n = some .local ∨ (sc.names.lookup n = some .cell ∧ cl = true) := by
  unfold locN at h
  split at h
  · exact .inl (by assumption)
  · exact .inr ⟨by assumption, h⟩
  · cases h
theorem okn_of {n : Str} (h : okN n = true) : (n == ("__debug__" : Str)) = false ∧ (n == ("__classdict__" : Str)) = false ∧ n ≠ "__name__" := by
  unfold okN at h
  simp only [Bool.and_eq_true, Bool.not_eq_true'] at h
  exact ⟨h.1.1, h.1.2, fun e => by subst e; exact absurd h.2 (by decide)⟩
end Ev
end

section
/-! EvSnd0: the forms, one by one. -/
namespace Ev
open PySem PySem.Spec PyProof.Rows L2
variable {C : Cn} {μ μ' μ1 : List Addr} {H H' H1 : Hp} {M M' M1 : Sto} {bs : List Nat} {v : V} {X : Cx} {W : WX} {b : Nat} {ρ : Enn} {σ : L2.St} {cf : Cf} {CX : CXT} {TB : Tb} {k : Nat} {N : List Str} {sc : Scope}

theorem PE.imp {e : Expr} {t t' : TE} (h : PE X e t) (i : ∀ σ H Q, t' σ H Q → t σ H Q) : PE X e t' := ⟨fun pins s σ H Q I q => h.run pins s σ H Q I (i σ H Q q)⟩
theorem PT.imp {e : Expr} {t t' : TT} (h : PT X e t) (i : ∀ σ H Q, t' σ H Q → t σ H Q) : PT X e t' := ⟨fun pins s σ H Q I q => h.run pins s σ H Q I (i σ H Q q)⟩
theorem PW.imp {e : Expr} {t t' : TT} (h : PW X e t) (i : ∀ σ H Q, t' σ H Q → t σ H Q) : PW X e t' := ⟨fun w pins s σ H Q I q => h.run w pins s σ H Q I (i σ H Q q)⟩
theorem PA.imp {e : List Expr} {t t' : TA} (h : PA X e t) (i : ∀ σ H Q, t' σ H Q → t σ H Q) : PA X e t' := ⟨fun pos pins s σ H Q I q => h.run pos pins s σ H Q I (i σ H Q q)⟩
theorem PO.imp {e : Option Expr} {t t' : TO} (h : PO X e t) (i : ∀ σ H Q, t' σ H Q → t σ H Q) : PO X e t' := ⟨fun pins s σ H Q I q => h.run pins s σ H Q I (i σ H Q q)⟩
theorem PTs.imp {e : List Expr} {t t' : TT} (h : PTs X e t) (i : ∀ σ H Q, t' σ H Q → t σ H Q) : PTs X e t' := ⟨fun pins s σ H Q I q => h.run pins s σ H Q I (i σ H Q q)⟩
theorem PG.imp {e : Expr} {t t' : TG} (h : PG X e t) (i : ∀ v σ H Q, t' v σ H Q → t v σ H Q) : PG X e t' := ⟨fun pins s σ H v u Q I r q => h.run pins s σ H v u Q I r (i v σ H Q q)⟩
theorem PGs.imp {e : List Expr} {t t' : TGs} (h : PGs X e t) (i : ∀ v σ H Q, t' v σ H Q → t v σ H Q) : PGs X e t' := ⟨fun pins s σ H v u Q I r q => h.run pins s σ H v u Q I r (i v σ H Q q)⟩
theorem PI.imp {tg e : Expr} {t t' : TI} (h : PI X tg e t) (i : ∀ σ H Q, t' σ H Q → t σ H Q) : PI X tg e t' := ⟨fun pins s σ H Q I q => h.run pins s σ H Q I (i σ H Q q)⟩
theorem PS.imp {e : Stmt} {t t' : TS} (h : PS X e t) (i : ∀ D σ H, t' D σ H → t D σ H) : PS X e t' := ⟨fun pins s σ H D I q => h.run pins s σ H D I (i D σ H q)⟩
theorem PSs.imp {e : List Stmt} {t t' : TS} (h : PSs X e t) (i : ∀ D σ H, t' D σ H → t D σ H) : PSs X e t' := ⟨fun pins s σ H D I q => h.run pins s σ H D I (i D σ H q)⟩
theorem pw_of_one {op : BoolOp} {z : Expr} {r : List Expr} {p : Pos} {t : TT} (h : PT X (one (.BoolOp op (z :: r) p)) t) : PW X (.BoolOp op (z :: r) p) t := by
  cases r with
  | nil =>
    cases op with
    | And => exact pw_and1 h
    | Or => exact pw_or1 h
  | cons z' r => exact ⟨fun _ => h.run⟩
theorem pe_of_one {op : BoolOp} {z : Expr} {r : List Expr} {p : Pos} {t : TE} (h : PE X (one (.BoolOp op (z :: r) p)) t) : PE X (.BoolOp op (z :: r) p) t := by
  cases r with
  | nil => exact pe_one h
  | cons z' r => exact h
theorem GX.un (G : GX C CX TB k cf N W X) : X.A.units + 80 < cLine := by have := G.room.un; omega
theorem gl_of {n : Str} (hs : X.env.scope = sc) (h : glN sc n = true) : Gl X n := by
  show X.env.scope.names.lookup n = _
  rw [hs]
  exact gln_of h
theorem blt_of {n : String} {x : Str} (G : GX C CX TB k cf N W X) (hs : X.env.scope = sc) (hm : n ∈ bltNs) (h : bltX sc n x = true) : x = Str.ofString n ∧ Gl X x ∧ X.mg x = none := by
  unfold bltX at h
  rw [Bool.and_eq_true, decide_eq_true_eq] at h
  exact ⟨h.1, gl_of hs h.2, by rw [h.1]; exact G.blt n hm⟩

/-! ### calls of the text's defs -/
variable {es kes : EL}
theorem evL_len {cf : Cf} {b : Nat} {ρ : Enn} : ∀ {es : EL} {M M' : Sto} {ds : List D}, evL cf b es ρ M = .ok ds M' → ds.length = elen es
  | .nil, M, M', ds, h => by
    unfold evL at h
    cases h
    rfl
  | .cons e es, M, M', ds, h => by
    unfold evL at h
    cases e1 : evE cf b e ρ M with
    | no => rw [e1] at h; cases h
    | ex _ _ => rw [e1] at h; cases h
    | ok d M1 =>
      rw [e1, bind_ok] at h
      cases e2 : evL cf b es ρ M1 with
      | no => rw [e2] at h; cases h
      | ex _ _ => rw [e2] at h; cases h
      | ok ds2 M2 =>
        rw [e2, bind_ok] at h
        cases h
        exact congrArg Nat.succ (evL_len e2)
theorem tL_len {Q : List V → Hp → Prop} (h : nL C W cf es σ H Q) : nL C W cf es σ H fun vs H1 => vs.length = elen es ∧ Q vs H1 := by
  obtain ⟨bs, b, μ, ρ, M, z, p⟩ := h
  refine ⟨bs, b, μ, ρ, M, z, ?_⟩
  cases e : evL cf b es ρ M with
  | no => rw [e] at p; exact p
  | ex _ _ => rw [e] at p; exact p
  | ok ds M' =>
    rw [e] at p
    exact fun μ' H' l R vs r => ⟨r.length.symm.trans (evL_len e), p μ' H' l R vs r⟩
theorem call_rd {f : Nat} {Q : VK} (h : nE C W cf (.call f es) σ H Q) : nL C W cf es σ H fun vs H1 => spF C cf.F f vs H1 Q (at_ W σ) := by
  obtain ⟨bs, b, μ, ρ, M, z, p⟩ := h
  unfold evE at p
  exact L_then z p fun d v μ1 M1 H1 l a1 r p1 => ⟨bs, b, μ1, M1, d, a1.hb, a1.R, r, p1⟩
theorem RelDs.paired : ∀ {ds : List D} {vs : List V}, RelDs C μ H ds vs → Paired (RelD C μ H) ds vs
  | [], _, h => by rw [h.nil_inv]; exact .nil
  | d :: ds, _, h => by
    obtain ⟨v, vr, rfl, r, q⟩ := h.inv
    exact .cons r q.paired
theorem relDs_of : ∀ {ds : List D} {vs : List V}, Paired (RelD C μ H) ds vs → RelDs C μ H ds vs
  | _, _, .nil => .nil
  | _, _, .cons r t => .cons r (relDs_of t)
section
variable {α β : Type} {R : α → β → Prop}
theorem paired_get : ∀ {xs : List α} {ys : List β} {i : Nat} {x : α}, Paired R xs ys → xs[i]? = some x → ∃ y, ys[i]? = some y ∧ R x y
  | _, _, _, _, .nil, e => by simp at e
  | _, _, 0, _, .cons r _, e => by simp at e; subst e; exact ⟨_, rfl, r⟩
  | _, _, i + 1, x, .cons _ t, e => by
    obtain ⟨u, h1, h2⟩ := paired_get (i := i) (x := x) t (by simpa using e)
    exact ⟨u, by simpa using h1, h2⟩
theorem paired_lookup : ∀ {ks : List Nat} {xs : List α} {ys : List β} {i : Nat} {x : α}, Paired R xs ys → (ks.zip xs).lookup i = some x → ∃ y, (ks.zip ys).lookup i = some y ∧ R x y
  | [], _, _, _, _, _, e => by simp at e
  | _ :: _, _, _, _, _, .nil, e => by simp at e
  | k :: ks, _, _, i, x, .cons (b := y) r t, e => by
    simp only [List.zip_cons_cons, List.lookup_cons] at e ⊢
    cases hk : i == k with
    | true => rw [hk] at e; cases e; exact ⟨_, rfl, r⟩
    | false => rw [hk] at e; exact paired_lookup t e
theorem allS_rel {f : Nat → Option α} {g : Nat → Option β} (h : ∀ i a, f i = some a → ∃ b, g i = some b ∧ R a b) : ∀ {l : List Nat} {zs : List α}, allS (l.map f) = some zs → ∃ ys, allS (l.map g) = some ys ∧ Paired R zs ys
  | [], zs, e => by
    unfold allS at e
    cases e
    exact ⟨[], rfl, .nil⟩
  | i :: l, zs, e => by
    obtain ⟨y, ws, e1, e2, rfl⟩ := allS_cons e
    obtain ⟨u, h1, h2⟩ := h i y e1
    obtain ⟨us, h3, h4⟩ := allS_rel h e2
    refine ⟨u :: us, ?_, .cons h2 h4⟩
    rw [List.map_cons, h1]
    unfold allS
    rw [h3]
theorem paired_len : ∀ {xs : List α} {ys : List β}, Paired R xs ys → xs.length = ys.length
  | _, _, .nil => rfl
  | _, _, .cons _ t => congrArg Nat.succ (paired_len t)
theorem place_rel {n : Nat} {xs : List α} {us : List β} {ks : List Nat} {ys : List α} {ws : List β} {zs : List α} (h1 : Paired R xs us) (h2 : Paired R ys ws) (e : place n xs ks ys = some zs) : ∃ zu, place n us ks ws = some zu ∧ Paired R zs zu := by
  unfold place at e ⊢
  have l1 := paired_len h1
  have l2 := paired_len h2
  rw [← l1, ← l2]
  split at e
  · rename_i hc
    rw [if_pos hc]
    refine allS_rel (fun i a ha => ?_) e
    cases q : xs[i]? with
    | some d =>
      rw [q] at ha
      cases ha
      obtain ⟨u, h3, h4⟩ := paired_get h1 q
      rw [h3]
      exact ⟨u, rfl, h4⟩
    | none =>
      rw [q] at ha
      have : us[i]? = none := by rw [List.getElem?_eq_none_iff] at q ⊢; omega
      rw [this]
      exact paired_lookup h2 ha
  · cases e
theorem allS_len : ∀ {xs : List (Option α)} {ys : List α}, allS xs = some ys → ys.length = xs.length
  | [], ys, e => by unfold allS at e; cases e; rfl
  | x :: xs, ys, e => by
    obtain ⟨y, zs, _, e2, rfl⟩ := allS_cons e
    exact congrArg Nat.succ (allS_len e2)
theorem place_len {n : Nat} {xs ys zs : List α} {ks : List Nat} (e : place n xs ks ys = some zs) : zs.length = n ∧ xs.length + ys.length = n ∧ ks.length = ys.length := by
  unfold place at e
  split at e
  · rename_i hc
    have := allS_len e
    simp at this
    exact ⟨this, hc⟩
  · cases e
end
theorem vals_paired {vs : List V} {us : List Value} (h : Vals vs us) : Paired RelV vs us := h
theorem callk_rd {f : Nat} {ks : List Nat} {Q : VK} (h : nE C W cf (.callk f es ks kes) σ H Q) :
    nL C W cf es σ H fun vs H1 => nL C W cf kes σ H1 fun ws H2 => ∃ zs, place (vs.length + ws.length) vs ks ws = some zs ∧ spF C cf.F f zs H2 Q (at_ W σ) := by
  obtain ⟨bs, b, μ, ρ, M, z, p⟩ := h
  unfold evE at p
  refine L_then z p fun d v μ1 M1 H1 l a1 r p1 => L_then a1 p1 fun d' v' μ2 M2 H2 l2 a2 r2 p2 => ?_
  obtain ⟨zs, e, p3⟩ := O_of p2
  have ra := r.le l2
  obtain ⟨zv, e2, rz⟩ := place_rel ra.paired r2.paired e
  rw [ra.length, r2.length] at e2
  exact ⟨zv, e2, bs, b, μ2, M2, zs, a2.hb, a2.R, relDs_of rz, p3⟩
theorem FnAt.len {F : Nat → List D → Nat → Sto → Out D} {P : Program} {w : World} {mg : Str → Option Value} {base : Heap} {f : Nat} {fn : Fn} {fd : FuncData} (A : FnAt C P w mg base CX TB k F f fn fd) {vs : List V} {H : Hp} {Q : VK} {E : XK} (h : spF C F f vs H Q E) : vs.length = fn.np := by
  have z := A.ok.len vs H Q E h
  rw [List.length_take] at z
  have := A.np
  omega
theorem pe_callG0 (G : GX C CX TB k cf N W X) (hs : X.env.scope = sc) {f : Nat} {fn : Fn} (hf : TB.fns[f]? = some fn) (ho : fn.own = none ∧ fn.ko = false) (hg : glN sc fn.name = true) (ok : okN fn.name = true) {p pos : Pos} : PE X (.Call (.Name fn.name p) [] [] pos) (nE C W cf (.call f .nil)) := by
  obtain ⟨fd, A⟩ := G.fns f fn hf
  refine ⟨fun pins s σ H Q I h => ?_⟩
  have h1 := lnil_rd (call_rd h)
  have hl := A.len h1
  refine wpAny_Call_Name_kw (ld_glob I (gl_of hs hg) (A.nm ho.1) ?_ (okn_of ok).1)
  exact PySem.W.callWith_K0 (K := X.K) I.kIn (by rw [G.K]; exact A.kp) (go_fnG (us := []) (kw := []) (by rw [G.K]; exact A.ok) G.gd G.room (fun e s' c => G.px _ _ _ _ e s' I c) I .nil (A.bd (fun _ => ho.2) s [] (by rw [← G.K]; exact I.kIn) hl) h1)
theorem pe_callG (G : GX C CX TB k cf N W X) (hs : X.env.scope = sc) {f : Nat} {fn : Fn} (hf : TB.fns[f]? = some fn) (ho : fn.own = none ∧ fn.ko = false) (hg : glN sc fn.name = true) (ok : okN fn.name = true) {p pos : Pos} {x : Expr} {xs : List Expr} (ha : PA X (x :: xs) (nL C W cf es)) (hst : (x :: xs).all noStar = true) :
    PE X (.Call (.Name fn.name p) (x :: xs) [] pos) (nE C W cf (.call f es)) := by
  obtain ⟨fd, A⟩ := G.fns f fn hf
  rw [List.all_cons, Bool.and_eq_true] at hst
  refine ⟨fun pins s σ H Q I h => ?_⟩
  refine wpAny_Call_Name_kw (ld_glob I (gl_of hs hg) (A.nm ho.1) ?_ (okn_of ok).1)
  refine PySem.W.callWith_K (K := X.K) (h₀ := X.base) I.ok.mod.kin (by rw [G.K]; exact A.kp) (thn (ha.run pos pins s σ H _ I (call_rd h)) fun us s1 ⟨vs, H1, I1, r, q⟩ => ⟨I1.kIn, ?_⟩) (star_of hst.1) (any_of hst.2)
  exact go_fnG (us := us) (kw := []) (by rw [G.K]; exact A.ok) G.gd G.room (fun e s' c => G.px _ _ _ _ e s' I1 c) I1 r (A.bd (fun _ => ho.2) s1 us (by rw [← G.K]; exact I1.kIn) (r.length.symm.trans (A.len q))) q
theorem any_none {l : List (Option Str × Sem Value)} {ns : List Str} (h : l.map (·.1) = ns.map some) : l.any (·.1.isNone) = false ∧ l.all (·.1.isSome) = true ∧ l.filterMap (·.1) = ns := by
  induction l generalizing ns with
  | nil =>
    cases ns with
    | nil => exact ⟨rfl, rfl, rfl⟩
    | cons _ _ => cases h
  | cons a l ih =>
    cases ns with
    | nil => cases h
    | cons n ns =>
      simp only [List.map_cons, List.cons.injEq] at h
      obtain ⟨h1, h2⟩ := h
      obtain ⟨i1, i2, i3⟩ := ih h2
      refine ⟨?_, ?_, ?_⟩
      · rw [List.any_cons, h1, i1]; rfl
      · rw [List.all_cons, h1, i2]; rfl
      · rw [List.filterMap_cons, h1]; simp [i3]
theorem some_all {fn : Fn} : ∀ {ks : List Nat}, ks.all (fun i => (fn.N[i]?).isSome) = true → ks.map (fun i => fn.N[i]?) = (ks.filterMap fun i => fn.N[i]?).map some
  | [], _ => rfl
  | i :: ks, h => by
    rw [List.all_cons, Bool.and_eq_true] at h
    obtain ⟨n, e⟩ := Option.isSome_iff_exists.mp h.1
    rw [List.map_cons, List.filterMap_cons, e, some_all h.2]
    rfl
theorem pe_callGK (G : GX C CX TB k cf N W X) (hs : X.env.scope = sc) {f : Nat} {fn : Fn} (hf : TB.fns[f]? = some fn) (ho : fn.own = none) (hg : glN sc fn.name = true) (ok : okN fn.name = true) {p pos : Pos} {xs : List Expr} {kws : List Keyword} {ks : List Nat}
    (ha : PA X xs (nL C W cf es)) (hst : xs.all noStar = true) (hnil : xs = [] → es = .nil) (hk : PK X kws (nL C W cf kes)) (hn : (kwsX kws).map (·.1) = ks.map fun i => fn.N[i]?) (hi : ks.all (fun i => (fn.N[i]?).isSome) = true)
    (hc : TB.kw.contains (f, xs.length, ks) = true) (hlen : elen es = xs.length) : PE X (.Call (.Name fn.name p) xs kws pos) (nE C W cf (.callk f es ks kes)) := by
  obtain ⟨fd, A⟩ := G.fns f fn hf
  obtain ⟨n1, n2, n3⟩ := any_none ((kw_names kws X.env pos).trans (hn.trans (some_all hi)))
  refine ⟨fun pins s σ H Q I h => ?_⟩
  have h1 := callk_rd h
  have fin : ∀ {s1 s2 : Shared} {H1 H2 : Hp} {vs ws : List V} {us uw : List Value}, us.length = xs.length → L2.Inv X pins σ H2 s2 → Vals vs us → Vals ws uw → (∃ zs, place (vs.length + ws.length) vs ks ws = some zs ∧ spF C cf.F f zs H2 Q (at_ W σ)) →
      wpAny (model X.prog X.w) X.A (call (.ref (C.fa f)) us ((ks.filterMap fun i => fn.N[i]?).zip uw)) (EP X pins σ Q) X.xe s2 := fun {s1 s2 H1 H2 vs ws us uw} hl I2 r1 r2 ⟨zs, e, q⟩ => by
    have hl2 := A.len q
    obtain ⟨p1, p2, p3⟩ := place_len e
    obtain ⟨zu, e3, rz⟩ := place_rel (vals_paired r1) (vals_paired r2) e
    have hnp : vs.length + ws.length = fn.np := by omega
    rw [hnp] at e3
    exact go_fnG (by rw [G.K]; exact A.ok) G.gd G.room (fun e s' c => G.px _ _ _ _ e s' I2 c) I2 rz (A.bk xs.length ks hc s2 us uw zu hl (by rw [p3]; exact r2.length.symm) e3) q
  refine wpAny_Call_Name_kw (ld_glob I (gl_of hs hg) (A.nm ho) ?_ (okn_of ok).1)
  cases xs with
  | nil =>
    cases hnil rfl
    refine PySem.W.callWith_KW0 (K := X.K) (h₀ := X.base) I.ok.mod.kin (by rw [G.K]; exact A.kp) n2 (thn (hk.run pos pins s σ H _ I (lnil_rd h1)) fun ws s2 ⟨zs, H2, I2, rz, q2⟩ => ⟨I2.kIn, ?_⟩) (by show (false || _) = false; rw [n1]; rfl)
    rw [n3]
    exact fin (s1 := s2) (H1 := H2) (us := []) rfl I2 .nil rz q2
  | cons x xs =>
    rw [List.all_cons, Bool.and_eq_true] at hst
    refine PySem.W.callWith_KW (K := X.K) (h₀ := X.base) I.ok.mod.kin (by rw [G.K]; exact A.kp) n2 (thn (ha.run pos pins s σ H _ I (tL_len h1)) fun us s1 ⟨vs, H1, I1, r, ql, q⟩ => ?_) ?_ (star_of hst.1)
    · refine thn (hk.run pos pins s1 σ H1 _ I1 q) fun ws s2 ⟨zs, H2, I2, rz, q2⟩ => ⟨I2.kIn, ?_⟩
      rw [n3]
      exact fin (s1 := s1) (H1 := H1) (us := us) (r.length.symm.trans (ql.trans hlen)) I2 r rz q2
    · rw [star_of hst.1, n1]
      show ((false || (backTo pos (starEach xs X.env)).any (·.1)) || false) = false
      rw [any_of hst.2]
      rfl
end Ev
end

section
/-! EvSnd1: built-ins, methods, isinstance, what loops walk. -/
namespace Ev
open PySem PySem.Spec PyProof.Rows L2
variable {C : Cn} {μ μ' μ1 : List Addr} {H H' H1 : Hp} {M M' M1 : Sto} {bs : List Nat} {v : V} {X : Cx} {W : WX} {b : Nat} {ρ : Enn} {σ : L2.St} {cf : Cf} {CX : CXT} {TB : Tb} {k : Nat} {N : List Str} {sc : Scope}

theorem nmB_in (o : BI) : nmB o ∈ bltNs := by cases o <;> decide
theorem boot_B (o : BI) : bootBuiltins (Str.ofString (nmB o)) = some (fvB o) := by cases o <;> decide +kernel
theorem nm_ne (o : BI) : (Str.ofString (nmB o)) ≠ "__name__" := by cases o <;> decide
theorem nm_db (o : BI) : (Str.ofString (nmB o) == ("__debug__" : Str)) = false := by cases o <;> decide
theorem pe_bi (G : GX C CX TB k cf N W X) (hs : X.env.scope = sc) (o : BI) {n : Str} {p pos : Pos} {x : Expr} {xs : List Expr} {es : EL} (hb : bltX sc (nmB o) n = true) (ha : PA X (x :: xs) (nL C W cf es)) (hst : (x :: xs).all noStar = true) :
    PE X (.Call (.Name n p) (x :: xs) [] pos) (nE C W cf (.bi o es)) := by
  obtain ⟨rfl, hg, hm⟩ := blt_of G hs (nmB_in o) hb
  have hst' := hst
  rw [List.all_cons, Bool.and_eq_true] at hst
  have hc := call_rF (X := X) (C := C) G.K G.calm G.un G.gd o
  have hv := boot_B o
  refine PE.imp (t := tCB (rF C o) (nL C W cf es)) ?_ fun σ H Q q => bi_rd q
  have hB : ∀ id, fvB o = .builtin id → PE X (.Call (.Name (Str.ofString (nmB o)) p) (x :: xs) [] pos) (tCB (rF C o) (nL C W cf es)) := fun id e => by
    rw [e] at hc hv
    exact pe_callB hc hg hm hv ha (nm_ne o) (nm_db o) (star_of hst.1) (any_of hst.2)
  have hT : ∀ T, fvB o = .type T → PE X (.Call (.Name (Str.ofString (nmB o)) p) (x :: xs) [] pos) (tCB (rF C o) (nL C W cf es)) := fun T e => by
    rw [e] at hc hv
    exact pe_callTy hc hg hm hv ha (nm_ne o) (nm_db o) (star_of hst.1) (any_of hst.2)
  cases o <;> first | exact hB _ rfl | exact hT _ rfl
theorem plaM : ∀ m : MT, PlainAttrs (tyM m)
  | .append => PySem.F.plainAttrs_list
  | .extend => PySem.F.plainAttrs_list
  | .pop => PySem.F.plainAttrs_list
  | .popAt => PySem.F.plainAttrs_list
  | .insert => PySem.F.plainAttrs_list
  | .count => PySem.F.plainAttrs_list
  | .index => PySem.F.plainAttrs_list
  | .clear => PySem.F.plainAttrs_list
  | .join => PySem.F.plainAttrs_str
theorem slotM : ∀ m : MT, Slot (tyM m) (Str.ofString (nmM m)) (idM m)
  | .append => PySem.F.slot_list_append
  | .extend => PySem.F.slot_list_extend
  | .pop => PySem.F.slot_list_pop
  | .popAt => PySem.F.slot_list_pop
  | .insert => PySem.F.slot_list_insert
  | .count => PySem.F.slot_list_count
  | .index => PySem.F.slot_list_index
  | .clear => PySem.F.slot_list_clear
  | .join => PySem.F.slot_str_join
theorem typM : ∀ m : MT, typeOf (.builtin (idM m)) = pure (.type "method_descriptor")
  | .append => PySem.F.type_list_append
  | .extend => PySem.F.type_list_extend
  | .pop => PySem.F.type_list_pop
  | .popAt => PySem.F.type_list_pop
  | .insert => PySem.F.type_list_insert
  | .count => PySem.F.type_list_count
  | .index => PySem.F.type_list_index
  | .clear => PySem.F.type_list_clear
  | .join => PySem.F.type_str_join
theorem all_few {cpos : Pos} {env : Env} {xs : List Expr} (h : xs.all noStar = true) (hn : Nat.blt xs.length 30 = true) :
    ((backTo cpos (starEach xs env)).all (fun x => !x.1) && (backToKw cpos (keywordEach [] env)).all (fun x => x.1.isSome) && decide (xs.length + ([] : List Keyword).length + (if ([] : List Keyword).isEmpty then 0 else 1) < 30)) = true := by
  have e : (backTo cpos (starEach xs env)).all (fun x => !x.1) = true := by
    have z := any_of (env := env) (pos := cpos) h
    rw [List.all_eq_not_any_not]
    simp only [Bool.not_not]
    rw [z]; rfl
  rw [e]
  have := Nat.blt_eq.mp hn
  simpa [backToKw, keywordEach] using this
theorem pe_mt (G : GX C CX TB k cf N W X) (m : MT) {o : E} {es : EL} {y : Expr} {xs : List Expr} {apos cpos : Pos} (ho : PE X y (nE C W cf o)) (hb : baseOk y = true) (hl : (apos.endLine == cpos.line) = true) (hn : Nat.blt xs.length 30 = true)
    (ha : PA X xs (nL C W cf es)) (hst : xs.all noStar = true) (hnil : xs = [] → es = .nil) : PE X (.Call (.Attribute y (Str.ofString (nmM m)) apos) xs [] cpos) (nE C W cf (.mth m o es)) := by
  cases xs with
  | nil =>
    cases hnil rfl
    refine PE.imp (pe_bm0 (plaM m) (slotM m) (typM m) (mt_rM (X := X) (C := C) G.K m) ho (base_of hb) hl) fun σ H Q q => ?_
    obtain ⟨bs, b, μ, ρ, M, z, p⟩ := mth_rd G.K q
    exact ⟨bs, b, μ, ρ, M, z, p.imp fun d μ' M' H' l R p v r => ⟨(p v r).1, lnil_rd (p v r).2⟩⟩
  | cons x xs =>
    have hst' := hst
    rw [List.all_cons, Bool.and_eq_true] at hst
    exact PE.imp (pe_bm (plaM m) (slotM m) (typM m) (mt_rM (X := X) (C := C) G.K m) ho ha (base_of hb) (all_few hst' hn) hl (star_of hst.1) (any_of hst.2)) fun σ H Q q => mth_rd G.K q

/-! ### isinstance -/
theorem nmU_in {c : CL} {s : String} (h : nmU c = some s) : s ∈ bltNs ∧ bootBuiltins (Str.ofString s) = some (.type s) ∧ (Str.ofString s) ≠ "__name__" ∧ (Str.ofString s == ("__debug__" : Str)) = false ∧ nmC c = some s := by
  cases c <;> first
    | (cases h; exact ⟨by decide, by decide +kernel, by decide, by decide, rfl⟩)
    | cases h
theorem pe_cl (G : GX C CX TB k cf N W X) (hs : X.env.scope = sc) {c : CL} {x : Expr} (h : clX sc c x = true) : ∃ s, nmC c = some s ∧ PE X x (tC (.ty s)) ∧ noStar x = true := by
  unfold clX at h
  split at h
  · rename_i n p s e
    obtain ⟨h1, h2, h3, h4, h5⟩ := nmU_in e
    obtain ⟨rfl, hg, hm⟩ := blt_of G hs h1 h
    exact ⟨s, h5, pe_bltn hg hm h2 rfl h3 h4, rfl⟩
  · cases h
/-- a row of known values -/
def tVs (vs : List V) : TA := fun _ H Q => Q vs H
theorem pa_cls (G : GX C CX TB k cf N W X) (hs : X.env.scope = sc) : ∀ {cs : List CL} {xs : List Expr}, clsX sc cs xs = true → ∃ ns : List String, cs.map nmC = ns.map some ∧ PA X xs (tVs (ns.map V.ty))
  | [], [], _ => ⟨[], rfl, PA.imp pa_nil fun _ _ _ q => q⟩
  | c :: cs, x :: xs, h => by
    unfold clsX at h
    rw [Bool.and_eq_true, Bool.and_eq_true] at h
    obtain ⟨⟨h1, h2⟩, h3⟩ := h
    obtain ⟨s, e, p, _⟩ := pe_cl G hs h2
    obtain ⟨ns, e2, q⟩ := pa_cls G hs h3
    exact ⟨s :: ns, by rw [List.map_cons, List.map_cons, e, e2], PA.imp (pa_cons p q (star_of h1)) fun _ _ _ q => q⟩
  | [], _ :: _, h => by cases h
  | _ :: _, [], h => by cases h
theorem clsV_all : ∀ ns : List String, Paired ClsV (ns.map V.ty) (ns.map Value.type)
  | [] => .nil
  | n :: ns => .cons (.ty n) (clsV_all ns)
theorem cls_few {t : Ty} {cs : List CL} {k : Bool} (h : isAny t cs = some k) (hl : Nat.ble cs.length 9 = true) : cs.length ≤ sizeLine := by
  have := Nat.ble_eq.mp hl
  have z : sizeLine = cap := rfl
  unfold cap at z
  omega
theorem pe_isi (G : GX C CX TB k cf N W X) (hs : X.env.scope = sc) {a : E} {cs : List CL} {n : Str} {p pos : Pos} {y z : Expr} (hb : bltX sc "isinstance" n = true) (hy : noStar y = true) (hz : noStar z = true) (hc : isiX sc cs z = true) (hf : Nat.ble cs.length 9 = true) (ha : PE X y (nE C W cf a)) :
    PE X (.Call (.Name n p) [y, z] [] pos) (nE C W cf (.isi a cs)) := by
  obtain ⟨rfl, hg, hm⟩ := blt_of G hs (by decide) hb
  have bt : bootBuiltins (Str.ofString "isinstance") = some (.builtin "isinstance") := by decide +kernel
  unfold isiX at hc
  split at hc
  · rename_i xs kk pp
    obtain ⟨ns, e, q⟩ := pa_cls G hs hc
    refine PE.imp (pe_callB (call_isiT (X := X)) hg hm bt (pa_cons ha (pa_cons (pe_tup q) pa_nil rfl) (star_of hy)) (by decide) (by decide) (star_of hy) (by rfl)) fun σ H Q h => ?_
    obtain ⟨bs, b, μ, ρ, M, zz, pp⟩ := isi_rd G.K h
    refine ⟨bs, b, μ, ρ, M, zz, pp.imp fun d μ' M' H' l R p v r => ?_⟩
    obtain ⟨t, k, e1, _, e3, _⟩ := p v r
    obtain ⟨ns', e4, e5⟩ := kitAny_sound X.K e1
    have en : ns' = ns := by
      have z : ns'.map some = ns.map some := e4.symm.trans e
      have inj : ∀ (a b : List String), a.map some = b.map some → a = b := fun a => by
        induction a with
        | nil => intro b h; cases b with
          | nil => rfl
          | cons _ _ => cases h
        | cons x a ih => intro b h; cases b with
          | nil => cases h
          | cons y b =>
            simp only [List.map_cons, List.cons.injEq, Option.some.injEq] at h
            rw [h.1, ih b h.2]
      exact inj _ _ z
    subst en
    refine ⟨?_, fun q hq => ?_⟩
    · rw [List.length_map]
      have : ns'.length = cs.length := by
        have z := congrArg List.length e4
        simpa using z.symm
      rw [this]; exact cls_few e1 hf
    · obtain ⟨ty, qk⟩ := e3 q (.tup (ns'.map V.ty)) hq
      exact ⟨v, q, ns'.map V.ty, _, ns'.map Value.type, k, rfl, upd_same, clsV_all ns', ty, e5, qk⟩
  · split at hc
    · rename_i c
      obtain ⟨s, e, q, _⟩ := pe_cl G hs hc
      refine PE.imp (pe_callB (call_isi (X := X)) hg hm bt (pa_cons ha (pa_cons q pa_nil rfl) (star_of hy)) (by decide) (by decide) (star_of hy) (by rfl)) fun σ H Q h => ?_
      obtain ⟨bs, b, μ, ρ, M, zz, pp⟩ := isi_rd G.K h
      refine ⟨bs, b, μ, ρ, M, zz, pp.imp fun d μ' M' H' l R p v r => ?_⟩
      obtain ⟨t, k, e1, ty, _, qk⟩ := p v r
      unfold isAny at e1
      cases ek : isTy t c with
      | none => rw [ek] at e1; cases e1
      | some k0 =>
        rw [ek] at e1
        unfold isAny at e1
        simp only [Bool.or_false, Option.some.injEq] at e1
        subst e1
        obtain ⟨s', e4, e5⟩ := kit_sound X.K ek
        rw [e] at e4
        cases e4
        exact ⟨v, .ty s, _, .type s, k0, rfl, .ty s, ty, e5, qk⟩
    · cases hc
  · cases hc
end Ev
end

section
/-! EvSndN: calls that leave defaults, instances, dicts. -/
namespace Ev
open PySem PySem.Spec PyProof.Rows L2
variable {C : Cn} {μ μ' μ1 : List Addr} {H H' H1 : Hp} {M M' M1 : Sto} {bs : List Nat} {v : V} {X : Cx} {W : WX} {b : Nat} {ρ : Enn} {σ : L2.St} {cf : Cf} {CX : CXT} {TB : Tb} {k : Nat} {N : List Str} {sc : Scope} {es : EL} {a a' : E}

theorem calld_rd {f : Nat} {ds : List Int} {Q : VK} (h : nE C W cf (.calld f es ds) σ H Q) : nL C W cf es σ H fun vs H1 => spF C cf.F f (vs ++ ds.map V.int) H1 Q (at_ W σ) := by
  obtain ⟨bs, b, μ, ρ, M, z, p⟩ := h
  unfold evE at p
  exact L_then z p fun d v μ1 M1 H1 l a1 r p1 => ⟨bs, b, μ1, M1, _, a1.hb, a1.R, r.app (relDs_int ds), p1⟩
theorem pe_calldG (G : GX C CX TB k cf N W X) (hs : X.env.scope = sc) {f : Nat} {fn : Fn} (hf : TB.fns[f]? = some fn) (ho : fn.own = none) (hg : glN sc fn.name = true) (ok : okN fn.name = true) {p pos : Pos} {x : Expr} {xs : List Expr} {ds : List Int} (hc : TB.df.contains (f, xs.length + 1, ds) = true)
    (ha : PA X (x :: xs) (nL C W cf es)) (hst : (x :: xs).all noStar = true) (hlen : elen es = xs.length + 1) : PE X (.Call (.Name fn.name p) (x :: xs) [] pos) (nE C W cf (.calld f es ds)) := by
  obtain ⟨fd, A⟩ := G.fns f fn hf
  obtain ⟨dsv, rd, _, bt⟩ := A.df _ _ hc
  rw [List.all_cons, Bool.and_eq_true] at hst
  refine ⟨fun pins s σ H Q I h => wpAny_Call_Name_kw (ld_glob I (gl_of hs hg) (A.nm ho) ?_ (okn_of ok).1)⟩
  refine PySem.W.callWith_K (K := X.K) (h₀ := X.base) I.ok.mod.kin (by rw [G.K]; exact A.kp) (thn (ha.run pos pins s σ H _ I (tL_len (calld_rd h))) fun us s1 ⟨vs, H1, I1, r, hl, q⟩ => ⟨I1.kIn, ?_⟩) (star_of hst.1) (any_of hst.2)
  exact go_fnG (us := us) (kw := []) (by rw [G.K]; exact A.ok) G.gd G.room (fun e s' c => G.px _ _ _ _ e s' I1 c) I1 (r.append rd) (bt s1 us (by rw [← G.K]; exact I1.kIn) (r.length.symm.trans (hl.trans hlen))) q

/-! ### instances -/
/-- a new instance and its __init__ -/
theorem new_run (G : GX C CX TB k cf N W X) {c f : Nat} {cd : CD} {fn : Fn} (hc : TB.cl[c]? = some cd) (he : cd.exc = false) (hf : TB.fns[f]? = some fn) (ho : fn.own = some (c, ("__init__" : Str))) {pins : List (Addr × Obj)} {s : Shared} {H : Hp} {Q : VK} {us : List Value} {vs : List V} (I : L2.Inv X pins σ H s) (r : Vals vs us)
    (q : ∀ x dx, H x = none → H dx = none → dx ≠ x → Wd C (at_ W σ) cf.F f (.ref x :: vs) (upd (upd H dx (.own x)) x (.ins (C.ca c) dx [])) fun v H2 => v = .non ∧ Q (.ref x) H2) :
    wpAny (model X.prog X.w) X.A (call (.ref (C.ca c)) us) (EP X pins σ Q) X.xe s := by
  obtain ⟨fd, A⟩ := G.fns f fn hf
  have mt := A.mt c _ ho
  obtain ⟨mk, kp⟩ := (G.cls c cd hc).mkr he
  have word := q (s.heap.objs.size + 1) s.heap.objs.size (I.hok.fresh (Nat.le_succ _)) (I.hok.fresh (Nat.le_refl _)) (Nat.ne_of_lt (Nat.lt_succ_self _))
  have J := Inv.made (C := C.ca c) I
  have both : Vals (V.ref (s.heap.objs.size + 1) :: vs) (Value.ref (s.heap.objs.size + 1) :: us) := .cons rfl r
  have keep := J.kIn
  rw [G.K] at keep
  have bind := A.bd (fun z => by rw [ho] at z; cases z) _ (Value.ref (s.heap.objs.size + 1) :: us) keep (both.length.symm.trans (A.len word))
  have runs := fun gu : (X.A.under (.builtin "type.__call__" ⟨.ref (C.ca c) :: us, []⟩)).guards = some [] => A.ok.go _ X.stack _ _ ⟨_ :: us, []⟩ _ _ _ _ gu (G.r2.make (C.ca c) us []) (by rw [← G.K]; exact J.env0.make (C.ca c) us []) word both bind
  refine wpAny_call (make_map (f := C.fa f) I.kIn (by rw [G.K]; exact mk) (by rw [G.K]; exact mt.at_) (by rw [G.K]; exact beq_iff_eq.mp mt.fn) (codeAny_mono (runs G.gd) fun res s' back => ?_))
  match res, back with
  | .error e, back => exact G.px _ _ _ _ e s' J back
  | .ok (.ret u), back =>
    obtain ⟨v, H', I', rv, ⟨rfl, q'⟩⟩ := J.after back
    exact ⟨rv, .ref (s.heap.objs.size + 1), H', I', rfl, q'⟩
theorem new_rdN {c f : Nat} {Q : VK} {H : Hp} (h : nE C W cf (.new c f es) σ H Q) : tNewI C (at_ W σ) cf.F c f (nL C W cf es) σ H Q := new_rd h
theorem pe_newG (G : GX C CX TB k cf N W X) (hs : X.env.scope = sc) {c f : Nat} {cd : CD} {fn : Fn} (hc : TB.cl[c]? = some cd) (he : cd.exc = false) (hf : TB.fns[f]? = some fn) (ho : fn.own = some (c, ("__init__" : Str))) (hg : glN sc cd.name = true) (ok : okN cd.name = true) {p pos : Pos} {xs : List Expr}
    (ha : PA X xs (nL C W cf es)) (hst : xs.all noStar = true) (hnil : xs = [] → es = .nil) : PE X (.Call (.Name cd.name p) xs [] pos) (nE C W cf (.new c f es)) := by
  have F := G.cls c cd hc
  have kp : PySem.W.keepIn X.K (.ref (C.ca c)) = true := by rw [G.K]; exact (F.mkr he).2
  refine ⟨fun pins s σ H Q I h => wpAny_Call_Name_kw (ld_glob I (gl_of hs hg) F.nm ?_ (okn_of ok).1)⟩
  cases xs with
  | nil =>
    cases hnil rfl
    exact PySem.W.callWith_K0 (K := X.K) I.kIn kp (new_run G hc he hf ho (us := []) I .nil (lnil_rd (new_rdN h)))
  | cons x xs =>
    rw [List.all_cons, Bool.and_eq_true] at hst
    exact PySem.W.callWith_K (K := X.K) (h₀ := X.base) I.ok.mod.kin kp (thn (ha.run pos pins s σ H _ I (new_rdN h)) fun us s1 ⟨vs, H1, I1, r, q⟩ => ⟨I1.kIn, new_run G hc he hf ho I1 r q⟩) (star_of hst.1) (any_of hst.2)
theorem mc_rdN {m : Str} {ms : List (Nat × Nat)} {Q : VK} {H : Hp} (h : nE C W cf (.mc a m ms es) σ H Q) : tMc C (at_ W σ) cf.F ms (nE C W cf a) (nL C W cf es) σ H Q := mc_rd h
theorem mth_of {m : Str} {ms : List (Nat × Nat)} {c f : Nat} (h : mthB TB m ms = true) (e : ms.lookup c = some f) : m ≠ Str.empty ∧ ∃ cd fn, TB.cl[c]? = some cd ∧ TB.fns[f]? = some fn ∧ cd.exc = false ∧ m ∉ cd.fs ∧ fn.own = some (c, m) := by
  unfold mthB at h
  rw [Bool.and_eq_true] at h
  refine ⟨fun z => by rw [z] at h; exact absurd h.1 (by simp), ?_⟩
  have hm : (c, f) ∈ ms := by
    clear h
    induction ms with
    | nil => cases e
    | cons p ms ih =>
      obtain ⟨c', f'⟩ := p
      rw [List.lookup_cons] at e
      cases hk : c == c' with
      | true =>
        rw [hk] at e
        cases e
        rw [beq_iff_eq.mp hk]
        exact List.mem_cons_self
      | false =>
        rw [hk] at e
        exact List.mem_cons_of_mem _ (ih e)
  have z := List.all_eq_true.mp h.2 _ hm
  dsimp only at z
  split at z
  · rename_i cd fn e1 e2
    simp only [Bool.and_eq_true, Bool.not_eq_true', decide_eq_true_eq] at z
    obtain ⟨⟨z1, z2⟩, z3⟩ := z
    exact ⟨cd, fn, e1, e2, z1, (fun hm => absurd (List.contains_iff_mem.mpr hm) (by rw [z2]; decide)), z3⟩
  · cases z
/-- no field hides the method -/
theorem ClF.hides {P : Program} {w : World} {mg : Str → Option Value} {base : Heap} {c : Nat} {cd : CD} (F : ClF C P w mg base TB c cd) {m : Str} (h1 : m ≠ Str.empty) (h2 : m ∉ cd.fs) (vs : List V) : (fz C c vs).lookup m = none := fz_miss fun j _ e => by
  cases q : cd.fs[j]? with
  | none => rw [F.off j q] at e; exact h1 e.symm
  | some f =>
    rw [F.fl j f q] at e
    exact h2 (e ▸ List.mem_of_getElem? q)
theorem mth_form {y : Expr} {m : Str} {apos cpos : Pos} {xs : List Expr} {env : Env} (hb : baseOk y = true) (hl : (apos.endLine == cpos.line) = true) (hn : Nat.blt xs.length 30 = true) (hst : xs.all noStar = true) : eval (.Call (.Attribute y m apos) xs [] cpos) env = (do
    let ov ← eval y env
    standAt apos.atName
    let (g, first) ← holding [ov] (getMethod ov m (do return (← importBound y env).getD true))
    callWith cpos g first (backTo cpos (starEach xs env)) (backToKw cpos (keywordEach [] env))) := by
  have form : methodCallForm (xs.length + ([] : List Keyword).length) (backTo cpos (starEach xs env)) (backToKw cpos (keywordEach [] env)) = true := all_few hst hn
  have line : methodCallPos true y env apos cpos = pure cpos := by unfold methodCallPos; simp [hl]
  rw [arm_eval_Call, base_of hb]
  unfold methodCall
  rw [form, line]
  unfold calleeOf
  simp only [if_true, pure_bind]
theorem pe_mcG (G : GX C CX TB k cf N W X) {m : Str} {ms : List (Nat × Nat)} (hm : mthB TB m ms = true) {y : Expr} {xs : List Expr} {apos cpos : Pos} (hb : baseOk y = true) (hl : (apos.endLine == cpos.line) = true) (hn : Nat.blt xs.length 30 = true)
    (hy : PE X y (nE C W cf a)) (ha : PA X xs (nL C W cf es)) (hst : xs.all noStar = true) (hnil : xs = [] → es = .nil) : PE X (.Call (.Attribute y m apos) xs [] cpos) (nE C W cf (.mc a m ms es)) := by
  refine ⟨fun pins s σ H Q I h => PySem.W.methodCall_KW (thn (hy.run pins s σ H _ I (mc_rdN h)) fun u s1 ⟨x, H1, I1, rx, ad, dx, c, f, vs, ex, hH, el, q⟩ => ?_) (mth_form hb hl hn hst)⟩
  subst ex
  obtain rfl : u = Value.ref ad := rx
  obtain ⟨m0, cd, fn, hc, hf, he, hfs, ho⟩ := mth_of hm el
  obtain ⟨fd, A⟩ := G.fns f fn hf
  have F := G.cls c cd hc
  have mt : Meth X.K (C.ca c) m (C.fa f) := by rw [G.K]; exact A.mt c m ho
  have go : ∀ {us : List Value} {s2 : Shared} {ws : List V} {H2 : Hp}, L2.Inv X pins σ H2 s2 → Vals ws us → Wd C (at_ W σ) cf.F f (.ref ad :: ws) H2 Q → wpAny (model X.prog X.w) X.A (call (.ref (C.fa f)) (.ref ad :: us)) (EP X pins σ Q) X.xe s2 := fun {us s2 ws H2} I2 r w => by
    have both : Vals (V.ref ad :: ws) (Value.ref ad :: us) := .cons rfl r
    exact go_fnG (us := .ref ad :: us) (kw := []) (by rw [G.K]; exact A.ok) G.gd G.room (fun e s' x => G.px _ _ _ _ e s' I2 x) I2 both (A.bd (fun z => by rw [ho] at z; cases z) s2 _ (by rw [← G.K]; exact I2.kIn) (both.length.symm.trans (A.len w))) w
  refine getmeth_ok I1 hH (by rw [G.K]; exact F.cl he) mt (F.hides m0 hfs vs) ?_
  cases xs with
  | nil =>
    cases hnil rfl
    exact PySem.W.callWith_K0 (K := X.K) (first := [.ref ad]) I1.kIn mt.kp (go I1 .nil (lnil_rd q))
  | cons x xs =>
    rw [List.all_cons, Bool.and_eq_true] at hst
    exact PySem.W.callWith_K (K := X.K) (first := [.ref ad]) (h₀ := X.base) I1.ok.mod.kin mt.kp (thn (ha.run cpos pins s1 σ H1 _ I1 q) fun us s2 ⟨ws, H2, I2, r, w⟩ => ⟨I2.kIn, go I2 r w⟩) (star_of hst.1) (any_of hst.2)
theorem pe_fldI (G : GX C CX TB k cf N W X) {c j : Nat} {cd : CD} (hc : TB.cl[c]? = some cd) (he : cd.exc = false) {n : Str} (hj : cd.fs[j]? = some n) {y : Expr} {pos : Pos} (hb : baseOk y = true) (ha : PE X y (nE C W cf a)) : PE X (.Attribute y n pos) (nE C W cf (.fld a c j)) := by
  have F := G.cls c cd hc
  refine PE.imp (pe_fld ha (base_of hb)) fun σ H Q q => ?_
  obtain ⟨bs, b, μ, ρ, M0, z, p0⟩ := fld_rd q
  refine ⟨bs, b, μ, ρ, M0, z, p0.imp fun d μ' M' H' l R p1 v r => ?_⟩
  obtain ⟨ad, dx, vs, w, rfl, hH, hl, q⟩ := p1 v r
  rw [F.fl j n hj] at hl
  rw [G.K]
  exact ⟨ad, _, dx, _, w, rfl, hH, F.cl he, F.no he n (List.mem_of_getElem? hj), hl, q⟩
/-- the names up to a field's differ -/
theorem ClF.nodup {P : Program} {w : World} {mg : Str → Option Value} {base : Heap} {c j : Nat} {cd : CD} (F : ClF C P w mg base TB c cd) (he : cd.exc = false) {n : Str} (hj : cd.fs[j]? = some n) : (fnames C c (j + 1)).Nodup := by
  have hl := (List.getElem?_eq_some_iff.mp hj).1
  have e : fnames C c (j + 1) = cd.fs.take (j + 1) := List.ext_getElem? fun i => by
    by_cases hi : i < j + 1
    · rw [fnames_at hi, List.getElem?_take_of_lt hi, List.getElem?_eq_getElem (show i < cd.fs.length by omega)]
      exact congrArg some (F.fl i _ (List.getElem?_eq_getElem (by omega)))
    · rw [List.getElem?_eq_none (by rw [fnames_len]; omega), List.getElem?_eq_none (by rw [List.length_take]; omega)]
  rw [e]
  exact (F.ndp he).sublist (List.take_sublist _ _)
/-- y.n as a target -/
theorem pg_fldG (G : GX C CX TB k cf N W X) {c j : Nat} {cd : CD} (hc : TB.cl[c]? = some cd) (he : cd.exc = false) {n : Str} (hj : cd.fs[j]? = some n) {y : Expr} {o : E} {pos : Pos} (hy : PE X y (nE C W cf o)) : PG X (.Attribute y n pos) (tG C cf (.fld o c j)) := by
  have F := G.cls c cd hc
  refine ⟨fun pins s σ H v u Q I r h => ?_⟩
  refine wpAny_bind (wpAny_holding (thn (hy.run pins s σ H _ I (gfld_rd (W := at_ W σ) (F.nodup he hj) h)) fun ov s1 ⟨x, H1, I1, rx, ad, dx, vs, ex, hH, h9, q⟩ => wpAny_bind (wpAny_standAt (wpAny_bind (wpAny_holding ?_)))))
  subst ex
  obtain rfl : ov = Value.ref ad := rx
  rw [F.fl j n hj] at q
  exact setattr_ok I1 hH (by rw [G.K]; exact F.cl he) (by rw [G.K]; exact F.no he n (List.mem_of_getElem? hj)) (by rw [fz_len]; omega) r fun s3 I3 => wpAny_release ⟨σ, _, I3, q⟩

/-! ### dicts -/
theorem pe_getI (G : GX C CX TB k cf N W X) {y z : Expr} {apos cpos : Pos} (hb : baseOk y = true) (hl : (apos.endLine == cpos.line) = true) (hz : noStar z = true) (ha : PE X y (nE C W cf a)) (ha' : PE X z (nE C W cf a')) :
    PE X (.Call (.Attribute y "get" apos) [z] [] cpos) (nE C W cf (.get a a')) := by
  have st : ([z] : List Expr).all noStar = true := by rw [List.all_cons, hz]; rfl
  refine PE.imp (pe_dget1 (by have := G.un; omega) ha ha' ⟨base_of hb, ?_, hl, by rw [star_of hz]; rfl⟩) fun σ H Q q => get_rd q
  exact all_few st (by rfl)
theorem pe_dctI (G : GX C CX TB k cf N W X) (hs : X.env.scope = sc) {n : Str} {p pos : Pos} {y : Expr} (hb : bltX sc "dict" n = true) (hy : noStar y = true) (ha : PE X y (nE C W cf a)) : PE X (.Call (.Name n p) [y] [] pos) (nE C W cf (.dct a)) := by
  obtain ⟨rfl, hg, hm⟩ := blt_of G hs (by decide) hb
  have bt : bootBuiltins (Str.ofString "dict") = some (.type "dict") := by decide +kernel
  refine PE.imp (pe_callTy (call_rDct G.K G.calm) hg hm bt (pa_cons ha pa_nil (star_of hy)) (by decide) (by decide) (star_of hy) (by rfl)) fun σ H Q q => ?_
  exact dct_rd q
def trsN (C : Cn) (W : WX) (cf : Cf) : List (List Nat) → EL → List (TE × TE)
  | k :: ks, .cons e es => (tC (.str (toS k)), nE C W cf e) :: trsN C W cf ks es
  | _, _ => []
theorem trs_go : ∀ {ks : List (List Nat)} {es : EL} {H : Hp} {Q : List (V × V) → Hp → Prop}, tPairs (trsOf C (at_ W σ) cf ks es) σ H Q → tPairs (trsN C W cf ks es) σ H Q
  | [], es, H, Q, h => by
    unfold trsOf at h
    unfold trsN
    exact h
  | k :: ks, .nil, H, Q, h => by
    unfold trsOf at h
    unfold trsN
    exact h
  | k :: ks, .cons e es, H, Q, h => by
    unfold trsOf at h
    unfold trsN
    obtain ⟨bs, b, μ, ρ, M, z, p⟩ := (h : tE C (at_ W σ) cf e σ H _)
    exact (⟨bs, b, μ, ρ, M, z, p.imp fun d μ' M' H' l R q v r => trs_go (q v r)⟩ : tE C (at_ W σ) cf e σ H _)
theorem pe_ggetI (G : GX C CX TB k cf N W X) (hs : X.env.scope = sc) {g : Nat} {m : Str} {kvs : List (List Nat × Int)} (hd : TB.gd[g]? = some (m, kvs)) (ok : okN m = true) (hg : glN sc m = true) {z : Expr} {p apos cpos : Pos} (hl : (apos.endLine == cpos.line) = true) (hz : noStar z = true)
    (ha : PE X z (nE C W cf a)) : PE X (.Call (.Attribute (.Name m p) "get" apos) [z] [] cpos) (nE C W cf (.gget g kvs a)) := by
  obtain ⟨d, es, n, hm, D, val⟩ := G.dic g m kvs hd
  have st : ([z] : List Expr).all noStar = true := by rw [List.all_cons, hz]; rfl
  refine ⟨fun pins s σ H Q I h => ?_⟩
  have D' : KDict X.K X.w d es n := by rw [G.K]; exact D
  have hmap := PySem.W.mapOf_K (prog := X.prog) I.kIn D'.at_ D'.lit
  refine wpAny_Call_method (base_of (by rfl)) (all_few st (by rfl)) hl PySem.F.plainAttrs_dict PySem.F.slot_dict_get PySem.F.type_dict_get (ld_glob I (gl_of hs hg) hm ?_ (okn_of ok).1)
  refine ⟨hmap.typeIs, fun b e => (by cases e; exact ⟨_, I.kIn _ _ D'.at_, rfl⟩), ?_⟩
  rw [show backTo cpos (starEach [z] X.env) = [(false, eval z X.env)] by rw [star_of hz]; rfl]
  refine Calls.callWith_builtin rfl (Calls.evalArgs_plain (Calls.spliced_cons (thn (ha.run pins s σ H _ I (gget_rd h)) fun iv s2 ⟨y, H2, I2, ry, t, i, ey, el, q⟩ => Calls.spliced_nil ?_)))
  subst ey
  obtain ⟨tk, rfl⟩ := ry
  obtain ⟨tk2, en⟩ := val t i el
  have hmap2 := PySem.W.mapOf_K (prog := X.prog) I2.kIn D'.at_ D'.lit
  refine PySem.call_meetsIn PySem.F.slot_dict_get hmap2.typeIs PySem.F.entry_dict_get (PySem.F.args_dict_get_2 _ _) (PySem.meets_dict_get (PySem.strKind X.prog X.w) d (PySem.strKind_is X.prog X.w (toS t) tk) D'.low) ⟨_, hmap2, ?_⟩
  rw [PySem.W.find_K D'.at_ (by rw [G.K]; exact en)]
  exact ⟨.int i, H2, I2.tok _, ⟨_, rfl⟩, q⟩
end Ev
end

section
/-! EvXi: exceptions over ValueError whose __init__ lays its parameters into fields. -/
namespace Ev
open PySem PySem.Spec PyProof.Rows L2
variable {C : Cn} {μ μ' μ1 : List Addr} {H H' H1 : Hp} {M M' M1 : Sto} {bs : List Nat} {v : V} {X : Cx} {W : WX} {b : Nat} {ρ : Enn} {σ : L2.St} {cf : Cf} {CX : CXT} {TB : Tb} {k : Nat} {N : List Str} {sc : Scope} {es : EL} {a a' : E} {D : Ends}

/-! ### what is looked up -/
/-- the class's __init__ is ValueError's -/
def veiB (K : PySem.W.Frag) (B : Addr) : Bool := decide (PySem.W.specialIn K (.ref B) "__getattribute__" = some (some (.builtin "type.__getattribute__"))) && (decide (PySem.W.typeIn K (.ref B) = some (.type "type")) && (PySem.W.readsIn K B (.type "type") &&
  (match PySem.W.findCls K (.ref B) (.type "type") "__init__" with
    | some (.val u) => decide (u = .builtin "ValueError.__init__")
    | _ => false)))
theorem veiB_ok {K : PySem.W.Frag} {B : Addr} (h : veiB K B = true) : PySem.W.specialIn K (.ref B) "__getattribute__" = some (some (.builtin "type.__getattribute__")) ∧ PySem.W.typeIn K (.ref B) = some (.type "type") ∧ PySem.W.readsIn K B (.type "type") = true ∧
    PySem.W.findCls K (.ref B) (.type "type") "__init__" = some (.val (.builtin "ValueError.__init__")) := by
  unfold veiB at h
  rw [Bool.and_eq_true, Bool.and_eq_true, Bool.and_eq_true, decide_eq_true_eq, decide_eq_true_eq] at h
  obtain ⟨h1, h2, h3, h4⟩ := h
  refine ⟨h1, h2, h3, ?_⟩
  split at h4
  · rename_i u e
    rw [e, of_decide_eq_true h4]
  · cases h4
/-- the class: made as ValueError makes its own -/
def oexB (K : PySem.W.Frag) (Ca : Addr) : Bool := (match K.lookup Ca with
    | some ⟨.type T, _, .cls cd, sl⟩ => decide (T = "type") && (decide (cd.hasDel = false) && (cd.hasDict && (match cd.mro with
      | .ref C' :: bm => decide (C' = Ca) && PySem.HandSPX.refsVE bm
      | _ => false))) && (match sl.toList with
      | [_, _, _, _, some (.builtin n), _] => decide (n = "ValueError.__new__")
      | _ => false)
    | _ => false) && (decide (PySem.W.findIn K (.ref Ca) "__setattr__" = some (some (.builtin "object.__setattr__"))) && (decide (PySem.W.subIn K (.ref Ca) (.type "BaseException") = some true) && (decide (PySem.W.typeIn K (.ref Ca) = some (.type "type")) && PySem.W.keepIn K (.ref Ca))))
theorem oexB_ok {K : PySem.W.Frag} {Ca : Addr} (h : oexB K Ca = true) : OexC K Ca := by
  unfold oexB at h
  rw [Bool.and_eq_true, Bool.and_eq_true, Bool.and_eq_true, Bool.and_eq_true, decide_eq_true_eq, decide_eq_true_eq, decide_eq_true_eq] at h
  obtain ⟨h0, h1, h2, h3, h4⟩ := h
  refine ⟨?_, h1, h2, h3, h4⟩
  split at h0
  · rename_i T dd cd sl e
    rw [Bool.and_eq_true, Bool.and_eq_true, Bool.and_eq_true, Bool.and_eq_true, decide_eq_true_eq, decide_eq_true_eq] at h0
    obtain ⟨⟨g1, g2, g3, g4⟩, g5⟩ := h0
    subst g1
    obtain ⟨sl⟩ := sl
    split at g5
    · rename_i k0 k1 k2 k3 n k5 es
      obtain rfl : sl = [k0, k1, k2, k3, some (.builtin n), k5] := es
      rw [of_decide_eq_true g5] at e
      obtain ⟨nm, bs, mro, ns, qn, hd, sn, sub, ab, col, dl⟩ := cd
      dsimp only at g2 g3 g4
      subst g2 g3
      split at g4
      · rename_i C' bm
        rw [Bool.and_eq_true, decide_eq_true_eq] at g4
        obtain ⟨rfl, g4⟩ := g4
        exact ⟨nm, qn, ns, bs, bm, sn, sub, ab, col, dd, k0, k1, k2, k3, k5, e, g4⟩
      · cases g4
    · cases g5
  · cases h0

/-! ### the raise -/
theorem raiC_rd {c : Nat} {fs : List Str} (h : tS C W cf (.raiC c es) D σ H) (hn : elen es = fs.length) (hne : fs ≠ []) (hl : fs.length ≤ 900) (hf : ∀ (j : Nat) (f : Str), fs[j]? = some f → C.nm c j = f) :
    tMkO (C.ca c) (spX (C.ca c) fs) [] (nL C W cf es) σ H (fun cls d H' => W cls d σ H') := by
  obtain ⟨bs, b, μ, ρ, M, z, p⟩ := h
  unfold evS at p
  refine ⟨bs, b, μ, ρ, M, z, ?_⟩
  cases e : evL cf b es ρ M with
  | no => rw [e] at p; exact p
  | ex x M' => rw [e] at p; exact (show False from p).elim
  | ok ds M' =>
    rw [e] at p
    intro μ' H' l R vs r
    have hd : ds.length = fs.length := (evL_len e).trans hn
    have hv : vs.length = fs.length := r.length.symm.trans hd
    refine ⟨by omega, fun a ha => ⟨a, vs, by rw [List.append_nil], hv, upd_same, fun dx gs hdx nd hg => ⟨rfl, dx, gs, upd_same, ?_, ?_, ?_⟩⟩⟩
    · rw [upd_ne nd, upd_same]
    · rw [← hdx, upd_ne nd]
    · have fresh : H' dx = none := by rw [← hdx, upd_ne nd]
      have eH : upd (L2.del (upd (upd (upd H' a (exo a (C.ca c) none)) dx (exd dx gs)) a (exo a (C.ca c) (some dx))) a) dx (.xd gs) = upd H' dx (.xd gs) := by
        funext x
        by_cases h1 : x = dx
        · rw [h1, upd_same, upd_same]
        · rw [upd_ne h1, upd_ne h1]
          by_cases h2 : x = a
          · rw [h2, del_same, ha]
          · rw [del_ne h2, upd_ne h2, upd_ne h1, upd_ne h2]
      rw [eH]
      have st : Stay H' (upd H' dx (.xd gs)) := .new fresh
      refine p μ' _ σ _ _ (l.trans (.new fresh)) ((z.le l R).le (.new fresh) (R.new fresh)) ⟨rfl, .inr ⟨fun q => hne ?_, dx, gs, vs, rfl, upd_same, r.mono (List.prefix_refl _) st, fun j w ew => ?_⟩⟩
      · rw [show ds = [] from q] at hd
        exact List.eq_nil_of_length_eq_zero hd.symm
      · have lt := (List.getElem?_eq_some_iff.mp ew).1
        have ef : fs[j]? = some (fs[j]'(by omega)) := List.getElem?_eq_getElem (by omega)
        show gs.lookup (C.nm c j) = some w
        rw [hf j _ ef]
        exact hg j _ w ef ew
theorem pst_raiC (G : GX C CX TB k cf N W X) (hs : X.env.scope = sc) {c : Nat} {cd : CD} (hc : TB.cl[c]? = some cd) (hx : TB.xi.any (fun z => z.1 == c) = true) (hn : elen es = cd.fs.length) (hl : cd.fs.length ≤ 900) (ok : okN cd.name = true) (hg : glN sc cd.name = true)
    {p pos pos' : Pos} {x : Expr} {xs : List Expr} (ha : PA X (x :: xs) (nL C W cf es)) (hst : (x :: xs).all noStar = true) : PS X (.Raise (some (.Call (.Name cd.name p) (x :: xs) [] pos)) none pos') (tS C W cf (.raiC c es)) := by
  have F := G.cls c cd hc
  obtain ⟨he, hne, T, fI, fd, ps, f1, f2, f3, f4⟩ := F.xin hx
  rw [← G.K] at T f1 f2 f4
  rw [List.all_cons, Bool.and_eq_true] at hst
  have f3' := f3 CX
  rw [← G.K] at f3'
  exact PS.imp (ps_raise G.calm G.tk (pmk_oex T f1 f2 f3' G.r3 f4 .nil (fun _ _ _ _ _ _ _ q => (G.px0 _ _ _ _ _ q).elim) (gl_of hs hg) F.nm ha (okn_of ok).1 (star_of hst.1) (any_of hst.2))) fun D σ H q => raiC_rd q hn hne hl F.fl

/-! ### the __init__ -/
/-- B.__init__(self, ..), B's being ValueError's -/
theorem pe_minit {m : Str} {B : Addr} (hg : Gl X m) (hm : X.mg m = some (.ref B)) (hv : veiB X.K B = true) (hd : (m == ("__debug__" : Str)) = false) {x : Expr} {xs : List Expr} {ta : TA} {p1 apos cpos : Pos} (ha : PA X (x :: xs) ta) (hl : (apos.endLine == cpos.line) = true)
    (hn : Nat.blt (x :: xs).length 30 = true) (hst : (x :: xs).all noStar = true) : PE X (.Call (.Attribute (.Name m p1) "__init__" apos) (x :: xs) [] cpos) (tVeI X.K ta) := by
  obtain ⟨v1, v2, v3, v4⟩ := veiB_ok hv
  refine ⟨fun pins s σ H Q I h => PySem.W.methodCall_KW (ld_glob I hg hm ?_ hd) (mth_form rfl hl hn hst)⟩
  obtain ⟨m', fr⟩ := I.fr
  have hst' := hst
  rw [List.all_cons, Bool.and_eq_true] at hst'
  refine PySem.W.method_of_cls fr I.ok.mod.kin v1 (PySem.W.cls_val fr I.ok.mod.kin v2 v3 v4 (by decide +kernel) (PyProof.Rows.callWith_method1 (thn (ha.run cpos pins _ σ H _ (I.tok _) h) fun us s1 ⟨vs, H1, I1, r1, z⟩ => ?_) (star_of hst'.1) (any_of hst'.2)))
  obtain ⟨a, Ca, ws, rfl, hw, T, ea, q⟩ := z
  match us, r1 with
  | u0 :: ur, .cons ra rw' =>
    obtain rfl : u0 = Value.ref a := ra
    exact oinit_ok T I1 ea (by rw [← rw'.length, sizeLine_eq]; omega) fun s' J => ⟨.non, H1, J, rfl, q⟩

def layAll : List (Str × V) → List Str → List V → List (Str × V)
  | gs, f :: fs, w :: ws => layAll ((f, w) :: gs) fs ws
  | gs, _, _ => gs
theorem layAll_other {f : Str} : ∀ {fs : List Str} {ws : List V} {gs : List (Str × V)}, f ∉ fs → (layAll gs fs ws).lookup f = gs.lookup f
  | [], _, _, _ => by unfold layAll; rfl
  | g :: fs, [], _, _ => by unfold layAll; rfl
  | g :: fs, w :: ws, gs, h => by
    rw [List.mem_cons, not_or] at h
    unfold layAll
    rw [layAll_other h.2, List.lookup_cons, show (f == g) = false from beq_eq_false_iff_ne.mpr h.1]
theorem layAll_at : ∀ {fs : List Str} {ws : List V} {gs : List (Str × V)} {j : Nat} {f : Str} {w : V}, fs.Nodup → fs[j]? = some f → ws[j]? = some w → (layAll gs fs ws).lookup f = some w
  | [], _, _, _, _, _, _, e, _ => by simp at e
  | g :: fs, [], _, _, _, _, _, _, e => by simp at e
  | g :: fs, w :: ws, gs, 0, f, w', h, e1, e2 => by
    simp at e1 e2
    subst e1 e2
    rw [List.nodup_cons] at h
    unfold layAll
    rw [layAll_other h.1, List.lookup_cons, beq_self_eq_true]
  | g :: fs, w :: ws, gs, j + 1, f, w', h, e1, e2 => by
    rw [List.nodup_cons] at h
    unfold layAll
    exact layAll_at h.2 (by simpa using e1) (by simpa using e2)
/-- the body lays one parameter behind another -/
def chkIn (N : List Str) (sc : Scope) : Nat → List Str → List Stmt → Bool
  | _, [], [] => true
  | i, f :: fs, .Assign [.Attribute (.Name s _) g _] (.Name p _) _ :: xs => decide (g = f) && decide (N[0]? = some s) && decide (N[i]? = some p) && okN s && okN p && visN sc s && visN sc p && chkIn N sc (i + 1) fs xs
  | _, _, _ => false
theorem chkIn_cons {N : List Str} {sc : Scope} {i : Nat} {f : Str} {fs : List Str} {xs : List Stmt} (h : chkIn N sc i (f :: fs) xs = true) : ∃ s q1 q2 p q3 q4 xs', xs = .Assign [.Attribute (.Name s q1) f q2] (.Name p q3) q4 :: xs' ∧
    N[0]? = some s ∧ N[i]? = some p ∧ okN s = true ∧ okN p = true ∧ visN sc s = true ∧ visN sc p = true ∧ chkIn N sc (i + 1) fs xs' = true := by
  unfold chkIn at h
  split at h
  · exact absurd ‹f :: fs = []› (by simp)
  · rename_i e
    obtain ⟨rfl, rfl⟩ := List.cons.inj e
    simp only [Bool.and_eq_true, decide_eq_true_eq] at h
    obtain ⟨⟨⟨⟨⟨⟨⟨rfl, h2⟩, h3⟩, h4⟩, h5⟩, h6⟩, h7⟩, h8⟩ := h
    exact ⟨_, _, _, _, _, _, _, rfl, h2, h3, h4, h5, h6, h7, h8⟩
  · cases h
/-- the fields that are left, the exception having its dict -/
def tOld (K : PySem.W.Frag) (i : Nat) (fs : List Str) : TS := fun D σ H => ∃ (a Ca dx : Addr) (gs : List (Str × V)) (ws : List V), σ[0]? = some (some (.ref a)) ∧ OexC K Ca ∧ (∀ f ∈ fs, PySem.W.findIn K (.ref Ca) f = some none) ∧ ws.length = fs.length ∧
  (∀ (j : Nat) (w : V), ws[j]? = some w → σ[i + j]? = some (some w)) ∧ H a = some (exo a Ca (some dx)) ∧ H dx = some (exd dx gs) ∧ dx ≠ a ∧ gs.length + fs.length ≤ 900 ∧ D.nx σ (upd H dx (exd dx (layAll gs fs ws)))
theorem upd_id {H : Hp} {x : Addr} {o : HO} (h : H x = some o) : upd H x o = H := by
  funext y
  unfold upd
  split
  · rename_i e; rw [e, h]
  · rfl
theorem old_go (hs : X.env.scope = sc) : ∀ (fs : List Str) (i : Nat) (xs : List Stmt), chkIn X.N sc i fs xs = true → PSs X xs (tOld X.K i fs)
  | [], i, [], _ => PSs.imp pss_nil fun D σ H q => by
    obtain ⟨a, Ca, dx, gs, ws, _, _, _, _, _, _, ed, _, _, q⟩ := q
    have e : layAll gs [] ws = gs := by unfold layAll; rfl
    rw [e, upd_id ed] at q
    exact q
  | [], i, _ :: _, h => by unfold chkIn at h; cases h
  | f :: fs, i, xs, h => by
    obtain ⟨s, q1, q2, p, q3, q4, xs', rfl, h2, h3, h4, h5, h6, h7, h8⟩ := chkIn_cons h
    obtain ⟨k1, k2, _⟩ := okn_of h4
    obtain ⟨k3, k4, _⟩ := okn_of h5
    refine PSs.imp (pss_cons (ps_ost (pe_var h2 (by rw [hs]; exact blkn_of h6) k1 k2) (pe_var h3 (by rw [hs]; exact blkn_of h7) k3 k4) (swaps_of rfl)) (old_go hs fs (i + 1) _ h8)) fun D σ H q => ?_
    obtain ⟨a, Ca, dx, gs, ws, e0, T, hn, hw, hv, ea, ed, nd, hl, q⟩ := q
    cases ws with
    | nil => cases hw
    | cons w ws =>
      rw [List.length_cons] at hl
      refine ⟨w, hv 0 w rfl, .ref a, e0, a, Ca, rfl, T, hn _ List.mem_cons_self, .inr ⟨dx, gs, ea, ed, by omega, ?_⟩⟩
      refine ⟨a, Ca, dx, (f, w) :: gs, ws, e0, T, fun g hg => hn g (List.mem_cons_of_mem _ hg), Nat.succ.inj hw, fun j w' e => ?_, ?_, upd_same, nd, ?_, ?_⟩
      · rw [show i + 1 + j = i + (j + 1) by omega]
        exact hv (j + 1) w' (by simpa using e)
      · rw [upd_ne (Ne.symm nd)]
        exact ea
      · rw [List.length_cons]; omega
      · rw [upd_upd]
        exact q
/-- an __init__ of that form -/
def chkX (N : List Str) (sc : Scope) (m : Str) (fs : List Str) : List Stmt → Bool
  | .Expr (.Call (.Attribute (.Name m' _) i apos) [.Name s _, .Constant (.str _) _ _] [] cpos) _ :: xs => decide (m' = m) && decide (i = "__init__") && okN m && glN sc m && decide (N[0]? = some s) && okN s && visN sc s && (apos.endLine == cpos.line) && chkIn N sc 1 fs xs
  | _ => false
def tXi (K : PySem.W.Frag) (fs : List Str) : TS := fun D σ H => ∃ (a Ca : Addr) (ws : List V), σ[0]? = some (some (.ref a)) ∧ OexC K Ca ∧ (∀ f ∈ fs, PySem.W.findIn K (.ref Ca) f = some none) ∧ ws.length = fs.length ∧ fs.length ≤ 900 ∧
  (∀ (j : Nat) (w : V), ws[j]? = some w → σ[1 + j]? = some (some w)) ∧ H a = some (exo a Ca none) ∧ ∀ dx, H dx = none → dx ≠ a → D.nx σ (upd (upd H dx (exd dx (layAll [] fs ws))) a (exo a Ca (some dx)))
theorem xi_go (hs : X.env.scope = sc) {m : Str} {B : Addr} (hm : X.mg m = some (.ref B)) (hv : veiB X.K B = true) {fs : List Str} (hne : fs ≠ []) {xs : List Stmt} (h : chkX X.N sc m fs xs = true) : PSs X xs (tXi X.K fs) := by
  unfold chkX at h
  split at h
  · rename_i m' p1 i apos s p2 t j p3 cpos p4 xs
    simp only [Bool.and_eq_true, decide_eq_true_eq] at h
    obtain ⟨⟨⟨⟨⟨⟨⟨⟨rfl, rfl⟩, h3⟩, h4⟩, h5⟩, h6⟩, h7⟩, h8⟩, h9⟩ := h
    obtain ⟨k1, k2, _⟩ := okn_of h6
    have ha : PA X [.Name s p2, .Constant (.str t) j p3] (tCons (tVar 0) (tCons (tC (.str t)) tNil)) := pa_cons (pe_var h5 (by rw [hs]; exact blkn_of h7) k1 k2) (pa_cons pe_str pa_nil (star_of rfl)) (star_of rfl)
    have ini := pe_minit (gl_of hs h4) hm hv (okn_of h3).1 (p1 := p1) ha h8 rfl rfl
    cases fs with
    | nil => exact absurd rfl hne
    | cons f fs =>
      obtain ⟨s', q1, q2, p, q3, q4, xs', rfl, g2, g3, g4, g5, g6, g7, g8⟩ := chkIn_cons h9
      obtain ⟨k3, k4, _⟩ := okn_of g4
      obtain ⟨k5, k6, _⟩ := okn_of g5
      refine PSs.imp (pss_cons (ps_expr ini (swaps_of rfl)) (pss_cons (ps_ost (pe_var g2 (by rw [hs]; exact blkn_of g6) k3 k4) (pe_var g3 (by rw [hs]; exact blkn_of g7) k5 k6) (swaps_of rfl)) (old_go hs fs 2 _ g8))) fun D σ H q => ?_
      obtain ⟨a, Ca, ws, e0, T, hn, hw, hl, hv', ea, q⟩ := q
      cases ws with
      | nil => cases hw
      | cons w ws =>
        refine ⟨.ref a, e0, a, Ca, [.str t], rfl, by simp, T, ea, w, hv' 0 w rfl, .ref a, e0, a, Ca, rfl, T, hn _ List.mem_cons_self, .inl ⟨ea, fun dx hdx nd => ?_⟩⟩
        refine ⟨a, Ca, dx, [(f, w)], ws, e0, T, fun g hg => hn g (List.mem_cons_of_mem _ hg), Nat.succ.inj hw, fun j w' e => ?_, upd_same, ?_, nd, ?_, ?_⟩
        · rw [show 2 + j = 1 + (j + 1) by omega]
          exact hv' (j + 1) w' (by simpa using e)
        · rw [upd_ne nd, upd_same]
        · rw [List.length_cons] at hl
          simp
          omega
        · have z := q dx hdx nd
          have e : upd (upd (upd H dx (exd dx [(f, w)])) a (exo a Ca (some dx))) dx (exd dx (layAll [(f, w)] fs ws)) = upd (upd H dx (exd dx (layAll [] (f :: fs) (w :: ws)))) a (exo a Ca (some dx)) := by
            funext x
            by_cases h1 : x = dx
            · rw [h1, upd_same, upd_ne nd, upd_same]
              rfl
            · by_cases h2 : x = a
              · rw [upd_ne h1, h2, upd_same, upd_same]
              · rw [upd_ne h1, upd_ne h2, upd_ne h1, upd_ne h2, upd_ne h1]
          rw [e]
          exact z
  · cases h
/-- the def keeps its word -/
theorem xinit_ok {P : Program} {w : World} {K : PySem.W.Frag} {mg : Str → Option Value} {base : Heap} {Ca B fI : Addr} {fs : List Str} {m nm qn : Str} {pm : Arguments} {body : List Stmt} {fd : FuncData} {N : List Str} (T : oexB K Ca = true) (hm : mg m = some (.ref B)) (hv : veiB K B = true) (hne : fs ≠ [])
    (hl : fs.length ≤ 900) (nd : fs.Nodup) (hN : N.length = fs.length + 1) (hn : ∀ f ∈ fs, PySem.W.findIn K (.ref Ca) f = some none) (M : Meth K Ca "__init__" fI) (F : FunD K nm qn pm body sc [] [] fI fd) (S : C8.scC N N sc = true) (h : chkX N sc m fs body = true)
    (hbd : ∀ (kV doc pm' : Value) (an : Option Addr) (cdv ct : Value) (us : List Value), us.length = N.length → bindArgs (PySem.W.fnOf nm qn pm body sc .none kV doc pm' an cdv ct) ⟨us, []⟩ = pure (N.zip us)) : XInit K P w mg base Ca fs := by
  refine ⟨oexB_ok T, fI, fd, N, M.at_, beq_iff_eq.mp M.fn, fun CX => F.ok (C8.fnScope_by S) (fun vs H Q E q => ?_) fun cdv A outer s H vs Q E rm q => ?_, F.bindsN hbd⟩
  · obtain ⟨a, ws, rfl, hw, _⟩ := q
    rw [List.length_cons, hw, hN]
  · obtain ⟨a, ws, rfl, hw, ea, q⟩ := q
    refine ⟨_, xi_go (X := cxOf CX P w K mg base N qn sc fI cdv A outer s H E) rfl hm hv hne h, a, Ca, ws, rfl, oexB_ok T, hn, hw, hl, fun j v ev => ?_, ea, fun dx hdx nx => q dx _ hdx nx fun j f v ef ev => layAll_at nd ef ev⟩
    have hj := (List.getElem?_eq_some_iff.mp ev).1
    unfold L2.start
    rw [List.getElem?_append_left (by simp; omega), List.getElem?_map, show 1 + j = j + 1 by omega, List.getElem?_cons_succ, ev]
    rfl
end Ev
end

section
/-! EvSnd: what the evaluator says of an expression is so. -/
namespace Ev
open PySem PySem.Spec PyProof.Rows L2
variable {C : Cn} {cf : Cf} {CX : CXT} {TB : Tb} {k : Nat} {N : List Str}

/-- iter(e) for what loops walk -/
theorem pi_seq {X : Cx} {W : WX} {tg x : Expr} {a : E} (hK : X.K = C.K) (ha : PE X x (nE C W cf a)) : PI X tg x (nI C W cf (.seq a)) := by
  refine ⟨fun pins s σ H R I h => ?_⟩
  obtain ⟨bs, b, μ, ρ, M, z, p⟩ := h
  unfold evI at p
  have h2 : nE C W cf a σ H fun v H1 => ∃ bs μ M d sr, Rep C bs μ M H1 ∧ srcOf M d = some sr ∧ RelD C μ H1 d v ∧ ∀ J, SrcJ C μ H1 sr J → R J H1 :=
    E_then z p fun d v μ1 M1 H1 l a1 r p1 => by
      obtain ⟨sr, e, p2⟩ := O_fin p1
      exact ⟨bs, μ1, M1, d, sr, a1.R, e, r, fun J hJ => Post.here p2 a1.R J hJ⟩
  refine thn (ha.run pins s σ H _ I h2) fun u s1 ⟨v, H1, I1, rv, bs', μ', M', d, sr, R', e, r, q⟩ => iter_seq hK R' e r I1 rv q
theorem two_int {ds : List D} {lo : Int} {n : Nat} (h : rngOf ds = some (.rng lo n)) : (∃ j, ds = [.int j] ∧ big j = true ∧ lo = 0 ∧ n = j.toNat) ∨ ∃ i j, ds = [.int i, .int j] ∧ big i = true ∧ big j = true ∧ lo = i ∧ n = (j - i).toNat := by
  unfold rngOf at h
  split at h
  · rename_i j
    split at h
    · cases h; exact .inl ⟨_, rfl, by assumption, rfl, rfl⟩
    · cases h
  · rename_i i j
    split at h
    · rename_i hc
      rw [Bool.and_eq_true] at hc
      cases h
      exact .inr ⟨_, _, rfl, hc.1, hc.2, rfl, rfl⟩
    · cases h
  · cases h
theorem rng_shape {ds : List D} {s : Src} (h : rngOf ds = some s) : ∃ lo n, s = .rng lo n := by
  unfold rngOf at h
  split at h
  · split at h
    · cases h; exact ⟨_, _, rfl⟩
    · cases h
  · split at h
    · cases h; exact ⟨_, _, rfl⟩
    · cases h
  · cases h
theorem big_ok {i : Int} (h : big i = true) : -(2 ^ 62) ≤ i ∧ i < 2 ^ 62 := by
  unfold big at h
  rw [Bool.and_eq_true, decide_eq_true_eq, decide_eq_true_eq] at h
  omega
theorem rng1_rd {W : WX} {es : EL} {σ : L2.St} {H : Hp} {R : It → Hp → Prop} (h : nI C W cf (.rng es) σ H R) (hl : elen es = 1) : iRng1 (nL C W cf es) σ H R := by
  obtain ⟨bs, b, μ, ρ, M, z, p⟩ := h
  unfold evI at p
  have h2 := tL_len (L_then z p fun d v μ1 M1 H1 l a1 r p1 => (by
    obtain ⟨s, e, p2⟩ := O_fin p1
    exact ⟨d, s, r.length, e, ⟨μ1, r⟩, fun J hJ => Post.here p2 a1.R J (hJ μ1)⟩ : ∃ d s, d.length = v.length ∧ rngOf d = some s ∧ (∃ μ1, RelDs C μ1 H1 d v) ∧ ∀ J, (∀ μ1, SrcJ C μ1 H1 s J) → R J H1))
  obtain ⟨bs, b, μ, ρ, M, z, p⟩ := h2
  refine ⟨bs, b, μ, ρ, M, z, p.imp fun ds μ' M' H' l R p v r => ?_⟩
  obtain ⟨hv, d, s, hd, e, ⟨μ1, r1⟩, q⟩ := p v r
  obtain ⟨lo, n, rfl⟩ := rng_shape e
  rcases two_int e with ⟨j, rfl, hb, rfl, rfl⟩ | ⟨i, j, rfl, _⟩
  · obtain ⟨w, _, rfl, r2, r3⟩ := r1.inv
    cases r3.nil_inv
    cases relD_int.mp r2
    exact ⟨j, rfl, (big_ok hb).1, (big_ok hb).2, q _ fun μ1 => rng_J 0 j.toNat⟩
  · rw [hv, hl] at hd
    cases hd
theorem rng2_rd {W : WX} {es : EL} {σ : L2.St} {H : Hp} {R : It → Hp → Prop} (h : nI C W cf (.rng es) σ H R) (hl : elen es = 2) : iRng2 (nL C W cf es) σ H R := by
  obtain ⟨bs, b, μ, ρ, M, z, p⟩ := h
  unfold evI at p
  have h2 := tL_len (L_then z p fun d v μ1 M1 H1 l a1 r p1 => (by
    obtain ⟨s, e, p2⟩ := O_fin p1
    exact ⟨d, s, r.length, e, ⟨μ1, r⟩, fun J hJ => Post.here p2 a1.R J (hJ μ1)⟩ : ∃ d s, d.length = v.length ∧ rngOf d = some s ∧ (∃ μ1, RelDs C μ1 H1 d v) ∧ ∀ J, (∀ μ1, SrcJ C μ1 H1 s J) → R J H1))
  obtain ⟨bs, b, μ, ρ, M, z, p⟩ := h2
  refine ⟨bs, b, μ, ρ, M, z, p.imp fun ds μ' M' H' l R p v r => ?_⟩
  obtain ⟨hv, d, s, hd, e, ⟨μ1, r1⟩, q⟩ := p v r
  obtain ⟨lo, n, rfl⟩ := rng_shape e
  rcases two_int e with ⟨j, rfl, _⟩ | ⟨i, j, rfl, hb, hb', rfl, rfl⟩
  · rw [hv, hl] at hd
    cases hd
  · obtain ⟨w, _, rfl, r2, r3⟩ := r1.inv
    obtain ⟨w', _, rfl, r4, r5⟩ := r3.inv
    cases r5.nil_inv
    cases relD_int.mp r2
    cases relD_int.mp r4
    exact ⟨lo, j, rfl, ⟨(big_ok hb).1, (big_ok hb).2, (big_ok hb').1, (big_ok hb').2⟩, q _ fun μ1 => rng_J lo (j - lo).toNat⟩
theorem enu_rd {X : Cx} {W : WX} {a : E} {σ : L2.St} {H : Hp} {R : It → Hp → Prop} (hK : X.K = C.K) (h : nI C W cf (.enu a) σ H R) : iEnumA X.K (tCons (nE C W cf a) tNil) σ H R := by
  obtain ⟨bs, b, μ, ρ, M, z, p⟩ := h
  unfold evI at p
  refine E_then z p fun d v μ1 M1 H1 l a1 r p1 => ?_
  obtain ⟨s, e, p2⟩ := O_fin p1
  unfold enuOf at e
  rw [hK]
  cases e1 : lsrc M1 d with
  | none =>
    rw [e1] at e
    cases d with
    | tup xs =>
      cases e
      obtain ⟨ad, vs, rfl, h1, z1⟩ := relD_tup r
      exact ⟨ad, vs, rfl, .inr ⟨h1, Post.here p2 a1.R _ (enu_tup h1 z1)⟩⟩
    | _ => cases e
  | some s1 =>
    rw [e1] at e
    cases e
    obtain ⟨ad, vs, rfl, h1, L⟩ := lsrc_ok a1.R e1 r
    exact ⟨ad, vs, rfl, .inl ⟨h1, Post.here p2 a1.R _ L.enu⟩⟩
theorem zip_rd {X : Cx} {W : WX} {a a' : E} {σ : L2.St} {H : Hp} {R : It → Hp → Prop} (hK : X.K = C.K) (h : nI C W cf (.zip a a') σ H R) : RZ.iZipA X.K (tCons (nE C W cf a) (tCons (nE C W cf a') tNil)) σ H R := by
  obtain ⟨bs, b, μ, ρ, M, z, p⟩ := h
  unfold evI at p
  refine E_then z p fun d v μ1 M1 H1 l a1 r p1 => E_then a1 p1 fun d' v' μ2 M2 H2 l2 a2 r2 p2 => ?_
  obtain ⟨s, e, p3⟩ := O_fin p2
  have r1 := r.le l2
  rw [hK]
  unfold zipOf at e
  split at e
  · rename_i s1 s2 e1 e2
    cases e
    obtain ⟨ad, vs, rfl, h1, L1⟩ := lsrc_ok a2.R e1 r1
    obtain ⟨ad', vs', rfl, h2, L2⟩ := lsrc_ok a2.R e2 r2
    exact ⟨ad, ad', vs, vs', rfl, .inl ⟨h1, h2, Post.here p3 a2.R _ (L1.zip L2)⟩⟩
  · split at e
    · rename_i xs ys _
      cases e
      obtain ⟨ad, vs, rfl, h1, z1⟩ := relD_tup r1
      obtain ⟨ad', vs', rfl, h2, z2⟩ := relD_tup r2
      exact ⟨ad, ad', vs, vs', rfl, .inr ⟨h1, h2, Post.here p3 a2.R _ (zip_tup h1 z1 h2 z2)⟩⟩
    · cases e
theorem zips_rd {X : Cx} {W : WX} {a a' : E} {σ : L2.St} {H : Hp} {R : It → Hp → Prop} (hK : X.K = C.K) (h : nI C W cf (.zips a a') σ H R) : iZipS X.K (tCons (nE C W cf a) (tCons (nE C W cf a') tNil)) σ H R := by
  obtain ⟨bs, b, μ, ρ, M, z, p⟩ := h
  unfold evI at p
  refine E_then z p fun d v μ1 M1 H1 l a1 r p1 => E_then a1 p1 fun d' v' μ2 M2 H2 l2 a2 r2 p2 => ?_
  obtain ⟨s, e, p3⟩ := O_fin p2
  have r1 := r.le l2
  rw [hK]
  unfold zipsOf at e
  split at e
  · cases e
    obtain ⟨ad, vs, rfl, h1, z1⟩ := relD_tup r1
    obtain ⟨ad', vs', rfl, h2, z2⟩ := relD_tup r2
    exact ⟨ad, ad', vs, vs', rfl, h1, h2, Post.here p3 a2.R _ (zips_tup h1 z1 h2 z2)⟩
  · cases e
theorem tru_of {e : Expr} (h : tru e = true) : ∃ n p, e = .Constant (.bool true) n p := by
  unfold tru at h
  split at h
  · exact ⟨_, _, rfl⟩
  · cases h
theorem mk_str (t : Str) : (⟨t.cps.toList.toArray⟩ : Str) = t := by
  cases t
  simp
theorem cst_pe {X : Cx} {W : WX} {d : D} {c : Const} {j : Nat} {pos : Pos} (h : cstOk d c = true) : PE X (.Constant c j pos) (nE C W cf (.cst d)) := by
  unfold cstOk at h
  split at h
  · exact PE.imp pe_non fun σ H Q q => cst_rd (fun _ _ => relD_non.mpr rfl) q
  · rename_i a b
    have e := beq_iff_eq.mp h
    subst e
    exact PE.imp pe_bl fun σ H Q q => cst_rd (fun _ _ => relD_bl.mpr rfl) q
  · have e := beq_iff_eq.mp h
    subst e
    exact PE.imp pe_int fun σ H Q q => cst_rd (fun _ _ => relD_int.mpr rfl) q
  · have e := beq_iff_eq.mp h
    subst e
    exact PE.imp pe_str fun σ H Q q => cst_rd (fun _ _ => relD_str.mpr (congrArg V.str (mk_str _).symm)) q
  · cases h
theorem opB_of {o : B2} {op : Operator} (h : opBX o op = true) : op = opB o := decide_eq_true_eq.mp h
theorem opC_of {o : C2} {op : CmpOp} (h : opCX o op = true) : op = opC o := decide_eq_true_eq.mp h
theorem sub_of' {a b : List Nat} (h : subL a b = true) : ∀ i ∈ a, i ∈ b := fun i hi => by
  have z := List.all_eq_true.mp h i hi
  simpa using z
theorem chkL_star {sc : Scope} : ∀ {es : EL} {xs : List Expr}, chkL TB N sc es xs = true → xs.all noStar = true ∧ elen es = xs.length ∧ (xs = [] → es = .nil)
  | .nil, xs, h => by
    unfold chkL at h
    cases xs with
    | nil => exact ⟨rfl, rfl, fun _ => rfl⟩
    | cons _ _ => cases h
  | .cons e es, xs, h => by
    unfold chkL at h
    cases xs with
    | nil => cases h
    | cons x xs =>
      dsimp only at h
      rw [Bool.and_eq_true, Bool.and_eq_true] at h
      obtain ⟨i1, i2, _⟩ := chkL_star h.2
      exact ⟨by rw [List.all_cons, h.1.1, i1]; rfl, congrArg Nat.succ i2, fun z => by cases z⟩
theorem chkGs_star {sc : Scope} {cl : Bool} : ∀ {es : GL} {xs : List Expr}, chkGs TB N sc cl es xs = true → xs.all noStar = true ∧ glen es = xs.length
  | .nil, xs, h => by
    unfold chkGs at h
    cases xs with
    | nil => exact ⟨rfl, rfl⟩
    | cons _ _ => cases h
  | .cons e es, xs, h => by
    unfold chkGs at h
    cases xs with
    | nil => cases h
    | cons x xs =>
      dsimp only at h
      rw [Bool.and_eq_true, Bool.and_eq_true] at h
      obtain ⟨i1, i2⟩ := chkGs_star h.2
      exact ⟨by rw [List.all_cons, h.1.1, i1]; rfl, congrArg Nat.succ i2⟩
theorem chkF_inv {sc : Scope} {t : T} {xs : List Expr} (h : chkF TB N sc t xs = true) : (t = .yes ∧ xs = []) ∨ ∃ x, xs = [x] ∧ chkT TB N sc t x = true := by
  unfold chkF at h
  split at h
  · split at h
    · exact .inl ⟨rfl, rfl⟩
    · cases h
  all_goals first
    | cases h
    | (split at h
       · exact .inr ⟨_, rfl, by unfold chkT; exact h⟩
       · cases h)
theorem lc_own {sc scope : Scope} {ow : List Nat} {X : Cx} (hN : X.N = N) (hs : X.env.scope = sc) (h : blkC N sc scope (ownOf N ow) = true) : BlkOk X.N X.env.scope scope (ownOf N ow) := by
  rw [hN, hs]
  exact blkOk_by h
theorem blk_scope {X : Cx} {sc scope : Scope} (hs : X.env.scope = sc) (s : Shared) (H : Hp) (A : Addr) (cl : List (Str × Addr)) (fp : List Addr) : (X.blk s H scope (compEnvC scope cl A X.env) fp).env.scope = relS scope sc := by
  subst hs
  rfl
theorem chkKs_cons {k : List Nat} {ks : List (List Nat)} {keys : List (Option Expr)} (h : chkKs (k :: ks) keys = true) : ∃ j p keys', keys = some (.Constant (.str (toS k)) j p) :: keys' ∧ chkKs ks keys' = true := by
  unfold chkKs at h
  split at h
  · rename_i e1; cases e1
  · rename_i e1
    obtain ⟨rfl, rfl⟩ := List.cons.inj e1
    rw [Bool.and_eq_true, decide_eq_true_eq] at h
    obtain ⟨rfl, h2⟩ := h
    exact ⟨_, _, _, rfl, h2⟩
  · cases h
theorem chkKs_all : ∀ {ks : List (List Nat)} {keys : List (Option Expr)}, chkKs ks keys = true → keys.all (·.isSome) = true ∧ keys.length = ks.length ∧ (0 < ks.length → keys ≠ [])
  | [], [], _ => ⟨rfl, rfl, fun h => absurd h (Nat.lt_irrefl _)⟩
  | [], _ :: _, h => by cases h
  | k :: ks, keys, h => by
    obtain ⟨j, p, keys', rfl, h2⟩ := chkKs_cons h
    obtain ⟨i1, i2, _⟩ := chkKs_all h2
    exact ⟨by rw [List.all_cons, i1]; rfl, congrArg Nat.succ i2, fun _ z => by cases z⟩
/-- the row without its star -/
theorem unstar_of {env : Env} : ∀ {xs ys : List Expr}, unstar xs = some ys → (assignEach ys env).map (·.2) = (assignEach xs env).map (·.2) ∧ (assignEach xs env).findIdx? (·.1) = some (xs.length - 1) ∧ 0 < xs.length
  | [], ys, h => by cases h
  | x :: xs, ys, h => by
    unfold unstar at h
    split at h
    · split at h
      · rename_i hn
        cases h
        exact ⟨by rw [asg_of hn]; rfl, rfl, Nat.succ_pos _⟩
      · cases h
    · rename_i hn
      split at h
      · rename_i ys' e1 e2
        cases h
        obtain ⟨i1, i2, i3⟩ := unstar_of (env := env) e2
        refine ⟨?_, ?_, Nat.succ_pos _⟩
        · rw [asg_of e1, asg_of e1, List.map_cons, List.map_cons, i1]
        · rw [asg_of e1, List.findIdx?_cons, i2]
          simp
          omega
      · cases h
theorem PGs.of_same {X : Cx} {xs ys : List Expr} {t : TGs} (e : (assignEach ys X.env).map (·.2) = (assignEach xs X.env).map (·.2)) (h : PGs X ys t) : PGs X xs t :=
  ⟨fun pins s σ H vs us Q I r hw => by rw [← e]; exact h.run pins s σ H vs us Q I r hw⟩
mutual
theorem sE : ∀ (e : E) {X : Cx} {W : WX} {sc : Scope} {x : Expr}, GX C CX TB k cf N W X → X.env.scope = sc → chkE TB N sc e x = true → PE X x (nE C W cf e)
  | .var i, X, W, sc, x, G, hs, h => by
    unfold chkE at h
    split at h
    · simp only [Bool.and_eq_true, decide_eq_true_eq] at h
      obtain ⟨k1, k2, _⟩ := okn_of h.1.1
      exact PE.imp (pe_var (by rw [G.N_]; exact h.1.2) (by rw [hs]; exact blkn_of h.2) k1 k2) fun σ H Q q => var_rd q
    · cases h
  | .cst d, X, W, sc, x, G, hs, h => by
    unfold chkE at h
    split at h
    · exact cst_pe h
    · cases h
  | .glb g, X, W, sc, x, G, hs, h => by
    unfold chkE at h
    split at h
    · rename_i n p
      simp only [Bool.and_eq_true] at h
      obtain ⟨⟨h1, h2⟩, h3⟩ := h
      split at h3
      · rename_i q e
        have e2 : q.1 = n := decide_eq_true_eq.mp h3
        obtain ⟨hg, u, v, hm, r, rd⟩ := G.gv g q.1 q.2 e
        subst e2
        exact PE.imp (pe_glob (gl_of hs h2) hm r (okn_of h1).1) fun σ H Q q => glb_rd hg rd q
      · cases h3
    · cases h
  | .un o a, X, W, sc, x, G, hs, h => by
    cases o
    unfold chkE at h
    split at h
    · exact PE.imp (pe_un (un_neg (X := X)) (sE a G hs h)) fun σ H Q q => neg_rd q
    · cases h
  | .no a, X, W, sc, x, G, hs, h => by
    unfold chkE at h
    split at h
    · exact PE.imp (pe_notT (sE a G hs h)) fun σ H Q q => no_rd G.K q
    · cases h
  | .bin o a a', X, W, sc, x, G, hs, h => by
    unfold chkE at h
    split at h
    · simp only [Bool.and_eq_true] at h
      rw [opB_of h.1.1]
      exact PE.imp (pe_op (op_rB G.K o) (sE a G hs h.1.2) (sE a' G hs h.2)) fun σ H Q q => bin_rd q
    · cases h
  | .cmp o a a', X, W, sc, x, G, hs, h => by
    unfold chkE at h
    split at h
    · simp only [Bool.and_eq_true] at h
      rw [opC_of h.1.1.1]
      exact PE.imp (pe_cmpR (op_rC G.K (by have := G.un; omega) o) (sE a G hs h.1.2) (sE a' G hs h.2) (marks_of h.1.1.2)) fun σ H Q q => cmp_rd q
    · cases h
  | .chn o o' a a' a'', X, W, sc, x, G, hs, h => by
    unfold chkE at h
    split at h
    · simp only [Bool.and_eq_true] at h
      rw [opC_of h.1.1.1.1.1, opC_of h.1.1.1.1.2]
      exact PE.imp (pe_chain (op_rC G.K (by have := G.un; omega) o) (op_rC G.K (by have := G.un; omega) o') (sE a G hs h.1.1.2) (sE a' G hs h.1.2) (sE a'' G hs h.2) (marks_of h.1.1.1.2)) fun σ H Q q => chn_rd q
    · cases h
  | .and a a', X, W, sc, x, G, hs, h => by
    unfold chkE at h
    split at h
    · simp only [Bool.and_eq_true] at h
      exact PE.imp (pe_andT (sE a G hs h.1) (pe_of_one (sE a' G hs h.2))) fun σ H Q q => and_rd G.K q
    · cases h
  | .or a a', X, W, sc, x, G, hs, h => by
    unfold chkE at h
    split at h
    · simp only [Bool.and_eq_true] at h
      exact PE.imp (pe_orT (sE a G hs h.1) (pe_of_one (sE a' G hs h.2))) fun σ H Q q => or_rd G.K q
    · cases h
  | .ife t a a', X, W, sc, x, G, hs, h => by
    unfold chkE at h
    split at h
    · simp only [Bool.and_eq_true] at h
      exact PE.imp (pe_ifExp (sT t G hs h.1.1) (sE a G hs h.1.2) (sE a' G hs h.2)) fun σ H Q q => ife_rd q
    · cases h
  | .tup es, X, W, sc, x, G, hs, h => by
    unfold chkE at h
    split at h
    · exact PE.imp (pe_tupF (sL es G hs h)) fun σ H Q q => tup_rd q
    · cases h
  | .lst es, X, W, sc, x, G, hs, h => by
    unfold chkE at h
    split at h
    · exact PE.imp (pe_lst (sL es G hs h)) fun σ H Q q => lst_rd q
    · cases h
  | .dic0, X, W, sc, x, G, hs, h => by
    unfold chkE at h
    split at h
    · exact PE.imp pe_dnewK fun σ H Q q => dic0_rd q
    · cases h
  | .ix a a', X, W, sc, x, G, hs, h => by
    unfold chkE at h
    split at h
    · simp only [Bool.and_eq_true] at h
      exact PE.imp (pe_ix (ix_rIxE G.K (by have := G.un; omega)) (sE a G hs h.1.2) (sE a' G hs h.2) (plainIx_of h.1.1)) fun σ H Q q => ix_rd q
    · cases h
  | .sl a lo hi, X, W, sc, x, G, hs, h => by
    unfold chkE at h
    split at h
    · simp only [Bool.and_eq_true] at h
      exact PE.imp (pe_slice (sl_rSlE G.K) (sE a G hs h.1.1) (sO lo G hs h.1.2) (sO hi G hs h.2)) fun σ H Q q => sl_rd q
    · cases h
  | .rev a, X, W, sc, x, G, hs, h => by
    unfold chkE at h
    split at h
    · exact PE.imp (pe_revL (sE a G hs h)) fun σ H Q q => rev_rd G.K q
    · cases h
  | .call f es, X, W, sc, x, G, hs, h => by
    unfold chkE at h
    split at h
    · rename_i n p xs pos
      simp only [Bool.and_eq_true] at h
      obtain ⟨⟨⟨h1, h2⟩, h3⟩, h4⟩ := h
      split at h3
      · rename_i fn e
        obtain ⟨e2, eo⟩ := decide_eq_true_eq.mp h3
        subst e2
        have hL := sL es G hs h4
        obtain ⟨c1, c2, c3⟩ := chkL_star h4
        cases xs with
        | nil => cases c3 rfl; exact pe_callG0 G hs e eo h2 h1
        | cons y ys => exact pe_callG G hs e eo h2 h1 hL c1
      · cases h3
    · cases h
  | .callk f es ks kes, X, W, sc, x, G, hs, h => by
    unfold chkE at h
    split at h
    · rename_i n p xs kw kws pos
      simp only [Bool.and_eq_true] at h
      obtain ⟨⟨⟨⟨h1, h2⟩, h3⟩, h4⟩, h5⟩ := h
      split at h3
      · rename_i fn e
        simp only [Bool.and_eq_true, decide_eq_true_eq] at h3
        obtain ⟨⟨⟨⟨e2, eo⟩, h6⟩, h7⟩, h8⟩ := h3
        subst e2
        obtain ⟨c1, c2, c3⟩ := chkL_star h4
        exact pe_callGK G hs e eo h2 h1 (sL es G hs h4) c1 c3 (sK kes G hs h5) h6 h7 h8 c2
      · cases h3
    · cases h
  | .bi o es, X, W, sc, x, G, hs, h => by
    unfold chkE at h
    split at h
    · simp only [Bool.and_eq_true] at h
      exact pe_bi G hs o h.1 (sL es G hs h.2) (chkL_star h.2).1
    · cases h
  | .lrng es, X, W, sc, x, G, hs, h => by
    unfold chkE at h
    split at h
    · rename_i n p m q y ys pos pos'
      simp only [Bool.and_eq_true] at h
      obtain ⟨⟨⟨h1, h2⟩, h3⟩, h4⟩ := h
      obtain ⟨rfl, hg1, hm1⟩ := blt_of G hs (by decide) h1
      obtain ⟨rfl, hg2, hm2⟩ := blt_of G hs (by decide) h2
      have c := chkL_star h4
      unfold chkL at h4
      cases es with
      | nil => cases h4
      | cons a es =>
        simp only [Bool.and_eq_true] at h4
        obtain ⟨⟨n1, h5⟩, h6⟩ := h4
        have ha := sE a G hs h5
        cases ys with
        | nil =>
          have z := (chkL_star h6).2.2 rfl
          cases z
          exact PE.imp (pe_listRg G.calm hg1 hm1 (prg_1 hg2 hm2 ha (star_of n1)) rfl) fun σ H Q q => lrng1_rd q
        | cons w ws =>
          cases ws with
          | cons _ _ => cases h3
          | nil =>
            unfold chkL at h6
            cases es with
            | nil => cases h6
            | cons a' es =>
              simp only [Bool.and_eq_true] at h6
              obtain ⟨⟨n2, h7⟩, h8⟩ := h6
              have z := (chkL_star h8).2.2 rfl
              cases z
              have ha' := sE a' G hs h7
              exact PE.imp (pe_listRg G.calm hg1 hm1 (prg_2 hg2 hm2 ha ha' (star_of n1) (star_of n2) (any_of (by rw [List.all_cons, n2]; rfl))) rfl) fun σ H Q q => lrng2_rd q
    · cases h
  | .mth m o es, X, W, sc, x, G, hs, h => by
    unfold chkE at h
    split at h
    · simp only [Bool.and_eq_true, decide_eq_true_eq] at h
      obtain ⟨⟨⟨⟨⟨h1, h2⟩, h3⟩, h4⟩, h5⟩, h6⟩ := h
      subst h1
      have c := chkL_star h6
      exact pe_mt G m (sE o G hs h5) h2 h3 h4 (sL es G hs h6) c.1 c.2.2
    · cases h
  | .isi a cs, X, W, sc, x, G, hs, h => by
    unfold chkE at h
    split at h
    · simp only [Bool.and_eq_true] at h
      obtain ⟨⟨⟨⟨⟨h1, h2⟩, h3⟩, h4⟩, h5⟩, h6⟩ := h
      exact pe_isi G hs h1 h2 h3 h4 h5 (sE a G hs h6)
    · cases h
  | .new c f es, X, W, sc, x, G, hs, h => by
    unfold chkE at h
    split at h
    · simp only [Bool.and_eq_true] at h
      obtain ⟨⟨⟨h1, h2⟩, h3⟩, h4⟩ := h
      split at h3
      · rename_i cd fn e ef
        simp only [Bool.and_eq_true, decide_eq_true_eq, Bool.not_eq_true'] at h3
        obtain ⟨⟨e2, h5⟩, h6⟩ := h3
        subst e2
        obtain ⟨c1, c2, c3⟩ := chkL_star h4
        exact pe_newG G hs e h5 ef h6 h2 h1 (sL es G hs h4) c1 c3
      · cases h3
    · cases h
  | .mc a m ms es, X, W, sc, x, G, hs, h => by
    unfold chkE at h
    split at h
    · simp only [Bool.and_eq_true, decide_eq_true_eq] at h
      obtain ⟨⟨⟨⟨⟨⟨h1, h2⟩, h3⟩, h4⟩, h5⟩, h6⟩, h7⟩ := h
      subst h1
      have c := chkL_star h7
      exact pe_mcG G h5 h2 h3 h4 (sE a G hs h6) (sL es G hs h7) c.1 c.2.2
    · cases h
  | .fld a c j, X, W, sc, x, G, hs, h => by
    unfold chkE at h
    split at h
    · simp only [Bool.and_eq_true] at h
      obtain ⟨⟨h1, h2⟩, h3⟩ := h
      split at h2
      · rename_i cd e
        simp only [Bool.and_eq_true, decide_eq_true_eq, Bool.not_eq_true'] at h2
        exact pe_fldI G e h2.1 h2.2 h1 (sE a G hs h3)
      · cases h2
    · cases h
  | .dic ks es, X, W, sc, x, G, hs, h => by
    unfold chkE at h
    split at h
    · rename_i keys vals pos
      simp only [Bool.and_eq_true, decide_eq_true_eq] at h
      obtain ⟨⟨⟨⟨h1, h2⟩, h3⟩, h4⟩, h5⟩ := h
      obtain ⟨k1, k2, k3⟩ := chkKs_all h1
      refine PE.imp (pe_disp (sD es G hs h1 h4 h5) k1 (k2.trans h4) (k3 (Nat.blt_eq.mp h2)) (by rw [k2]; exact Nat.le_of_ble_eq_true h3)) fun σ H Q q => ?_
      exact fun p hp => trs_go (dic_rd (Nat.le_of_ble_eq_true h3) q p hp)
    · cases h
  | .dct a, X, W, sc, x, G, hs, h => by
    unfold chkE at h
    split at h
    · simp only [Bool.and_eq_true] at h
      exact pe_dctI G hs h.1.1 h.1.2 (sE a G hs h.2)
    · cases h
  | .get a e, X, W, sc, x, G, hs, h => by
    unfold chkE at h
    split at h
    · simp only [Bool.and_eq_true, decide_eq_true_eq] at h
      obtain ⟨⟨⟨⟨⟨h1, h2⟩, h3⟩, h4⟩, h5⟩, h6⟩ := h
      subst h1
      exact pe_getI G h2 h3 h4 (sE a G hs h5) (sE e G hs h6)
    · cases h
  | .gget g kvs e, X, W, sc, x, G, hs, h => by
    unfold chkE at h
    split at h
    · simp only [Bool.and_eq_true, decide_eq_true_eq] at h
      obtain ⟨⟨⟨⟨⟨⟨h1, h2⟩, h3⟩, h4⟩, h5⟩, h6⟩, h7⟩ := h
      subst h1
      split at h4
      · rename_i p e0
        simp only [Bool.and_eq_true, decide_eq_true_eq] at h4
        obtain ⟨rfl, rfl⟩ := h4
        exact pe_ggetI G hs e0 h2 h3 h5 h6 (sE e G hs h7)
      · cases h4
    · cases h
  | .calld f es ds, X, W, sc, x, G, hs, h => by
    unfold chkE at h
    split at h
    · simp only [Bool.and_eq_true] at h
      obtain ⟨⟨⟨⟨h1, h2⟩, h3⟩, h4⟩, h5⟩ := h
      split at h3
      · rename_i fn e
        obtain ⟨e2, eo⟩ := decide_eq_true_eq.mp h3
        subst e2
        obtain ⟨c1, c2, _⟩ := chkL_star h5
        exact pe_calldG G hs e eo h2 h1 h4 (sL es G hs h5) c1 c2
      · cases h3
    · cases h
  | .lc g it ow t e, X, W, sc, x, G, hs, h => by
    unfold chkE at h
    split at h
    · rename_i elt c scope pos
      simp only [Bool.and_eq_true, decide_eq_true_eq] at h
      obtain ⟨⟨⟨⟨⟨⟨⟨⟨h1, h2⟩, h3⟩, h4⟩, h5⟩, h6⟩, h7⟩, h8⟩, h9⟩ := h
      obtain ⟨tg, iter, ifs, asy⟩ := c
      subst h1
      have hF : ∀ (s : Shared) (H : Hp) (A : Addr) (cl : List (Str × Addr)) (fp : List Addr), PTs (X.blk s H scope (compEnvC scope cl A X.env) fp) ifs (nT C W0x cf t) := fun s H A cl fp => by
        rcases chkF_inv h8 with ⟨e1, e2⟩ | ⟨x, e1, h10⟩
        · dsimp only at e2
          subst e1 e2
          exact PTs.imp pts_nil fun σ H Q q => yes_rd q
        · dsimp only at e1
          subst e1
          exact pts_one (sT t (G.blk s H scope _ fp) (blk_scope hs s H A cl fp) h10)
      have := pe_lc (elt := elt) (pos := pos) G.calm (by rw [G.N_]; exact G.nd) (sI it G hs h6) (lc_own G.N_ hs h2)
        (fun s H A cl fp => sG g (G.blk s H scope _ fp) (blk_scope hs s H A cl fp) (fun z => by cases z) h7) hF
        (fun s H A cl fp => sE e (G.blk s H scope _ fp) (blk_scope hs s H A cl fp) h9) (folded_of h5)
      rw [h3] at this
      exact PE.imp this fun σ H Q q => lc_rd (sub_of' h4) q
    · cases h
  | .lc2 g it t g' it' t' ow ow' e, X, W, sc, x, G, hs, h => by
    unfold chkE at h
    split at h
    · rename_i elt c c' scope pos
      simp only [Bool.and_eq_true, decide_eq_true_eq] at h
      obtain ⟨⟨⟨⟨⟨⟨⟨⟨⟨⟨⟨⟨⟨⟨⟨h1, h1'⟩, h2⟩, h3⟩, h4⟩, h4'⟩, h4''⟩, h5⟩, h5'⟩, h6⟩, h7⟩, h8⟩, h6'⟩, h7'⟩, h8'⟩, h9⟩ := h
      obtain ⟨tg, iter, ifs, asy⟩ := c
      obtain ⟨tg', iter', ifs', asy'⟩ := c'
      subst h1 h1'
      have hF : ∀ (s : Shared) (H : Hp) (A : Addr) (cl : List (Str × Addr)) (fp : List Addr), PTs (X.blk s H scope (compEnvC scope cl A X.env) fp) ifs (nT C W0x cf t) := fun s H A cl fp => by
        rcases chkF_inv h8 with ⟨e1, e2⟩ | ⟨x, e1, h10⟩
        · dsimp only at e2
          subst e1 e2
          exact PTs.imp pts_nil fun σ H Q q => yes_rd q
        · dsimp only at e1
          subst e1
          exact pts_one (sT t (G.blk s H scope _ fp) (blk_scope hs s H A cl fp) h10)
      have hF' : ∀ (s : Shared) (H : Hp) (A : Addr) (cl : List (Str × Addr)) (fp : List Addr), PTs (X.blk s H scope (compEnvC scope cl A X.env) fp) ifs' (nT C W0x cf t') := fun s H A cl fp => by
        rcases chkF_inv h8' with ⟨e1, e2⟩ | ⟨x, e1, h10⟩
        · dsimp only at e2
          subst e1 e2
          exact PTs.imp pts_nil fun σ H Q q => yes_rd q
        · dsimp only at e1
          subst e1
          exact pts_one (sT t' (G.blk s H scope _ fp) (blk_scope hs s H A cl fp) h10)
      have := pe_lc2 (elt := elt) (pos := pos) (vs1 := ow') G.calm (by rw [G.N_]; exact G.nd) (sI it G hs h6) (lc_own G.N_ hs h2) (by rw [h3]; exact sub_of' h4'')
        (fun s H A cl fp => sG g (G.blk s H scope _ fp) (blk_scope hs s H A cl fp) (fun z => by cases z) h7) hF
        (fun s H A cl fp => sI it' (G.blk s H scope _ fp) (blk_scope hs s H A cl fp) h6')
        (fun s H A cl fp => sG g' (G.blk s H scope _ fp) (blk_scope hs s H A cl fp) (fun z => by cases z) h7') hF'
        (fun s H A cl fp => sE e (G.blk s H scope _ fp) (blk_scope hs s H A cl fp) h9) (folded_of h5) (fun _ => folded_of h5')
      rw [h3] at this
      exact PE.imp this fun σ H Q q => lc2_rd (sub_of' h4) (sub_of' h4') q
    · cases h
  | .dc g it ow t k v, X, W, sc, x, G, hs, h => by
    unfold chkE at h
    split at h
    · rename_i kx vx c scope pos
      simp only [Bool.and_eq_true, decide_eq_true_eq] at h
      obtain ⟨⟨⟨⟨⟨⟨⟨⟨⟨h1, h2⟩, h3⟩, h4⟩, h5⟩, h6⟩, h7⟩, h8⟩, h9⟩, h10⟩ := h
      obtain ⟨tg, iter, ifs, asy⟩ := c
      subst h1
      have hF : ∀ (s : Shared) (H : Hp) (A : Addr) (cl : List (Str × Addr)) (fp : List Addr), PTs (X.blk s H scope (compEnvC scope cl A X.env) fp) ifs (nT C W0x cf t) := fun s H A cl fp => by
        rcases chkF_inv h8 with ⟨e1, e2⟩ | ⟨x, e1, h11⟩
        · dsimp only at e2
          subst e1 e2
          exact PTs.imp pts_nil fun σ H Q q => yes_rd q
        · dsimp only at e1
          subst e1
          exact pts_one (sT t (G.blk s H scope _ fp) (blk_scope hs s H A cl fp) h11)
      have r := pe_dc (kx := kx) (vx := vx) (pos := pos) G.calm (by rw [G.N_]; exact G.nd) (sI it G hs h6) (lc_own G.N_ hs h2)
        (fun s H A cl fp => sG g (G.blk s H scope _ fp) (blk_scope hs s H A cl fp) (fun z => by cases z) h7) hF
        (fun s H A cl fp => sE k (G.blk s H scope _ fp) (blk_scope hs s H A cl fp) h9) (fun s H A cl fp => sE v (G.blk s H scope _ fp) (blk_scope hs s H A cl fp) h10) (folded_of h5)
      rw [h3] at r
      exact PE.imp r fun σ H Q q => dc_rd (sub_of' h4) q
    · cases h
  | .dicT k v, X, W, sc, x, G, hs, h => by
    unfold chkE at h
    split at h
    · simp only [Bool.and_eq_true] at h
      exact PE.imp (pe_dispT (by have := G.un; omega) (sE k G hs h.1) (sE v G hs h.2)) fun σ H Q q p hp => dicT_rd q p hp
    · cases h
  | .dc2 g it t g' it' t' ow ow' k v, X, W, sc, x, G, hs, h => by
    unfold chkE at h
    split at h
    · rename_i kx vx c c' scope pos
      simp only [Bool.and_eq_true, decide_eq_true_eq] at h
      obtain ⟨⟨⟨⟨⟨⟨⟨⟨⟨⟨⟨⟨⟨⟨⟨⟨h1, h1'⟩, h2⟩, h3⟩, h4⟩, h4'⟩, h4''⟩, h5⟩, h5'⟩, h6⟩, h7⟩, h8⟩, h6'⟩, h7'⟩, h8'⟩, h9⟩, h10⟩ := h
      obtain ⟨tg, iter, ifs, asy⟩ := c
      obtain ⟨tg', iter', ifs', asy'⟩ := c'
      subst h1 h1'
      have hF : ∀ (s : Shared) (H : Hp) (A : Addr) (cl : List (Str × Addr)) (fp : List Addr), PTs (X.blk s H scope (compEnvC scope cl A X.env) fp) ifs (nT C W0x cf t) := fun s H A cl fp => by
        rcases chkF_inv h8 with ⟨e1, e2⟩ | ⟨x, e1, h11⟩
        · dsimp only at e2
          subst e1 e2
          exact PTs.imp pts_nil fun σ H Q q => yes_rd q
        · dsimp only at e1
          subst e1
          exact pts_one (sT t (G.blk s H scope _ fp) (blk_scope hs s H A cl fp) h11)
      have hF' : ∀ (s : Shared) (H : Hp) (A : Addr) (cl : List (Str × Addr)) (fp : List Addr), PTs (X.blk s H scope (compEnvC scope cl A X.env) fp) ifs' (nT C W0x cf t') := fun s H A cl fp => by
        rcases chkF_inv h8' with ⟨e1, e2⟩ | ⟨x, e1, h11⟩
        · dsimp only at e2
          subst e1 e2
          exact PTs.imp pts_nil fun σ H Q q => yes_rd q
        · dsimp only at e1
          subst e1
          exact pts_one (sT t' (G.blk s H scope _ fp) (blk_scope hs s H A cl fp) h11)
      have r := pe_dc2 (kx := kx) (vx := vx) (pos := pos) (ws := ow') G.calm (by rw [G.N_]; exact G.nd) (sI it G hs h6) (lc_own G.N_ hs h2) (by rw [h3]; exact sub_of' h4'')
        (fun s H A cl fp => sG g (G.blk s H scope _ fp) (blk_scope hs s H A cl fp) (fun z => by cases z) h7) hF
        (fun s H A cl fp => sI it' (G.blk s H scope _ fp) (blk_scope hs s H A cl fp) h6')
        (fun s H A cl fp => sG g' (G.blk s H scope _ fp) (blk_scope hs s H A cl fp) (fun z => by cases z) h7') hF'
        (fun s H A cl fp => sE k (G.blk s H scope _ fp) (blk_scope hs s H A cl fp) h9) (fun s H A cl fp => sE v (G.blk s H scope _ fp) (blk_scope hs s H A cl fp) h10) (folded_of h5) (fun _ => folded_of h5')
      rw [h3] at r
      exact PE.imp r fun σ H Q q => dc2_rd (sub_of' h4) (sub_of' h4') q
    · cases h
theorem sL : ∀ (es : EL) {X : Cx} {W : WX} {sc : Scope} {xs : List Expr}, GX C CX TB k cf N W X → X.env.scope = sc → chkL TB N sc es xs = true → PA X xs (nL C W cf es)
  | .nil, X, W, sc, xs, G, hs, h => by
    unfold chkL at h
    cases xs with
    | nil => exact PA.imp pa_nil fun σ H Q q => lnil_rd q
    | cons _ _ => cases h
  | .cons e es, X, W, sc, xs, G, hs, h => by
    unfold chkL at h
    cases xs with
    | nil => cases h
    | cons x xs =>
      simp only [Bool.and_eq_true] at h
      exact PA.imp (pa_cons (sE e G hs h.1.2) (sL es G hs h.2) (star_of h.1.1)) fun σ H Q q => lcons_rd q
theorem sD : ∀ (es : EL) {X : Cx} {W : WX} {sc : Scope} {ks : List (List Nat)} {keys : List (Option Expr)} {vals : List Expr} {pos : Pos}, GX C CX TB k cf N W X → X.env.scope = sc → chkKs ks keys = true → ks.length = vals.length → chkL TB N sc es vals = true → PPs X pos keys vals (trsN C W cf ks es)
  | .nil, X, W, sc, ks, keys, vals, pos, G, hs, hk, hl, h => by
    unfold chkL at h
    cases vals with
    | cons _ _ => cases h
    | nil =>
      cases ks with
      | cons _ _ => cases hl
      | nil =>
        cases keys with
        | nil => exact pps_nil
        | cons _ _ => cases hk
  | .cons e es, X, W, sc, ks, keys, vals, pos, G, hs, hk, hl, h => by
    unfold chkL at h
    cases vals with
    | nil => cases h
    | cons x vals =>
      simp only [Bool.and_eq_true] at h
      cases ks with
      | nil => cases hl
      | cons k ks =>
        obtain ⟨j, p, keys', rfl, hk'⟩ := chkKs_cons hk
        exact pps_cons pe_str (sE e G hs h.1.2) (sD es G hs hk' (Nat.succ.inj hl) h.2)
theorem sK : ∀ (es : EL) {X : Cx} {W : WX} {sc : Scope} {kws : List Keyword}, GX C CX TB k cf N W X → X.env.scope = sc → chkL TB N sc es ((kwsX kws).map (·.2)) = true → PK X kws (nL C W cf es)
  | .nil, X, W, sc, kws, G, hs, h => by
    unfold chkL at h
    cases kws with
    | nil => exact ⟨fun pos pins s σ H Q I h => pk_nil.run pos pins s σ H Q I (lnil_rd h)⟩
    | cons _ _ => cases h
  | .cons e es, X, W, sc, kws, G, hs, h => by
    unfold chkL at h
    cases kws with
    | nil => cases h
    | cons kw kws =>
      obtain ⟨nm, x, p⟩ := kw
      have h' : (noStar x && chkE TB N sc e x && chkL TB N sc es ((kwsX kws).map (·.2))) = true := h
      rw [Bool.and_eq_true, Bool.and_eq_true] at h'
      have h1 := sE e G hs h'.1.2
      have h2 := sK es G hs h'.2
      exact ⟨fun pos pins s σ H Q I h => (pk_cons h1 h2).run pos pins s σ H Q I (lcons_rd h)⟩
theorem sO : ∀ (e : EO) {X : Cx} {W : WX} {sc : Scope} {x : Option Expr}, GX C CX TB k cf N W X → X.env.scope = sc → chkO TB N sc e x = true → PO X x (nO C W cf e)
  | .none, X, W, sc, x, G, hs, h => by
    unfold chkO at h
    cases x with
    | none => exact PO.imp po_none fun σ H Q q => onone_rd q
    | some _ => cases h
  | .some e, X, W, sc, x, G, hs, h => by
    unfold chkO at h
    cases x with
    | none => cases h
    | some x => exact PO.imp (po_some (sE e G hs h)) fun σ H Q q => osome_rd q
theorem sT : ∀ (t : T) {X : Cx} {W : WX} {sc : Scope} {x : Expr}, GX C CX TB k cf N W X → X.env.scope = sc → chkT TB N sc t x = true → PT X x (nT C W cf t)
  | .yes, X, W, sc, x, G, hs, h => by unfold chkT at h; cases h
  | .val a, X, W, sc, x, G, hs, h => by
    unfold chkT at h
    simp only [Bool.and_eq_true] at h
    exact PT.imp (pt_truth (sE a G hs h.2) (plainT_of h.1)) fun σ H Q q => val_rd G.K q
  | .not t, X, W, sc, x, G, hs, h => by
    unfold chkT at h
    split at h
    · exact PT.imp (pt_not (sT t G hs h)) fun σ H Q q => tnot_rd q
    · cases h
  | .and t t', X, W, sc, x, G, hs, h => by
    unfold chkT at h
    split at h
    · simp only [Bool.and_eq_true] at h
      exact PT.imp (pw_and (sT t G hs h.1) (pw_of_one (sT t' G hs h.2))).pt fun σ H Q q => tand_rd q
    · cases h
  | .or t t', X, W, sc, x, G, hs, h => by
    unfold chkT at h
    split at h
    · simp only [Bool.and_eq_true] at h
      exact PT.imp (pw_or (sT t G hs h.1) (pw_of_one (sT t' G hs h.2))).pt fun σ H Q q => tor_rd q
    · cases h
  | .cmp o a a', X, W, sc, x, G, hs, h => by
    unfold chkT at h
    split at h
    · simp only [Bool.and_eq_true] at h
      rw [opC_of h.1.1.1]
      exact PT.imp (pt_cmpR (op_rC G.K (by have := G.un; omega) o) (sE a G hs h.1.2) (sE a' G hs h.2) (marks_of h.1.1.2)) fun σ H Q q => cmpT_rd q
    · cases h
  | .chn o o' a a' a'', X, W, sc, x, G, hs, h => by
    unfold chkT at h
    split at h
    · simp only [Bool.and_eq_true] at h
      rw [opC_of h.1.1.1.1.1, opC_of h.1.1.1.1.2]
      exact PT.imp (pt_chain (op_rC G.K (by have := G.un; omega) o) (op_rC G.K (by have := G.un; omega) o') (sE a G hs h.1.1.2) (sE a' G hs h.1.2) (sE a'' G hs h.2) (marks_of h.1.1.1.2)) fun σ H Q q => chnT_rd q
    · cases h
  | .ife _ _ _, X, W, sc, x, G, hs, h => by unfold chkT at h; cases h
theorem sI : ∀ (it : IT) {X : Cx} {W : WX} {sc : Scope} {tg x : Expr}, GX C CX TB k cf N W X → X.env.scope = sc → chkI TB N sc it tg x = true → PI X tg x (nI C W cf it)
  | .seq a, X, W, sc, tg, x, G, hs, h => by
    unfold chkI at h
    exact pi_seq G.K (sE a G hs h)
  | .rng es, X, W, sc, tg, x, G, hs, h => by
    unfold chkI at h
    split at h
    · rename_i m q y ys pos
      simp only [Bool.and_eq_true] at h
      obtain ⟨⟨h1, h2⟩, h3⟩ := h
      obtain ⟨rfl, hg, hm⟩ := blt_of G hs (by decide) h1
      obtain ⟨c1, c2, c3⟩ := chkL_star h3
      have hL := sL es G hs h3
      rw [List.all_cons, Bool.and_eq_true] at c1
      cases ys with
      | nil => exact PI.imp (pi_range1 hg hm hL (star_of c1.1)) fun σ H Q q => rng1_rd q c2
      | cons w ws =>
        cases ws with
        | cons _ _ => cases h2
        | nil =>
          have c4 := c1.2
          rw [List.all_cons, Bool.and_eq_true] at c4
          exact PI.imp (pi_range2 hg hm hL (by rw [star_of c1.1, star_of c4.1]; rfl) (star_of c4.1)) fun σ H Q q => rng2_rd q c2
    · cases h
  | .enu a, X, W, sc, tg, x, G, hs, h => by
    unfold chkI at h
    split at h
    · simp only [Bool.and_eq_true] at h
      obtain ⟨⟨⟨h1, h2⟩, h3⟩, h4⟩ := h
      obtain ⟨rfl, hg, hm⟩ := blt_of G hs (by decide) h1
      cases tg <;> first
        | cases h2; done
        | exact PI.imp (pi_enumA hg hm (pa_cons (sE a G hs h4) pa_nil (star_of h3)) (star_of h3)) fun σ H Q q => enu_rd G.K q
    · cases h
  | .zips a a', X, W, sc, tg, x, G, hs, h => by
    unfold chkI at h
    split at h
    · rename_i kw _
      simp only [Bool.and_eq_true, decide_eq_true_eq] at h
      obtain ⟨⟨⟨⟨⟨⟨⟨h1, h2⟩, h3⟩, h4⟩, h7⟩, h8⟩, h5⟩, h6⟩ := h
      obtain ⟨rfl, hg, hm⟩ := blt_of G hs (by decide) h1
      obtain ⟨ka, kv, kp⟩ := kw
      dsimp only at h7 h8
      subst h7
      obtain ⟨n, cp, rfl⟩ := tru_of h8
      cases tg <;> first
        | cases h2; done
        | exact PI.imp (pi_zipS hg hm (pa_cons (sE a G hs h5) (pa_cons (sE a' G hs h6) pa_nil (star_of h4)) (star_of h3)) (by rw [star_of h3]) (any_of (by rw [List.all_cons, h4]; rfl))) fun σ H Q q => zips_rd G.K q
    · cases h
  | .zip a a', X, W, sc, tg, x, G, hs, h => by
    unfold chkI at h
    split at h
    · simp only [Bool.and_eq_true] at h
      obtain ⟨⟨⟨⟨⟨h1, h2⟩, h3⟩, h4⟩, h5⟩, h6⟩ := h
      obtain ⟨rfl, hg, hm⟩ := blt_of G hs (by decide) h1
      cases tg <;> first
        | cases h2; done
        | exact PI.imp (RZ.pi_zipA hg hm (pa_cons (sE a G hs h5) (pa_cons (sE a' G hs h6) pa_nil (star_of h4)) (star_of h3)) (star_of h3) (any_of (by rw [List.all_cons, h4]; rfl))) fun σ H Q q => zip_rd G.K q
    · cases h
theorem sG : ∀ (g : G) {X : Cx} {W : WX} {sc : Scope} {cl : Bool} {x : Expr}, GX C CX TB k cf N W X → X.env.scope = sc → (cl = true → ∀ n, X.fn n = true) → chkG TB N sc cl g x = true → PG X x (tG C cf g)
  | .nam i, X, W, sc, cl, x, G, hs, hf, h => by
    unfold chkG at h
    split at h
    · simp only [Bool.and_eq_true, decide_eq_true_eq] at h
      refine PG.imp (pg_name (by rw [G.N_]; exact G.nd) (by rw [G.N_]; exact h.1) ?_ ?_) fun v σ H Q q => gnam_rd q
      · rcases locn_of h.2 with e | ⟨e, _⟩
        · exact .inl (by rw [hs]; exact e)
        · exact .inr (by rw [hs]; exact e)
      · rcases locn_of h.2 with e | ⟨_, e⟩
        · exact .inr (by rw [hs]; exact e)
        · exact .inl (hf e _)
    · cases h
  | .tup gs, X, W, sc, cl, x, G, hs, hf, h => by
    unfold chkG at h
    split at h
    · obtain ⟨c1, c2⟩ := chkGs_star h
      have hL := sGs gs G hs hf h
      refine ⟨fun pins s σ H v u Q I r q => ?_⟩
      rcases gtup_rd q with q | q
      · exact (pg_tup G.calm hL (n := glen gs) (asgs_len.trans c2.symm) (asgs_find c1)).run pins s σ H v u Q I r (by rw [G.K]; exact q)
      · exact (pg_unl G.calm hL (n := glen gs) (asgs_len.trans c2.symm) (asgs_find c1)).run pins s σ H v u Q I r (by rw [G.K]; exact q)
    · cases h
  | .star gs, X, W, sc, cl, x, G, hs, hf, h => by
    unfold chkG at h
    split at h
    · rename_i xs kk pos
      split at h
      · rename_i ys eu
        rw [Bool.and_eq_true, decide_eq_true_eq] at h
        obtain ⟨u1, u2, u3⟩ := unstar_of eu (env := X.env)
        have hpos : 0 < xs.length := u3
        have st : (assignEach xs X.env).length = glen gs - 1 + 1 := by rw [asgs_len, h.1]; omega
        have gg : PGs X xs (tGs C cf gs) := PGs.of_same u1 (sGs gs G hs hf h.2)
        refine PG.imp (pg_star G.calm gg st (by rw [u2, h.1])) fun v σ H Q q => ?_
        rw [G.K]
        exact gstar_rd q
      · cases h
    · cases h
  | .sub o i, X, W, sc, cl, x, G, hs, hf, h => by
    unfold chkG at h
    split at h
    · simp only [Bool.and_eq_true] at h
      exact PG.imp (pg_sub (sE o G hs h.1.2) (sE i G hs h.2) (set_rSetE (by have := G.un; omega)) (sub_of h.1.1)) fun v σ H Q q => gsub_rd q
    · cases h
  | .fld o c j, X, W, sc, cl, x, G, hs, hf, h => by
    unfold chkG at h
    split at h
    · rw [Bool.and_eq_true] at h
      obtain ⟨h2, h3⟩ := h
      split at h2
      · rename_i cd e
        simp only [Bool.and_eq_true, decide_eq_true_eq, Bool.not_eq_true'] at h2
        exact pg_fldG G e h2.1 h2.2 (sE o G hs h3)
      · cases h2
    · cases h
theorem sGs : ∀ (gs : GL) {X : Cx} {W : WX} {sc : Scope} {cl : Bool} {xs : List Expr}, GX C CX TB k cf N W X → X.env.scope = sc → (cl = true → ∀ n, X.fn n = true) → chkGs TB N sc cl gs xs = true → PGs X xs (tGs C cf gs)
  | .nil, X, W, sc, cl, xs, G, hs, hf, h => by
    unfold chkGs at h
    cases xs with
    | nil => exact PGs.imp pgs_nil fun v σ H Q q => gnil_rd q
    | cons _ _ => cases h
  | .cons g gs, X, W, sc, cl, xs, G, hs, hf, h => by
    unfold chkGs at h
    cases xs with
    | nil => cases h
    | cons x xs =>
      simp only [Bool.and_eq_true] at h
      exact PGs.imp (pgs_cons (sG g G hs hf h.1.2) (sGs gs G hs hf h.2) (by rw [asg_of h.1.1]; rfl)) fun v σ H Q q => gcons_rd q
end
end Ev
end

section
/-! EvSndS: what the evaluator says of a statement is so. -/
namespace Ev
open PySem PySem.Spec PyProof.Rows L2
variable {C : Cn} {cf : Cf} {CX : CXT} {TB : Tb} {k : Nat} {N : List Str}

theorem tE_mono {W : WX} {e : E} {σ : L2.St} {H : Hp} {Q Q' : VK} (h : nE C W cf e σ H Q) (i : ∀ v H, Q v H → Q' v H) : nE C W cf e σ H Q' := by
  obtain ⟨bs, b, μ, ρ, M, z, p⟩ := h
  exact ⟨bs, b, μ, ρ, M, z, p.imp fun d μ' M' H' l R q v r => i v H' (q v r)⟩
theorem filter_short {f : Expr → Option Str} : ∀ {ts : List Expr}, (ts.any fun t => (f t).isNone) = true → (ts.filterMap f).length ≠ ts.length := by
  have le : ∀ ts : List Expr, (ts.filterMap f).length ≤ ts.length := fun ts => List.length_filterMap_le _ _
  intro ts h
  induction ts with
  | nil => cases h
  | cons t ts ih =>
    rw [List.any_cons, Bool.or_eq_true] at h
    rw [List.filterMap_cons]
    cases e : f t with
    | none =>
      have := le ts
      simp only [List.length_cons]
      omega
    | some n =>
      have h2 : (ts.any fun t => (f t).isNone) = true := by
        rcases h with h | h
        · rw [e] at h; cases h
        · exact h
      have := ih h2
      simp only [List.length_cons]
      omega
theorem par_folded {ts vs : List Expr} {k k2 : Nat} {p p2 : Pos} {env : Env} (h : vs.all (foldedForSure 8) = true) : swappedStores [.Tuple ts k p] (.Tuple vs k2 p2) env = pure none := by
  unfold swappedStores
  dsimp only
  split
  · rfl
  · split
    · rfl
    · split
      · rfl
      · first
          | rfl
          | (rw [h]; rfl)
theorem noPar_of {tg y : Expr} {env : Env} (h : noPar tg y = true) : swappedStores [tg] y env = pure none := by
  have other : ∀ tg y : Expr, (∀ ts k p, tg ≠ .Tuple ts k p) → (∀ ts p, tg ≠ .List ts p) → swappedStores [tg] y env = pure none := fun tg y h1 h2 => by
    cases tg <;> first
      | rfl
      | exact absurd rfl (h1 _ _ _)
      | exact absurd rfl (h2 _ _)
  by_cases ht : ∃ ts k p, tg = .Tuple ts k p
  · obtain ⟨ts, kk, p, rfl⟩ := ht
    by_cases hy : ∃ vs k p, y = .Tuple vs k p
    · obtain ⟨vs, k2, p2, rfl⟩ := hy
      unfold noPar at h
      dsimp only at h
      cases hfs : vs.all (foldedForSure 8) with
      | true => exact par_folded hfs
      | false =>
      rw [hfs] at h
      simp only [Bool.false_or] at h
      unfold swappedStores
      dsimp only
      split
      · rfl
      · rename_i hn
        have hn2 : (!(ts.length == 2 || ts.length == 3) || vs.length != ts.length) = false := by
          cases q : (!(ts.length == 2 || ts.length == 3) || vs.length != ts.length) with
          | false => rfl
          | true => exact absurd (by rw [q]; rfl) hn
        rw [hn2, Bool.false_or] at h
        split
        · rfl
        · have short := filter_short (f := fun
            | .Name id pos => if env.kindOf id == some .local && pos.line == (ts.head?.map (·.pos.line)).getD 0 then some id else none
            | _ => none) (ts := ts) (by
              rw [List.any_eq_true] at h ⊢
              obtain ⟨t, m, e⟩ := h
              refine ⟨t, m, ?_⟩
              cases t <;> first | rfl | cases e)
          split
          · rfl
          · rename_i hq
            refine absurd ?_ hq
            rw [Bool.or_eq_true]
            left
            exact bne_iff_ne.mpr short
    · cases y <;> first | rfl | exact absurd ⟨_, _, _, rfl⟩ hy
  · by_cases hl : ∃ ts p, tg = .List ts p
    · obtain ⟨ts, p, rfl⟩ := hl
      cases y <;> first | rfl | cases h
    · exact other tg y (fun ts k p e => ht ⟨ts, k, p, e⟩) fun ts p e => hl ⟨ts, p, e⟩
theorem swaps_name {elt : Expr} {gs : List Comprehension} {s : Scope} {p np : Pos} {t : Str} {n : Nat} {env : Env} : swapsWith (.ListComp elt gs s p) (some (.Name t np)) n env =
    pure (env.blockKind == .function && env.kindOf t == some .local && np.line == p.line && !(s.names.any fun (n, k) => n == t && (k == .local || k == .cell))) := rfl
theorem swaps_nameD {kx vx : Expr} {gs : List Comprehension} {s : Scope} {p np : Pos} {t : Str} {n : Nat} {env : Env} : swapsWith (.DictComp kx vx gs s p) (some (.Name t np)) n env =
    pure (env.blockKind == .function && env.kindOf t == some .local && np.line == p.line && !(s.names.any fun (n, k) => n == t && (k == .local || k == .cell))) := rfl
theorem swaps_else {y tg : Expr} {n : Nat} {env : Env} (h : ∀ t p, tg ≠ .Name t p) : swapsWith y (some tg) n env = pure false := by
  cases y <;> first
    | rfl
    | (cases tg <;> first | rfl | exact absurd rfl (h _ _))
theorem lc_set {X : Cx} {W : WX} {sc : Scope} (G : GX C CX TB k cf N W X) (hs : X.env.scope = sc) {i : Nat} {e : E} {n : Str} {np p pos : Pos} {elt : Expr} {cs : List Comprehension} {scope : Scope} (hi : N[i]? = some n) (hl : sc.names.lookup n = some .local)
    (hsw : swapsWith (.ListComp elt cs scope p) (some (.Name n np)) pos.line X.env = pure true) (h : chkE TB N sc e (.ListComp elt cs scope p) = true) : PS X (.Assign [.Name n np] (.ListComp elt cs scope p) pos) (tS C W cf (.asg (.nam i) e)) := by
  have fin : ∀ {t : TE}, (∀ σ H Q, nE C W cf e σ H Q → t σ H Q) → ∀ D σ H, tS C W cf (.asg (.nam i) e) D σ H → tAsg t (gName i) D σ H := fun f D σ H q => f _ _ _ (tE_mono (asg_rd q) fun v H r => gnam_rd r)
  have lcC : ∀ g it ow t e, (∀ σ H Q, nE C W cf (.lc g it ow t e) σ H Q → nE C W cf (.lc g it ow t e) σ H Q) → (∀ {tt : TE}, (∀ σ H Q, nE C W cf (.lc g it ow t e) σ H Q → tt σ H Q) → ∀ D σ H, tS C W cf (.asg (.nam i) (.lc g it ow t e)) D σ H → tAsg tt (gName i) D σ H) → ∀ c, chkE TB N sc (.lc g it ow t e) (.ListComp elt [c] scope p) = true →
      swapsWith (.ListComp elt [c] scope p) (some (.Name n np)) pos.line X.env = pure true → PS X (.Assign [.Name n np] (.ListComp elt [c] scope p) pos) (tS C W cf (.asg (.nam i) (.lc g it ow t e))) := fun g it ow t e _ fin c h hsw => by
    unfold chkE at h
    simp only [Bool.and_eq_true, decide_eq_true_eq] at h
    obtain ⟨⟨⟨⟨⟨⟨⟨⟨h1, h2⟩, h3⟩, h4⟩, h5⟩, h6⟩, h7⟩, h8⟩, h9⟩ := h
    obtain ⟨tg, iter, ifs, asy⟩ := c
    subst h1
    have hF : ∀ (s : Shared) (H : Hp) (A : Addr) (cl : List (Str × Addr)) (fp : List Addr), PTs (X.blk s H scope (compEnvC scope cl A X.env) fp) ifs (nT C W0x cf t) := fun s H A cl fp => by
      rcases chkF_inv h8 with ⟨e1, e2⟩ | ⟨x, e1, h10⟩
      · dsimp only at e2
        subst e1 e2
        exact PTs.imp pts_nil fun σ H Q q => yes_rd q
      · dsimp only at e1
        subst e1
        exact pts_one (sT t (G.blk s H scope _ fp) (blk_scope hs s H A cl fp) h10)
    have := ps_setLc (spos := pos) (py := np) G.calm (by rw [G.N_]; exact G.nd) (by rw [G.N_]; exact hi) (by rw [hs]; exact hl) hsw (sI it G hs h6) (lc_own G.N_ hs h2)
      (fun s H A cl fp => sG g (G.blk s H scope _ fp) (blk_scope hs s H A cl fp) (fun z => by cases z) h7) hF
      (fun s H A cl fp => sE e (G.blk s H scope _ fp) (blk_scope hs s H A cl fp) h9) (folded_of h5)
    rw [h3] at this
    exact PS.imp this (fin fun σ H Q q => lc_rd (sub_of' h4) q)
  have lc2C : ∀ g it t g' it' t' ow ow' e, (∀ {tt : TE}, (∀ σ H Q, nE C W cf (.lc2 g it t g' it' t' ow ow' e) σ H Q → tt σ H Q) → ∀ D σ H, tS C W cf (.asg (.nam i) (.lc2 g it t g' it' t' ow ow' e)) D σ H → tAsg tt (gName i) D σ H) → ∀ c c', chkE TB N sc (.lc2 g it t g' it' t' ow ow' e) (.ListComp elt [c, c'] scope p) = true →
      swapsWith (.ListComp elt [c, c'] scope p) (some (.Name n np)) pos.line X.env = pure true → PS X (.Assign [.Name n np] (.ListComp elt [c, c'] scope p) pos) (tS C W cf (.asg (.nam i) (.lc2 g it t g' it' t' ow ow' e))) := fun g it t g' it' t' ow ow' e fin c c' h hsw => by
    unfold chkE at h
    simp only [Bool.and_eq_true, decide_eq_true_eq] at h
    obtain ⟨⟨⟨⟨⟨⟨⟨⟨⟨⟨⟨⟨⟨⟨⟨h1, h1'⟩, h2⟩, h3⟩, h4⟩, h4'⟩, h4''⟩, h5⟩, h5'⟩, h6⟩, h7⟩, h8⟩, h6'⟩, h7'⟩, h8'⟩, h9⟩ := h
    obtain ⟨tg, iter, ifs, asy⟩ := c
    obtain ⟨tg', iter', ifs', asy'⟩ := c'
    subst h1 h1'
    have hF : ∀ (s : Shared) (H : Hp) (A : Addr) (cl : List (Str × Addr)) (fp : List Addr), PTs (X.blk s H scope (compEnvC scope cl A X.env) fp) ifs (nT C W0x cf t) := fun s H A cl fp => by
      rcases chkF_inv h8 with ⟨e1, e2⟩ | ⟨x, e1, h10⟩
      · dsimp only at e2
        subst e1 e2
        exact PTs.imp pts_nil fun σ H Q q => yes_rd q
      · dsimp only at e1
        subst e1
        exact pts_one (sT t (G.blk s H scope _ fp) (blk_scope hs s H A cl fp) h10)
    have hF' : ∀ (s : Shared) (H : Hp) (A : Addr) (cl : List (Str × Addr)) (fp : List Addr), PTs (X.blk s H scope (compEnvC scope cl A X.env) fp) ifs' (nT C W0x cf t') := fun s H A cl fp => by
      rcases chkF_inv h8' with ⟨e1, e2⟩ | ⟨x, e1, h10⟩
      · dsimp only at e2
        subst e1 e2
        exact PTs.imp pts_nil fun σ H Q q => yes_rd q
      · dsimp only at e1
        subst e1
        exact pts_one (sT t' (G.blk s H scope _ fp) (blk_scope hs s H A cl fp) h10)
    have := ps_setLc2 (spos := pos) (py := np) (vs1 := ow') G.calm (by rw [G.N_]; exact G.nd) (by rw [G.N_]; exact hi) (by rw [hs]; exact hl) hsw (sI it G hs h6) (lc_own G.N_ hs h2) (by rw [h3]; exact sub_of' h4'')
      (fun s H A cl fp => sG g (G.blk s H scope _ fp) (blk_scope hs s H A cl fp) (fun z => by cases z) h7) hF
      (fun s H A cl fp => sI it' (G.blk s H scope _ fp) (blk_scope hs s H A cl fp) h6')
      (fun s H A cl fp => sG g' (G.blk s H scope _ fp) (blk_scope hs s H A cl fp) (fun z => by cases z) h7') hF'
      (fun s H A cl fp => sE e (G.blk s H scope _ fp) (blk_scope hs s H A cl fp) h9) (folded_of h5) (fun _ => folded_of h5')
    rw [h3] at this
    exact PS.imp this (fin fun σ H Q q => lc2_rd (sub_of' h4) (sub_of' h4') q)
  cases e with
  | lc g it ow t e =>
    match cs, h, hsw with
    | [c], h, hsw => exact lcC g it ow t e (fun _ _ _ q => q) fin c h hsw
    | [], h, _ => unfold chkE at h; cases h
    | _ :: _ :: _, h, _ => unfold chkE at h; cases h
  | lc2 g it t g' it' t' ow ow' e =>
    match cs, h, hsw with
    | [c, c'], h, hsw => exact lc2C g it t g' it' t' ow ow' e fin c c' h hsw
    | [], h, _ => unfold chkE at h; cases h
    | [_], h, _ => unfold chkE at h; cases h
    | _ :: _ :: _ :: _, h, _ => unfold chkE at h; cases h
  | _ => unfold chkE at h; cases h
theorem asg_snd {X : Cx} {W : WX} {sc : Scope} (G : GX C CX TB k cf N W X) (hs : X.env.scope = sc) (hf : ∀ n, X.fn n = true) {g : Ev.G} {e : E} {tg y : Expr} {pos : Pos} (h1 : noPar tg y = true) (h2 : chkG TB N sc true g tg = true) (h3 : chkE TB N sc e y = true)
    (h4 : tgOk sc tg y = true) : PS X (.Assign [tg] y pos) (tS C W cf (.asg g e)) := by
  have hg := sG g G hs (fun _ => hf) h2
  have he := sE e G hs h3
  have plain : swapsWith y (some tg) pos.line X.env = pure false → noStar tg = true → PS X (.Assign [tg] y pos) (tS C W cf (.asg g e)) := fun q ns =>
    PS.imp (ps_asg he hg q (noPar_of h1) (by rw [asg_of ns]; rfl)) fun D σ H q => asg_rd q
  by_cases hn : ∃ n p, tg = .Name n p
  · obtain ⟨n, p, rfl⟩ := hn
    replace h4 : (!isComp y || isLC y || (isDC y && !decide (sc.names.lookup n = some .local))) = true := h4
    cases hc : isComp y with
    | false => exact plain (swaps_of hc) rfl
    | true =>
      rw [hc] at h4
      cases hL : isLC y with
      | false =>
        rw [hL] at h4
        replace h4 : (isDC y && !decide (sc.names.lookup n = some .local)) = true := h4
        rw [Bool.and_eq_true, ← hs] at h4
        cases y <;> first | (cases h4.1; done) | skip
        rename_i kx vx cs scope p2
        have z : (X.env.kindOf n == some .local) = false := by
          rw [Bool.eq_false_iff]
          intro z
          have e : X.env.scope.names.lookup n = some .local := beq_iff_eq.mp z
          have z2 := h4.2
          rw [e] at z2
          cases z2
        exact plain (swaps_nameD.trans (by rw [z]; simp)) rfl
      | true =>
      cases y <;> first | (cases hL; done) | skip
      rename_i elt cs scope p2
      cases hb : (X.env.blockKind == .function && X.env.kindOf n == some .local && p.line == p2.line && !(scope.names.any fun (m, k) => m == n && (k == .local || k == .cell))) with
      | false => exact plain (swaps_name.trans (by rw [hb])) rfl
      | true =>
        cases g with
        | nam i =>
          unfold chkG at h2
          simp only [Bool.and_eq_true, decide_eq_true_eq] at h2
          have hl : sc.names.lookup n = some .local := by
            simp only [Bool.and_eq_true] at hb
            have z : X.env.kindOf n = some .local := beq_iff_eq.mp hb.1.1.2
            rw [← hs]
            exact z
          exact lc_set G hs h2.1 hl (swaps_name.trans (by rw [hb])) h3
        | tup _ => unfold chkG at h2; cases h2
        | sub _ _ => unfold chkG at h2; cases h2
        | star _ => unfold chkG at h2; cases h2
        | fld _ _ _ => unfold chkG at h2; cases h2
  · have ns : noStar tg = true := by
      cases tg <;> first | rfl | (cases h4; done)
    exact plain (swaps_else fun t p e => hn ⟨t, p, e⟩) ns
/-- what stands around a statement -/
structure Fx (X : Cx) : Prop where
  fn : ∀ n, X.fn n = true
  st : X.stack = X.env :: X.outer
  fr : X.env.frame = some X.env.locals
theorem pst_rai {X : Cx} {W : WX} {sc : Scope} (G : GX C CX TB k cf N W X) (hs : X.env.scope = sc) {c : Nat} {cd : CD} (hc : TB.cl[c]? = some cd) (he : cd.exc = true) (hn : cd.fs = []) (ok : okN cd.name = true) (hg : glN sc cd.name = true) {p p2 pos pos' : Pos} {m : Str} {j : Nat} :
    PS X (.Raise (some (.Call (.Name cd.name p) [.Constant (.str m) j p2] [] pos)) none pos') (tS C W cf (.rai c)) := by
  have F := G.cls c cd hc
  obtain ⟨x1, x2, x3, x4⟩ := F.ex he hn
  rw [← G.K] at x1 x2 x3 x4
  exact PS.imp (ps_raise G.calm G.tk (pmk_own PySem.F.excBase_ValueError x1 F.nm x2 (raises_own x3 x4) (gl_of hs hg) (okn_of ok).1)) fun D σ H q => rai_rd q
theorem GX.tr {X : Cx} {W W' : WX} (G : GX C CX TB k cf N W X) {pn : List (Addr × Obj)} {xe : Value → Shared → Prop} (tk : Takes (X.tr pn xe) W') (po : PassesOwn (model X.prog X.w) X.A X.env xe) : GX C CX TB k cf N W' (X.tr pn xe) where
  K := G.K
  N_ := G.N_
  nd := G.nd
  calm := G.calm
  room := G.room
  gd := G.gd
  r2 := G.r2
  r3 := G.r3
  tk := tk
  cx := G.cx
  cls := G.cls
  dic := G.dic
  po := po
  px := fun pins σ H s e s' I c => tk e s' (XE.of_call (W := W') I (fun cls d H' h => h) (by rw [G.cx] at c; exact c))
  px0 := G.px0
  blt := G.blt
  gv := G.gv
  fns := G.fns
/-- the except suite's reading -/
def tSu (C : Cn) (i c2 : Nat) (a : Addr) (cls : Value) (d : Option Addr) : TS := fun D σ H => ∃ (k : Nat) (x : Bool) (σ0 : L2.St), cls = .ref (C.ca k) ∧ d = none ∧ ExcC C.K (C.ca k) ∧ PySem.W.kitOne C.K (.ref (C.ca k)) (.ref (C.ca c2)) = some x ∧ σ = σ0.set i (some (.ref a)) ∧ D.rt (.bl x) H
theorem pst_tri {X : Cx} {W : WX} {sc : Scope} (G : GX C CX TB k cf N W X) (hs : X.env.scope = sc) (hf : Fx X) {c c2 : Nat} {cs : List (Nat × Option Bool)} {cd cd2 : CD} (hc : TB.cl[c]? = some cd) (hc2 : TB.cl[c2]? = some cd2) (he : cd.exc = true) (he2 : cd2.exc = true) {e i : Str}
    (ok : okN cd.name = true) (hg : glN sc cd.name = true) (oe : okN e = true) (hN : N.contains e = true) (hl : sc.names.lookup e = some .local) (hb : bltX sc "isinstance" i = true) (oy : okN cd2.name = true) (hgy : glN sc cd2.name = true)
    (hcs : (cs.all fun p => match TB.cl[p.1]? with
      | some cd => cd.exc && decide (p.2 = if cd.up.contains c then some (cd.up.contains c2) else none)
      | none => false) = true) {ss : SL} {body : List Stmt} {p1 p2 p3 p4 p5 p6 p7 p8 : Pos}
    (hbody : ∀ (W' : WX) (pn : List (Addr × Obj)) (xe : Value → Shared → Prop), GX C CX TB k cf N W' (X.tr pn xe) → Fx (X.tr pn xe) → PSs (X.tr pn xe) body (tSs C W' cf ss)) :
    PS X (.Try body [.ExceptHandler (some (.Name cd.name p1)) (some e) [.Return (some (.Call (.Name i p2) [.Name e p3, .Name cd2.name p4] [] p5)) p6] p7] [] [] p8) (tS C W cf (.tri ss c c2 cs)) := by
  have F := G.cls c cd hc
  have F2 := G.cls c2 cd2 hc2
  obtain ⟨n, hn⟩ := List.getElem?_of_mem (List.contains_iff_mem.mp hN)
  obtain ⟨rfl, hgi, hmi⟩ := blt_of G hs (by decide) hb
  have bt : bootBuiltins (Str.ofString "isinstance") = some (.builtin "isinstance") := by decide +kernel
  have entry : ∀ k o, cs.lookup k = some o → ∃ cdk, TB.cl[k]? = some cdk ∧ cdk.exc = true ∧ o = if cdk.up.contains c then some (cdk.up.contains c2) else none := fun k o el => by
    have hm : (k, o) ∈ cs := by
      clear hcs
      induction cs with
      | nil => cases el
      | cons q cs ih =>
        obtain ⟨k', o'⟩ := q
        rw [List.lookup_cons] at el
        cases hk : k == k' with
        | true =>
          rw [hk] at el
          cases el
          rw [beq_iff_eq.mp hk]
          exact List.mem_cons_self
        | false =>
          rw [hk] at el
          exact List.mem_cons_of_mem _ (ih el)
    have z := List.all_eq_true.mp hcs _ hm
    dsimp only at z
    split at z
    · rename_i cdk ek
      rw [Bool.and_eq_true, decide_eq_true_eq] at z
      exact ⟨cdk, ek, z.1, z.2⟩
    · cases z
  refine PS.imp (ps_try_as (c := .ref (C.ca c)) (i := n) (Wout := W) (tb := fun W' => tSs C W' cf ss) (ts := tSu C n c2) hf.st hf.fr (by rw [G.N_]; exact G.nd) (by rw [G.N_]; exact hn) (by show X.env.scope.names.lookup e = _; rw [hs]; exact hl) ⟨gl_of hs hg, (okn_of ok).1, .inl F.nm⟩ G.tk
    (fun W' pn xe tk po => hbody W' pn xe (G.tr tk po) ⟨hf.fn, hf.st, hf.fr⟩) fun a oe' cls d pn hz hfl => ?_) fun D σ H q => ?_
  · refine ⟨fun pins s σ H D I h => ?_⟩
    obtain ⟨k1, x, σ0, rfl, rfl, hx, hk, rfl, hr⟩ := h
    have hlt : n < σ0.length := by
      have z := I.len
      rw [List.length_set] at z
      rw [z]
      show n < X.N.length
      rw [G.N_]
      exact (List.getElem?_eq_some_iff.mp hn).1
    have ev : PE (X.suite a ((a, oe') :: pn)) (.Name e p3) (tVar n) := pe_var (show X.N[n]? = some e by rw [G.N_]; exact hn) (show Vis X.env.scope e by unfold Vis; rw [hs, hl]; simp) (okn_of oe).1 (okn_of oe).2.1
    have ey : PE (X.suite a ((a, oe') :: pn)) (.Name cd2.name p4) (tC (.ref (C.ca c2))) := pe_glob (show X.env.scope.names.lookup cd2.name = _ by rw [hs]; exact gln_of hgy) (show X.mg cd2.name = _ from F2.nm) rfl (okn_of oy).1
    have ci : CallR (X.suite a ((a, oe') :: pn)) (.builtin "isinstance") (rIsE X.K (C.ca k1) a) := call_isE (by rw [G.K]; exact hx) hz hfl
    refine (pss_one (ps_ret (pe_callB ci hgi hmi bt (pa_cons ev (pa_cons ey pa_nil rfl) rfl) (by decide) (by decide) rfl (by rfl)))).run pins s _ H D I ?_
    exact ⟨.ref a, List.getElem?_set_self hlt, .ref (C.ca c2), .ref (C.ca c2), x, rfl, fun u hu => hu, by rw [G.K]; exact hk, hr⟩
  · refine tri_rd q (fun k1 x el σ' H' hr => ?_) fun k1 el d σ' H' hw => ?_
    · obtain ⟨cdk, ek, hek, eo⟩ := entry k1 _ el
      have Fk := G.cls k1 cdk ek
      obtain ⟨u1, _⟩ := Fk.up hek c cd hc he
      obtain ⟨_, u2⟩ := Fk.up hek c2 cd2 hc2 he2
      cases hu : cdk.up.contains c with
      | false => rw [hu] at eo; cases eo
      | true =>
        rw [hu] at eo u1
        cases eo
        exact ⟨true, by rw [G.K]; exact u1, fun _ a _ => ⟨k1, _, σ', rfl, rfl, Fk.is hek, u2, rfl, hr⟩, fun z => (by cases z)⟩
    · obtain ⟨cdk, ek, hek, eo⟩ := entry k1 _ el
      have Fk := G.cls k1 cdk ek
      obtain ⟨u1, _⟩ := Fk.up hek c cd hc he
      cases hu : cdk.up.contains c with
      | true => rw [hu] at eo; cases eo
      | false =>
        rw [hu] at u1
        exact ⟨false, by rw [G.K]; exact u1, fun z => (by cases z), fun _ => hw⟩
theorem two_stores (t t' y : Expr) (env : Env) : swappedStores [t, t'] y env = pure none := by
  unfold swappedStores
  cases t <;> cases y <;> rfl
theorem cst_tc {X : Cx} {d : D} {c : Const} {j : Nat} {pos : Pos} (h : cstOk d c = true) : ∃ v, (∀ μ H, RelD C μ H d v) ∧ PE X (.Constant c j pos) (tC v) := by
  unfold cstOk at h
  split at h
  · exact ⟨.non, fun μ H => relD_non.mpr rfl, pe_non⟩
  · rename_i a b
    cases beq_iff_eq.mp h
    exact ⟨.bl a, fun μ H => relD_bl.mpr rfl, pe_bl⟩
  · cases beq_iff_eq.mp h
    exact ⟨_, fun μ H => relD_int.mpr rfl, pe_int⟩
  · cases beq_iff_eq.mp h
    exact ⟨_, fun μ H => relD_str.mpr (congrArg V.str (mk_str _).symm), pe_str⟩
  · cases h
/-- what an except's suite that only gives a constant asks -/
def tCs (C : Cn) (d0 : D) : TS := fun D _ H => ∃ μ, ∀ v, RelD C μ H d0 v → D.rt v H
theorem pst_tryc {X : Cx} {W : WX} {sc : Scope} (G : GX C CX TB k cf N W X) (hs : X.env.scope = sc) (hf : Fx X) {c : Nat} {cs : List (Nat × Bool)} {cd : CD} (hc : TB.cl[c]? = some cd) (he : cd.exc = true) (ok : okN cd.name = true) (hg : glN sc cd.name = true)
    (hcs : (cs.all fun p => match TB.cl[p.1]? with
      | some cd => cd.exc && decide (p.2 = cd.up.contains c)
      | none => false) = true) {d : D} {kc : Const} (hd : cstOk d kc = true) {ss : SL} {body : List Stmt} {j : Nat} {p1 p2 p3 p4 p5 : Pos}
    (hbody : ∀ (W' : WX) (pn : List (Addr × Obj)) (xe : Value → Shared → Prop), GX C CX TB k cf N W' (X.tr pn xe) → Fx (X.tr pn xe) → PSs (X.tr pn xe) body (tSs C W' cf ss)) :
    PS X (.Try body [.ExceptHandler (some (.Name cd.name p1)) none [.Return (some (.Constant kc j p2)) p3] p4] [] [] p5) (tS C W cf (.tryc ss c cs d)) := by
  have F := G.cls c cd hc
  have entry : ∀ n x, cs.lookup n = some x → ∃ cdn, TB.cl[n]? = some cdn ∧ cdn.exc = true ∧ x = cdn.up.contains c := fun n x el => by
    have hm : (n, x) ∈ cs := by
      clear hcs
      induction cs with
      | nil => cases el
      | cons q cs ih =>
        rw [List.lookup_cons] at el
        cases hk : n == q.1 with
        | true =>
          rw [hk] at el
          rw [beq_iff_eq.mp hk, ← Option.some.inj el]
          exact List.mem_cons_self
        | false =>
          rw [hk] at el
          exact List.mem_cons_of_mem _ (ih el)
    have z := List.all_eq_true.mp hcs _ hm
    dsimp only at z
    split at z
    · rename_i cdn en
      rw [Bool.and_eq_true, decide_eq_true_eq] at z
      exact ⟨cdn, en, z.1, z.2⟩
    · cases z
  have told : ∀ n x, cs.lookup n = some x → PySem.W.exmOne X.K (.ref (C.ca n)) (.ref (C.ca c)) = some x := fun n x el => by
    obtain ⟨cdn, en, hen, ex⟩ := entry n x el
    rw [G.K, ex]
    exact ((G.cls n cdn en).up hen c cd hc he).1
  refine PS.imp (ps_try_only (c := .ref (C.ca c)) (Wout := W) (tb := fun W' => tSs C W' cf ss) (ts := fun _ _ _ => tCs C d) hf.st hf.fr ⟨gl_of hs hg, (okn_of ok).1, .inl F.nm⟩ G.tk
    (fun W' pn xe tk po => hbody W' pn xe (G.tr tk po) ⟨hf.fn, hf.st, hf.fr⟩) fun a oe cls dd pn hz hfl => ?_) fun D σ H q => ?_
  · obtain ⟨v, hv, pv⟩ := cst_tc (C := C) (X := X.suite a ((a, oe) :: pn)) (j := j) (pos := p2) hd
    exact PSs.imp (pss_one (ps_ret pv)) fun D σ H ⟨μ, q⟩ => q v (hv μ H)
  · refine tryc_rd q (fun n el dd σ' μ' H' hr => ⟨true, told n true el, fun _ a _ => ⟨μ', hr⟩, fun z => (by cases z)⟩) fun n el dd σ' H' hw => ⟨false, told n false el, fun z => (by cases z), fun _ => hw⟩
theorem in_rAugI {X : Cx} {op : B2} (ho : op = .add ∨ op = .sub) : InOp X (opB op) (rAugI op) := by
  rcases ho with rfl | rfl
  · exact in_add
  · exact in_sub
theorem pst_augf {X : Cx} {W : WX} (G : GX C CX TB k cf N W X) {c j : Nat} {cd : CD} (hc : TB.cl[c]? = some cd) (he : cd.exc = false) {n : Str} (hj : cd.fs[j]? = some n) {y z : Expr} {o e : E} {tp pos : Pos} {op : B2} (ho : op = .add ∨ op = .sub)
    (hy : PE X y (nE C W cf o)) (hz : PE X z (nE C W cf e)) : PS X (.AugAssign (.Attribute y n tp) (opB op) z pos) (tS C W cf (.augf o c j op e)) := by
  have F := G.cls c cd hc
  have cl := F.cl he
  have no := F.no he n (List.mem_of_getElem? hj)
  have en := F.fl j n hj
  rw [← G.K] at cl no
  refine PS.imp (ps_fldaug hy hz (in_rAugI ho)) fun D σ H q => ?_
  have q1 := augf_rd ho (F.nodup he hj) q
  unfold sAugI at q1
  rw [en] at q1
  exact tE_mono q1 fun x H1 ⟨ad, dx, vs, v, ex, hH, hv, q2⟩ => ⟨ad, C.ca c, dx, _, v, ex, hH, cl, no, hv, tE_mono q2 fun y2 H2 ⟨i, j2, e1, e2, dx', vs', hH', h9, q3⟩ => ⟨i, j2, e1, e2, dx', _, hH', by rw [fz_len]; omega, q3⟩⟩
mutual
theorem sS : ∀ (s : S) {X : Cx} {W : WX} {sc : Scope} {x : Stmt}, GX C CX TB k cf N W X → X.env.scope = sc → Fx X → chkS TB N sc s x = true → PS X x (tS C W cf s)
  | .expr e, X, W, sc, x, G, hs, hf, h => by
    unfold chkS at h
    split at h
    · simp only [Bool.and_eq_true, Bool.not_eq_true'] at h
      exact PS.imp (ps_expr (sE e G hs h.2) (swaps_of h.1)) fun D σ H q => expr_rd q
    · cases h
  | .asg g e, X, W, sc, x, G, hs, hf, h => by
    unfold chkS at h
    split at h
    · rw [Bool.and_eq_true, Bool.and_eq_true, Bool.and_eq_true] at h
      exact asg_snd G hs hf.fn h.1.1.1 h.1.1.2 h.1.2 h.2
    · cases h
  | .par _ _, X, W, sc, x, G, hs, hf, h => by unfold chkS at h; cases h
  | .aug i o e, X, W, sc, x, G, hs, hf, h => by
    unfold chkS at h
    split at h
    · rename_i n p op y pos
      simp only [Bool.and_eq_true, decide_eq_true_eq] at h
      obtain ⟨⟨⟨h1, h2⟩, h3⟩, h4⟩ := h
      have hL : Loc X.env.scope n := by
        rw [hs]
        rcases locn_of h2 with e | ⟨e, _⟩
        · exact .inl e
        · exact .inr e
      have go : ∀ o', (o' = .add ∨ o' = .sub) → o = o' → PIp X (opB o') (ipI (ipF o')) → op = opB o' → PS X (.AugAssign (.Name n p) op y pos) (tS C W cf (.aug i o e)) := fun o' ho e1 hp e2 => by
        subst e1 e2
        exact PS.imp (ps_aug (by rw [G.N_]; exact G.nd) (by rw [G.N_]; exact h1) hL (sE e G hs h4) hp (.inl (hf.fn n))) fun D σ H q => aug_rd ho q
      split at h3
      · exact go .add (.inl rfl) rfl ip_add (opB_of h3)
      · exact go .sub (.inr rfl) rfl ip_sub (opB_of h3)
      · cases h3
    · cases h
  | .augs o i op e, X, W, sc, x, G, hs, hf, h => by
    unfold chkS at h
    split at h
    · simp only [Bool.and_eq_true] at h
      obtain ⟨⟨⟨⟨h1, h2⟩, h3⟩, h4⟩, h5⟩ := h
      have go : ∀ o', (o' = .add ∨ o' = .sub) → op = o' → PIp X (opB o') (ipI (ipF o')) → ∀ op', op' = opB o' → ∀ y z v q1 q2, PE X y (nE C W cf o) → PE X z (nE C W cf i) → PE X v (nE C W cf e) → (∀ ov iv new, augStore z ov iv new = (do holding [new, ov, iv] (setItem ov iv new); release [new, ov, iv] []; pure .next)) →
          PS X (.AugAssign (.Subscript y z q1) op' v q2) (tS C W cf (.augs o i op e)) := fun o' ho e1 hp op' e2 y z v q1 q2 p1 p2 p3 ha => by
        subst e1 e2
        exact PS.imp (ps_augS p1 p2 (get_rGetE (by have := G.un; omega)) p3 hp (set_rSetE (by have := G.un; omega)) ha) fun D σ H q => augs_rd ho q
      have ha := aug_of h4
      split at h5
      · exact go .add (.inl rfl) rfl ip_add _ (opB_of h5) _ _ _ _ _ (sE o G hs h1) (sE i G hs h2) (sE e G hs h3) ha
      · exact go .sub (.inr rfl) rfl ip_sub _ (opB_of h5) _ _ _ _ _ (sE o G hs h1) (sE i G hs h2) (sE e G hs h3) ha
      · cases h5
    · cases h
  | .augf o c j op e, X, W, sc, x, G, hs, hf, h => by
    unfold chkS at h
    split at h
    · simp only [Bool.and_eq_true] at h
      obtain ⟨⟨⟨h1, h2⟩, h3⟩, h4⟩ := h
      split at h1
      · rename_i cd e0
        simp only [Bool.and_eq_true, decide_eq_true_eq, Bool.not_eq_true'] at h1
        have hy := sE o G hs h2
        have hz := sE e G hs h3
        have go : ∀ o', (o' = .add ∨ o' = .sub) → op = o' → ∀ op', op' = opB o' → ∀ y n q1 v q2, cd.fs[j]? = some n → PE X y (nE C W cf o) → PE X v (nE C W cf e) → PS X (.AugAssign (.Attribute y n q1) op' v q2) (tS C W cf (.augf o c j op e)) := fun o' ho e1 op' e2 y n q1 v q2 hn hy hz => by
          subst e1 e2
          exact pst_augf G e0 h1.1 hn ho hy hz
        split at h4
        · exact go .add (.inl rfl) rfl _ (opB_of h4) _ _ _ _ _ h1.2 hy hz
        · exact go .sub (.inr rfl) rfl _ (opB_of h4) _ _ _ _ _ h1.2 hy hz
        · cases h4
      · cases h1
    · cases h
  | .asg2 g g' e, X, W, sc, x, G, hs, hf, h => by
    unfold chkS at h
    split at h
    · simp only [Bool.and_eq_true] at h
      obtain ⟨⟨⟨⟨h1, h2⟩, h3⟩, h4⟩, h5⟩ := h
      exact PS.imp (ps_asg2 (sE e G hs h5) (sG g G hs (fun _ => hf.fn) h3) (sG g' G hs (fun _ => hf.fn) h4) (by rw [asg_of h1, asg_of h2]; rfl) (two_stores _ _ _ _)) fun D σ H q => asg2_rd q
    · cases h
  | .tryc s c cs d, X, W, sc, x, G, hs, hf, h => by
    unfold chkS at h
    split at h
    · simp only [Bool.and_eq_true] at h
      obtain ⟨⟨⟨⟨⟨h1, h2⟩, h3⟩, h4⟩, h5⟩, h6⟩ := h
      split at h4
      · rename_i cd e1
        simp only [Bool.and_eq_true, decide_eq_true_eq] at h4
        obtain ⟨rfl, h7⟩ := h4
        exact pst_tryc G hs hf e1 h7 h1 h2 h5 h3 fun W' pn xe G' hf' => sSs s G' hs hf' h6
      · cases h4
    · cases h
  | .ret e, X, W, sc, x, G, hs, hf, h => by
    unfold chkS at h
    split at h
    · exact PS.imp (ps_ret (sE e G hs h)) fun D σ H q => ret_rd q
    · cases h
  | .retn, X, W, sc, x, G, hs, hf, h => by
    unfold chkS at h
    split at h
    · exact PS.imp ps_retN fun D σ H q => retn_rd q
    · cases h
  | .pass, X, W, sc, x, G, hs, hf, h => by
    unfold chkS at h
    split at h
    · exact PS.imp ps_pass fun D σ H q => pass_rd q
    · cases h
  | .brk, X, W, sc, x, G, hs, hf, h => by
    unfold chkS at h
    split at h
    · exact PS.imp ps_break fun D σ H q => brk_rd q
    · cases h
  | .cont, X, W, sc, x, G, hs, hf, h => by
    unfold chkS at h
    split at h
    · exact PS.imp ps_continue fun D σ H q => cont_rd q
    · cases h
  | .iff t s s', X, W, sc, x, G, hs, hf, h => by
    unfold chkS at h
    split at h
    · simp only [Bool.and_eq_true] at h
      exact PS.imp (ps_if (sT t G hs h.1.1) (sSs s G hs hf h.1.2) (sSs s' G hs hf h.2)) fun D σ H q => iff_rd q
    · cases h
  | .for_ g it s, X, W, sc, x, G, hs, hf, h => by
    unfold chkS at h
    split at h
    · simp only [Bool.and_eq_true] at h
      exact PS.imp (ps_for G.po G.calm (sI it G hs h.1.1.2) (sG g G hs (fun _ => hf.fn) h.1.2) (sSs s G hs hf h.2) (folded_of h.1.1.1)) fun D σ H q => for_rd q
    · cases h
  | .whl t s, X, W, sc, x, G, hs, hf, h => by
    unfold chkS at h
    split at h
    · simp only [Bool.and_eq_true] at h
      exact PS.imp (ps_while G.po (sT t G hs h.1) (sSs s G hs hf h.2)) fun D σ H q => whl_rd q
    · cases h
  | .bad, X, W, sc, x, G, hs, hf, h => ⟨fun pins s σ H D I q => (bad_rd q).elim⟩
  | .raiC c es, X, W, sc, x, G, hs, hf, h => by
    unfold chkS at h
    split at h
    · simp only [Bool.and_eq_true] at h
      obtain ⟨⟨⟨h1, h2⟩, h3⟩, h4⟩ := h
      split at h3
      · rename_i cd e
        simp only [Bool.and_eq_true, decide_eq_true_eq] at h3
        obtain ⟨⟨⟨rfl, h5⟩, h6⟩, h7⟩ := h3
        exact pst_raiC G hs e h5 h6 (Nat.le_of_ble_eq_true h7) h1 h2 (sL es G hs h4) (chkL_star h4).1
      · cases h3
    · cases h
  | .rai c, X, W, sc, x, G, hs, hf, h => by
    unfold chkS at h
    split at h
    · simp only [Bool.and_eq_true] at h
      obtain ⟨⟨h1, h2⟩, h3⟩ := h
      split at h3
      · rename_i cd e
        simp only [Bool.and_eq_true, decide_eq_true_eq, List.isEmpty_iff] at h3
        obtain ⟨⟨rfl, h4⟩, h5⟩ := h3
        exact pst_rai G hs e h4 h5 h1 h2
      · cases h3
    · cases h
  | .tri s c c2 cs, X, W, sc, x, G, hs, hf, h => by
    unfold chkS at h
    split at h
    · simp only [Bool.and_eq_true, decide_eq_true_eq] at h
      obtain ⟨⟨⟨⟨⟨⟨⟨⟨⟨⟨⟨h1, h2⟩, h3⟩, h4⟩, h5⟩, h6⟩, h7⟩, h8⟩, h9⟩, h10⟩, h11⟩, h12⟩ := h
      split at h10
      · rename_i cd cd2 e1 e2
        simp only [Bool.and_eq_true, decide_eq_true_eq] at h10
        obtain ⟨⟨⟨rfl, rfl⟩, h13⟩, h14⟩ := h10
        subst h6
        exact pst_tri G hs hf e1 e2 h13 h14 h1 h2 h3 h4 h5 h7 h8 h9 h11 fun W' pn xe G' hf' => sSs s G' hs hf' h12
      · cases h10
    · cases h
theorem sSs : ∀ (s : SL) {X : Cx} {W : WX} {sc : Scope} {xs : List Stmt}, GX C CX TB k cf N W X → X.env.scope = sc → Fx X → chkSs TB N sc s xs = true → PSs X xs (tSs C W cf s)
  | .nil, X, W, sc, xs, G, hs, hf, h => by
    unfold chkSs at h
    cases xs with
    | nil => exact PSs.imp pss_nil fun D σ H q => snil_rd q
    | cons _ _ => cases h
  | .cons s ss, X, W, sc, xs, G, hs, hf, h => by
    unfold chkSs at h
    cases xs with
    | nil => cases h
    | cons x xs =>
      simp only [Bool.and_eq_true] at h
      exact PSs.imp (pss_cons (sS s G hs hf h.1) (sSs ss G hs hf h.2)) fun D σ H q => scons_rd q
end
end Ev
end

section
/-! EvSub: a call that sees no more of the store than the lists it is handed. -/
namespace Ev
open PySem L2
variable {C : Cn} {μ μ' μ0 μ1 : List Addr} {H H' H1 : Hp} {M M' M0 M1 : Sto} {bs : List Nat} {v : V} {W : XK} {b : Nat} {Q : VK}

/-! ### what is handed in -/
theorem roots_ok {M : Sto} : ∀ {ds : List D} {ns ms : List Nat}, roots M ds ns = some ms → ns.Nodup → (∀ n ∈ ns, ∃ o, M[n]? = some o ∧ flatO o = true) →
    ms.Nodup ∧ (∀ n ∈ ms, ∃ o, M[n]? = some o ∧ flatO o = true) ∧ (∀ n ∈ ns, n ∈ ms) ∧ ∀ d ∈ ds, (∃ n, d = .loc n ∧ n ∈ ms) ∨ d.flat = true
  | [], ns, ms, h, hn, ho => by
    unfold roots at h
    cases h
    exact ⟨hn, ho, fun _ z => z, fun d m => by cases m⟩
  | d :: ds, ns, ms, h, hn, ho => by
    unfold roots at h
    split at h
    · rename_i n
      split at h
      · rename_i e
        obtain ⟨h1, h2, h3, h4⟩ := roots_ok h hn ho
        refine ⟨h1, h2, h3, fun d m => ?_⟩
        rcases List.mem_cons.mp m with rfl | m
        · exact .inl ⟨n, rfl, h3 n (List.contains_iff_mem.mp e)⟩
        · exact h4 d m
      · rename_i e
        split at h
        · rename_i o eo
          split at h
          · rename_i fo
            have nm : n ∉ ns := fun m => by
              rw [List.contains_iff_mem.mpr m] at e
              cases e
            obtain ⟨h1, h2, h3, h4⟩ := roots_ok h (by
              rw [List.nodup_append]
              exact ⟨hn, by simp, fun a ha b hb => by
                rw [List.mem_singleton.mp hb]
                exact fun z => nm (z ▸ ha)⟩) (fun m hm => by
              rcases List.mem_append.mp hm with hm | hm
              · exact ho m hm
              · rw [List.mem_singleton.mp hm]; exact ⟨o, eo, fo⟩)
            refine ⟨h1, h2, fun m hm => h3 m (List.mem_append_left _ hm), fun d m => ?_⟩
            rcases List.mem_cons.mp m with rfl | m
            · exact .inl ⟨n, rfl, h3 n (List.mem_append_right _ List.mem_cons_self)⟩
            · exact h4 d m
          · cases h
        · cases h
    · split at h
      · rename_i f
        obtain ⟨h1, h2, h3, h4⟩ := roots_ok h hn ho
        refine ⟨h1, h2, h3, fun d m => ?_⟩
        rcases List.mem_cons.mp m with rfl | m
        · exact .inr f
        · exact h4 d m
      · cases h
theorem picks_ok {M : Sto} : ∀ {ns : List Nat} {M0 : Sto}, picks M ns = some M0 → M0.length = ns.length ∧ ∀ (j n : Nat), ns[j]? = some n → M0[j]? = M[n]? 
  | [], M0, h => by
    unfold picks at h
    cases h
    exact ⟨rfl, fun j n e => by simp at e⟩
  | n :: ns, M0, h => by
    unfold picks at h
    split at h
    · rename_i o os e1 e2
      cases h
      obtain ⟨h1, h2⟩ := picks_ok e2
      refine ⟨by simp [h1], fun j m e => ?_⟩
      cases j with
      | zero =>
        simp at e
        subst e
        simp [e1]
      | succ j => simpa using h2 j m (by simpa using e)
    · cases h
/-- the addresses of the small store -/
theorem subs_addr (hl : μ.length = M.length) (nd : μ.Nodup) {ns : List Nat} (hn : ns.Nodup) (h : ∀ n ∈ ns, ∃ o, M[n]? = some o ∧ flatO o = true) :
    ∃ μ0 : List Addr, μ0.length = ns.length ∧ (∀ (j n : Nat), ns[j]? = some n → μ0[j]? = μ[n]?) ∧ μ0.Nodup ∧ (∀ a ∈ μ0, a ∈ μ) ∧ ∀ (n : Nat) (a : Addr), μ[n]? = some a → n ∉ ns → a ∉ μ0 := by
  induction ns with
  | nil => exact ⟨[], rfl, fun j n e => by simp at e, by simp, fun a m => (by cases m), fun n a _ _ m => (by cases m)⟩
  | cons n ns ih =>
    rw [List.nodup_cons] at hn
    obtain ⟨μ0, h1, h2, h3, h4, h5⟩ := ih hn.2 fun m hm => h m (List.mem_cons_of_mem _ hm)
    obtain ⟨o, eo, _⟩ := h n List.mem_cons_self
    have hlt : n < μ.length := by rw [hl]; exact (List.getElem?_eq_some_iff.mp eo).1
    have ea : μ[n]? = some μ[n] := List.getElem?_eq_getElem hlt
    refine ⟨μ[n] :: μ0, by simp [h1], fun j m e => ?_, ?_, fun a m => ?_, fun m a e nm hm => ?_⟩
    · cases j with
      | zero =>
        simp at e
        subst e
        simp [ea]
      | succ j => simpa using h2 j m (by simpa using e)
    · rw [List.nodup_cons]
      exact ⟨h5 n _ ea hn.1, h3⟩
    · rcases List.mem_cons.mp m with rfl | m
      · exact List.getElem_mem hlt
      · exact h4 a m
    · rw [List.mem_cons, not_or] at nm
      rcases List.mem_cons.mp hm with rfl | hm
      · exact nm.1 (nodup_get nd e ea)
      · exact h5 m a e nm.2 hm
theorem idx_get {ns : List Nat} {n : Nat} (h : n ∈ ns) : ns[ns.idxOf n]? = some n := by
  have hl := List.idxOf_lt_length_iff.mpr h
  rw [List.getElem?_eq_getElem hl]
  simp
theorem args_in {ns : List Nat} (h2 : ∀ (j n : Nat), ns[j]? = some n → μ0[j]? = μ[n]?) : ∀ {ds : List D} {vs : List V}, (∀ d ∈ ds, (∃ n, d = .loc n ∧ n ∈ ns) ∨ d.flat = true) → RelDs C μ H ds vs → RelDs C μ0 H (ds.map (inD1 ns)) vs
  | [], vs, _, r => by rw [r.nil_inv]; exact .nil
  | d :: ds, vs, h, r => by
    obtain ⟨v, vr, rfl, r1, r2⟩ := r.inv
    refine .cons ?_ (args_in h2 (fun d m => h d (List.mem_cons_of_mem _ m)) r2)
    rcases h d List.mem_cons_self with ⟨n, rfl, hn⟩ | hf
    · obtain ⟨a, ea, rfl⟩ := relD_loc.mp r1
      exact relD_loc.mpr ⟨a, by rw [h2 _ _ (idx_get hn)]; exact ea, rfl⟩
    · cases d with
      | loc n => unfold D.flat at hf; cases hf
      | _ => exact r1.flat hf

/-! ### what comes back -/
variable {ns : List Nat} {L : Nat}
theorem outDs_map : ∀ ds : List D, outDs ns L ds = ds.map (outD ns L)
  | [] => by unfold outDs; rfl
  | d :: ds => by unfold outDs; rw [outDs_map ds]; rfl
theorem pairs_out : ∀ {ds : List D}, (pairsD (outDs ns L ds)).isSome = true → (pairsD ds).isSome = true
  | [], _ => by simp [pairsD]
  | d :: ds, h => by
    unfold outDs at h
    cases d with
    | tup xs =>
      unfold outD at h
      match xs with
      | [] => simp [outDs, pairsD] at h
      | [_] => simp [outDs, pairsD] at h
      | x :: y :: z :: r => simp [outDs, pairsD] at h
      | [x, y] =>
        cases x with
        | str s =>
          simp only [outDs, outD, pairsD] at h
          cases e : pairsD (outDs ns L ds) with
          | none => rw [e] at h; cases h
          | some kvs =>
            have ih := pairs_out (ds := ds) (by rw [e]; rfl)
            unfold pairsD
            cases e2 : pairsD ds with
            | none => rw [e2] at ih; cases ih
            | some kvs2 => rfl
        | loc i =>
          simp only [outDs] at h
          unfold outD at h
          split at h <;> simp [pairsD] at h
        | _ => simp [outDs, outD, pairsD] at h
    | loc i =>
      unfold outD at h
      split at h <;> simp [pairsD] at h
    | _ => simp [outD, pairsD] at h
theorem ints_out : ∀ xs : List D, intsD (outDs ns L xs) = intsD xs
  | [] => by unfold outDs; rfl
  | x :: xs => by
    unfold outDs
    cases x with
    | int i =>
      unfold outD intsD
      rw [ints_out xs]
    | loc i =>
      unfold outD
      split <;> rfl
    | _ => unfold outD; rfl
mutual
theorem rel_out (h : ∀ (i : Nat) (a : Addr), μ1[i]? = some a → ∃ n, outD ns L (.loc i) = .loc n ∧ μ'[n]? = some a) : ∀ {d : D} {v : V}, RelD C μ1 H d v → RelD C μ' H (outD ns L d) v
  | .non, _, r => by unfold outD; unfold RelD at *; exact r
  | .bl _, _, r => by unfold outD; unfold RelD at *; exact r
  | .int _, _, r => by unfold outD; unfold RelD at *; exact r
  | .str _, _, r => by unfold outD; unfold RelD at *; exact r
  | .fn _, _, r => by unfold outD; unfold RelD at *; exact r
  | .loc i, _, r => by
    obtain ⟨a, ea, rfl⟩ := relD_loc.mp r
    obtain ⟨n, e, en⟩ := h i a ea
    rw [e]
    exact relD_loc.mpr ⟨a, en, rfl⟩
  | .tup xs, _, r => by
    unfold outD
    unfold RelD at *
    obtain ⟨a, vs, e, q, r, nd, it⟩ := r
    exact ⟨a, vs, e, q, rels_out h r, fun z => nd (pairs_out z), fun z => it (by unfold intT at z ⊢; rw [ints_out] at z; exact z)⟩
  | .frz xs, _, r => by
    unfold outD
    unfold RelD at *
    obtain ⟨a, vs, e, q, r⟩ := r
    exact ⟨a, vs, e, q, rels_out h r⟩
theorem rels_out (h : ∀ (i : Nat) (a : Addr), μ1[i]? = some a → ∃ n, outD ns L (.loc i) = .loc n ∧ μ'[n]? = some a) : ∀ {ds : List D} {vs : List V}, RelDs C μ1 H ds vs → RelDs C μ' H (outDs ns L ds) vs
  | [], _, r => by rw [r.nil_inv]; unfold outDs; exact .nil
  | d :: ds, _, r => by
    obtain ⟨v, vr, rfl, r1, r2⟩ := r.inv
    unfold outDs
    exact .cons (rel_out h r1) (rels_out h r2)
end
theorem outKs_fst : ∀ kvs : List (KY × D), (outKs ns L kvs).map (·.1) = kvs.map (·.1)
  | [] => by unfold outKs; rfl
  | (k, d) :: kvs => by unfold outKs; simp [outKs_fst kvs]
theorem outKs_snd : ∀ kvs : List (KY × D), (outKs ns L kvs).map (·.2) = outDs ns L (kvs.map (·.2))
  | [] => by unfold outKs; simp [outDs]
  | (k, d) :: kvs => by unfold outKs; simp [outKs_snd kvs, outDs]
theorem kz_fst {kvs kvs' : List (KY × D)} {vs : List V} (h : kvs.map (·.1) = kvs'.map (·.1)) : kz kvs vs = kz kvs' vs := by
  unfold kz
  rw [show (kvs.map fun p => p.1.key) = (kvs.map (·.1)).map fun k => k.key by rw [List.map_map]; rfl, h, List.map_map]
  rfl
theorem outTs_fst : ∀ kvs : List (List Int × D), (outTs ns L kvs).map (·.1) = kvs.map (·.1)
  | [] => by unfold outTs; rfl
  | (k, d) :: kvs => by unfold outTs; simp [outTs_fst kvs]
theorem outTs_snd : ∀ kvs : List (List Int × D), (outTs ns L kvs).map (·.2) = outDs ns L (kvs.map (·.2))
  | [] => by unfold outTs; simp [outDs]
  | (k, d) :: kvs => by unfold outTs; simp [outTs_snd kvs, outDs]
theorem kzT_fst {kvs kvs' : List (List Int × D)} {vs : List V} (h : kvs.map (·.1) = kvs'.map (·.1)) : kzT kvs vs = kzT kvs' vs := by
  unfold kzT
  rw [show (kvs.map fun p => p.1.map (Sum.inl : Int → Key)) = (kvs.map (·.1)).map fun k => k.map Sum.inl by rw [List.map_map]; rfl, h, List.map_map]
  rfl
theorem repo_out (h : ∀ (i : Nat) (a : Addr), μ1[i]? = some a → ∃ n, outD ns L (.loc i) = .loc n ∧ μ'[n]? = some a) {a : Addr} {o : O} (r : RepO C μ1 H a o) : RepO C μ' H a (outO ns L o) := by
  cases o with
  | lst xs =>
    obtain ⟨vs, q, r⟩ := r
    exact ⟨vs, q, rels_out h r⟩
  | dct kvs =>
    obtain ⟨vs, q, r⟩ := r
    exact ⟨vs, by rw [kz_fst (outKs_fst kvs)]; exact q, by rw [outKs_snd]; exact rels_out h r⟩
  | ins c xs =>
    obtain ⟨dx, vs, q, r, l⟩ := r
    have r2 := rels_out (ns := ns) (L := L) h r
    exact ⟨dx, vs, q, r2, by rw [r2.length, ← r.length]; exact l⟩
  | dctT kvs =>
    obtain ⟨vs, q, r⟩ := r
    exact ⟨vs, by rw [kzT_fst (outTs_fst kvs)]; exact q, by rw [outTs_snd]; exact rels_out h r⟩
theorem repo_flat {a : Addr} {o : O} (f : flatO o = true) (r : RepO C μ H a o) : RepO C μ' H a o := by
  cases o with
  | lst xs =>
    obtain ⟨vs, q, r⟩ := r
    exact ⟨vs, q, r.flat f⟩
  | dct kvs =>
    obtain ⟨vs, q, r⟩ := r
    exact ⟨vs, q, r.flat f⟩
  | ins c xs => cases f
  | dctT kvs => cases f
theorem back_len : ∀ (ns : List Nat) (os : List O) (M : Sto), (back ns os M).length = M.length
  | [], _, _ => by unfold back; rfl
  | n :: ns, [], _ => by unfold back; rfl
  | n :: ns, o :: os, M => by unfold back; rw [back_len, List.length_set]
theorem back_ne : ∀ {ns : List Nat} {os : List O} {M : Sto} {n : Nat}, n ∉ ns → (back ns os M)[n]? = M[n]?
  | [], _, _, _, _ => by unfold back; rfl
  | n :: ns, [], _, _, _ => by unfold back; rfl
  | n :: ns, o :: os, M, m, h => by
    rw [List.mem_cons, not_or] at h
    unfold back
    rw [back_ne h.2, List.getElem?_set_ne (Ne.symm h.1)]
theorem back_at : ∀ {ns : List Nat} {os : List O} {M : Sto} {j n : Nat}, ns.Nodup → ns.length ≤ os.length → ns[j]? = some n → n < M.length → (back ns os M)[n]? = os[j]?
  | [], _, _, j, n, _, _, e, _ => by simp at e
  | n :: ns, [], _, _, _, _, h, _, _ => by simp at h
  | n :: ns, o :: os, M, 0, m, hn, hl, e, hm => by
    simp at e
    subst e
    rw [List.nodup_cons] at hn
    unfold back
    rw [back_ne hn.1, List.getElem?_set_self hm]
    rfl
  | n :: ns, o :: os, M, j + 1, m, hn, hl, e, hm => by
    rw [List.nodup_cons] at hn
    unfold back
    rw [back_at (j := j) hn.2 (by simpa using hl) (by simpa using e) (by rw [List.length_set]; exact hm)]
    rfl
/-- the great store behind the call -/
theorem sub_back (R : Rep C bs μ M H) (hn : ns.Nodup) (hns : ∀ n ∈ ns, ∃ o, M[n]? = some o ∧ flatO o = true) (h0 : μ0.length = ns.length) (h2 : ∀ (j n : Nat), ns[j]? = some n → μ0[j]? = μ[n]?)
    (hsub : ∀ a ∈ μ0, a ∈ μ) (hoff : ∀ (n : Nat) (a : Addr), μ[n]? = some a → n ∉ ns → a ∉ μ0) (l : Le μ0 H μ1 H1) {bs0 : List Nat} (R1 : Rep C bs0 μ1 M1 H1) (hf : (M1.take ns.length).all flatO = true) :
    ∃ μ', Le μ H μ' H1 ∧ Rep C bs μ' (outSto ns M M1) H1 ∧ ∀ (i : Nat) (a : Addr), μ1[i]? = some a → ∃ n, outD ns M.length (.loc i) = .loc n ∧ μ'[n]? = some a := by
  obtain ⟨ν, rfl⟩ := l.pre
  have hν : ν.Nodup := (List.nodup_append.mp R1.nd).2.1
  have fresh : ∀ a ∈ ν, a ∉ μ := fun a ha hm => by
    have h3 : a ∉ μ0 := fun z => (List.nodup_append.mp R1.nd).2.2 a z a ha rfl
    have z := l.fr a (List.mem_append_right _ ha) h3
    obtain ⟨n, e⟩ := List.getElem?_of_mem hm
    have y := R.mut e
    rw [z] at y
    exact y
  have hlen : M1.length = ns.length + ν.length := by
    have := R1.len
    rw [List.length_append, h0] at this
    omega
  have hmu : ∀ (i : Nat) (a : Addr), (μ0 ++ ν)[i]? = some a → ∃ n, outD ns M.length (.loc i) = .loc n ∧ (μ ++ ν)[n]? = some a := fun i a e => by
    by_cases hi : i < ns.length
    · have en : ns[i]? = some ns[i] := List.getElem?_eq_getElem hi
      refine ⟨ns[i], by unfold outD; rw [en], ?_⟩
      rw [List.getElem?_append_left (by rw [h0]; exact hi), h2 i _ en] at e
      exact pre_get (List.prefix_append _ _) e
    · have en : ns[i]? = none := List.getElem?_eq_none (by omega)
      refine ⟨M.length + (i - ns.length), by unfold outD; rw [en], ?_⟩
      rw [List.getElem?_append_right (by rw [h0]; omega), h0] at e
      rw [← R.len, List.getElem?_append_right (by omega), Nat.add_sub_cancel_left]
      exact e
  refine ⟨μ ++ ν, ⟨⟨List.prefix_append _ _, l.st⟩, fun a m n => ?_, fun a n h => l.off a (fun z => n (hsub a z)) h⟩, ?_, hmu⟩
  · rcases List.mem_append.mp m with m | m
    · exact absurd m n
    · exact l.fr a (List.mem_append_right _ m) fun z => n (hsub a z)
  · have hl2 : (outSto ns M M1).length = M.length + ν.length := by
      unfold outSto
      rw [List.length_append, back_len, List.length_map, List.length_drop]
      omega
    refine ⟨by rw [List.length_append, hl2, R.len], ?_, fun c hc => by have := R.le c hc; rw [List.length_append]; omega, fun n a o e1 e2 c hc => ?_⟩
    · rw [List.nodup_append]
      exact ⟨R.nd, hν, fun a ha b hb e => fresh b hb (e ▸ ha)⟩
    · unfold outSto at e2
      by_cases hlt : n < M.length
      · rw [List.getElem?_append_left (by rw [R.len]; exact hlt)] at e1
        rw [List.getElem?_append_left (by rw [back_len]; exact hlt)] at e2
        by_cases hm : n ∈ ns
        · have ej := idx_get hm
          have hj : ns.idxOf n < ns.length := (List.getElem?_eq_some_iff.mp ej).1
          rw [back_at hn (by omega) ej hlt] at e2
          have ea : (μ0 ++ ν)[ns.idxOf n]? = some a := by
            rw [List.getElem?_append_left (by rw [h0]; exact hj), h2 _ _ ej]
            exact e1
          have fo : flatO o = true := by
            refine List.all_eq_true.mp hf o (List.mem_of_getElem? (i := ns.idxOf n) ?_)
            rw [List.getElem?_take_of_lt hj]
            exact e2
          exact repo_flat fo (R1.at ea e2)
        · rw [back_ne hm] at e2
          have keep : H1 a = H a := l.off a (hoff n a e1 hm) (by
            have := R.mut e1
            intro z
            rw [z] at this
            exact this)
          rcases hc with ⟨hc, hlc⟩ | hc
          · have z := R.ob n a o e1 e2 c (.inl ⟨hc, hlc⟩)
            rw [List.take_append_of_le_length (R.le c hc)]
            exact z.mono (List.prefix_refl _) l.st keep
          · rw [hc, List.take_length]
            exact (R.at e1 e2).mono (List.prefix_append _ _) l.st keep
      · rw [List.getElem?_append_right (by rw [R.len]; omega), R.len] at e1
        rw [List.getElem?_append_right (by rw [back_len]; omega), back_len, List.getElem?_map, List.getElem?_drop] at e2
        rcases hc with ⟨hc, hlc⟩ | hc
        · have := R.le c hc
          have := R.len
          omega
        · rw [hc, List.take_length]
          cases e3 : M1[ns.length + (n - M.length)]? with
          | none => rw [e3] at e2; cases e2
          | some o1 =>
            rw [e3] at e2
            cases e2
            refine repo_out hmu (R1.at (n := ns.length + (n - M.length)) ?_ e3)
            rw [List.getElem?_append_right (by omega), h0, Nat.add_sub_cancel_left]
            exact e1
/-- a call goes on with the small store -/
theorem sub_ok {G : List D → Nat → Sto → Out D} {ds : List D} {vs : List V} (hb : ∀ c ∈ bs, c ≤ b) (R : Rep C bs μ M H) (r : RelDs C μ H ds vs) (p : VP C bs W μ H (subRun G ds b M) Q) :
    ∃ bs' b' μ' M' ds', (∀ c ∈ bs', c ≤ b') ∧ Rep C bs' μ' M' H ∧ RelDs C μ' H ds' vs ∧ VP C bs' W μ' H (G ds' b' M') Q := by
  unfold subRun at p
  cases e : roots M ds [] with
  | none =>
    rw [e] at p
    exact ⟨bs, b, μ, M, ds, hb, R, r, p⟩
  | some ns =>
    rw [e] at p
    dsimp only at p
    cases e1 : picks M ns with
    | none => rw [e1] at p; exact (show False from p).elim
    | some M0 =>
      rw [e1] at p
      dsimp only at p
      obtain ⟨hn, hns, _, ha⟩ := roots_ok e List.nodup_nil (fun n m => by cases m)
      obtain ⟨hl0, hp0⟩ := picks_ok e1
      obtain ⟨μ0, h0, h2, h3, hsub, hoff⟩ := subs_addr R.len R.nd hn hns
      have R0 : Rep C [ns.length] μ0 M0 H := by
        refine ⟨by rw [h0, hl0], h3, fun c hc => by rw [List.mem_singleton.mp hc, h0]; exact Nat.le_refl _, fun j a o ea eo c hc => ?_⟩
        have hj : j < ns.length := by rw [← h0]; exact (List.getElem?_eq_some_iff.mp ea).1
        have en : ns[j]? = some ns[j] := List.getElem?_eq_getElem hj
        rw [h2 j _ en] at ea
        rw [hp0 j _ en] at eo
        obtain ⟨o', eo', fo⟩ := hns _ (List.mem_of_getElem? en)
        rw [eo] at eo'
        cases eo'
        exact repo_flat fo (R.at ea eo)
      refine ⟨[ns.length], ns.length, μ0, M0, _, fun c hc => by rw [List.mem_singleton.mp hc]; exact Nat.le_refl _, R0, args_in h2 ha r, ?_⟩
      cases eg : G (ds.map (inD1 ns)) ns.length M0 with
      | no => rw [eg] at p; exact (show False from p).elim
      | ok d M1 =>
        rw [eg] at p
        intro μ1 H1 l R1 v rv
        dsimp only [unsub] at p
        split at p
        · rename_i hf
          obtain ⟨μ', l', R', hmu⟩ := sub_back R hn hns h0 h2 hsub hoff l R1 hf
          exact p μ' H1 l' R' v (rel_out hmu rv)
        · exact (show False from p).elim
      | ex x M1 =>
        rw [eg] at p
        intro μ1 H1 cls dd l R1 rx
        dsimp only [unsub] at p
        split at p
        · rename_i hf
          obtain ⟨μ', l', R', hmu⟩ := sub_back R hn hns h0 h2 hsub hoff l R1 hf
          refine p μ' H1 cls dd l' R' ⟨rx.1, ?_⟩
          rcases rx.2 with ⟨e1, e2⟩ | ⟨hne, a, fs, ws, e1, e2, r1, r2⟩
          · left
            refine ⟨?_, e2⟩
            show outDs ns M.length x.xs = []
            rw [e1, outDs_map]
            rfl
          · right
            refine ⟨?_, a, fs, ws, e1, e2, rels_out hmu r1, r2⟩
            show outDs ns M.length x.xs ≠ []
            rw [outDs_map]
            intro z
            exact hne (List.map_eq_nil_iff.mp z)
        · exact (show False from p).elim
end Ev
end

section
/-! EvFn: every def of the text keeps the word that the evaluator gives of it. -/
namespace Ev
open PySem PySem.Spec PyProof.Rows L2
variable {C : Cn} {μ μ' : List Addr} {H H' : Hp} {M M' : Sto} {bs : List Nat} {v : V} {W : XK} {b : Nat} {ρ : Enn} {CX : CXT} {TB : Tb} {k : Nat} {N : List Str} {Q : VK}

/-! ### a def's end -/
theorem RelX.cutX {x : Xn} {cls : Value} {d : Option Addr} (h : RelX C μ' H' x cls d) (f : flatX x = true) : RelX C μ H' x cls d := by
  refine ⟨h.1, h.2.imp id ?_⟩
  rintro ⟨hn, a, fs, vs, e1, e2, r, l⟩
  exact ⟨hn, a, fs, vs, e1, e2, RelDs.flat f r, l⟩
/-- what the caller wants of an exception, whatever the names -/
def upW (W : XK) : WX := fun c d _ H => W c d H
theorem end_keep {o : SO} (h : VP C bs W μ H (endD o) Q) : SPost C bs b (upW W) μ H o { nx := fun _ H' => Q .non H', rt := Q } := by
  match o, h with
  | none, h => exact h
  | some (.nx ρ', M'), h => exact fun μ' H' σ' l a => h μ' H' l a.R _ (relD_non.mpr rfl)
  | some (.rt d, M'), h => exact fun μ' H' v l R r => h μ' H' l R v r
  | some (.bk _, _), h => exact (show False from h).elim
  | some (.ct _, _), h => exact (show False from h).elim
  | some (.xc x _, M'), h => exact fun μ' H' σ' cls d l a rx => h μ' H' cls d l a.R rx
theorem cut_pre {n0 : Nat} (l : Le μ H μ' H') (hn : μ.length = n0) : μ'.take n0 = μ := by
  obtain ⟨t, rfl⟩ := l.pre
  subst hn
  rw [List.take_left]
theorem cut_val {n0 : Nat} {d : D} (hb : ∀ c ∈ bs, c ≤ n0) (hn : μ.length = n0) (h : VP C bs W μ H (cutE n0 (.ok d M')) Q) (l : Le μ H μ' H') (R : Rep C (n0 :: bs) μ' M' H') (r : RelD C μ' H' d v) : Q v H' := by
  have lc := l.cut n0 hn
  have Rc := R.cut hb
  have plain : VP C bs W μ H (.ok d M') Q → Q v H' := fun h => h μ' H' l R.leave v r
  dsimp only [cutE] at h
  split at h
  · rename_i f
    exact h _ _ lc Rc v (r.flat f)
  · rename_i f
    split at h
    · rename_i n
      obtain ⟨a, ea, rfl⟩ := relD_loc.mp r
      split at h
      · rename_i hle
        split at h
        · rename_i xs em
          split at h
          · rename_i fx
            obtain ⟨vs, eh, rs⟩ : ∃ vs, H' a = some (.lst vs) ∧ RelDs C μ' H' xs vs := R.at ea em
            have na : a ∉ μ'.take n0 := fun m => by
              obtain ⟨j, ej⟩ := List.getElem?_of_mem m
              have hj : j < n0 := by
                have z := (List.getElem?_eq_some_iff.mp ej).1
                rw [List.length_take] at z
                omega
              rw [List.getElem?_take_of_lt hj] at ej
              have := nodup_get R.nd ej ea
              have := Nat.le_of_ble_eq_true hle
              omega
            have hlen : (μ'.take n0).length = n0 := by rw [cut_pre l hn, hn]
            refine h (μ'.take n0 ++ [a]) H' ⟨⟨by rw [cut_pre l hn]; exact List.prefix_append _ _, l.st⟩, fun x m nx => ?_, l.off⟩ (Rc.add na ⟨vs, eh, RelDs.flat fx rs⟩) _ ?_
            · rcases List.mem_append.mp m with m | m
              · exact l.fr x (List.mem_of_mem_take m) nx
              · rw [List.mem_singleton.mp m] at nx ⊢
                exact l.fr a (List.mem_of_getElem? ea) nx
            · unfold RelD
              exact ⟨a, by rw [List.getElem?_append_right (by omega), hlen, Nat.sub_self]; rfl, rfl⟩
          · exact plain h
        · exact plain h
      · rename_i hle
        have hlt : n < n0 := by
          rcases Nat.lt_or_ge n n0 with z | z
          · exact z
          · rw [Nat.ble_eq_true_of_le z] at hle; cases hle
        refine h _ _ lc Rc _ ?_
        unfold RelD
        exact ⟨a, by rw [List.getElem?_take_of_lt hlt]; exact ea, rfl⟩
    · exact plain h
theorem end_cut {n0 : Nat} {o : SO} (hb : ∀ c ∈ bs, c ≤ n0) (hn : μ.length = n0) (h : VP C bs W μ H (cutE n0 (endD o)) Q) : SPost C (n0 :: bs) b (upW W) μ H o { nx := fun _ H' => Q .non H', rt := Q } := by
  match o, h with
  | none, h => exact h
  | some (.nx ρ', M'), h => exact fun μ' H' σ' l a => cut_val hb hn h l a.R (relD_non.mpr rfl)
  | some (.rt d, M'), h => exact fun μ' H' v l R r => cut_val hb hn h l R r
  | some (.bk _, _), h => exact (show False from h).elim
  | some (.ct _, _), h => exact (show False from h).elim
  | some (.xc x _, M'), h =>
    intro μ' H' σ' cls d l a rx
    have R := a.R
    dsimp only [endD, cutE] at h
    split at h
    · rename_i f
      exact h _ _ cls d (l.cut n0 hn) (R.cut hb) (rx.cutX f)
    · exact h μ' H' cls d l R.leave rx

/-! ### a def's beginning -/
theorem start_rel {fn : Fn} {ds : List D} {vs : List V} (r : RelDs C μ H ds vs) (hl : ds.length = fn.np) : RelEn C μ H (startE fn ds) (L2.start fn.N vs) := by
  have hv : vs.length = fn.np := by rw [← r.length]; exact hl
  unfold startE L2.start
  refine ⟨by simp [hl, hv], fun i d e => ?_⟩
  by_cases hi : i < ds.length
  · rw [List.getElem?_append_left (by simpa using hi), List.getElem?_map] at e
    cases q : ds[i]? with
    | none => rw [q] at e; cases e
    | some d' =>
      rw [q] at e
      cases e
      obtain ⟨u, e1, r1⟩ := r.get q
      exact ⟨u, by rw [List.getElem?_append_left (by simpa [hv, ← hl] using hi), List.getElem?_map, e1]; rfl, r1⟩
  · rw [List.getElem?_append_right (by simpa using hi), List.getElem?_replicate] at e
    split at e <;> cases e

/-! ### the rule -/
theorem fnG_of {P : Program} {w : World} {K : PySem.W.Frag} {mg : Str → Option Value} {base : Heap} {j : Nat} {fa : Addr} {nm qn : Str} {pm : Arguments} {sts : List Stmt} {sc : Scope} {v1 v2 v3 v4 cdv v5 oc : Value} {an od : Option Addr}
    {osl : Array (Option Value)} {pars : List Str} {word : Sp} (lk : K.lookup fa = some ⟨oc, od, .func (PySem.W.fnOf nm qn pm sts sc v1 v2 v3 v4 an cdv v5), osl⟩) (hc : PySem.W.codeIn K cdv qn = true) (S : FnScope N pars sc)
    (hl : ∀ vs H Q E, word vs H Q E → vs.length = pars.length)
    (bd : ∀ (A : Around) (ou : List Env) (s : Shared) (H : Hp) (vs : List V) (Q : VK) (E : XK), A.guards = some [] → Room j (A.deeper (envOfC qn sc s.heap.objs.size fa cdv)) → word vs H Q E →
      ∃ t, PSs (cxOf CX P w K mg base N qn sc fa cdv A ou s H E) sts t ∧ t { nx := fun _ H' => Q .non H', rt := Q } (L2.start N vs) H) :
    FnG P w K mg base CX (j + 1) fa (PySem.W.fnOf nm qn pm sts sc v1 v2 v3 v4 an cdv v5) pars word := by
  refine ⟨hl, fun A ou s H args us vs Q E gu rm ev wd rel hb => ?_⟩
  have inn : K.In s.heap := ev.mod.kin.keeps fun a o e => (ev.bs a o e).left
  have nol : s.heap.NoLimit := ev.mod.nolimit.keeps fun a o e => (ev.bs a o e).left
  refine codeAny_call_function rm.depth (inn _ _ lk) rfl S.co S.gen rfl (PySem.W.codeRec_of inn hc) (hb _ _ _ _ ?_)
  refine wpAny_newFunctionEnv_cells S.kind (fun ⟨n, u⟩ hy => (S.par n (List.of_mem_zip hy).1).imp id fun q => ⟨q, PySem.W.cellsFrom_some _ _ _ (.inl q)⟩) fun env he s1 x => ?_
  subst he
  refine ⟨nol.keeps x.toInCall.keep, codeAny_func ?_⟩
  obtain ⟨t, ht, hq⟩ := bd A ou s H vs Q E gu (rm.deeper _) wd
  refine wpAny_mono (ht.run [] s1 (L2.start N vs) H _ (inv_start S rm.hd ev (hl _ _ _ _ wd) rel x) hq) (fun fl s' hs => ?_) fun e s' hs => hs
  match fl, hs with
  | .ret u, ⟨v, σ', H', J, rv, q⟩ => exact ⟨v, H', J.os, J.bare, J.base, J.hok, rv, q⟩
  | .next, ⟨σ', H', J, q⟩ => exact ⟨.non, H', J.os, J.bare, J.base, J.hok, rfl, q⟩
  | .brk, ⟨_, _, _, q⟩ => exact (show False from q).elim
  | .cont, ⟨_, _, _, q⟩ => exact (show False from q).elim

/-- a def of the text, as the module's heap holds it -/
structure DefAt (C : Cn) (mg : Str → Option Value) (TB : Tb) (f : Nat) (fn : Fn) (fd : FuncData) : Prop where
  nm : fn.own = none → mg fn.name = some (.ref (C.fa f))
  mt : ∀ c m, fn.own = some (c, m) → Meth C.K (C.ca c) m (C.fa f)
  np : fn.np ≤ fn.N.length
  bd : (fn.own = none → fn.ko = false) → ∀ (s : Shared) (us : List Value), C.K.In s.heap → us.length = fn.np → BindsTo s fd ⟨us, []⟩ ((fn.N.take fn.np).zip us)
  df : ∀ n ds, TB.df.contains (f, n, ds) = true → ∃ dsv : List Value, Vals (ds.map V.int) dsv ∧ n + ds.length = fn.np ∧ ∀ (s : Shared) (us : List Value), C.K.In s.heap → us.length = n → BindsTo s fd ⟨us, []⟩ ((fn.N.take fn.np).zip (us ++ dsv))
  bk : ∀ n ks, TB.kw.contains (f, n, ks) = true → ∀ (s : Shared) (us ws zs : List Value), us.length = n → ws.length = ks.length → place fn.np us ks ws = some zs → BindsTo s fd ⟨us, (ks.filterMap fun i => fn.N[i]?).zip ws⟩ ((fn.N.take fn.np).zip zs)
  ex : ∃ nm qual params body scope dvs kws, FunD C.K nm qual params body scope dvs kws (C.fa f) fd ∧ FnScope fn.N (fn.N.take fn.np) scope ∧ chkSs TB fn.N scope fn.body body = true
/-- what the module gives -/
structure PX (C : Cn) (mg : Str → Option Value) (TB : Tb) (gv : Nat → Option D) (w : World) : Prop where
  blt : ∀ n ∈ bltNs, mg (Str.ofString n) = none
  gv : ∀ g n d, TB.gl[g]? = some (n, d) → gv g = some d ∧ ∃ u v, mg n = some u ∧ RelV v u ∧ ∀ μ H, RelD C μ H d v
  defs : ∀ f fn, TB.fns[f]? = some fn → ∃ fd, DefAt C mg TB f fn fd
  cls : ∀ c cd, TB.cl[c]? = some cd → ∀ (P : Program) (base : Heap), ClF C P w mg base TB c cd
  dic : ∀ (g : Nat) (n : Str) (kvs : List (List Nat × Int)), TB.gd[g]? = some (n, kvs) → ∃ d es m, mg n = some (.ref d) ∧ KDict C.K w d es m ∧ ∀ (s : List Nat) (i : Int), kvs.lookup s = some i → ∃ t, PySem.W.nsIn C.K d (toS s) = some (some (.int i t))
theorem px_none {P : Program} {w : World} (outer : List Env) (H : Hp) (s : Shared) (e : Value) (s' : Shared) : ¬ L2.CX P w outer H s W0 e s' := by
  rintro ⟨a, B, H', cls, d, _, _, _, _, _, _, _, q⟩
  exact q
theorem PX.fns {P : Program} {w : World} {mg : Str → Option Value} {base : Heap} {gv : Nat → Option D} {wf : Nat} (px : PX C mg TB gv w) : ∀ (k f : Nat) (fn : Fn), TB.fns[f]? = some fn → ∃ fd, FnAt C P w mg base (L2.CX P w) TB (2 * k + 2) (run TB.fns gv wf k) f fn fd
  | 0, f, fn, hf => by
    obtain ⟨fd, d⟩ := px.defs f fn hf
    have no : ∀ vs H Q E, ¬ spF C (run TB.fns gv wf 0) f vs H Q E := by
      rintro vs H Q E ⟨bs, b, μ, M, ds, _, _, _, p⟩
      unfold run at p
      exact p
    obtain ⟨nm, q, pm, body, sc, dvs, kws, F, _⟩ := d.ex
    exact ⟨fd, d.nm, d.mt, F.kp, d.np, d.bd, d.df, d.bk, ⟨fun vs H Q E z => (no _ _ _ _ z).elim, fun A outer s H args us vs Q E _ _ _ z => (no _ _ _ _ z).elim⟩⟩
  | k + 1, f, fn, hf => by
    obtain ⟨fd, d⟩ := px.defs f fn hf
    obtain ⟨nm, q, pm, body, sc, dvs, kws, F, S, chk⟩ := d.ex
    have F0 := F
    obtain ⟨oc, od, dV, kV, doc, pmod, an, cdv, ct, osl, rfl, lk, hcd, _, _⟩ := F.ex
    have len : ∀ vs H Q E, spF C (run TB.fns gv wf (k + 1)) f vs H Q E → vs.length = fn.np ∧ vs.length = (fn.N.take fn.np).length := by
      rintro vs H Q E ⟨bs, b, μ, M, ds, hb, R, r, p⟩
      unfold run at p
      rw [hf] at p
      obtain ⟨bs, b, μ, M, ds, hb, R, r, p⟩ := sub_ok hb R r p
      dsimp only [callFn] at p
      split at p
      · rename_i e
        rw [List.length_take, Nat.min_eq_left d.np, ← r.length]
        exact ⟨e, e⟩
      · exact (show False from p).elim
    refine ⟨_, d.nm, d.mt, F0.kp, d.np, d.bd, d.df, d.bk, fnG_of (j := 2 * k + 3) lk hcd S (fun vs H Q E z => (len _ _ _ _ z).2) fun A ou s H vs Q E gu rm wd => ?_⟩
    obtain ⟨bs, b, μ, M, ds, hb, R, r, p⟩ := wd
    unfold run at p
    rw [hf] at p
    obtain ⟨bs, b, μ, M, ds, hb, R, r, p⟩ := sub_ok hb R r p
    dsimp only [callFn] at p
    split at p
    · rename_i el
      have GG : GX C (L2.CX P w) TB (2 * k + 2) ⟨run TB.fns gv wf k, gv, wf⟩ fn.N (upW E) (cxOf (L2.CX P w) P w C.K mg base fn.N q sc (C.fa f) cdv A ou s H E) :=
        { K := rfl, N_ := rfl, nd := S.nd, calm := rfl, room := rm.mono (by omega), gd := guards_deeper gu, r2 := rm, r3 := rm.mono (by omega), tk := takes_of rfl rfl rfl rfl, cx := rfl, cls := fun c cd h => px.cls c cd h _ _, dic := px.dic, po := passes_of rfl,
          px := fun pins σ H s e s' I c => takes_of rfl rfl rfl rfl e s' (XE.of_call (W := upW E) I (fun cls d H' h => h) c), px0 := px_none, blt := px.blt, gv := px.gv, fns := PX.fns px k }
      refine ⟨tSs C (upW E) ⟨run TB.fns gv wf k, gv, wf⟩ fn.body, sSs fn.body GG rfl ⟨fun _ => rfl, rfl, rfl⟩ chk, ?_⟩
      cases ek : fn.keep with
      | true =>
        rw [ek] at p
        exact ⟨bs, b, μ, _, M, ⟨hb, R, start_rel r el⟩, end_keep p⟩
      | false =>
        rw [ek] at p
        refine ⟨M.length :: bs, M.length, μ, _, M, ⟨fun c hc => ?_, R.enter, start_rel r el⟩, end_cut (fun c hc => by rw [← R.len]; exact R.le c hc) R.len p⟩
        rcases List.mem_cons.mp hc with rfl | hc
        · exact Nat.le_refl _
        · rw [← R.len]; exact R.le c hc
    · exact (show False from p).elim
end Ev
end

section
/-! EvHead: from the module behind the top to the law's promise. -/
namespace Ev
open PySem PySem.Spec PyProof.Rows L2

/-! ### the script at the top -/
theorem top_call {P : Program} {w : World} {K : PySem.W.Frag} {mg mb : Str → Option Value} {k : Nat} {fa a : Addr} {x : Str} {word : Sp} {s1 : Shared} {us : List Value} {is : List Int}
    (inn : K.In s1.heap) (gl : s1.heap.Ns mainGlobals mg) (bl : s1.heap.Ns builtinsNs mb) (bo : ∀ x : Str, x ≠ "__name__" → mb x = bootBuiltins x) (nol : s1.heap.NoLimit) (ge : s1.gens = #[])
    (ha : s1.heap.get? a = some { cls := .type "list", data := .seq us.toArray }) (hi : IntsAre us is) (hl : is.length ≤ sizeLine) (rm : Room k callerA)
    (F : ∀ base : Heap, ∃ fd : FuncData, FnG P w K mg base (L2.CX P w) k fa fd [x] word ∧ ∀ (s : Shared) (u : Value), K.In s.heap → BindsTo s fd ⟨[u], []⟩ [(x, u)])
    (hw : ∀ H : Hp, FzL K H a (is.map V.int) → word [.ref a] H (fun v _ => v = .bl true) W0) :
    codeAny (model P w) callerA (.call (.ref fa) ⟨[.ref a], []⟩) (fun r s' => r = .ok (.ret (.bool true)) ∧ OldK s1.heap s'.heap ∧ s'.os = s1.os ∧ AllBare s'.gens) s1 := by
  have rv : Vals (is.map V.int) us := vals_ints hi
  -- what is tracked: the script alone, and not where the module knows it
  obtain ⟨H, hF, hO, hok⟩ : ∃ H : Hp, FzL K H a (is.map V.int) ∧ (∀ b u, H b = some u → b = a ∧ K.lookup a = none ∧ u = .frz { cls := .type "list", data := .seq us.toArray } (.lst (is.map V.int))) ∧ HOk P w H s1.heap := by
    cases hk : K.lookup a with
    | some o =>
      have eo := inn a o hk
      rw [ha] at eo
      cases eo
      exact ⟨fun _ => none, .inr ⟨_, us.toArray, _, hk, rfl, rfl, rfl, by rw [List.size_toArray, hi.length]; exact hl, by simpa using rv⟩, fun b u z => (by cases z), fun b u z => (by cases z)⟩
    | none =>
      refine ⟨fun b => if b = a then some (.frz { cls := .type "list", data := .seq us.toArray } (.lst (is.map V.int))) else none, .inl ⟨_, if_pos rfl⟩, fun b u z => ?_, fun b u z => ?_⟩ <;> dsimp only at z <;> split at z <;> cases z
      · rename_i e
        exact ⟨e, rfl, rfl⟩
      · rename_i e
        subst e
        exact ⟨ha, by rw [List.length_map]; exact hl, us, _, rv, ha⟩
  have keep : ∀ {b : Addr} {o : Obj}, s1.heap.get? b = some o → (b = a → K.lookup a = none → False) → (hidT s1.heap H).get? b = some o := fun {b o} e n => hidT_get e (by
    cases q : H b with
    | none => rfl
    | some u => exact (n (hO b u q).1 (hO b u q).2.1).elim)
  have ns : ∀ {b : Addr} {m : Str → Option Value}, s1.heap.Ns b m → (hidT s1.heap H).Ns b m := by
    rintro b m ⟨o, es, ep, e, d, r⟩
    refine ⟨o, es, ep, keep e fun z _ => ?_, d, r⟩
    subst z
    rw [ha] at e
    cases e
    cases (show Data.seq us.toArray _ = Data.dict es ep from d)
  have hKb : K.In (hidT s1.heap H) := fun b o e => keep (inn b o e) fun z n => by
    subst z
    rw [n] at e
    cases e
  have e0 : Env0 P w K mg (hidT s1.heap H) callerA [] s1 H :=
    { frames := rfl, mod := ⟨hKb, ns gl, ⟨mb, ns bl, bo⟩, nol.elim fun mc z => ⟨mc, ns z.1, z.2⟩⟩, bs := fun b o e => of_hidT e, bsz := Nat.le_of_eq (hidT_size _ _), funs := trivial, frf := fun b z => (by cases z), hok := hok, bare := .of_eq ge }
  obtain ⟨fd, FG, hb⟩ := F (hidT s1.heap H)
  refine codeAny_mono (FG.go callerA [] s1 H ⟨[.ref a], []⟩ [.ref a] [.ref a] _ _ rfl rm e0 (hw H hF) (.cons rfl .nil) (hb s1 (.ref a) inn)) fun r s' h => ?_
  match r, h with
  | .error e, h => exact (px_none _ _ _ _ _ h).elim
  | .ok (.ret u), ⟨v, H', os, bare, un, hok', r', q⟩ =>
    cases (show v = .bl true from q)
    cases (show u = Value.bool true from r')
    refine ⟨rfl, OldK.of_keep fun b o e => ?_, os, bare⟩
    cases q : H b with
    | none => exact un.keep b o e q (fun z => by cases z) (by simp)
    | some u =>
      have z2 := un.frzs b _ _ (q.trans (by rw [(hO b u q).2.2]))
      have e1 := (hok b u q)
      rw [(hO b u q).2.2] at e1
      rw [(hO b u q).1, ha] at e
      cases e
      exact (hok' b _ z2).1

/-! ### constants of the module -/
mutual
def cstB (K : PySem.W.Frag) : D → Value → Bool
  | .non, u => match u with
    | .none => true
    | _ => false
  | .bl b, u => match u with
    | .bool c => b == c
    | _ => false
  | .int i, u => match u with
    | .int j _ => decide (i = j)
    | _ => false
  | .str s, u => match u with
    | .str z _ => decide (z = ⟨s.toArray⟩)
    | _ => false
  | .tup ds, u => match u with
    | .ref a => match K.lookup a with
      | some ⟨.type c, none, .seq its _, _⟩ => decide (c = "tuple") && Nat.ble its.size sizeLine && !intT ds && cstsB K ds its.toList
      | _ => false
    | _ => false
  | .frz ds, u => match u with
    | .ref a => match K.lookup a with
      | some ⟨.type c, none, .seq its _, _⟩ => decide (c = "list") && Nat.ble its.size sizeLine && cstsB K ds its.toList
      | _ => false
    | _ => false
  | .loc _, _ => false
  | .fn _, _ => false
def cstsB (K : PySem.W.Frag) : List D → List Value → Bool
  | [], us => us.isEmpty
  | d :: ds, us => match us with
    | [] => false
    | u :: us => cstB K d u && cstsB K ds us
end
mutual
theorem cst_ok {C : Cn} : ∀ {d : D} {u : Value}, cstB C.K d u = true → ∃ v, RelV v u ∧ ∀ μ H, RelD C μ H d v
  | .non, u, h => by
    unfold cstB at h
    split at h
    · exact ⟨.non, rfl, fun μ H => by unfold RelD; rfl⟩
    · cases h
  | .bl b, u, h => by
    unfold cstB at h
    split at h
    · cases beq_iff_eq.mp h
      exact ⟨.bl b, rfl, fun μ H => by unfold RelD; rfl⟩
    · cases h
  | .int i, u, h => by
    unfold cstB at h
    split at h
    · cases of_decide_eq_true h
      exact ⟨.int i, ⟨_, rfl⟩, fun μ H => by unfold RelD; rfl⟩
    · cases h
  | .str s, u, h => by
    unfold cstB at h
    split at h
    · cases of_decide_eq_true h
      exact ⟨.str ⟨s.toArray⟩, ⟨_, rfl⟩, fun μ H => by unfold RelD; rfl⟩
    · cases h
  | .tup ds, u, h => by
    unfold cstB at h
    split at h
    · rename_i a
      split at h
      · rename_i c its n osl e
        simp only [Bool.and_eq_true, decide_eq_true_eq, Bool.not_eq_true'] at h
        obtain ⟨⟨⟨h1, h2⟩, h0⟩, h3⟩ := h
        obtain ⟨vs, r, q⟩ := csts_ok (C := C) h3
        refine ⟨.ref a, rfl, fun μ H => ?_⟩
        unfold RelD
        exact ⟨a, vs, rfl, .inr ⟨_, its, n, e, congrArg Value.type h1, rfl, Nat.le_of_ble_eq_true h2, r⟩, q μ H, fun _ => .inr ⟨_, e, rfl⟩, fun z => by rw [h0] at z; cases z⟩
      · cases h
    · cases h
  | .frz ds, u, h => by
    unfold cstB at h
    split at h
    · rename_i a
      split at h
      · rename_i c its n osl e
        simp only [Bool.and_eq_true, decide_eq_true_eq] at h
        obtain ⟨⟨h1, h2⟩, h3⟩ := h
        obtain ⟨vs, r, q⟩ := csts_ok (C := C) h3
        refine ⟨.ref a, rfl, fun μ H => ?_⟩
        unfold RelD
        exact ⟨a, vs, rfl, .inr ⟨_, its, n, e, congrArg Value.type h1, rfl, rfl, Nat.le_of_ble_eq_true h2, r⟩, q μ H⟩
      · cases h
    · cases h
  | .loc _, u, h => by unfold cstB at h; cases h
  | .fn _, u, h => by unfold cstB at h; cases h
theorem csts_ok {C : Cn} : ∀ {ds : List D} {us : List Value}, cstsB C.K ds us = true → ∃ vs, Vals vs us ∧ ∀ μ H, RelDs C μ H ds vs
  | [], us, h => by
    unfold cstsB at h
    cases us with
    | nil => exact ⟨[], .nil, fun μ H => .nil⟩
    | cons _ _ => cases h
  | d :: ds, us, h => by
    unfold cstsB at h
    cases us with
    | nil => cases h
    | cons u us =>
      dsimp only at h
      rw [Bool.and_eq_true] at h
      obtain ⟨v, r, q⟩ := cst_ok (C := C) h.1
      obtain ⟨vs, rs, qs⟩ := csts_ok (C := C) h.2
      exact ⟨v :: vs, .cons r rs, fun μ H => .cons (q μ H) (qs μ H)⟩
end

/-! ### what is looked at behind the top -/
def glsB (K : PySem.W.Frag) (gl : List (Str × D)) : Bool := gl.all fun p => match PySem.W.nsIn K mainGlobals p.1 with
  | some (some u) => cstB K p.2 u
  | _ => false
def gdB (K : PySem.W.Frag) (gd : List (Str × List (List Nat × Int))) : Bool := gd.all fun p => p.2.all fun q => match PySem.W.nsIn K (He.ga K p.1) (toS q.1) with
  | some (some (.int j _)) => decide (j = q.2)
  | _ => false
/-- an exception class, as isinstance asks for it -/
def isB (K : PySem.W.Frag) (D : Addr) : Bool :=
  decide (PySem.W.findIn K (.ref D) "__getattribute__" = some (some (.builtin "BaseException.__getattribute__"))) && decide (PySem.W.findIn K (.ref D) "__getattr__" = some none) && decide (PySem.W.subIn K (.ref D) (.type "BaseException") = some true) && PySem.W.hasDictIn K D &&
  decide (PySem.W.findIn K (.ref D) "__class__" = some (some (.builtin "object.__class__"))) && decide (PySem.W.specialIn K (.builtin "object.__class__") "__get__" = some (some (.builtin "getset_descriptor.__get__"))) && decide (PySem.W.takesIn K (.builtin "object.__class__") = some true) && decide (PySem.W.mroIn K D (.type "object") = some true)
theorem isB_ok {K : PySem.W.Frag} {D : Addr} (h : isB K D = true) : ExcC K D := by
  unfold isB at h
  simp only [Bool.and_eq_true, decide_eq_true_eq] at h
  obtain ⟨⟨⟨⟨⟨⟨⟨h1, h2⟩, h3⟩, h4⟩, h5⟩, h6⟩, h7⟩, h8⟩ := h
  exact ⟨h1, h2, h3, h4, h5, h6, h7, h8⟩
def upB (K : PySem.W.Frag) (cl : List CD) (cd : CD) : Bool := cl.zipIdx.all fun q => !q.1.exc || (decide (PySem.W.exmOne K (.ref (He.ga K cd.name)) (.ref (He.ga K q.1.name)) = some (cd.up.contains q.2)) && decide (PySem.W.kitOne K (.ref (He.ga K cd.name)) (.ref (He.ga K q.1.name)) = some (cd.up.contains q.2)))
/-- exceptions with an __init__ of their own -/
def xkB (K : PySem.W.Frag) (TB : Tb) : Bool := TB.xi.all fun q => match TB.cl[q.1]?, TB.cl[q.2]? with
  | some cd, some cb => oexB K (He.ga K cd.name) && veiB K (He.ga K cb.name) && cd.fs.all fun f => decide (PySem.W.findIn K (.ref (He.ga K cd.name)) f = some none)
  | _, _ => false
def clsB (K : PySem.W.Frag) (cl : List CD) : Bool := cl.all fun cd => decide cd.fs.Nodup && (!cd.exc || (isB K (He.ga K cd.name) && upB K cl cd))
def faC (cd : CD) : List He.Fa := match cd.exc with
  | true => He.Fa.glo cd.name :: (match cd.fs with
    | [] => [He.Fa.exc cd.name]
    | _ :: _ => [])
  | false => He.Fa.glo cd.name :: He.Fa.cls cd.name :: He.Fa.mkr cd.name :: cd.fs.map fun f => He.Fa.noat cd.name f
/-- what is looked up of a def -/
def faF (TB : Tb) (fn : Fn) : He.Fa := match fn.own with
  | none => He.Fa.glo fn.name
  | some (c, m) => match TB.cl[c]? with
    | some cd => He.Fa.meth cd.name m
    | none => He.Fa.glo fn.name
def faX (TB : Tb) (q : Nat × Nat) : List He.Fa := match TB.cl[q.1]? with
  | some cd => [He.Fa.meth cd.name "__init__"]
  | none => []
def faOf (TB : Tb) : List He.Fa := TB.fns.map (faF TB) ++ (bltNs.map (fun n => He.Fa.free (Str.ofString n)) ++ (TB.gd.map (fun p => He.Fa.glo p.1) ++ (TB.cl.flatMap faC ++ TB.xi.flatMap (faX TB))))
def obsE (TB : Tb) (ds : List He.DefD) (K : PySem.W.Frag) : He.AlT := ((glsB K TB.gl && (gdB K TB.gd && ((clsB K TB.cl && xkB K TB) && (He.obsD (faOf TB) ds K).1)), (He.obsD (faOf TB) ds K).2), TB.gd.map fun p => He.dicW K (He.ga K p.1))
def obsEG (n : Nat) (TB : Tb) (ds : List He.DefD) (g : Addr → Option Obj) : He.AlT := obsE TB ds (He.frG g (PySem.cStatics :: He.asD g n))
def valE (TB : Tb) (ds : List He.DefD) (w : World) : He.AlT := (He.valD ds, TB.gd.map fun p => some (He.keysIn w.params (p.2.map fun q => toS q.1)))
def SaysE (TB : Tb) (ds : List He.DefD) (w : World) (K : PySem.W.Frag) : Prop := obsE TB ds K = valE TB ds w
def hookE (n : Nat) (TB : Tb) (ds : List He.DefD) : PySem.W.Hook where
  α := He.AlT
  obs := fun s => obsEG n TB ds s.heap.get?
  val := fun w => valE TB ds w
  says := fun w h => ∃ K : PySem.W.Frag, K.In h ∧ SaysE TB ds w K
  of := fun _ _ e => ⟨_, He.frG_in, e⟩
  keeps := fun _ _ _ ⟨K, hK, c⟩ k => ⟨K, PySem.W.Frag.In.keeps hK k, c⟩
theorem obsEG_eq {n : Nat} {TB : Tb} {ds : List He.DefD} {g : Addr → Option Obj} {s : Shared} (h : ∀ a, g a = s.heap.get? a) : obsEG n TB ds g = (hookE n TB ds).obs s := by
  obtain rfl : g = s.heap.get? := funext h
  rfl
theorem SaysE.parts {TB : Tb} {ds : List He.DefD} {w : World} {K : PySem.W.Frag} (c : SaysE TB ds w K) : glsB K TB.gl = true ∧ gdB K TB.gd = true ∧ (clsB K TB.cl && xkB K TB) = true ∧ He.SaysD (faOf TB) ds K := by
  have c1 : (glsB K TB.gl && (gdB K TB.gd && ((clsB K TB.cl && xkB K TB) && (He.obsD (faOf TB) ds K).1))) = true := congrArg (fun z : He.AlT => z.1.1) c
  have c2 : (He.obsD (faOf TB) ds K).2 = ds.map He.DefD.val := congrArg (fun z : He.AlT => z.1.2) c
  rw [Bool.and_eq_true, Bool.and_eq_true, Bool.and_eq_true] at c1
  exact ⟨c1.1, c1.2.1, c1.2.2.1, Prod.ext c1.2.2.2 c2⟩
theorem SaysE.tab {TB : Tb} {ds : List He.DefD} {w : World} {K : PySem.W.Frag} (c : SaysE TB ds w K) {g : Nat} {n : Str} {kvs : List (List Nat × Int)} (h : TB.gd[g]? = some (n, kvs)) : ∃ es m, KDict K w (He.ga K n) es m := by
  have e : (TB.gd.map fun p => He.dicW K (He.ga K p.1)) = TB.gd.map fun p => some (He.keysIn w.params (p.2.map fun q => toS q.1)) := congrArg (fun z : He.AlT => z.2) c
  have e2 : (TB.gd.map fun p => He.dicW K (He.ga K p.1))[g]? = (TB.gd.map fun p => some (He.keysIn w.params (p.2.map fun q => toS q.1)))[g]? := by rw [e]
  rw [List.getElem?_map, List.getElem?_map, h] at e2
  exact He.dicW_ok (Option.some.inj e2)

/-! ### the defs -/
/-- where a def stands: in the module, or in a class of it -/
def atB (TB : Tb) (fn : Fn) (d : He.DefD) : Bool := match fn.own with
  | none => decide (d.at_ = (fn.name, none)) && decide (d.name = fn.name)
  | some (c, m) => match TB.cl[c]? with
    | some cd => decide (d.at_ = (cd.name, some m))
    | none => false
/-- parameters that only keywords fill: never written by place -/
def kwB (fn : Fn) (d : He.DefD) : Bool := match d.kwd with
  | [] => true
  | _ :: _ => fn.ko && decide (fn.own = none)
def defB (TB : Tb) (fn : Fn) (d : He.DefD) : Bool :=
  atB TB fn d && kwB fn d && Nat.ble fn.np fn.N.length && C8.scC fn.N (fn.N.take fn.np) d.scope && chkSs TB fn.N d.scope fn.body d.body
/-- how n written arguments are bound, the defaults behind the j-th filling up -/
def BdN (fn : Fn) (d : He.DefD) (n j : Nat) : Prop := ∀ (T : Addr) (kV doc pm : Value) (an : Option Addr) (cdv ct : Value) (us its : List Value), us.length = n → its.length = d.dfl.length →
  ∃ k, bindArgs (PySem.W.fnOf d.name d.qual d.params d.body d.scope (.ref T) kV doc pm an cdv ct) ⟨us, []⟩ = seqItems? (.ref T) >>= k ∧ k (some its.toArray) = pure ((fn.N.take fn.np).zip (us ++ its.drop j))
def BdP (fn : Fn) (d : He.DefD) : Prop := d.kwd ≠ [] ∨ (d.dfl = [] ∧ ∀ (kV doc pm : Value) (an : Option Addr) (cdv ct : Value) (us : List Value), us.length = fn.np → bindArgs (PySem.W.fnOf d.name d.qual d.params d.body d.scope .none kV doc pm an cdv ct) ⟨us, []⟩ = pure ((fn.N.take fn.np).zip us)) ∨
  (d.dfl ≠ [] ∧ BdN fn d fn.np d.dfl.length)
/-- how n written arguments are bound, the keyword-only parameters keeping their defaults -/
def BdK (fn : Fn) (d : He.DefD) (n : Nat) : Prop := ∀ (D : Addr) (doc pm : Value) (an : Option Addr) (cdv ct : Value) (us ks : List Value), us.length = n → ks.length = d.kwd.length →
  KwChain D ((d.kwd.map (·.1)).zip ks) (bindArgs (PySem.W.fnOf d.name d.qual d.params d.body d.scope .none (.ref D) doc pm an cdv ct) ⟨us, []⟩) ((fn.N.take fn.np).zip (us ++ ks))
/-- the forms that leave defaults -/
def BfP (TB : Tb) (f : Nat) (fn : Fn) (d : He.DefD) : Prop := ∀ n ds, TB.df.contains (f, n, ds) = true →
  (d.kwd = [] ∧ ∃ j, d.dfl ≠ [] ∧ BdN fn d n j ∧ n + ds.length = fn.np ∧ d.dfl.drop j = ds.map He.Dv.int) ∨ (d.dfl = [] ∧ d.kwd ≠ [] ∧ BdK fn d n ∧ n + ds.length = fn.np ∧ d.kwd.map (·.2) = ds.map He.Dv.int)
def BkP (TB : Tb) (f : Nat) (fn : Fn) (d : He.DefD) : Prop := ∀ n ks, TB.kw.contains (f, n, ks) = true → d.kwd = [] ∧ d.dfl = [] ∧ ∀ (kV doc pm : Value) (an : Option Addr) (cdv ct : Value) (us ws zs : List Value), us.length = n → ws.length = ks.length → place fn.np us ks ws = some zs →
  bindArgs (PySem.W.fnOf d.name d.qual d.params d.body d.scope .none kV doc pm an cdv ct) ⟨us, (ks.filterMap fun i => fn.N[i]?).zip ws⟩ = pure ((fn.N.take fn.np).zip zs)
theorem bk_none {TB : Tb} {f n : Nat} {ks : List Nat} (e : (TB.kw.all fun t => !(t.1 == f)) = true) (h : TB.kw.contains (f, n, ks) = true) : False := by
  have m := List.contains_iff_mem.mp h
  have z := List.all_eq_true.mp e _ m
  simp at z
theorem kw_one {TB : Tb} {f n n0 : Nat} {ks k0 : List Nat} (e : (TB.kw.all fun t => !(t.1 == f) || (t.2.1 == n0 && t.2.2 == k0)) = true) (h : TB.kw.contains (f, n, ks) = true) : n = n0 ∧ ks = k0 := by
  have m := List.contains_iff_mem.mp h
  have z := List.all_eq_true.mp e _ m
  simpa using z
structure DefOk (TB : Tb) (f : Nat) (fn : Fn) (d : He.DefD) : Prop where
  b : defB TB fn d = true
  bd : BdP fn d
  bf : BfP TB f fn d
  bk : BkP TB f fn d
def DefsOk (TB : Tb) : Nat → List Fn → List He.DefD → Prop
  | _, [], [] => True
  | i, fn :: fns, d :: ds => DefOk TB i fn d ∧ DefsOk TB (i + 1) fns ds
  | _, _, _ => False
theorem DefsOk.get {TB : Tb} : ∀ {i : Nat} {fns : List Fn} {ds : List He.DefD} {j : Nat} {fn : Fn}, DefsOk TB i fns ds → fns[j]? = some fn → ∃ d, ds[j]? = some d ∧ DefOk TB (i + j) fn d
  | _, [], [], _, _, _, e => by cases e
  | _, [], _ :: _, _, _, h, _ => h.elim
  | _, _ :: _, [], _, _, h, _ => h.elim
  | i, f :: fns, d :: ds, 0, fn, h, e => by
    cases e
    exact ⟨d, rfl, h.1⟩
  | i, f :: fns, d :: ds, j + 1, fn, h, e => by
    obtain ⟨d', e1, q⟩ := DefsOk.get (j := j) h.2 e
    exact ⟨d', e1, by rw [show i + (j + 1) = i + 1 + j by omega]; exact q⟩
theorem df_none {TB : Tb} {f n : Nat} {ds : List Int} (e : (TB.df.all fun t => !(t.1 == f)) = true) (h : TB.df.contains (f, n, ds) = true) : False := by
  have m := List.contains_iff_mem.mp h
  have z := List.all_eq_true.mp e _ m
  simp at z
theorem df_one {TB : Tb} {f n n0 : Nat} {ds d0 : List Int} (e : (TB.df.all fun t => !(t.1 == f) || (t.2.1 == n0 && t.2.2 == d0)) = true) (h : TB.df.contains (f, n, ds) = true) : n = n0 ∧ ds = d0 := by
  have m := List.contains_iff_mem.mp h
  have z := List.all_eq_true.mp e _ m
  simpa using z
/-! ### the classes -/
def cnOf (TB : Tb) (K : PySem.W.Frag) : Cn := ⟨K, fun f => match TB.fns[f]? with
  | some fn => match fn.own with
    | none => He.ga K fn.name
    | some (c, m) => match TB.cl[c]? with
      | some cd => He.ma K (He.ga K cd.name) m
      | none => 0
  | none => 0, fun c => match TB.cl[c]? with
  | some cd => He.ga K cd.name
  | none => 0, fun c j => match TB.cl[c]? with
  | some cd => cd.fs.getD j Str.empty
  | none => Str.empty⟩
def gvOf (TB : Tb) (g : Nat) : Option D := (TB.gl[g]?).map (·.2)
theorem ca_of {TB : Tb} {K : PySem.W.Frag} {c : Nat} {cd : CD} (e : TB.cl[c]? = some cd) : (cnOf TB K).ca c = He.ga K cd.name := by
  show (match TB.cl[c]? with
    | some cd => He.ga K cd.name
    | none => 0) = _
  rw [e]
theorem nm_of {TB : Tb} {K : PySem.W.Frag} {c j : Nat} {cd : CD} {f : Str} (e : TB.cl[c]? = some cd) (h : cd.fs[j]? = some f) : (cnOf TB K).nm c j = f := by
  show (match TB.cl[c]? with
    | some cd => cd.fs.getD j Str.empty
    | none => Str.empty) = _
  rw [e]
  show cd.fs.getD j Str.empty = f
  rw [List.getD_eq_getElem?_getD, h]
  rfl
/-- the __init__ of an exception: the class, the base, the names, the def -/
structure XI where
  c : Nat
  b : Nat
  N : List Str
  d : He.DefD
def xiB (TB : Tb) (z : XI) : Bool := match TB.cl[z.c]?, TB.cl[z.b]? with
  | some cd, some cb => cd.exc && !cd.fs.isEmpty && decide (z.d.at_ = (cd.name, some ("__init__" : Str))) && z.d.dfl.isEmpty && z.d.kwd.isEmpty && Nat.ble cd.fs.length 900 && decide (z.N.length = cd.fs.length + 1) && C8.scC z.N z.N z.d.scope && chkX z.N z.d.scope cb.name cd.fs z.d.body
  | _, _ => false
structure XIOk (TB : Tb) (z : XI) : Prop where
  b : xiB TB z = true
  bd : ∀ (kV doc pm : Value) (an : Option Addr) (cdv ct : Value) (us : List Value), us.length = z.N.length → bindArgs (PySem.W.fnOf z.d.name z.d.qual z.d.params z.d.body z.d.scope .none kV doc pm an cdv ct) ⟨us, []⟩ = pure (z.N.zip us)
def allXi (TB : Tb) : List XI → Prop
  | [] => True
  | z :: zs => XIOk TB z ∧ allXi TB zs
structure XisOk (TB : Tb) (xis : List XI) : Prop where
  all : allXi TB xis
  has : (TB.xi.all fun q => xis.any fun z => z.c == q.1 && z.b == q.2) = true
theorem allXi.get {TB : Tb} : ∀ {xis : List XI} {z : XI}, allXi TB xis → z ∈ xis → XIOk TB z
  | [], _, _, h => by cases h
  | y :: ys, z, h, m => by
    rcases List.mem_cons.mp m with rfl | m
    · exact h.1
    · exact h.2.get m
theorem cls_of {TB : Tb} {ds : List He.DefD} {xis : List XI} {w : World} {K : PySem.W.Frag} {h : Heap} {mg : Str → Option Value} (X : K.In h) (G : h.Ns mainGlobals mg) (c : SaysE TB (ds ++ xis.map (·.d)) w K) (ox : XisOk TB xis) {k : Nat} {cd : CD} (e : TB.cl[k]? = some cd) (P : Program) (base : Heap) :
    ClF (cnOf TB K) P w mg base TB k cd := by
  obtain ⟨_, _, c0, c2⟩ := c.parts
  rw [Bool.and_eq_true] at c0
  obtain ⟨c1, cx⟩ := c0
  have fact : ∀ f ∈ faC cd, f.ok K = true := fun f hf => by
    obtain ⟨i, e⟩ := List.getElem?_of_mem (show f ∈ faOf TB from List.mem_append.mpr (.inr (List.mem_append.mpr (.inr (List.mem_append.mpr (.inr (List.mem_append.mpr (.inl (List.mem_flatMap.mpr ⟨cd, List.mem_of_getElem? e, hf⟩)))))))))
    exact c2.fact i e
  have eca := ca_of (K := K) e
  have hglo : He.Fa.glo cd.name ∈ faC cd := by
    unfold faC
    cases cd.exc <;> exact List.mem_cons_self
  have fx : cd.exc = false → faC cd = He.Fa.glo cd.name :: He.Fa.cls cd.name :: He.Fa.mkr cd.name :: cd.fs.map fun f => He.Fa.noat cd.name f := fun he => by unfold faC; rw [he]
  have hcl : cd.exc = false → Cls K (He.ga K cd.name) := fun he => He.cls_ok (fact _ (by rw [fx he]; simp))
  have hno : cd.exc = false → ∀ f ∈ cd.fs, NoAttr K (He.ga K cd.name) f := fun he f hf => He.noat_ok (fact (.noat cd.name f) (by rw [fx he]; simp [hf]))
  have z0 := List.all_eq_true.mp c1 _ (List.mem_of_getElem? e)
  have cb : cd.exc = true → isB K (He.ga K cd.name) = true ∧ upB K TB.cl cd = true := fun he => by
    have z := z0
    rw [Bool.and_eq_true] at z
    replace z := z.2
    rw [he, Bool.not_true, Bool.false_or, Bool.and_eq_true] at z
    exact z
  refine ⟨by rw [eca]; exact He.glo_ok X G (fact _ hglo), fun j f hf => nm_of e hf, fun he => by rw [eca]; exact hcl he, fun he => by rw [eca]; exact hno he, fun he => ?_, fun j hj => ?_, fun he => ?_, fun he hn => ?_, fun hq => ?_, fun he => by rw [eca]; exact isB_ok (cb he).1, fun he k' cd' e' he' => ?_⟩
  · rw [Bool.and_eq_true, decide_eq_true_eq] at z0
    exact z0.1
  · show (match TB.cl[k]? with
      | some cd => cd.fs.getD j Str.empty
      | none => Str.empty) = _
    rw [e]
    show cd.fs.getD j Str.empty = _
    rw [List.getD_eq_getElem?_getD, hj]
    rfl
  · have m := He.mkr_ok (fact (.mkr cd.name) (by rw [fx he]; simp))
    rw [eca]
    exact ⟨m.makes, m.kp⟩
  · rw [eca]
    exact He.exc_ok (fact (.exc cd.name) (by unfold faC; rw [he, hn]; simp))
  · obtain ⟨q, mq, eq⟩ := List.any_eq_true.mp hq
    have eq := beq_iff_eq.mp eq
    have y := List.all_eq_true.mp ox.has _ mq
    obtain ⟨z, mz, ez⟩ := List.any_eq_true.mp y
    rw [Bool.and_eq_true, beq_iff_eq, beq_iff_eq] at ez
    have Z := ox.all.get mz
    have zb := Z.b
    have kb := List.all_eq_true.mp cx _ mq
    unfold xiB at zb
    rw [ez.1, ez.2] at zb
    rw [eq] at kb zb
    rw [e] at kb zb
    cases ecb : TB.cl[q.2]? with
    | none => rw [ecb] at kb; cases kb
    | some cbd =>
      rw [ecb] at kb zb
      dsimp only at kb zb
      rw [Bool.and_eq_true, Bool.and_eq_true] at kb
      obtain ⟨⟨k1, k2⟩, k3⟩ := kb
      simp only [Bool.and_eq_true, decide_eq_true_eq, Bool.not_eq_true', List.isEmpty_iff, List.isEmpty_eq_false_iff] at zb
      obtain ⟨⟨⟨⟨⟨⟨⟨⟨z1, z2⟩, z3⟩, z4⟩, z5⟩, z6⟩, z7⟩, z8⟩, z9⟩ := zb
      obtain ⟨j, ej⟩ := List.getElem?_of_mem mz
      have ed : (ds ++ xis.map (·.d))[ds.length + j]? = some z.d := by
        rw [List.getElem?_append_right (Nat.le_add_right _ _), Nat.add_sub_cancel_left, List.getElem?_map, ej]
        rfl
      obtain ⟨fd, F⟩ := c2.def_ _ ed
      have hmeth : He.Fa.ok K (.meth cd.name "__init__") = true := by
        obtain ⟨i, ei⟩ := List.getElem?_of_mem (show He.Fa.meth cd.name "__init__" ∈ faOf TB from List.mem_append.mpr (.inr (List.mem_append.mpr (.inr (List.mem_append.mpr (.inr (List.mem_append.mpr (.inr (List.mem_flatMap.mpr ⟨q, mq, by
          unfold faX
          rw [eq, e]
          exact List.mem_cons_self⟩)))))))))
        exact c2.fact i ei
      have hglB : mg cbd.name = some (.ref (He.ga K cbd.name)) := by
        have m : He.Fa.glo cbd.name ∈ faC cbd := by
          unfold faC
          cases cbd.exc <;> exact List.mem_cons_self
        obtain ⟨i, ei⟩ := List.getElem?_of_mem (show He.Fa.glo cbd.name ∈ faOf TB from List.mem_append.mpr (.inr (List.mem_append.mpr (.inr (List.mem_append.mpr (.inr (List.mem_append.mpr (.inl (List.mem_flatMap.mpr ⟨cbd, List.mem_of_getElem? ecb, m⟩)))))))))
        exact He.glo_ok X G (c2.fact i ei)
      have ndp := z0
      rw [Bool.and_eq_true, decide_eq_true_eq] at ndp
      have M := He.meth_ok hmeth
      obtain ⟨zc, zbb, zN, ⟨dat, dnm, dq, dp, db, dsc, ddf, dkw⟩⟩ := z
      dsimp only at z3 z4 z5 z7 z8 z9 F
      subst z3 z4 z5
      refine ⟨z1, z2, ?_⟩
      rw [eca]
      exact xinit_ok k1 hglB k2 z2 (Nat.le_of_ble_eq_true z6) ndp.1 z7 (fun f hf => of_decide_eq_true (List.all_eq_true.mp k3 f hf)) M F z8 z9 Z.bd
  · rw [eca, ca_of e']
    have m : (cd', k') ∈ TB.cl.zipIdx := List.mem_zipIdx_iff_getElem?.mpr e'
    have z := List.all_eq_true.mp (cb he).2 _ m
    dsimp only at z
    rw [he', Bool.not_true, Bool.false_or, Bool.and_eq_true, decide_eq_true_eq, decide_eq_true_eq] at z
    exact z
theorem vals_ints' {K : PySem.W.Frag} : ∀ {l : List He.Dv} {ds : List Int}, l = ds.map He.Dv.int → l.map (He.Dv.v K) = ds.map V.int := by
  rintro l ds rfl
  rw [List.map_map]
  rfl
theorem px_of {TB : Tb} {ds : List He.DefD} {xis : List XI} {w : World} {K : PySem.W.Frag} {h : Heap} {mg : Str → Option Value} (X : K.In h) (G : h.Ns mainGlobals mg) (c : SaysE TB (ds ++ xis.map (·.d)) w K) (ok : DefsOk TB 0 TB.fns ds) (ox : XisOk TB xis) : PX (cnOf TB K) mg TB (gvOf TB) w := by
  obtain ⟨c1, cg, _, c2⟩ := c.parts
  have fact : ∀ f ∈ faOf TB, f.ok K = true := fun f hf => by
    obtain ⟨i, e⟩ := List.getElem?_of_mem hf
    exact c2.fact i e
  refine ⟨fun n hn => ?_, fun g n d e => ?_, fun f fn e => ?_, fun k cd e P base => cls_of X G c ox e P base, fun g n kvs e => ?_⟩
  · exact He.free_ok X G (fact (.free (Str.ofString n)) (List.mem_append.mpr (.inr (List.mem_append.mpr (.inl (List.mem_map.mpr ⟨n, hn, rfl⟩))))))
  · refine ⟨by unfold gvOf; rw [e]; rfl, ?_⟩
    have z := List.all_eq_true.mp c1 _ (List.mem_of_getElem? e)
    dsimp only at z
    split at z
    · rename_i u eu
      obtain ⟨v, r, q⟩ := cst_ok (C := cnOf TB K) z
      exact ⟨u, v, PySem.W.mg_of X G eu, r, q⟩
    · cases z
  · obtain ⟨d, ed, D⟩ := ok.get e
    rw [Nat.zero_add] at D
    have hfa := fact (faF TB fn) (List.mem_append.mpr (.inl (List.mem_map.mpr ⟨fn, List.mem_of_getElem? e, rfl⟩)))
    obtain ⟨fd, F⟩ := c2.def_ f (show (ds ++ xis.map (·.d))[f]? = some d by rw [List.getElem?_append_left (List.getElem?_eq_some_iff.mp ed).1]; exact ed)
    have B := D.b
    unfold defB at B
    simp only [Bool.and_eq_true] at B
    obtain ⟨⟨⟨⟨b1, b4⟩, b5⟩, b6⟩, b7⟩ := B
    have efa0 : (cnOf TB K).fa f = match fn.own with
        | none => He.ga K fn.name
        | some (c, m) => match TB.cl[c]? with
          | some cd => He.ma K (He.ga K cd.name) m
          | none => 0 := by
      show (match TB.fns[f]? with
        | some fn => match fn.own with
          | none => He.ga K fn.name
          | some (c, m) => match TB.cl[c]? with
            | some cd => He.ma K (He.ga K cd.name) m
            | none => 0
        | none => 0) = _
      rw [e]
    have efa : (cnOf TB K).fa f = He.fAd K d.at_ := by
      rw [efa0]
      unfold atB at b1
      split at b1
      · rename_i e0
        rw [Bool.and_eq_true, decide_eq_true_eq] at b1
        rw [b1.1]
        rfl
      · rename_i c m e0
        cases ec : TB.cl[c]? with
        | none => rw [ec] at b1; cases b1
        | some cd =>
          rw [ec, decide_eq_true_eq] at b1
          rw [b1]
          rfl
    have nm : fn.own = none → mg fn.name = some (.ref ((cnOf TB K).fa f)) := fun e0 => by
      rw [efa0, e0]
      unfold faF at hfa
      rw [e0] at hfa
      exact He.glo_ok X G hfa
    have mt : ∀ c m, fn.own = some (c, m) → Meth (cnOf TB K).K ((cnOf TB K).ca c) m ((cnOf TB K).fa f) := fun c m e0 => by
      rw [efa0, e0]
      unfold faF at hfa
      rw [e0] at hfa
      unfold atB at b1
      rw [e0] at b1
      dsimp only at b1 hfa
      cases ec : TB.cl[c]? with
      | none => rw [ec] at b1; cases b1
      | some cd =>
        rw [ec] at hfa
        rw [ca_of ec]
        dsimp only
        rw [ec]
        exact He.meth_ok hfa
    have bd := D.bd
    have bf := D.bf
    have bk := D.bk
    obtain ⟨dat, dnm, dq, dp, db, dsc, ddf, dkw⟩ := d
    dsimp only at b6 b7
    have F2 : FunD (cnOf TB K).K dnm dq dp db dsc (ddf.map (He.Dv.v K)) (dkw.map fun q => (q.1, q.2.v K)) ((cnOf TB K).fa f) fd := by
      rw [efa]
      exact F
    have np := Nat.le_of_ble_eq_true b5
    have tl : (fn.N.take fn.np).length = fn.np := by rw [List.length_take, Nat.min_eq_left np]
    have byN : dkw = [] → ∀ n j, ddf ≠ [] → BdN fn ⟨dat, dnm, dq, dp, db, dsc, ddf, dkw⟩ n j → n + (ddf.length - j) = fn.np → ∃ dv, Vals ((ddf.map (He.Dv.v K)).drop j) dv ∧ Binds (cnOf TB K).K fd (fn.N.take fn.np) dv := fun _ n j hne hb hn =>
      F2.binds1 n j (by simpa using hne) (by rw [tl, List.length_map]; exact hn) fun T kV doc pm an cdv ct us its h1 h2 => hb T kV doc pm an cdv ct us its h1 (by rw [h2, List.length_map])
    refine ⟨fd, nm, mt, np, fun hko s us hin hl => ?_, fun n is hn => ?_, fun n ks hk s us ws zs h1 h2 h3 => ?_, ⟨_, dq, dp, db, dsc, _, _, F2, C8.fnScope_by b6, b7⟩⟩
    · have hk0 : dkw = [] := by
        unfold kwB at b4
        cases dkw with
        | nil => rfl
        | cons _ _ =>
          dsimp only at b4
          rw [Bool.and_eq_true, decide_eq_true_eq] at b4
          rw [hko b4.2] at b4
          cases b4.1
      rcases bd with z | ⟨e0, bd⟩ | ⟨hne, bd⟩
      · exact absurd hk0 z
      · dsimp only at e0
        subst e0
        obtain ⟨oc, od, dV, kV, doc, pm, an, cdv, ct, osl, rfl, _, _, hD, _⟩ := F2.ex
        rcases hD with ⟨_, rfl⟩ | ⟨e, _⟩
        · exact .of_eq (bd kV doc pm an cdv ct us hl)
        · exact absurd rfl e
      · obtain ⟨dv, rv, B⟩ := byN hk0 fn.np ddf.length hne bd (by omega)
        have e0 : dv = [] := by
          have := rv.length
          simp at this
          exact List.eq_nil_of_length_eq_zero this.symm
        subst e0
        have z := B s us hin (by rw [List.append_nil, tl]; exact hl)
        rw [List.append_nil] at z
        exact z
    · rcases bf n is hn with ⟨hk0, j, hne, hb, hnp, hd⟩ | ⟨h0, hk0, hb, hnp, hd⟩
      · dsimp only at hne hd hk0
        have hj : ddf.length - j = is.length := by
          have := congrArg List.length hd
          simpa using this
        obtain ⟨dv, rv, B⟩ := byN hk0 n j hne hb (by omega)
        rw [← List.map_drop, vals_ints' hd] at rv
        refine ⟨dv, rv, hnp, fun s us hin hl => B s us hin ?_⟩
        have := rv.length
        rw [List.length_append, tl, hl, ← this, List.length_map]
        exact hnp
      · dsimp only at h0 hk0 hd
        subst h0
        have hj : dkw.length = is.length := by
          have := congrArg List.length hd
          simpa using this
        obtain ⟨dv, rv, B⟩ := F2.binds0 (ps := fn.N.take fn.np) n (by simpa using hk0) (by rw [tl, List.length_map, hj]; exact hnp) fun D doc pm an cdv ct us ks h1 h2 => by
          rw [List.map_map]
          exact hb D doc pm an cdv ct us ks h1 (by rw [h2, List.length_map])
        have ev : (dkw.map fun q => (q.1, q.2.v K)).map (·.2) = is.map V.int := by
          rw [List.map_map]
          exact (List.map_map (f := fun q : Str × He.Dv => q.2) (g := He.Dv.v K) (l := dkw)).symm.trans (vals_ints' hd)
        rw [ev] at rv
        refine ⟨dv, rv, hnp, fun s us hin hl => B s us hin ?_⟩
        have := rv.length
        rw [List.length_append, tl, hl, ← this, List.length_map]
        exact hnp
    · obtain ⟨_, e0, bk⟩ := bk n ks hk
      dsimp only at e0
      subst e0
      obtain ⟨oc, od, dV, kV, doc, pm, an, cdv, ct, osl, rfl, _, _, hD, _⟩ := F2.ex
      rcases hD with ⟨_, rfl⟩ | ⟨e, _⟩
      · exact .of_eq (bk kV doc pm an cdv ct us ws zs h1 h2 h3)
      · exact absurd rfl e
  · obtain ⟨es, m, D⟩ := c.tab e
    refine ⟨_, es, m, He.glo_ok X G (fact (.glo n) (List.mem_append.mpr (.inr (List.mem_append.mpr (.inr (List.mem_append.mpr (.inl (List.mem_map.mpr ⟨(n, kvs), List.mem_of_getElem? e, rfl⟩)))))))), D, fun s i hl => ?_⟩
    have z := List.all_eq_true.mp cg _ (List.mem_of_getElem? e)
    dsimp only at z
    have hm : (s, i) ∈ kvs := by
      clear z D e
      induction kvs with
      | nil => cases hl
      | cons q kvs ih =>
        obtain ⟨s', i'⟩ := q
        rw [List.lookup_cons] at hl
        cases hk : s == s' with
        | true =>
          rw [hk] at hl
          cases hl
          rw [beq_iff_eq.mp hk]
          exact List.mem_cons_self
        | false =>
          rw [hk] at hl
          exact List.mem_cons_of_mem _ (ih hl)
    have y := List.all_eq_true.mp z _ hm
    dsimp only at y
    split at y
    · rename_i j t ej
      have := decide_eq_true_eq.mp y
      subst this
      exact ⟨t, ej⟩
    · cases y

/-- THE HEAD'S END: the law's def answers True by the evaluator -/
theorem walk_ev {l : PySem.W.OpenLaw} {n k wf f0 : Nat} {q : Program} {loose : List Str} {XP : (Str → Option Value) → Heap → Prop} {YP : World → Heap → Prop} {d : DefRec} {TB : Tb} {ds : List He.DefD} {xis : List XI} {fn0 : Fn} {x : Str}
    (hn : l.most = some n) (hn2 : n ≤ sizeLine) (hdf : d.params.defaults = []) (hr : Room (2 * k + 2) callerA) (ok : DefsOk TB 0 TB.fns ds) (ox : XisOk TB xis) (e0 : TB.fns[f0]? = some fn0) (eo : fn0.own = none) (ek : fn0.ko = false) (ex : fn0.N.take fn0.np = [x]) (hd : d.name = fn0.name)
    (hY : ∀ (w : World) (h : Heap), YP w h → ∃ K : PySem.W.Frag, K.In h ∧ SaysE TB (ds ++ xis.map (·.d)) w K)
    (law : ∀ is : List Int, is.length ≤ n → ∃ M, run TB.fns (gvOf TB) wf k f0 [.frz (is.map D.int)] 0 [] = .ok (.bl true) M) :
    PySem.W.WalkO q loose XP YP l.row.toRowW d [] (fun f vs => PySem.call f vs) := by
  refine Att.attach_call hn hdf fun w s0 s1 mg mb fa o pm cd doc a vs is G Y ho hd' hcd hmg hobj hints hlen hg => ?_
  obtain ⟨K, KX, c⟩ := hY w _ Y
  have px := px_of KX G.T.g c ok ox
  obtain ⟨fd0, D0⟩ := px.defs f0 fn0 e0
  rw [hd, D0.nm eo] at hmg
  cases hmg
  have ex1 : fn0.np = 1 := by
    have z := congrArg List.length ex
    rw [List.length_take, Nat.min_eq_left D0.np] at z
    exact z
  refine top_call (x := x) (word := spF (cnOf TB K) (run TB.fns (gvOf TB) wf k) f0) KX G.T.g G.T.b G.T.builtins G.T.nolimit hg hobj hints (Nat.le_trans hlen hn2) hr (fun base => ?_) fun H hF => ?_
  · obtain ⟨fd, D⟩ := px.fns (w := w) (P := l.prog) (base := base) (wf := wf) k f0 fn0 e0
    refine ⟨fd, ?_, fun s u hin => ?_⟩
    · have z := D.ok
      rw [ex] at z
      exact z
    · have z := D.bd (fun _ => ek) s [u] hin (by rw [ex1]; rfl)
      rw [ex] at z
      exact z
  · obtain ⟨M, e⟩ := law is hlen
    refine ⟨[], 0, [], [], [.frz (is.map D.int)], fun c z => (by cases z), ⟨rfl, List.nodup_nil, fun c z => (by cases z), fun n a o e => by simp at e⟩, .cons ?_ .nil, ?_⟩
    · unfold RelD
      exact ⟨a, is.map V.int, rfl, hF, relDs_int is⟩
    · rw [e]
      intro μ' H' _ _ v r
      exact relD_bl.mp r
end Ev
end

section
/-! EvQ: the evaluator's equations, each an explicit step. -/
namespace Ev
variable {c : Cf} {b : Nat} {ρ : Enn} {M : Sto} {α β : Type}
/-! ### ways on -/
def atV (o : Option (Option D)) (M : Sto) : Out D := match o with
  | some (some d) => .ok d M
  | _ => .no
@[simp] theorem atV_some (d : D) : atV (some (some d)) M = .ok d M := id rfl
def negV (x : D) (M : Sto) : Out D := match x with
  | .int i => .ok (.int (-i)) M
  | _ => .no
@[simp] theorem negV_int (i : Int) : negV (.int i) M = .ok (.int (-i)) M := id rfl
def ifO {α : Type} (k : Bool) (a b : Out α) : Out α := match k with
  | true => a
  | false => b
@[simp] theorem ifO_t (x y : Out α) : ifO true x y = x := id rfl
@[simp] theorem ifO_f (x y : Out α) : ifO false x y = y := id rfl
def ifS (k : Bool) (a b : SO) : SO := match k with
  | true => a
  | false => b
@[simp] theorem ifS_t (x y : SO) : ifS true x y = x := id rfl
@[simp] theorem ifS_f (x y : SO) : ifS false x y = y := id rfl
def seqS (o : SO) (f : Enn → Sto → SO) : SO := match o with
  | some (.nx ρ', M') => f ρ' M'
  | r => r
@[simp] theorem seq_nx {f : Enn → Sto → SO} : seqS (some (.nx ρ, M)) f = f ρ M := id rfl
@[simp] theorem seq_rt {f : Enn → Sto → SO} (d : D) : seqS (some (.rt d, M)) f = some (.rt d, M) := id rfl
@[simp] theorem seq_bk {f : Enn → Sto → SO} : seqS (some (.bk ρ, M)) f = some (.bk ρ, M) := id rfl
@[simp] theorem seq_ct {f : Enn → Sto → SO} : seqS (some (.ct ρ, M)) f = some (.ct ρ, M) := id rfl
@[simp] theorem seq_xc {f : Enn → Sto → SO} (x : Xn) : seqS (some (.xc x ρ, M)) f = some (.xc x ρ, M) := id rfl
def asgS (o : Option (Enn × Sto)) : SO := match o with
  | some (ρ', M') => some (.nx ρ', M')
  | none => none
@[simp] theorem asg_some : asgS (some (ρ, M)) = some (.nx ρ, M) := id rfl
def setG (o : Out Sto) (ρ : Enn) : Option (Enn × Sto) := match o with
  | .ok M2 _ => some (ρ, M2)
  | _ => none
@[simp] theorem setG_ok (M2 : Sto) : setG (.ok M2 M) ρ = some (ρ, M2) := id rfl
def thenG (o : Option (Enn × Sto)) (f : Enn → Sto → Option (Enn × Sto)) : Option (Enn × Sto) := match o with
  | some (ρ', M') => f ρ' M'
  | none => none
@[simp] theorem thenG_some {f : Enn → Sto → Option (Enn × Sto)} : thenG (some (ρ, M)) f = f ρ M := id rfl
def intO (x : D) (M : Sto) : Out (Option Int) := match x with
  | .int i => .ok (some i) M
  | _ => .no
@[simp] theorem intO_int (i : Int) : intO (.int i) M = .ok (some i) M := id rfl
def augI (i : Nat) (o : B2) (x : D) (ρ : Enn) (y : D) (M : Sto) : SO := match o, x, y with
  | .add, .int i', .int j => some (.nx (ρ.set i (some (.int (i' + j)))), M)
  | .sub, .int i', .int j => some (.nx (ρ.set i (some (.int (i' - j)))), M)
  | _, _, _ => none
@[simp] theorem augI_add (i : Nat) (x y : Int) : augI i .add (.int x) ρ (.int y) M = some (.nx (ρ.set i (some (.int (x + y)))), M) := id rfl
@[simp] theorem augI_sub (i : Nat) (x y : Int) : augI i .sub (.int x) ρ (.int y) M = some (.nx (ρ.set i (some (.int (x - y)))), M) := id rfl
def augV (o : Option (Option D)) (f : D → SO) : SO := match o with
  | some (some x) => f x
  | _ => none
@[simp] theorem augV_some (d : D) (f : D → SO) : augV (some (some d)) f = f d := id rfl
def isiV (o : Option Ty) (cs : List CL) (M : Sto) : Out D := match o with
  | some t => (ofOpt (isAny t cs) M).bind fun k M => .ok (.bl k) M
  | none => .no
@[simp] theorem isiV_some (t : Ty) (cs : List CL) : isiV (some t) cs M = (ofOpt (isAny t cs) M).bind fun k M => .ok (.bl k) M := id rfl
def lrngV (o : Option Src) (M : Sto) : Out D := match o with
  | some (.rng lo n) => if n ≤ cap then new ((List.range n).map fun i => D.int (lo + (i : Nat))) M else .no
  | _ => .no
@[simp] theorem lrngV_rng (lo : Int) (n : Nat) : lrngV (some (.rng lo n)) M = if n ≤ cap then new ((List.range n).map fun i => D.int (lo + (i : Nat))) M else .no := id rfl
@[simp] theorem bok (a : α) (f : α → Sto → Out β) : (Out.ok a M).bind f = f a M := id rfl
@[simp] theorem lok (a : α) (f : α → Sto → SO) : lift (.ok a M) ρ f = f a M := id rfl
@[simp] theorem oso (a : α) : ofOpt (some a) M = .ok a M := id rfl
@[simp] theorem endD_nx : endD (some (.nx ρ, M)) = .ok .non M := id rfl
@[simp] theorem endD_rt (d : D) : endD (some (.rt d, M)) = .ok d M := id rfl

def bodyS (o : Option (Enn × Sto)) (f : Enn → Sto → SO) : SO := match o with
  | some (ρ', M') => f ρ' M'
  | none => none
@[simp] theorem bodyS_some {f : Enn → Sto → SO} : bodyS (some (ρ, M)) f = f ρ M := id rfl

/-! ### equations -/
theorem q_var (i : Nat) : evE c b (.var i) ρ M = atV ρ[i]? M := by rw [evE] <;> (rfl)
theorem q_cst (d : D) : evE c b (.cst d) ρ M = .ok d M := by rw [evE]
theorem q_glb (g : Nat) : evE c b (.glb g) ρ M = ofOpt (c.gv g) M := by rw [evE]
theorem q_neg (a : E) : evE c b (.un .neg a) ρ M = (evE c b a ρ M).bind negV := by rw [evE] <;> (rfl)
theorem q_no (a : E) : evE c b (.no a) ρ M = (evE c b a ρ M).bind fun x M => (ofOpt (truth M x) M).bind fun k M => .ok (.bl (!k)) M := by rw [evE]
theorem q_bin (o : B2) (a a' : E) : evE c b (.bin o a a') ρ M = (evE c b a ρ M).bind fun x M => (evE c b a' ρ M).bind fun y M => semB o x y M := by rw [evE]
theorem q_cmp (o : C2) (a a' : E) : evE c b (.cmp o a a') ρ M = (evE c b a ρ M).bind fun x M => (evE c b a' ρ M).bind fun y M => (ofOpt (semC o M x y) M).bind fun k M => .ok (.bl k) M := by rw [evE]
theorem q_chn (o o' : C2) (a a' a'' : E) : evE c b (.chn o o' a a' a'') ρ M = (evE c b a ρ M).bind fun x M => (evE c b a' ρ M).bind fun y M => (ofOpt (semC o M x y) M).bind fun k M => ifO k ((evE c b a'' ρ M).bind fun z M => (ofOpt (semC o' M y z) M).bind fun k M => .ok (.bl k) M) (.ok (.bl false) M) := by
  rw [evE] <;> (congr <;> (funext x M; congr <;> (funext y M; congr <;> (funext k M; cases k <;> rfl))))
theorem q_and (a a' : E) : evE c b (.and a a') ρ M = (evE c b a ρ M).bind fun x M => (ofOpt (truth M x) M).bind fun k M => ifO k (evE c b a' ρ M) (.ok x M) := by
  rw [evE] <;> (congr <;> (funext x M; congr <;> (funext k M; cases k <;> rfl)))
theorem q_or (a a' : E) : evE c b (.or a a') ρ M = (evE c b a ρ M).bind fun x M => (ofOpt (truth M x) M).bind fun k M => ifO k (.ok x M) (evE c b a' ρ M) := by
  rw [evE] <;> (congr <;> (funext x M; congr <;> (funext k M; cases k <;> rfl)))
theorem q_ife (t : T) (a a' : E) : evE c b (.ife t a a') ρ M = (evT c b t ρ M).bind fun k M => ifO k (evE c b a ρ M) (evE c b a' ρ M) := by
  rw [evE] <;> (congr <;> (funext k M; cases k <;> rfl))
theorem q_tup (es : EL) : evE c b (.tup es) ρ M = (evL c b es ρ M).bind fun xs M => if xs.length ≤ cap then .ok (.tup xs) M else .no := by rw [evE]
theorem q_lst (es : EL) : evE c b (.lst es) ρ M = (evL c b es ρ M).bind fun xs M => if xs.length ≤ cap then new xs M else .no := by rw [evE]
theorem q_dic : evE c b .dic0 ρ M = .ok (.loc M.length) (M ++ [.dct []]) := by rw [evE]
theorem q_ix (a a' : E) : evE c b (.ix a a') ρ M = (evE c b a ρ M).bind fun x M => (evE c b a' ρ M).bind fun y M => ofOpt (semIx M x y) M := by rw [evE]
theorem q_sl (a : E) (lo hi : EO) : evE c b (.sl a lo hi) ρ M = (evE c b a ρ M).bind fun x M => (evO c b lo ρ M).bind fun l M => (evO c b hi ρ M).bind fun h M => semSl x l h M := by rw [evE]
theorem q_rev (a : E) : evE c b (.rev a) ρ M = (evE c b a ρ M).bind fun x M => semRev x M := by rw [evE]
theorem q_call (f : Nat) (es : EL) : evE c b (.call f es) ρ M = (evL c b es ρ M).bind fun xs M => c.F f xs b M := by rw [evE]
theorem q_callk (f : Nat) (es kes : EL) (ks : List Nat) : evE c b (.callk f es ks kes) ρ M = (evL c b es ρ M).bind fun xs M => (evL c b kes ρ M).bind fun ys M => (ofOpt (place (xs.length + ys.length) xs ks ys) M).bind fun zs M => c.F f zs b M := by rw [evE]
theorem q_bi (k : BI) (es : EL) : evE c b (.bi k es) ρ M = (evL c b es ρ M).bind fun xs M => semBI k xs M := by rw [evE]
theorem q_lrng (es : EL) : evE c b (.lrng es) ρ M = (evL c b es ρ M).bind fun xs M => lrngV (rngOf xs) M := by
  rw [evE] <;> (rfl)
theorem q_mth (m : MT) (o : E) (es : EL) : evE c b (.mth m o es) ρ M = (evE c b o ρ M).bind fun x M => ifO (rcv m M x) ((evL c b es ρ M).bind fun xs M => semM m x xs b M) .no := by
  rw [evE] <;> (congr <;> (funext x M; cases rcv m M x <;> rfl))
theorem q_isi (a : E) (cs : List CL) : evE c b (.isi a cs) ρ M = (evE c b a ρ M).bind fun x M => isiV (tyD M x) cs M := by
  rw [evE] <;> (rfl)
theorem q_nil : evL c b .nil ρ M = .ok [] M := by rw [evL]
theorem q_cons (e : E) (es : EL) : evL c b (.cons e es) ρ M = (evE c b e ρ M).bind fun x M => (evL c b es ρ M).bind fun xs M => .ok (x :: xs) M := by rw [evL]
theorem q_on : evO c b .none ρ M = .ok none M := by rw [evO]
theorem q_os (e : E) : evO c b (.some e) ρ M = (evE c b e ρ M).bind intO := by rw [evO] <;> (rfl)
theorem q_tyes : evT c b .yes ρ M = .ok true M := by rw [evT]
theorem q_tval (a : E) : evT c b (.val a) ρ M = (evE c b a ρ M).bind fun x M => ofOpt (truth M x) M := by rw [evT]
theorem q_tnot (t : T) : evT c b (.not t) ρ M = (evT c b t ρ M).bind fun k M => .ok (!k) M := by rw [evT]
theorem q_tand (t t' : T) : evT c b (.and t t') ρ M = (evT c b t ρ M).bind fun k M => ifO k (evT c b t' ρ M) (.ok false M) := by
  rw [evT] <;> (congr <;> (funext k M; cases k <;> rfl))
theorem q_tor (t t' : T) : evT c b (.or t t') ρ M = (evT c b t ρ M).bind fun k M => ifO k (.ok true M) (evT c b t' ρ M) := by
  rw [evT] <;> (congr <;> (funext k M; cases k <;> rfl))
theorem q_tcmp (o : C2) (a a' : E) : evT c b (.cmp o a a') ρ M = (evE c b a ρ M).bind fun x M => (evE c b a' ρ M).bind fun y M => ofOpt (semC o M x y) M := by rw [evT]
theorem q_tchn (o o' : C2) (a a' a'' : E) : evT c b (.chn o o' a a' a'') ρ M = (evE c b a ρ M).bind fun x M => (evE c b a' ρ M).bind fun y M => (ofOpt (semC o M x y) M).bind fun k M => ifO k ((evE c b a'' ρ M).bind fun z M => ofOpt (semC o' M y z) M) (.ok false M) := by
  rw [evT] <;> (congr <;> (funext x M; congr <;> (funext y M; congr <;> (funext k M; cases k <;> rfl))))
theorem q_tife (t a a' : T) : evT c b (.ife t a a') ρ M = (evT c b t ρ M).bind fun k M => ifO k (evT c b a ρ M) (evT c b a' ρ M) := by
  rw [evT] <;> (congr <;> (funext k M; cases k <;> rfl))
theorem q_iseq (a : E) : evI c b (.seq a) ρ M = (evE c b a ρ M).bind fun x M => ofOpt (srcOf M x) M := by rw [evI]
theorem q_irng (es : EL) : evI c b (.rng es) ρ M = (evL c b es ρ M).bind fun xs M => ofOpt (rngOf xs) M := by rw [evI]
theorem q_ienu (a : E) : evI c b (.enu a) ρ M = (evE c b a ρ M).bind fun x M => ofOpt (enuOf M x) M := by rw [evI]
theorem q_izips (a a' : E) : evI c b (.zips a a') ρ M = (evE c b a ρ M).bind fun x M => (evE c b a' ρ M).bind fun y M => ofOpt (zipsOf M x y) M := by rw [evI]
theorem q_izip (a a' : E) : evI c b (.zip a a') ρ M = (evE c b a ρ M).bind fun x M => (evE c b a' ρ M).bind fun y M => ofOpt (zipOf M x y) M := by rw [evI]
theorem q_gnam (i : Nat) (d : D) : evG c b (.nam i) d ρ M = some (ρ.set i (some d), M) := by rw [evG]
theorem q_gtup (gs : GL) (ds : List D) : evG c b (.tup gs) (.tup ds) ρ M = evGs c b gs ds ρ M := by rw [evG]; exact id rfl
theorem q_gsub (o i : E) (d : D) : evG c b (.sub o i) d ρ M = setG ((evE c b o ρ M).bind fun x M => (evE c b i ρ M).bind fun y M => ofOpt (semSet x y d b M) M) ρ := by rw [evG] <;> (rfl)
theorem q_gfld (o : E) (k j : Nat) (d : D) : evG c b (.fld o k j) d ρ M = setG ((evE c b o ρ M).bind fun x M => ofOpt (setF M x k j d b) M) ρ := by rw [evG] <;> (rfl)
theorem q_gnil : evGs c b .nil [] ρ M = some (ρ, M) := by rw [evGs]
theorem q_gcons (g : G) (gs : GL) (d : D) (ds : List D) : evGs c b (.cons g gs) (d :: ds) ρ M = thenG (evG c b g d ρ M) (evGs c b gs ds) := by rw [evGs] <;> (rfl)
theorem q_expr (e : E) : evS c b (.expr e) ρ M = lift (evE c b e ρ M) ρ fun _ M => some (.nx ρ, M) := by rw [evS]
theorem q_asg (g : G) (e : E) : evS c b (.asg g e) ρ M = lift (evE c b e ρ M) ρ fun d M => asgS (evG c b g d ρ M) := by rw [evS] <;> (rfl)
theorem q_par (is : List Nat) (es : EL) : evS c b (.par is es) ρ M = lift (evL c b es ρ M) ρ fun ds M => if ds.length = is.length then some (.nx (setAll is ds ρ), M) else none := by rw [evS]
theorem q_aug (i : Nat) (o : B2) (e : E) : evS c b (.aug i o e) ρ M = augV ρ[i]? fun x => lift (evE c b e ρ M) ρ (augI i o x ρ) := by
  rw [evS] <;> (rfl)
theorem q_ret (e : E) : evS c b (.ret e) ρ M = lift (evE c b e ρ M) ρ fun d M => some (.rt d, M) := by rw [evS]
theorem q_retn : evS c b .retn ρ M = some (.rt .non, M) := by rw [evS]
theorem q_pass : evS c b .pass ρ M = some (.nx ρ, M) := by rw [evS]
theorem q_brk : evS c b .brk ρ M = some (.bk ρ, M) := by rw [evS]
theorem q_cont : evS c b .cont ρ M = some (.ct ρ, M) := by rw [evS]
theorem q_iff (t : T) (s s' : SL) : evS c b (.iff t s s') ρ M = lift (evT c b t ρ M) ρ fun k M => ifS k (evSs c b s ρ M) (evSs c b s' ρ M) := by
  rw [evS] <;> (congr <;> (funext k M; cases k <;> rfl))
theorem q_snil : evSs c b .nil ρ M = some (.nx ρ, M) := by rw [evSs]
theorem q_scons (s : S) (ss : SL) : evSs c b (.cons s ss) ρ M = seqS (evS c b s ρ M) (evSs c b ss) := by rw [evSs] <;> (rfl)
theorem q_start (fn : Fn) (xs : List D) : startE fn xs = xs.map some ++ List.replicate (fn.N.length - fn.np) none := id rfl
theorem q_srcT (xs : List D) : srcOf M (.tup xs) = some (.its xs) := id rfl
theorem q_srcF (xs : List D) : srcOf M (.frz xs) = some (.its xs) := id rfl
theorem q_srcS (xs : List Nat) : srcOf M (.str xs) = some (.str xs) := id rfl
def srcL (o : Option O) (n : Nat) : Option Src := match o with
  | some (.lst _) => some (.lst n)
  | _ => none
theorem q_srcL (n : Nat) : srcOf M (.loc n) = srcL M[n]? n := id rfl
@[simp] theorem srcL_lst (xs : List D) (n : Nat) : srcL (some (.lst xs)) n = some (.lst n) := id rfl
/-! ### dicts, instances, exceptions -/
def dctV (o : Option (List D)) (M : Sto) : Out D := match o with
  | some ds => match pairsD ds with
    | some kvs => newD kvs M
    | none => .no
  | none => .no
def getV (o : Option (List (KY × D))) (k : Out D) : Out D := match o with
  | some _ => k
  | none => .no
@[simp] theorem getV_some (kvs : List (KY × D)) (k : Out D) : getV (some kvs) k = k := id rfl
def starV (k : Bool) (o : Option (Enn × Sto)) : Option (Enn × Sto) := match k with
  | true => o
  | false => none
@[simp] theorem starV_t (o : Option (Enn × Sto)) : starV true o = o := id rfl
def triV (o : Option (Option Bool)) (x : Xn) (ρ : Enn) (M : Sto) : SO := match o with
  | some (some k) => some (.rt (.bl k), M)
  | some none => some (.xc x ρ, M)
  | none => none
@[simp] theorem triV_b (k : Bool) (x : Xn) : triV (some (some k)) x ρ M = some (.rt (.bl k), M) := id rfl
@[simp] theorem triV_n (x : Xn) : triV (some none) x ρ M = some (.xc x ρ, M) := id rfl
def triS (cs : List (Nat × Option Bool)) (o : SO) : SO := match o with
  | some (.xc x ρ', M') => match x.xs with
    | [] => triV (cs.lookup x.cls) x ρ' M'
    | _ :: _ => none
  | r => r
variable {cs : List (Nat × Option Bool)}
@[simp] theorem triS_rt (d : D) : triS cs (some (.rt d, M)) = some (.rt d, M) := id rfl
@[simp] theorem triS_nx : triS cs (some (.nx ρ, M)) = some (.nx ρ, M) := id rfl
@[simp] theorem triS_xc (k : Nat) : triS cs (some (.xc ⟨k, []⟩ ρ, M)) = triV (cs.lookup k) ⟨k, []⟩ ρ M := id rfl
@[simp] theorem lex (x : Xn) (f : α → Sto → SO) : lift (.ex x M) ρ f = some (.xc x ρ, M) := id rfl
@[simp] theorem endD_xc (x : Xn) : endD (some (.xc x ρ, M)) = .ex x M := id rfl
theorem q_new (k f : Nat) (es : EL) : evE c b (.new k f es) ρ M = (evL c b es ρ M).bind fun xs M => (c.F f (.loc M.length :: xs) b (M ++ [.ins k []])).bind fun d M2 => ifO (isNon d) (.ok (.loc M.length) M2) .no := by
  rw [evE] <;> (congr <;> (funext xs M; congr <;> (funext d M2; cases isNon d <;> rfl)))
def pickV (o : Option Nat) (f : Nat → Out D) : Out D := match o with
  | some n => f n
  | none => .no
@[simp] theorem pickV_some (n : Nat) (f : Nat → Out D) : pickV (some n) f = f n := id rfl
theorem q_mc (a : E) (m : PySem.Str) (ms : List (Nat × Nat)) (es : EL) : evE c b (.mc a m ms es) ρ M = (evE c b a ρ M).bind fun x M => pickV (pickM M x ms) fun f => (evL c b es ρ M).bind fun xs M => c.F f (x :: xs) b M := by
  rw [evE] <;> (rfl)
def dicV (o : Option (List Int)) (d : D) (M : Sto) : Out D := match o with
  | some is => .ok (.loc M.length) (M ++ [.dctT [(is, d)]])
  | none => .no
theorem q_dicT (k v : E) : evE c b (.dicT k v) ρ M = (hush (evE c b k ρ M)).bind fun x M => (hush (evE c b v ρ M)).bind fun d M => dicV (keyT x) d M := by
  rw [evE] <;> (rfl)
theorem q_fld (a : E) (k j : Nat) : evE c b (.fld a k j) ρ M = (evE c b a ρ M).bind fun x M => ofOpt (fldD M x k j) M := by rw [evE]
theorem q_dict (ks : List (List Nat)) (es : EL) : evE c b (.dic ks es) ρ M = (hush (evL c b es ρ M)).bind fun xs M => if ks.length = xs.length then newD ((ks.map KY.s).zip xs) M else .no := by rw [evE]
theorem q_dct (a : E) : evE c b (.dct a) ρ M = (evE c b a ρ M).bind fun x M => dctV (itemsOf M x) M := by rw [evE] <;> (rfl)
theorem q_get (a e : E) : evE c b (.get a e) ρ M = (evE c b a ρ M).bind fun x M => getV (dctAt M x) ((evE c b e ρ M).bind fun y M => ofOpt (getD1 M x y) M) := by rw [evE] <;> (rfl)
theorem q_gget (g : Nat) (kvs : List (List Nat × Int)) (e : E) : evE c b (.gget g kvs e) ρ M = (evE c b e ρ M).bind fun y M => ofOpt (getG kvs y) M := by rw [evE]
theorem q_calld (f : Nat) (es : EL) (ds : List Int) : evE c b (.calld f es ds) ρ M = (evL c b es ρ M).bind fun xs M => c.F f (xs ++ ds.map D.int) b M := by rw [evE]
theorem q_gstar (gs : GL) (ds : List D) : evG c b (.star gs) (.tup ds) ρ M = starV (Nat.ble (glen gs) (ds.length + 1)) (evGs c b gs (ds.take (glen gs - 1) ++ [.loc M.length]) ρ (M ++ [.lst (ds.drop (glen gs - 1))])) := by
  rw [evG] <;> (rfl)
theorem q_rai (k : Nat) : evS c b (.rai k) ρ M = some (.xc ⟨k, []⟩ ρ, M) := by rw [evS]
theorem q_tri (s : SL) (k k2 : Nat) : evS c b (.tri s k k2 cs) ρ M = triS cs (evSs c b s ρ M) := by
  rw [evS] <;> (rfl)
end Ev
end

section
/-! EvPl: plain facts of the evaluator, one by one. -/
namespace Ev
open L2
variable {M M' : Sto} {α β : Type} {b : Nat}
theorem lt_of_get {n : Nat} {o : O} (h : M[n]? = some o) : n < M.length := (List.getElem?_eq_some_iff.mp h).1

/-! ### operators -/
@[simp] theorem sB_add (i j : Int) : semB .add (.int i) (.int j) M = .ok (.int (i + j)) M := id rfl
@[simp] theorem sB_sub (i j : Int) : semB .sub (.int i) (.int j) M = .ok (.int (i - j)) M := id rfl
@[simp] theorem sB_mul (i j : Int) (h : (small i || small j) = true) : semB .mul (.int i) (.int j) M = .ok (.int (i * j)) M := by
  dsimp only [semB]; rw [h]
theorem small_of {i : Int} (h1 : -18446744073709551616 < i) (h2 : i < 18446744073709551616) : small i = true := by
  unfold small
  rw [decide_eq_true h1, decide_eq_true h2]
  rfl
theorem big_of {i : Int} (h1 : -4611686018427387904 ≤ i) (h2 : i < 4611686018427387904) : big i = true := by
  unfold big
  rw [decide_eq_true h1, decide_eq_true h2]
  rfl
@[simp] theorem sm_0 : small 0 = true := id rfl
@[simp] theorem sm_1 : small 1 = true := id rfl
@[simp] theorem sm_2 : small 2 = true := id rfl
@[simp] theorem sm_3 : small 3 = true := id rfl
@[simp] theorem sm_7919 : small 7919 = true := id rfl
@[simp] theorem sm_48271 : small 48271 = true := id rfl
@[simp] theorem bg_0 : big 0 = true := id rfl
@[simp] theorem bg_1 : big 1 = true := id rfl
@[simp] theorem bg_2 : big 2 = true := id rfl
@[simp] theorem bg_8 : big 8 = true := id rfl
@[simp] theorem rngOf1 (j : Int) (h : big j = true) : rngOf [.int j] = some (.rng 0 j.toNat) := by
  show (if big j then some (Src.rng 0 j.toNat) else none) = _
  rw [h]
  rfl
@[simp] theorem rngOf2 (i j : Int) (h : big i = true) (h' : big j = true) : rngOf [.int i, .int j] = some (.rng i (j - i).toNat) := by
  show (if big i && big j then some (Src.rng i (j - i).toNat) else none) = _
  rw [h, h']
  rfl
@[simp] theorem sB_mod (i j : Int) (h : 0 < j) : semB .mod (.int i) (.int j) M = .ok (.int (i % j)) M := by
  dsimp only [semB]; rw [if_pos h]
@[simp] theorem sB_div (i j : Int) (h : 0 < j ∧ j < 1073741824) : semB .div (.int i) (.int j) M = .ok (.int (i / j)) M := by
  dsimp only [semB]; rw [if_pos h]
@[simp] theorem sB_pow (i j : Int) (h : 0 ≤ j ∧ j ≤ 1000000 ∧ i.natAbs < 18446744073709551616) : semB .pow (.int i) (.int j) M = .ok (.int (i ^ j.toNat)) M := by
  dsimp only [semB]; rw [if_pos h]
@[simp] theorem sB_addL (n m : Nat) : semB .add (.loc n) (.loc m) M = (match M[n]?, M[m]? with
    | some (.lst xs), some (.lst ys) => if xs.length + ys.length ≤ cap then new (xs ++ ys) M else .no
    | _, _ => .no) := id rfl
@[simp] theorem sB_addT (xs ys : List D) : semB .add (.tup xs) (.tup ys) M = if xs.length + ys.length ≤ cap then .ok (.tup (xs ++ ys)) M else .no := id rfl
@[simp] theorem sB_addS (xs ys : List Nat) : semB .add (.str xs) (.str ys) M = if xs.length + ys.length ≤ cap then .ok (.str (xs ++ ys)) M else .no := id rfl
@[simp] theorem sB_mulL (n : Nat) (k : Int) : semB .mul (.loc n) (.int k) M = (match M[n]? with
    | some (.lst xs) => if -9223372036854775808 ≤ k ∧ k < 9223372036854775808 ∧ xs.length * k.toNat ≤ cap then new (List.replicate k.toNat xs).flatten M else .no
    | _ => .no) := id rfl
@[simp] theorem sC_eq (x y : D) : semC .eq M x y = eqD M x y := id rfl
@[simp] theorem sC_ne (x y : D) : semC .ne M x y = (eqD M x y).map not := id rfl
@[simp] theorem sC_lt (i j : Int) : semC .lt M (.int i) (.int j) = some (decide (i < j)) := id rfl
@[simp] theorem sC_le (i j : Int) : semC .le M (.int i) (.int j) = some (decide (i ≤ j)) := id rfl
@[simp] theorem sC_gt (i j : Int) : semC .gt M (.int i) (.int j) = some (decide (j < i)) := id rfl
@[simp] theorem sC_ge (i j : Int) : semC .ge M (.int i) (.int j) = some (decide (j ≤ i)) := id rfl
@[simp] theorem sC_in (x y : D) : semC .isin M x y = inD M x y := id rfl
@[simp] theorem sC_nin (x y : D) : semC .nin M x y = (inD M x y).map not := id rfl
@[simp] theorem sC_is (x y : D) : semC .is M x y = isD x y := id rfl
@[simp] theorem sC_isn (x y : D) : semC .isn M x y = (isD x y).map not := id rfl
@[simp] theorem eqI (i j : Int) : eqD M (.int i) (.int j) = some (decide (i = j)) := by
  simp [eqD, py, MX, PySem.PyData.eqv]
  rfl
theorem allS_map {α β : Type} {f : α → Option β} {g : α → β} : ∀ {xs : List α}, (∀ x ∈ xs, f x = some (g x)) → allS (xs.map f) = some (xs.map g)
  | [], _ => rfl
  | x :: xs, h => by
    rw [List.map_cons, h x (List.mem_cons_self ..)]
    show (match allS (xs.map f) with
      | some ys => some (g x :: ys)
      | none => none) = _
    rw [allS_map fun y m => h y (List.mem_cons_of_mem _ m)]
    rfl
theorem py_list {n k : Nat} {xs : List D} {g : D → PySem.PyData} (h : M[n]? = some (.lst xs)) (hg : ∀ x ∈ xs, py M k x = some (g x)) : py M (k + 1) (.loc n) = some (.list (xs.map g)) := by
  unfold py
  dsimp only
  rw [h]
  dsimp only
  rw [allS_map hg]
  rfl
theorem py_int {k : Nat} (i : Int) : py M (k + 1) (.int i) = some (.int i) := id rfl
def gI : D → PySem.PyData
  | .int i => .int i
  | _ => .none
theorem py_ints {n k : Nat} {is : List Int} (h : M[n]? = some (.lst (is.map D.int))) : py M (k + 2) (.loc n) = some (.list (is.map PySem.PyData.int)) := by
  rw [py_list (g := gI) h fun x m => by
    obtain ⟨i, _, rfl⟩ := List.mem_map.mp m
    rfl]
  congr 2
  rw [List.map_map]
  rfl
theorem eqv_ints : ∀ is js : List Int, PySem.PyData.eqvAll (is.map PySem.PyData.int) (js.map PySem.PyData.int) = decide (is = js)
  | [], [] => by simp [PySem.PyData.eqvAll]
  | [], _ :: _ => by simp [PySem.PyData.eqvAll]
  | _ :: _, [] => by simp [PySem.PyData.eqvAll]
  | i :: is, j :: js => by
    rw [List.map_cons, List.map_cons, PySem.PyData.eqvAll, eqv_ints is js, PySem.PyData.eqv]
    by_cases h : i = j
    · subst h; simp
    · simp [h]
theorem eqLL {n m : Nat} {is js : List Int} (h : M[n]? = some (.lst (is.map D.int))) (h' : M[m]? = some (.lst (js.map D.int))) : eqD M (.loc n) (.loc m) = some (decide (is = js)) := by
  unfold eqD
  rw [show MX = 10 + 2 from rfl, py_ints h, py_ints h']
  dsimp only
  rw [PySem.PyData.eqv, eqv_ints]
theorem intsD_inv : ∀ {xs : List D} {is : List Int}, intsD xs = some is → xs = is.map D.int
  | [], is, h => by cases h; rfl
  | x :: xs, is, h => by
    cases x with
    | int i =>
      have h2 : (match intsD xs with
        | some is => some (i :: is)
        | none => none) = some is := h
      cases e : intsD xs with
      | none => rw [e] at h2; cases h2
      | some js =>
        rw [e] at h2
        cases h2
        rw [intsD_inv e]
        rfl
    | _ => cases h
def eqD0 (M : Sto) (x y : D) : Option Bool := eqD M x y
@[simp] theorem eqLoc (n m : Nat) : eqD M (.loc n) (.loc m) = (match M[n]?, M[m]? with
    | some (.lst xs), some (.lst ys) => (match intsD xs, intsD ys with
      | some is, some js => some (decide (is = js))
      | _, _ => eqD0 M (.loc n) (.loc m))
    | _, _ => eqD0 M (.loc n) (.loc m)) := by
  split
  · rename_i xs ys h1 h2
    split
    · rename_i is js e1 e2
      rw [intsD_inv e1] at h1
      rw [intsD_inv e2] at h2
      exact eqLL h1 h2
    · rfl
  · rfl
@[simp] theorem eqS (s t : List Nat) (h1 : codes s = true) (h2 : codes t = true) : eqD M (.str s) (.str t) = some (decide (s = t)) := by
  unfold eqD
  have p : ∀ s : List Nat, codes s = true → py M MX (.str s) = some (.str ⟨s.toArray⟩) := fun s h => by
    rw [show MX = 11 + 1 from rfl]
    unfold py
    dsimp only
    rw [h]
  rw [p s h1, p t h2]
  dsimp only
  rw [PySem.PyData.eqv]
  congr 1
  by_cases e : s = t
  · subst e; simp
  · simp [e]
@[simp] theorem intsD_nil : intsD [] = some [] := id rfl
@[simp] theorem intsD_int (i : Int) (xs : List D) : intsD (.int i :: xs) = (match intsD xs with
    | some is => some (i :: is)
    | none => none) := id rfl
@[simp] theorem get_ap0 {A B : Sto} : (A ++ B)[A.length]? = B[0]? := by simp [List.getElem?_append_right]
@[simp] theorem get_ap1 {A B : Sto} (j : Nat) : (A ++ B)[A.length + j]? = B[j]? := by simp [List.getElem?_append_right]
@[simp] theorem isD_bl (a c : Bool) : isD (.bl a) (.bl c) = some (a == c) := id rfl
@[simp] theorem isD_int_non (i : Int) : isD (.int i) .non = some false := id rfl
@[simp] theorem isD_non : isD .non .non = some true := id rfl
@[simp] theorem isD_loc_non (n : Nat) : isD (.loc n) .non = some false := id rfl
@[simp] theorem isD_str_non (n : List Nat) : isD (.str n) .non = some false := id rfl
@[simp] theorem isD_bl_non (n : Bool) : isD (.bl n) .non = some false := id rfl
@[simp] theorem isD_tup_non (n : List D) : isD (.tup n) .non = some false := id rfl
@[simp] theorem tr_bl (k : Bool) : truth M (.bl k) = some k := id rfl
@[simp] theorem tr_non : truth M .non = some false := id rfl
@[simp] theorem tr_int (i : Int) : truth M (.int i) = some (i != 0) := id rfl
@[simp] theorem tr_tup (xs : List D) : truth M (.tup xs) = some (!xs.isEmpty) := id rfl
@[simp] theorem tr_loc (n : Nat) : truth M (.loc n) = (match M[n]? with
    | some (.lst xs) => some (!xs.isEmpty)
    | _ => none) := id rfl
@[simp] theorem it_tup (xs : List D) : itemsOf M (.tup xs) = some xs := id rfl
@[simp] theorem it_frz (xs : List D) : itemsOf M (.frz xs) = some xs := id rfl
@[simp] theorem it_loc (n : Nat) : itemsOf M (.loc n) = (match M[n]? with
    | some (.lst xs) => some xs
    | _ => none) := id rfl
@[simp] theorem lo_frz (xs : List D) : listOf M (.frz xs) = some xs := id rfl
@[simp] theorem lo_loc (n : Nat) : listOf M (.loc n) = (match M[n]? with
    | some (.lst xs) => some xs
    | _ => none) := id rfl
@[simp] theorem ty_non : tyD M .non = some .non := id rfl
@[simp] theorem ty_bl (k : Bool) : tyD M (.bl k) = some .bl := id rfl
@[simp] theorem ty_int (k : Int) : tyD M (.int k) = some .int := id rfl
@[simp] theorem ty_str (k : List Nat) : tyD M (.str k) = some .str := id rfl
@[simp] theorem ty_tup (k : List D) : tyD M (.tup k) = some .tup := id rfl
@[simp] theorem ty_frz (k : List D) : tyD M (.frz k) = some .lst := id rfl
@[simp] theorem ty_loc (n : Nat) : tyD M (.loc n) = (match M[n]? with
    | some (.lst _) => some .lst
    | some (.dct _) => some .dct
    | _ => none) := id rfl
def ixO (o : Option O) (i : Int) : Option D := match o with
  | some (.lst xs) => L2.atI xs i
  | some (.dct kvs) => kvs.lookup (.n i)
  | _ => none
@[simp] theorem ixO_lst (xs : List D) (i : Int) : ixO (some (.lst xs)) i = L2.atI xs i := id rfl
@[simp] theorem ixO_dct (kvs : List (KY × D)) (i : Int) : ixO (some (.dct kvs)) i = kvs.lookup (.n i) := id rfl
@[simp] theorem ix_loc (n : Nat) (i : Int) : semIx M (.loc n) (.int i) = ixO M[n]? i := by
  simp only [semIx, itemsOf, dIx, dctAt, ixO]
  cases M[n]? with
  | none => rfl
  | some o => cases o <;> rfl
@[simp] theorem ix_tup (xs : List D) (i : Int) : semIx M (.tup xs) (.int i) = L2.atI xs i := id rfl
@[simp] theorem ix_frz (xs : List D) (i : Int) : semIx M (.frz xs) (.int i) = L2.atI xs i := id rfl
@[simp] theorem on_loc {f : Nat → List D → Out α} (n : Nat) : onL M (.loc n) f = (match M[n]? with
    | some (.lst xs) => f n xs
    | _ => .no) := by
  unfold onL lstAt
  dsimp only
  cases M[n]? with
  | none => rfl
  | some o => cases o <;> rfl
@[simp] theorem la_loc (n : Nat) : lstAt M (.loc n) = (match M[n]? with
    | some (.lst xs) => some (n, xs)
    | _ => none) := id rfl
def setO (o : Option O) (n : Nat) (i : Int) (v : D) (b : Nat) (M : Sto) : Option Sto := match o with
  | some (.lst xs) => (match L2.ixN xs.length i, may b n v with
    | some k, true => some (M.set n (.lst (xs.set k v)))
    | _, _ => none)
  | _ => semSet (.loc n) (.int i) v b M
@[simp] theorem setO_lst (xs : List D) (n : Nat) (i : Int) (v : D) : setO (some (.lst xs)) n i v b M = (match L2.ixN xs.length i, may b n v with
    | some k, true => some (M.set n (.lst (xs.set k v)))
    | _, _ => none) := id rfl
theorem set_loc (n : Nat) (i : Int) (v : D) : semSet (.loc n) (.int i) v b M = setO M[n]? n i v b M := by
  unfold setO
  cases e : M[n]? with
  | none => rfl
  | some o =>
    cases o with
    | lst xs =>
      simp only [semSet, lstAt, e]
      all_goals (cases L2.ixN xs.length i <;> cases may b n v <;> rfl)
    | _ => rfl
@[simp] theorem may_flat (n : Nat) (v : D) (h : v.flat = true) : may b n v = true := by unfold may; rw [h, Bool.or_true]
@[simp] theorem may_own (n : Nat) (v : D) (h : b ≤ n) : may b n v = true := by unfold may; rw [Nat.ble_eq_true_of_le h, Bool.true_or]
@[simp] theorem fl_non : D.flat .non = true := by simp [D.flat]
@[simp] theorem fl_bl (k : Bool) : D.flat (.bl k) = true := by simp [D.flat]
@[simp] theorem fl_int (k : Int) : D.flat (.int k) = true := by simp [D.flat]
@[simp] theorem fl_str (k : List Nat) : D.flat (.str k) = true := by simp [D.flat]
@[simp] theorem fl_tup (k : List D) : D.flat (.tup k) = flats k := by simp [D.flat]
@[simp] theorem fl_loc (k : Nat) : D.flat (.loc k) = false := by simp [D.flat]
@[simp] theorem fl_nil : flats [] = true := by simp [flats]
@[simp] theorem fl_cons (d : D) (ds : List D) : flats (d :: ds) = (d.flat && flats ds) := by simp [flats]
theorem flats_all : ∀ {ds : List D}, (∀ d ∈ ds, d.flat = true) → flats ds = true
  | [], _ => by simp
  | d :: ds, h => by rw [fl_cons, h d (List.mem_cons_self ..), flats_all fun x m => h x (List.mem_cons_of_mem _ m)]; rfl
@[simp] theorem flats_int (is : List Int) : flats (is.map D.int) = true := flats_all fun d m => by
  obtain ⟨i, _, rfl⟩ := List.mem_map.mp m
  simp
@[simp] theorem flats_bl (is : List Bool) : flats (is.map D.bl) = true := flats_all fun d m => by
  obtain ⟨i, _, rfl⟩ := List.mem_map.mp m
  simp

@[simp] theorem sl_loc (n : Nat) (lo hi : Option Int) : semSl (.loc n) lo hi M = (match M[n]? with
    | some (.lst xs) => new (cutD xs lo hi) M
    | _ => .no) := by
  show (match listOf M (.loc n) with
    | some xs => new (cutD xs lo hi) M
    | none => .no) = _
  rw [lo_loc]
  cases M[n]? with
  | none => rfl
  | some o => cases o <;> rfl
@[simp] theorem rev_loc (n : Nat) : semRev (.loc n) M = (match M[n]? with
    | some (.lst xs) => new xs.reverse M
    | _ => .no) := by
  show (match listOf M (.loc n) with
    | some xs => new xs.reverse M
    | none => .no) = _
  rw [lo_loc]
  cases M[n]? with
  | none => rfl
  | some o => cases o <;> rfl
@[simp] theorem set_ap0 {A B : Sto} {x y : O} : (A ++ x :: B).set A.length y = A ++ y :: B := by
  rw [List.set_append_right _ _ (Nat.le_refl _), Nat.sub_self]
  rfl
/-! ### built-ins -/
@[simp] theorem bi1 (k : BI) (x : D) : semBI k [x] M = semB1 k x M := id rfl
@[simp] theorem bi2 (k : BI) (x y : D) : semBI k [x, y] M = semB2 k x y M := id rfl
@[simp] theorem b2_max (i j : Int) : semB2 .max2 (.int i) (.int j) M = .ok (.int (if j > i then j else i)) M := id rfl
@[simp] theorem b2_min (i j : Int) : semB2 .min2 (.int i) (.int j) M = .ok (.int (if j < i then j else i)) M := id rfl
@[simp] theorem b1_len_loc (n : Nat) : semB1 .len (.loc n) M = (match M[n]? with
    | some (.lst xs) => .ok (.int (xs.length : Nat)) M
    | _ => .no) := by
  dsimp only [semB1, lenD]
  rw [it_loc]
  cases M[n]? with
  | none => rfl
  | some o => cases o <;> rfl
@[simp] theorem b1_len_tup (xs : List D) : semB1 .len (.tup xs) M = .ok (.int (xs.length : Nat)) M := id rfl
@[simp] theorem b1_len_frz (xs : List D) : semB1 .len (.frz xs) M = .ok (.int (xs.length : Nat)) M := id rfl
theorem b1_len_str (s : List Nat) (h : s.length ≤ cap) : semB1 .len (.str s) M = .ok (.int (s.length : Nat)) M := by
  dsimp only [semB1, lenD]
  rw [if_pos h]
theorem next_str (s : List Nat) (i : Nat) : (Src.str s).next M i = some (s.map fun c => D.str [c])[i]? := by
  unfold Src.next
  rw [List.getElem?_map]
theorem in_sign (c : Nat) (t : List Nat) : inD M (.str [c]) (.str t) = some (t.contains c) := rfl
@[simp] theorem b1_abs (i : Int) : semB1 .abs (.int i) M = .ok (.int (if i < 0 then -i else i)) M := id rfl
@[simp] theorem b1_int (i : Int) : semB1 .int (.int i) M = .ok (.int i) M := id rfl
@[simp] theorem b1_intb (k : Bool) : semB1 .int (.bl k) M = .ok (.int (if k then 1 else 0)) M := id rfl
@[simp] theorem b1_repr (x : D) : semB1 .repr x M = (match reprD M x with
    | some s => .ok (.str s) M
    | none => .no) := id rfl
@[simp] theorem b1_lst (x : D) : semB1 .lst x M = (match itemsOf M x with
    | some ys => new ys M
    | none => .no) := id rfl
@[simp] theorem b1_tup (x : D) : semB1 .tup x M = (match itemsOf M x with
    | some ys => .ok (.tup ys) M
    | none => .no) := id rfl
def srtO (o : Option (List D)) (M : Sto) : Out D := match o with
  | some ys => match intsD ys with
    | some is => new ((isort is).map D.int) M
    | none => match tupsD ys with
      | some ks => match sameL ks && nonneg ks && Nat.blt ks.length 64 with
        | true => new ((isortT ks).map fun k => D.tup (k.map D.int)) M
        | false => .no
      | none => .no
  | none => .no
@[simp] theorem b1_srt (x : D) : semB1 .srt x M = srtO (listOf M x) M := id rfl
@[simp] theorem b1_all (x : D) : semB1 .all x M = onBools (listOf M x) fun is => .ok (.bl (is.all id)) M := id rfl
@[simp] theorem b1_any (x : D) : semB1 .any x M = onBools (listOf M x) fun is => .ok (.bl (is.any id)) M := id rfl
@[simp] theorem intsD_map : ∀ is : List Int, intsD (is.map D.int) = some is
  | [] => rfl
  | i :: is => by
    show (match intsD (is.map D.int) with
      | some is => some (i :: is)
      | none => none) = _
    rw [intsD_map is]
@[simp] theorem boolsD_map : ∀ is : List Bool, boolsD (is.map D.bl) = some is
  | [] => rfl
  | i :: is => by
    show (match boolsD (is.map D.bl) with
      | some is => some (i :: is)
      | none => none) = _
    rw [boolsD_map is]
@[simp] theorem onInts_map (is : List Int) (f : List Int → Out D) : onInts (some (is.map D.int)) f = f is := by simp only [onInts, intsD_map]
@[simp] theorem onBools_map (is : List Bool) (f : List Bool → Out D) : onBools (some (is.map D.bl)) f = f is := by simp only [onBools, boolsD_map]
@[simp] theorem new_eq (xs : List D) : new xs M = .ok (.loc M.length) (M ++ [.lst xs]) := id rfl

/-! ### methods -/
@[simp] theorem m0 (m : MT) (o : D) : semM m o [] b M = semM0 m o M := id rfl
@[simp] theorem m1 (m : MT) (o x : D) : semM m o [x] b M = semM1 m o x b M := id rfl
@[simp] theorem m1_count (o : D) (k : Int) : semM1 .count o (.int k) b M = onInts (listOf M o) fun is => .ok (.int (is.count k : Nat)) M := id rfl
@[simp] theorem m1_append (o y : D) : semM1 .append o y b M = onL M o fun n xs => if xs.length < cap then match may b n y with
      | true => .ok .non (M.set n (.lst (xs ++ [y])))
      | false => .no
      else .no := id rfl
@[simp] theorem m1_popAt (o : D) (i : Int) : semM1 .popAt o (.int i) b M = onL M o fun n xs => popAt xs i fun k y => .ok y (M.set n (.lst (xs.eraseIdx k))) := id rfl
theorem firstAt_ge (p : D → Bool) : ∀ (xs : List D) (n j : Nat), firstAt p xs n = some j → n ≤ j
  | [], n, j, h => by cases h
  | x :: xs, n, j, h => by
    unfold firstAt at h
    split at h
    · cases h; exact Nat.le_refl _
    · have := firstAt_ge p xs (n + 1) j h; omega
/-- where k stands first -/
def fi (k : Int) : List Int → Nat
  | [] => 0
  | i :: is => if i = k then 0 else fi k is + 1
theorem firstAt_fi (k : Int) : ∀ (is : List Int) (n : Nat), k ∈ is → firstAt (fun z => eqA z (.int k)) (is.map D.int) n = some (n + fi k is)
  | [], n, h => by cases h
  | i :: is, n, h => by
    rw [List.map_cons]
    unfold firstAt fi
    by_cases e : i = k
    · subst e
      simp [eqA]
    · have h2 : k ∈ is := by
        rcases List.mem_cons.mp h with z | z
        · exact absurd z.symm e
        · exact z
      have z : eqA (.int i) (.int k) = false := by simp [eqA, e]
      rw [z]
      dsimp only
      rw [firstAt_fi k is (n + 1) h2, if_neg e]
      congr 1
      omega
theorem atoms_int (is : List Int) : (is.map D.int).all atom = true := by
  rw [List.all_eq_true]
  intro d m
  obtain ⟨i, _, rfl⟩ := List.mem_map.mp m
  rfl
theorem m1_index (o : D) (k : Int) {is : List Int} (h : listOf M o = some (is.map D.int)) (hk : k ∈ is) : semM1 .index o (.int k) b M = .ok (.int (fi k is : Nat)) M := by
  dsimp only [semM1]
  rw [h]
  dsimp only
  rw [atoms_int, show atom (.int k) = true from rfl]
  show (match firstAt (fun z => eqA z (.int k)) (is.map D.int) 0 with
    | some j => Out.ok (D.int (j : Nat)) M
    | none => .no) = _
  rw [firstAt_fi k is 0 hk]
  simp
@[simp] theorem rcv_a (x : D) : rcv .append M x = (listOf M x).isSome := id rfl
@[simp] theorem rcv_e (x : D) : rcv .extend M x = (listOf M x).isSome := id rfl
@[simp] theorem rcv_p (x : D) : rcv .pop M x = (listOf M x).isSome := id rfl
@[simp] theorem rcv_pa (x : D) : rcv .popAt M x = (listOf M x).isSome := id rfl
@[simp] theorem rcv_i (x : D) : rcv .insert M x = (listOf M x).isSome := id rfl
@[simp] theorem rcv_c (x : D) : rcv .count M x = (listOf M x).isSome := id rfl
@[simp] theorem rcv_ix (x : D) : rcv .index M x = (listOf M x).isSome := id rfl

/-! ### comprehensions -/
theorem lc_ev {c : Cf} {g : G} {it : IT} {ow : List Nat} {t : T} {e : E} {ρ : Enn} {src : Src} {M1 M2 : Sto} {xs : List D} (h1 : evI c b it ρ M = .ok src M1)
    (h2 : turns (fun M i => src.next M i) (itemT (evG c M1.length g) (evT c M1.length t) (fun ρ2 M3 => (evE c M1.length e ρ2 M3).bind fun d M4 => .ok [d] M4) (wipe ρ ow)) (src.len M1 + 1) 0 M1 = .ok xs M2) : evE c b (.lc g it ow t e) ρ M = sealL M1.length xs M2 := by
  rw [evE, h1, bind_ok, h2, hush_ok, bind_ok]
theorem seal_flat {n0 : Nat} {xs : List D} (h : xs.length ≤ cap) (f : flats xs = true) : sealL n0 xs M = .ok (.loc n0) (M.take n0 ++ [.lst xs]) := by
  unfold sealL
  rw [if_pos h, f]
theorem seal_new {n0 : Nat} {xs : List D} (h : xs.length ≤ cap) (f : flats xs = false) : sealL n0 xs M = .ok (.loc M.length) (M ++ [.lst xs]) := by
  unfold sealL
  rw [if_pos h, f]
  rfl
theorem turns_pure {next : Sto → Nat → Option (Option D)} {turn : D → Sto → Out (List D)} {g : D → List D} {xs : List D} (hn : ∀ i, next M i = some xs[i]?) (ht : ∀ d ∈ xs, turn d M = .ok (g d) M) :
    ∀ j i, i + j = xs.length → turns next turn (j + 1) i M = .ok ((xs.drop i).flatMap g) M
  | 0, i, h => by
    unfold turns
    rw [hn, List.getElem?_eq_none (by omega), List.drop_eq_nil_of_le (by omega)]
    rfl
  | j + 1, i, h => by
    have hi : i < xs.length := by omega
    unfold turns
    rw [hn, List.getElem?_eq_getElem hi]
    dsimp only
    rw [ht _ (List.getElem_mem hi), hush_ok, bind_ok, turns_pure hn ht j (i + 1) (by omega), hush_ok, bind_ok, List.drop_eq_getElem_cons hi, List.flatMap_cons]
theorem turns_map {next : Sto → Nat → Option (Option D)} {turn : D → Sto → Out (List D)} {g : D → D} {xs : List D} (hn : ∀ i, next M i = some xs[i]?) (ht : ∀ d ∈ xs, turn d M = .ok [g d] M) : turns next turn (xs.length + 1) 0 M = .ok (xs.map g) M := by
  rw [turns_pure (g := fun d => [g d]) hn ht xs.length 0 (by omega), List.drop_zero]
  congr 1
  induction xs with
  | nil => rfl
  | cons x xs ih =>
    rw [List.flatMap_cons, List.map_cons]
    have z : xs.flatMap (fun d => [g d]) = xs.map g := by
      clear ih hn ht
      induction xs with
      | nil => rfl
      | cons y ys ih => rw [List.flatMap_cons, ih]; rfl
    rw [z]; rfl
theorem flatMap_if (p : D → Bool) : ∀ xs : List D, xs.flatMap (fun d => if p d then [d] else []) = xs.filter p
  | [] => rfl
  | x :: xs => by
    rw [List.flatMap_cons, flatMap_if p xs]
    cases h : p x <;> simp [List.filter_cons, h]
theorem turns_filter {next : Sto → Nat → Option (Option D)} {turn : D → Sto → Out (List D)} {p : D → Bool} {xs : List D} (hn : ∀ i, next M i = some xs[i]?) (ht : ∀ d ∈ xs, turn d M = .ok (if p d then [d] else []) M) : turns next turn (xs.length + 1) 0 M = .ok (xs.filter p) M := by
  rw [turns_pure (g := fun d => if p d then [d] else []) hn ht xs.length 0 (by omega), List.drop_zero, flatMap_if]
theorem next_lst {n : Nat} {xs : List D} (h : M[n]? = some (.lst xs)) (i : Nat) : (Src.lst n).next M i = some xs[i]? := by
  unfold Src.next
  rw [h]
theorem len_lst {n : Nat} {xs : List D} (h : M[n]? = some (.lst xs)) : (Src.lst n).len M = xs.length := by
  unfold Src.len
  rw [h]

/-- the numbers from lo on -/
def rngD (lo : Int) (n : Nat) : List D := (List.range n).map fun i => D.int (lo + (i : Nat))
theorem rng_len (lo : Int) (n : Nat) : (rngD lo n).length = n := by simp [rngD]
theorem next_rng (lo : Int) (n i : Nat) : (Src.rng lo n).next M i = some (rngD lo n)[i]? := by
  unfold Src.next rngD
  rw [List.getElem?_map]
  by_cases h : i < n
  · rw [if_pos h, List.getElem?_range h]; rfl
  · rw [if_neg h, List.getElem?_eq_none (by simp; omega)]; rfl
theorem len_rng (lo : Int) (n : Nat) : (Src.rng lo n).len M = (rngD lo n).length := by rw [rng_len]; rfl
theorem rng_mem {lo : Int} {n : Nat} {d : D} (h : d ∈ rngD lo n) : ∃ i : Nat, i < n ∧ d = .int (lo + i) := by
  obtain ⟨i, m, rfl⟩ := List.mem_map.mp h
  exact ⟨i, List.mem_range.mp m, rfl⟩
theorem for_ev {c : Cf} {g : G} {it : IT} {s : SL} {ρ : Enn} {src : Src} {M1 : Sto} (h1 : evI c b it ρ M = .ok src M1) : evS c b (.for_ g it s) ρ M = loop (fun M i => src.next M i) (fun d ρ M => bodyS (evG c b g d ρ M) (evSs c b s)) (src.len M1 + 1) 0 ρ M1 := by
  rw [evS, h1, lift_ok]
  rfl
/-- a loop that looks at each thing, and ends by r at the first bad one -/
theorem loop_chk {next : Sto → Nat → Option (Option D)} {body : D → Enn → Sto → SO} {I : Enn → Prop} {bad : D → Bool} {r : D} {xs : List D} (hn : ∀ i, next M i = some xs[i]?)
    (hb : ∀ d ∈ xs, ∀ ρ, I ρ → (bad d = true ∧ body d ρ M = some (.rt r, M)) ∨ (bad d = false ∧ ∃ ρ', I ρ' ∧ body d ρ M = some (.nx ρ', M))) :
    ∀ j i, i + j = xs.length → ∀ ρ, I ρ → ((xs.drop i).any bad = true ∧ loop next body (j + 1) i ρ M = some (.rt r, M)) ∨ ((xs.drop i).any bad = false ∧ ∃ ρ', I ρ' ∧ loop next body (j + 1) i ρ M = some (.nx ρ', M))
  | 0, i, h, ρ, hI => by
    refine .inr ⟨by rw [List.drop_eq_nil_of_le (by omega)]; rfl, ρ, hI, ?_⟩
    unfold loop
    rw [hn, List.getElem?_eq_none (by omega)]
  | j + 1, i, h, ρ, hI => by
    have hi : i < xs.length := by omega
    rw [List.drop_eq_getElem_cons hi, List.any_cons]
    unfold loop
    rw [hn, List.getElem?_eq_getElem hi]
    dsimp only
    rcases hb _ (List.getElem_mem hi) ρ hI with ⟨e1, e2⟩ | ⟨e1, ρ', I', e2⟩
    · rw [e1, e2]
      exact .inl ⟨rfl, rfl⟩
    · rw [e1, e2, Bool.false_or]
      exact loop_chk hn hb j (i + 1) (by omega) ρ' I'

/-! ### atoms -/
def oka : D → Bool
  | .non => true
  | .bl _ => true
  | .int _ => true
  | .str s => codes s
  | _ => false
def gA : D → PySem.PyData
  | .bl b => .bool b
  | .int i => .int i
  | .str s => .str ⟨s.toArray⟩
  | _ => .none
theorem oka_atom {d : D} (h : oka d = true) : atom d = true := by cases d <;> first | rfl | (cases h; done)
theorem oka_flat {d : D} (h : oka d = true) : d.flat = true := by cases d <;> first | (cases h; done) | simp
theorem py_oka {k : Nat} {d : D} (h : oka d = true) : py M (k + 1) d = some (gA d) := by
  cases d with
  | str s =>
    unfold py
    dsimp only
    rw [show codes s = true from h]
    rfl
  | non => rfl
  | bl _ => rfl
  | int _ => rfl
  | _ => cases h
theorem py_okas {n k : Nat} {xs : List D} (h : M[n]? = some (.lst xs)) (hx : ∀ x ∈ xs, oka x = true) : py M (k + 2) (.loc n) = some (.list (xs.map gA)) := py_list h fun x m => py_oka (hx x m)
theorem py_okaT {k : Nat} {xs : List D} (hx : ∀ x ∈ xs, oka x = true) : py M (k + 2) (.tup xs) = some (.tuple (xs.map gA)) := by
  unfold py
  dsimp only
  rw [allS_map (g := gA) fun x m => py_oka (hx x m)]
  rfl
/-- a list of atoms beside the empty one -/
theorem eq_nil {n m : Nat} {xs : List D} (h : M[n]? = some (.lst xs)) (hx : ∀ x ∈ xs, oka x = true) (h' : M[m]? = some (.lst [])) : eqD M (.loc n) (.loc m) = some xs.isEmpty := by
  unfold eqD
  rw [show MX = 10 + 2 from rfl, py_okas h hx, py_okas h' fun x m => by cases m]
  cases xs with
  | nil => simp [PySem.PyData.eqv, PySem.PyData.eqvAll]
  | cons x xs => simp [PySem.PyData.eqv, PySem.PyData.eqvAll]

/-! ### sorted -/
theorem ins1_mem {i : Int} : ∀ {js : List Int} {x : Int}, x ∈ ins1 i js → x = i ∨ x ∈ js
  | [], x, h => .inl (List.mem_singleton.mp h)
  | j :: js, x, h => by
    unfold ins1 at h
    split at h
    · rcases List.mem_cons.mp h with z | z
      · exact .inl z
      · exact .inr z
    · rcases List.mem_cons.mp h with z | z
      · exact .inr (z ▸ List.mem_cons_self ..)
      · exact (ins1_mem z).imp id fun z => List.mem_cons_of_mem _ z
theorem ins1_sorted {i : Int} : ∀ {js : List Int}, js.Pairwise (· ≤ ·) → (ins1 i js).Pairwise (· ≤ ·)
  | [], _ => by simp [ins1]
  | j :: js, h => by
    unfold ins1
    have ⟨h1, h2⟩ := List.pairwise_cons.mp h
    split
    · rename_i e
      refine List.pairwise_cons.mpr ⟨fun x m => ?_, h⟩
      rcases List.mem_cons.mp m with z | z
      · omega
      · have := h1 x z; omega
    · rename_i e
      refine List.pairwise_cons.mpr ⟨fun x m => ?_, ins1_sorted h2⟩
      rcases ins1_mem m with z | z
      · omega
      · exact h1 x z
theorem isort_sorted : ∀ is : List Int, (isort is).Pairwise (· ≤ ·)
  | [] => List.Pairwise.nil
  | i :: is => ins1_sorted (isort_sorted is)

/-! ### calls -/
theorem roots_flat : ∀ {xs : List D} {ns : List Nat}, flats xs = true → roots M xs ns = some ns
  | [], ns, _ => by unfold roots; rfl
  | d :: xs, ns, h => by
    rw [fl_cons, Bool.and_eq_true] at h
    unfold roots
    cases d with
    | loc n => simp at h
    | _ =>
      dsimp only
      rw [h.1]
      exact roots_flat h.2
theorem in_flat {ns : List Nat} : ∀ {xs : List D}, flats xs = true → xs.map (inD1 ns) = xs
  | [], _ => rfl
  | d :: xs, h => by
    rw [fl_cons, Bool.and_eq_true] at h
    rw [List.map_cons, in_flat h.2]
    cases d with
    | loc n => simp at h
    | _ => rfl
mutual
theorem out_flat {ns : List Nat} {L : Nat} : ∀ {d : D}, d.flat = true → outD ns L d = d
  | .non, _ => by unfold outD; rfl
  | .bl _, _ => by unfold outD; rfl
  | .int _, _ => by unfold outD; rfl
  | .str _, _ => by unfold outD; rfl
  | .fn _, _ => by unfold outD; rfl
  | .loc n, h => by unfold D.flat at h; cases h
  | .tup xs, h => by
    unfold D.flat at h
    unfold outD
    rw [outs_flat h]
  | .frz xs, h => by
    unfold D.flat at h
    unfold outD
    rw [outs_flat h]
theorem outs_flat {ns : List Nat} {L : Nat} : ∀ {ds : List D}, flats ds = true → outDs ns L ds = ds
  | [], _ => by unfold outDs; rfl
  | d :: ds, h => by
    unfold flats at h
    rw [Bool.and_eq_true] at h
    unfold outDs
    rw [out_flat h.1, outs_flat h.2]
end
section
variable {fns : List Fn} {gv : Nat → Option D} {wf k f n : Nat} {fn : Fn} {xs ys ys' zs : List D} {d : D} {x : Nat}
/-- the def's run by itself -/
def cal (fns : List Fn) (gv : Nat → Option D) (wf k : Nat) (fn : Fn) (xs : List D) (M : Sto) : Out D := callFn (run fns gv wf k) gv wf fn xs M.length M
theorem callFn_b {F : Nat → List D → Nat → Sto → Out D} {b' : Nat} (hk : fn.keep = false) : callFn F gv wf fn xs b M = callFn F gv wf fn xs b' M := by
  unfold callFn
  rw [hk]
theorem run_sub (hf : fns[f]? = some fn) : run fns gv wf (k + 1) f xs b M = subRun (callFn (run fns gv wf k) gv wf fn) xs b M := by
  show (match fns[f]? with
    | some fn => subRun (callFn (run fns gv wf k) gv wf fn) xs b M
    | none => .no) = _
  rw [hf]
/-- a call with nothing but flat things -/
theorem run0' (hf : fns[f]? = some fn) (hx : flats xs = true) : run fns gv wf (k + 1) f xs b M = unsub [] M (cal fns gv wf k fn xs []) := by
  rw [run_sub hf]
  unfold subRun
  rw [roots_flat hx]
  dsimp only [picks]
  rw [in_flat hx]
  rfl
theorem run0 (hf : fns[f]? = some fn) (hx : flats xs = true) (h : cal fns gv wf k fn xs [] = .ok d []) (hd : d.flat = true) : run fns gv wf (k + 1) f xs b M = .ok d M := by
  rw [run0' hf hx, h]
  simp [unsub, outSto, back, out_flat hd]
theorem run0L (hf : fns[f]? = some fn) (hx : flats xs = true) (h : cal fns gv wf k fn xs [] = .ok (.loc 0) [.lst zs]) (hz : flats zs = true) : run fns gv wf (k + 1) f xs b M = .ok (.loc M.length) (M ++ [.lst zs]) := by
  rw [run0' hf hx, h]
  simp [unsub, outSto, back, outD, outO, outs_flat hz]
theorem run0X (hf : fns[f]? = some fn) (hx : flats xs = true) (h : cal fns gv wf k fn xs [] = .ex ⟨x, []⟩ []) : run fns gv wf (k + 1) f xs b M = .ex ⟨x, []⟩ M := by
  rw [run0' hf hx, h]
  simp [unsub, outSto, back, outDs]
/-- a call with one list among flat things -/
theorem run1' (hf : fns[f]? = some fn) (hM : M[n]? = some (.lst ys)) (hr : roots M xs [] = some [n]) : run fns gv wf (k + 1) f xs b M = unsub [n] M (callFn (run fns gv wf k) gv wf fn (xs.map (inD1 [n])) 1 [.lst ys]) := by
  rw [run_sub hf]
  unfold subRun
  rw [hr]
  dsimp only [picks]
  rw [hM]
  rfl
theorem set_id : ∀ {M : Sto} {n : Nat} {o : O}, M[n]? = some o → M.set n o = M
  | [], _, _, h => by simp at h
  | m :: M, 0, o, h => by
    simp at h
    rw [h]; rfl
  | m :: M, n + 1, o, h => by
    rw [List.set_cons_succ, set_id (by simpa using h)]
theorem run1 (hf : fns[f]? = some fn) (hM : M[n]? = some (.lst ys)) (hr : roots M xs [] = some [n]) (h : callFn (run fns gv wf k) gv wf fn (xs.map (inD1 [n])) 1 [.lst ys] = .ok d [.lst ys']) (hy : flats ys' = true) (hd : d.flat = true) :
    run fns gv wf (k + 1) f xs b M = .ok d (M.set n (.lst ys')) := by
  rw [run1' hf hM hr, h]
  simp [unsub, outSto, back, out_flat hd, flatO, hy]
theorem run1s (hf : fns[f]? = some fn) (hM : M[n]? = some (.lst ys)) (hr : roots M xs [] = some [n]) (h : callFn (run fns gv wf k) gv wf fn (xs.map (inD1 [n])) 1 [.lst ys] = .ok d [.lst ys]) (hy : flats ys = true) (hd : d.flat = true) :
    run fns gv wf (k + 1) f xs b M = .ok d M := by
  rw [run1 hf hM hr h hy hd, set_id hM]
theorem run1L (hf : fns[f]? = some fn) (hM : M[n]? = some (.lst ys)) (hr : roots M xs [] = some [n]) (h : callFn (run fns gv wf k) gv wf fn (xs.map (inD1 [n])) 1 [.lst ys] = .ok (.loc 1) [.lst ys', .lst zs]) (hy : flats ys' = true) (hz : flats zs = true) :
    run fns gv wf (k + 1) f xs b M = .ok (.loc M.length) (M.set n (.lst ys') ++ [.lst zs]) := by
  rw [run1' hf hM hr, h]
  simp [unsub, outSto, back, outD, outO, outs_flat hz, flatO, hy]
theorem run1X (hf : fns[f]? = some fn) (hM : M[n]? = some (.lst ys)) (hr : roots M xs [] = some [n]) (h : callFn (run fns gv wf k) gv wf fn (xs.map (inD1 [n])) 1 [.lst ys] = .ex ⟨x, []⟩ [.lst ys']) (hy : flats ys' = true) :
    run fns gv wf (k + 1) f xs b M = .ex ⟨x, []⟩ (M.set n (.lst ys')) := by
  rw [run1' hf hM hr, h]
  simp [unsub, outSto, back, outDs, flatO, hy]
theorem callFn_of {F : Nat → List D → Nat → Sto → Out D} {o : Out D} (hk : fn.keep = false) (hn : xs.length = fn.np) (h : endD (evSs ⟨F, gv, wf⟩ M.length fn.body (startE fn xs) M) = o) : callFn F gv wf fn xs b M = cutE M.length o := by
  unfold callFn
  rw [if_pos hn, hk]
  dsimp only
  rw [h]
end
/-- only the pool at p is another one, and new things stand behind -/
structure Nx (p : Nat) (M M' : Sto) : Prop where
  le : M.length ≤ M'.length
  at_ : ∀ n, n < M.length → n ≠ p → M'[n]? = M[n]?
theorem Nx.refl (p : Nat) (M : Sto) : Nx p M M := ⟨Nat.le_refl _, fun _ _ _ => rfl⟩
theorem Nx.trans {p : Nat} {M1 M2 M3 : Sto} (a : Nx p M1 M2) (b : Nx p M2 M3) : Nx p M1 M3 :=
  ⟨Nat.le_trans a.le b.le, fun n h ne => (b.at_ n (Nat.lt_of_lt_of_le h a.le) ne).trans (a.at_ n h ne)⟩
theorem Nx.app (p : Nat) (M N : Sto) : Nx p M (M ++ N) := ⟨by simp, fun n h _ => List.getElem?_append_left h⟩
theorem Nx.get {p n : Nat} {o : O} (a : Nx p M M') (h : M[n]? = some o) (ne : n ≠ p) : M'[n]? = some o := (a.at_ n (lt_of_get h) ne).trans h
theorem Nx.cut {p : Nat} (a : Nx p M M') : Nx p M (M'.take M.length) := ⟨by rw [List.length_take]; have := a.le; omega, fun n h ne => by rw [List.getElem?_take_of_lt h]; exact a.at_ n h ne⟩
theorem Nx.cutG {p n0 : Nat} (a : Nx p M M') (h : M.length ≤ n0) : Nx p M (M'.take n0) := ⟨by rw [List.length_take]; have := a.le; omega, fun n h2 ne => by rw [List.getElem?_take_of_lt (by omega)]; exact a.at_ n h2 ne⟩
def PoolAt (p : Nat) (M : Sto) : Prop := ∃ a s, M[p]? = some (.lst [.int a, .int s]) ∧ 0 ≤ s ∧ s < 2147483647
theorem PoolAt.lt {p : Nat} (h : PoolAt p M) : p < M.length := by
  obtain ⟨a, s, e, _⟩ := h
  exact lt_of_get e
theorem PoolAt.cut {p n0 : Nat} (h : PoolAt p M) (l : p < n0) : PoolAt p (M.take n0) := by
  obtain ⟨a, s, e, r⟩ := h
  exact ⟨a, s, by rw [List.getElem?_take_of_lt l]; exact e, r⟩
theorem PoolAt.app {p : Nat} {N : Sto} (h : PoolAt p M) : PoolAt p (M ++ N) := by
  obtain ⟨a, s, e, r⟩ := h
  exact ⟨a, s, by rw [List.getElem?_append_left (lt_of_get e)]; exact e, r⟩
theorem cut_flat {n0 : Nat} {d : D} (h : d.flat = true) : cutE n0 (.ok d M) = .ok d (M.take n0) := by simp only [cutE, h]
theorem cut_old {n0 n : Nat} (h : n < n0) : cutE n0 (.ok (.loc n) M) = .ok (.loc n) (M.take n0) := by
  have z : Nat.ble n0 n = false := by
    cases e : Nat.ble n0 n with
    | false => rfl
    | true => have := Nat.le_of_ble_eq_true e; omega
  simp only [cutE, fl_loc, z]
theorem cut_list {n0 n : Nat} {ys : List D} (h : n0 ≤ n) (q : M[n]? = some (.lst ys)) (f : flats ys = true) : cutE n0 (.ok (.loc n) M) = .ok (.loc n0) (M.take n0 ++ [.lst ys]) := by
  simp only [cutE, fl_loc, Nat.ble_eq_true_of_le h, q, f]
theorem cut_deep {n0 n : Nat} {ys : List D} (h : n0 ≤ n) (q : M[n]? = some (.lst ys)) (f : flats ys = false) : cutE n0 (.ok (.loc n) M) = .ok (.loc n) M := by
  simp only [cutE, fl_loc, Nat.ble_eq_true_of_le h, q, f]
@[simp] theorem take_set {A : Sto} {p : Nat} {o : O} : (A.set p o).take A.length = A.set p o := List.take_of_length_le (by simp)
@[simp] theorem take_ap {A B : Sto} : (A ++ B).take A.length = A := List.take_left
theorem wl_end {test : Enn → Sto → Out Bool} {body : Enn → Sto → SO} {c : Nat} {ρ : Enn} (h : test ρ M = .ok false M') : wloop test body (c + 1) ρ M = some (.nx ρ, M') := by
  unfold wloop
  rw [h, lok]
theorem wl_nx {test : Enn → Sto → Out Bool} {body : Enn → Sto → SO} {c : Nat} {ρ ρ' : Enn} {M2 : Sto} (h : test ρ M = .ok true M') (h2 : body ρ M' = some (.nx ρ', M2)) : wloop test body (c + 1) ρ M = wloop test body c ρ' M2 := by
  conv => lhs; unfold wloop
  rw [h, lok]
  dsimp only
  rw [h2]
theorem whl_at {c : Cf} {t : T} {s : SL} {ρ : Enn} : evS c b (.whl t s) ρ M = wloop (evT c b t) (evSs c b s) c.wf ρ M := by rw [evS]
/-- draws: each turn gives one thing, and only the pool is another one -/
theorem turns_nx {next : Sto → Nat → Option (Option D)} {turn : D → Sto → Out (List D)} {p n : Nat} {P : D → Sto → Prop} {M0 : Sto} (st : ∀ x M M', Nx p M M' → P x M → P x M') (hn : ∀ M i, i < n → ∃ d, next M i = some (some d)) (he : ∀ M, next M n = some none)
    (ht : ∀ d M, PoolAt p M → Nx p M0 M → ∃ x M', turn d M = .ok [x] M' ∧ P x M' ∧ PoolAt p M' ∧ Nx p M M') :
    ∀ j i, i + j = n → ∀ M, PoolAt p M → Nx p M0 M → ∃ xs M', turns next turn (j + 1) i M = .ok xs M' ∧ xs.length = j ∧ (∀ x ∈ xs, P x M') ∧ PoolAt p M' ∧ Nx p M M'
  | 0, i, h, M, hp, h0 => by
    obtain rfl : i = n := by omega
    refine ⟨[], M, ?_, rfl, fun x m => (by cases m), hp, .refl _ _⟩
    unfold turns
    rw [he]
  | j + 1, i, h, M, hp, h0 => by
    obtain ⟨d, ed⟩ := hn M i (by omega)
    obtain ⟨x, M1, e1, p1, q1, n1⟩ := ht d M hp h0
    obtain ⟨xs, M2, e2, l2, p2, q2, n2⟩ := turns_nx st hn he ht j (i + 1) (by omega) M1 q1 (h0.trans n1)
    refine ⟨x :: xs, M2, ?_, by rw [List.length_cons, l2], fun y m => ?_, q2, n1.trans n2⟩
    · unfold turns
      rw [ed]
      dsimp only
      rw [e1, hush_ok, bind_ok, e2, hush_ok, bind_ok]
      rfl
    · rcases List.mem_cons.mp m with rfl | m
      · exact st _ _ _ n2 p1
      · exact p2 y m
theorem lc_draw {c : Cf} {g : G} {it : IT} {ow : List Nat} {t : T} {e : E} {ρ : Enn} {lo : Int} {M1 : Sto} {p n : Nat} {P : D → Sto → Prop} (h1 : evI c b it ρ M = .ok (.rng lo n) M1) (hp : PoolAt p M1) (hc : n ≤ cap)
    (st : ∀ x M M', Nx p M M' → P x M → P x M') (fl : ∀ x M M', x.flat = true → P x M → P x M')
    (ht : ∀ d M, PoolAt p M → Nx p M1 M → ∃ x M', itemT (evG c M1.length g) (evT c M1.length t) (fun ρ2 M3 => (evE c M1.length e ρ2 M3).bind fun d M4 => .ok [d] M4) (wipe ρ ow) d M = .ok [x] M' ∧ P x M' ∧ PoolAt p M' ∧ Nx p M M') :
    ∃ q xs M', evE c b (.lc g it ow t e) ρ M = .ok (.loc q) M' ∧ M'[q]? = some (.lst xs) ∧ M1.length ≤ q ∧ PoolAt p M' ∧ Nx p M1 M' ∧ xs.length = n ∧ ∀ x ∈ xs, P x M' := by
  obtain ⟨xs, M2, e2, l2, p2, q2, n2⟩ := turns_nx (n := n) (M0 := M1) (next := fun M i => (Src.rng lo n).next M i) st (fun M i hi => ⟨.int (lo + i), by simp [Src.next, hi]⟩) (fun M => by simp [Src.next]) ht n 0 (by omega) M1 hp (.refl _ _)
  have e3 := lc_ev h1 (M2 := M2) (xs := xs) e2
  cases hf : flats xs with
  | true =>
    rw [seal_flat (by omega) hf] at e3
    have lt : (M2.take M1.length).length = M1.length := by rw [List.length_take]; have := n2.le; omega
    refine ⟨M1.length, xs, _, e3, ?_, Nat.le_refl _, (q2.cut hp.lt).app, n2.cut.trans (.app _ _ _), l2, fun x m => ?_⟩
    · have z : (M2.take M1.length ++ [O.lst xs])[(M2.take M1.length).length]? = some (.lst xs) := by rw [get_ap0]; rfl
      rwa [lt] at z
    · have fx : x.flat = true := by
        clear e3 e2 l2 p2
        induction xs with
        | nil => cases m
        | cons y ys ih =>
          rw [fl_cons, Bool.and_eq_true] at hf
          rcases List.mem_cons.mp m with rfl | m
          · exact hf.1
          · exact ih hf.2 m
      exact fl x _ _ fx (p2 x m)
  | false =>
    rw [seal_new (by omega) hf] at e3
    exact ⟨M2.length, xs, _, e3, by rw [get_ap0]; rfl, n2.le, q2.app, n2.trans (.app _ _ _), l2, fun x m => st _ _ _ (.app _ _ _) (p2 x m)⟩
/-- a loop that goes through, keeping I -/
theorem loop_go {next : Sto → Nat → Option (Option D)} {body : D → Enn → Sto → SO} {I : Enn → Sto → Prop} {xs : List D} (hn : ∀ ρ M i, I ρ M → next M i = some xs[i]?) (hb : ∀ d ∈ xs, ∀ ρ M, I ρ M → ∃ ρ' M', body d ρ M = some (.nx ρ', M') ∧ I ρ' M') :
    ∀ j i, i + j = xs.length → ∀ ρ M, I ρ M → ∃ ρ' M', loop next body (j + 1) i ρ M = some (.nx ρ', M') ∧ I ρ' M'
  | 0, i, h, ρ, M, hI => by
    refine ⟨ρ, M, ?_, hI⟩
    unfold loop
    rw [hn ρ M i hI, List.getElem?_eq_none (by omega)]
  | j + 1, i, h, ρ, M, hI => by
    have hi : i < xs.length := by omega
    obtain ⟨ρ1, M1, e1, I1⟩ := hb _ (List.getElem_mem hi) ρ M hI
    obtain ⟨ρ2, M2, e2, I2⟩ := loop_go hn hb j (i + 1) (by omega) ρ1 M1 I1
    refine ⟨ρ2, M2, ?_, I2⟩
    unfold loop
    rw [hn ρ M i hI, List.getElem?_eq_getElem hi]
    dsimp only
    rw [e1]
    exact e2
end Ev
end

section
/-! EvRp: what repr shows of lists and tuples of small things. -/
namespace Ev
open PySem
variable {M : Sto}
def cpsOk (t : Str) : Bool := codes t.cps.toList
theorem codes_app {a b : List Nat} (h : codes a = true) (h' : codes b = true) : codes (a ++ b) = true := by
  unfold codes at *
  rw [List.all_append, h, h']
  rfl
theorem cps_app (a b : Str) : (a ++ b).cps.toList = a.cps.toList ++ b.cps.toList := by
  rw [Str.cps_append, Array.toList_append]
theorem cpsOk_app {a b : Str} (h : cpsOk a = true) (h' : cpsOk b = true) : cpsOk (a ++ b) = true := by
  unfold cpsOk at *
  rw [cps_app]
  exact codes_app h h'
theorem text_ok : ∀ {ts : List Str} {k : Nat} {acc : Str}, cpsOk acc = true → (∀ t ∈ ts, cpsOk t = true) → cpsOk (textFrom k acc ts) = true
  | [], k, acc, h, _ => h
  | t :: ts, k, acc, h, ht => by
    unfold textFrom
    refine text_ok (cpsOk_app (cpsOk_app h ?_) (ht t (List.mem_cons_self ..))) fun x m => ht x (List.mem_cons_of_mem _ m)
    split <;> rfl
theorem join_ok {sep : Str} (hs : cpsOk sep = true) : ∀ {ts : List Str}, (∀ t ∈ ts, cpsOk t = true) → cpsOk (Str.join sep ts) = true
  | [], _ => rfl
  | [t], h => h t (List.mem_cons_self ..)
  | t :: u :: ts, h => by
    have ih := join_ok hs (ts := u :: ts) fun x m => h x (List.mem_cons_of_mem _ m)
    exact cpsOk_app (cpsOk_app (h t (List.mem_cons_self ..)) hs) ih
theorem piled_le {c : Nat} : ∀ {ts : List Str}, (∀ t ∈ ts, t.length ≤ c) → piled ts ≤ ts.length * (c + 2)
  | [], _ => by simp [piled]
  | t :: ts, h => by
    have ih := piled_le (c := c) (ts := ts) fun x m => h x (List.mem_cons_of_mem _ m)
    have := h t (List.mem_cons_self ..)
    rw [piled_cons, List.length_cons, Nat.add_mul]
    omega
theorem listText_le : ∀ ts : List Str, (listText ts).length ≤ piled ts + 2
  | [] => by decide
  | t :: ts => by
    have e : (listText (t :: ts)).length = (textFrom 1 ("[" ++ (if 0 > 0 then ", " else "" : String) ++ t) ts).length + 1 := by
      unfold listText
      rw [strLen_append]
      rfl
    rw [e, textFrom_length_pos _ _ _ (by omega), strLen_append, strLen_append, piled_cons]
    have a : ("[" : Str).length = 1 := rfl
    have b : (((if 0 > 0 then ", " else "" : String) : Str)).length = 0 := rfl
    omega
theorem tupText_le (ts : List Str) : (tupleText ts).length ≤ piled ts + 3 := by
  unfold tupleText
  rw [strLen_append, strLen_append]
  have a : ("(" : Str).length = 1 := rfl
  have c : (((if ts.length == 1 then ",)" else ")" : String) : Str)).length ≤ 2 := by split <;> decide
  cases ts with
  | nil =>
    have z : (Str.join ", " []).length = 0 := rfl
    rw [z]
    omega
  | cons t ts =>
    have := join_length_add (t :: ts) (by simp)
    omega
theorem shownAll_map : ∀ xs : List PyData, PyData.shownAll xs = xs.map PyData.shown
  | [] => rfl
  | x :: xs => by rw [PyData.shownAll, shownAll_map xs]; rfl
theorem showableAll_of : ∀ {xs : List PyData}, (∀ x ∈ xs, x.showable = true) → PyData.showableAll xs = true
  | [], _ => rfl
  | x :: xs, h => by
    rw [PyData.showableAll, h x (List.mem_cons_self ..), showableAll_of fun y m => h y (List.mem_cons_of_mem _ m)]
    rfl
def itemOk (d : PyData) : Bool := d.showable && Nat.ble d.shown.length 40 && cpsOk d.shown
theorem repr_of {d : PyData} {x : D} (h : py M MX x = some d) (h1 : d.showable = true) (h2 : d.shown.length + 64 ≤ cap) (h3 : cpsOk d.shown = true) : ∃ s, reprD M x = some s ∧ codes s = true := by
  refine ⟨d.shown.cps.toList, ?_, h3⟩
  unfold reprD
  rw [h]
  dsimp only
  rw [h1, Nat.ble_eq_true_of_le h2]
  rfl
theorem items_ok {ds : List PyData} (hd : ∀ d ∈ ds, itemOk d = true) (hl : ds.length ≤ 1000) : PyData.showableAll ds = true ∧ piled (PyData.shownAll ds) + 3 + 64 ≤ cap ∧ ∀ t ∈ PyData.shownAll ds, cpsOk t = true := by
  have z : ∀ d ∈ ds, d.showable = true ∧ d.shown.length ≤ 40 ∧ cpsOk d.shown = true := fun d m => by
    have q := hd d m
    unfold itemOk at q
    rw [Bool.and_eq_true, Bool.and_eq_true] at q
    exact ⟨q.1.1, Nat.le_of_ble_eq_true q.1.2, q.2⟩
  rw [shownAll_map]
  refine ⟨showableAll_of fun d m => (z d m).1, ?_, fun t m => ?_⟩
  · have := piled_le (c := 40) (ts := ds.map PyData.shown) fun t m => by
      obtain ⟨d, md, rfl⟩ := List.mem_map.mp m
      exact (z d md).2.1
    rw [List.length_map] at this
    simp only [cap]
    omega
  · obtain ⟨d, md, rfl⟩ := List.mem_map.mp m
    exact (z d md).2.2
theorem repr_list {n : Nat} {ys : List D} (h : M[n]? = some (.lst ys)) (ho : ∀ y ∈ ys, oka y = true) (hi : ∀ y ∈ ys, itemOk (gA y) = true) (hl : ys.length ≤ 1000) : ∃ s, reprD M (.loc n) = some s ∧ codes s = true := by
  obtain ⟨a, b, c⟩ := items_ok (ds := ys.map gA) (fun d m => by
    obtain ⟨y, my, rfl⟩ := List.mem_map.mp m
    exact hi y my) (by simpa using hl)
  have e := listText_le (PyData.shownAll (ys.map gA))
  refine repr_of (py_okas h ho) (by rw [PyData.showable]; exact a) (by rw [PyData.shown]; omega) (by
    rw [PyData.shown]
    exact cpsOk_app (text_ok rfl c) rfl)
theorem repr_tup {ys : List D} (ho : ∀ y ∈ ys, oka y = true) (hi : ∀ y ∈ ys, itemOk (gA y) = true) (hl : ys.length ≤ 1000) : ∃ s, reprD M (.tup ys) = some s ∧ codes s = true := by
  obtain ⟨a, b, c⟩ := items_ok (ds := ys.map gA) (fun d m => by
    obtain ⟨y, my, rfl⟩ := List.mem_map.mp m
    exact hi y my) (by simpa using hl)
  have e := tupText_le (PyData.shownAll (ys.map gA))
  refine repr_of (py_okaT ho) (by rw [PyData.showable]; exact a) (by rw [PyData.shown]; omega) (by
    rw [PyData.shown]
    exact cpsOk_app (cpsOk_app rfl (join_ok rfl c)) (by split <;> rfl))
theorem repr_oka {y : D} (ho : oka y = true) (hi : itemOk (gA y) = true) : ∃ s, reprD M y = some s ∧ codes s = true := by
  unfold itemOk at hi
  rw [Bool.and_eq_true, Bool.and_eq_true] at hi
  have := Nat.le_of_ble_eq_true hi.1.2
  exact repr_of (py_oka ho) hi.1.1 (by simp only [cap]; omega) hi.2
end Ev
end

section
/-! EvK: the evaluator once more, as closed words that the kernel runs fast; defs that were shown to be worth a function are run by it. -/
namespace Ev
open PySem
noncomputable section
abbrev KE := Cf → Nat → Enn → Sto → Out D
abbrev KL := Cf → Nat → Enn → Sto → Out (List D)
abbrev KO := Cf → Nat → Enn → Sto → Out (Option Int)
abbrev KT := Cf → Nat → Enn → Sto → Out Bool
abbrev KI := Cf → Nat → Enn → Sto → Out Src
abbrev KG := Cf → Nat → D → Enn → Sto → Option (Enn × Sto)
abbrev KGs := Cf → Nat → List D → Enn → Sto → Option (Enn × Sto)
abbrev KS := Cf → Nat → Enn → Sto → SO
variable {α β : Type}
/-! ### small words -/
def nth (l : List α) : Nat → Option α := List.rec (motive := fun _ => Nat → Option α) (fun _ => none) (fun x _ ih n => Nat.rec (some x) (fun m _ => ih m) n) l
theorem nth_eq : ∀ (l : List α) (n : Nat), nth l n = l[n]?
  | [], n => by simp [nth]
  | x :: l, 0 => rfl
  | x :: l, n + 1 => by
    rw [List.getElem?_cons_succ, ← nth_eq l n]
    rfl
def setK (l : List α) : Nat → α → (List α → β) → β := List.rec (motive := fun _ => Nat → α → (List α → β) → β) (fun _ _ k => k []) (fun x xs ih n v k => Nat.rec (k (v :: xs)) (fun m _ => ih m v fun ys => k (x :: ys)) n) l
theorem setK_eq : ∀ (l : List α) (n : Nat) (v : α) (k : List α → β), setK l n v k = k (l.set n v)
  | [], n, v, k => rfl
  | x :: l, 0, v, k => rfl
  | x :: l, n + 1, v, k => (setK_eq l n v fun ys => k (x :: ys)).trans rfl
def appK (l : List α) (ys : List α) : (List α → β) → β := List.rec (motive := fun _ => (List α → β) → β) (fun k => k ys) (fun x _ ih k => ih fun zs => k (x :: zs)) l
theorem appK_eq : ∀ (l ys : List α) (k : List α → β), appK l ys k = k (l ++ ys)
  | [], ys, k => rfl
  | x :: l, ys, k => (appK_eq l ys fun zs => k (x :: zs)).trans rfl
def bd (o : Out α) (f : α → Sto → Out β) : Out β := Out.rec (motive := fun _ => Out β) .no (fun a M => f a M) (fun x M => .ex x M) o
theorem bind_id (o : Out α) : (o.bind fun d M => .ok d M) = o := by cases o <;> rfl
theorem bd_eq (o : Out α) (f : α → Sto → Out β) : bd o f = o.bind f := by cases o <;> rfl
def lf (o : Out α) (ρ : Enn) (f : α → Sto → SO) : SO := Out.rec (motive := fun _ => SO) none (fun a M => f a M) (fun x M => some (.xc x ρ, M)) o
theorem lf_eq (o : Out α) (ρ : Enn) (f : α → Sto → SO) : lf o ρ f = lift o ρ f := by cases o <;> rfl
def cs (o : Option α) (n : β) (f : α → β) : β := Option.rec n f o
theorem cs_of (o : Option α) (f : α → Out β) (M : Sto) : cs o .no f = (ofOpt o M).bind fun a _ => f a := by cases o <;> rfl
theorem cs_ok (o : Option α) (M : Sto) : (cs o .no fun a => .ok a M) = ofOpt o M := by cases o <;> rfl
theorem cs_m (o : Option α) (n : β) (f : α → β) : cs o n f = match o with
    | some a => f a
    | none => n := by cases o <;> rfl
def tf (k : Bool) (t f : β) : β := Bool.rec f t k
theorem tf_ifO (k : Bool) (a b : Out α) : tf k a b = ifO k a b := by cases k <;> rfl
theorem tf_ifS (k : Bool) (a b : SO) : tf k a b = ifS k a b := by cases k <;> rfl
theorem tf_if (k : Bool) (a b : β) : tf k a b = if k = true then a else b := by cases k <;> rfl
theorem tf_not (k : Bool) : tf k false true = !k := by cases k <;> rfl
def lenK (l : List α) : Nat := List.rec (motive := fun _ => Nat) 0 (fun _ _ ih => Nat.succ ih) l
theorem lenK_eq : ∀ l : List α, lenK l = l.length
  | [] => rfl
  | x :: l => congrArg Nat.succ (lenK_eq l)
def hasN (l : List Nat) (c : Nat) : Bool := List.rec (motive := fun _ => Bool) false (fun x _ ih => tf (Nat.beq c x) true ih) l
theorem hasN_eq : ∀ (l : List Nat) (c : Nat), hasN l c = l.contains c
  | [], c => rfl
  | x :: l, c => by
    rw [List.contains_cons, ← hasN_eq l c]
    show tf (Nat.beq c x) true (hasN l c) = _
    rw [show (c == x) = Nat.beq c x by rw [Bool.eq_iff_iff, beq_iff_eq, Nat.beq_eq]]
    cases Nat.beq c x <;> rfl
def eqN : List Nat → List Nat → Bool := fun l => List.rec (motive := fun _ => List Nat → Bool) (fun m => List.rec (motive := fun _ => Bool) true (fun _ _ _ => false) m) (fun x _ ih m => List.rec (motive := fun _ => Bool) false (fun y ys _ => tf (Nat.beq x y) (ih ys) false) m) l
theorem eqN_eq : ∀ (l m : List Nat), eqN l m = decide (l = m)
  | [], [] => rfl
  | [], _ :: _ => rfl
  | _ :: _, [] => rfl
  | x :: l, y :: m => by
    show tf (Nat.beq x y) (eqN l m) false = _
    rw [eqN_eq l m]
    cases e : Nat.beq x y with
    | true =>
      have := Nat.eq_of_beq_eq_true e
      subst this
      simp [tf]
    | false =>
      have := Nat.ne_of_beq_eq_false e
      simp [tf, this]
def allK (p : α → Bool) (l : List α) : Bool := List.rec (motive := fun _ => Bool) true (fun x _ ih => tf (p x) ih false) l
theorem allK_eq (p : α → Bool) : ∀ l : List α, allK p l = l.all p
  | [] => rfl
  | x :: l => by
    rw [List.all_cons, ← allK_eq p l]
    show tf (p x) (allK p l) false = _
    cases p x <;> rfl
def codesK (s : List Nat) : Bool := allK (fun c => Nat.blt c 1114112) s
theorem codesK_eq (s : List Nat) : codesK s = codes s := allK_eq _ s
def capK (n : Nat) (t f : β) : β := tf (Nat.ble n 16777216) t f
theorem capK_eq (n : Nat) (t f : β) : capK n t f = if n ≤ cap then t else f := by
  unfold capK
  rw [tf_if]
  by_cases h : n ≤ cap
  · rw [if_pos h, if_pos (show Nat.ble n 16777216 = true from Nat.ble_eq_true_of_le h)]
  · rw [if_neg h, if_neg (show ¬ Nat.ble n 16777216 = true from fun z => h (Nat.le_of_ble_eq_true z))]
def leI (i j : Int) : Bool := Int.rec (fun a => Int.rec (fun b => Nat.ble a b) (fun _ => false) j) (fun a => Int.rec (fun _ => true) (fun b => Nat.ble b a) j) i
theorem leI_eq (i j : Int) : leI i j = decide (i ≤ j) := by
  cases i with
  | ofNat a =>
    cases j with
    | ofNat b =>
      show Nat.ble a b = _
      rw [Bool.eq_iff_iff, decide_eq_true_eq, Nat.ble_eq]
      exact Int.ofNat_le.symm
    | negSucc b =>
      show false = _
      rw [Bool.eq_iff_iff, decide_eq_true_eq]
      have := Int.negSucc_lt_zero b
      constructor
      · intro z; cases z
      · intro z
        have h0 : (0 : Int) ≤ Int.ofNat a := Int.natCast_nonneg a
        omega
  | negSucc a =>
    cases j with
    | ofNat b =>
      show true = _
      rw [Bool.eq_iff_iff, decide_eq_true_eq]
      have := Int.negSucc_lt_zero a
      have h0 : (0 : Int) ≤ Int.ofNat b := Int.natCast_nonneg b
      constructor
      · intro _; omega
      · intro _; rfl
    | negSucc b =>
      show Nat.ble b a = _
      rw [Bool.eq_iff_iff, decide_eq_true_eq, Nat.ble_eq]
      omega
def eqZ (i j : Int) : Bool := Int.rec (fun a => Int.rec (fun b => Nat.beq a b) (fun _ => false) j) (fun a => Int.rec (fun _ => false) (fun b => Nat.beq a b) j) i
theorem eqZ_eq (i j : Int) : eqZ i j = decide (i = j) := by
  cases i <;> cases j <;> rename_i a b
  · show Nat.beq a b = _
    rw [Bool.eq_iff_iff, decide_eq_true_eq, Nat.beq_eq]
    exact ⟨congrArg _, fun h => Int.ofNat.inj h⟩
  · simp [eqZ]
  · simp [eqZ]
  · show Nat.beq a b = _
    rw [Bool.eq_iff_iff, decide_eq_true_eq, Nat.beq_eq]
    exact ⟨congrArg _, fun h => Int.negSucc.inj h⟩
def eqK (M : Sto) (x y : D) : Option Bool := match x, y with
  | .str a, .str b => tf (codesK a) (tf (codesK b) (some (eqN a b)) none) none
  | .int a, .int b => some (eqZ a b)
  | x, y => eqD M x y
theorem eqK_eq (M : Sto) (x y : D) : eqK M x y = eqD M x y := by
  unfold eqK
  split
  · rename_i a b
    rw [codesK_eq, codesK_eq, eqN_eq]
    cases h1 : codes a with
    | false => simp [tf, eqD, py, MX, h1]
    | true =>
      cases h2 : codes b with
      | false => simp [tf, eqD, py, MX, h1, h2]
      | true => simp [tf, eqS a b h1 h2]
  · rw [eqZ_eq, eqI]
  · rfl
def inK' (M : Sto) (x y : D) : Option Bool := match x, y with
  | .str [c], .str t => some (hasN t c)
  | x, y => inD M x y
theorem inK_eq (M : Sto) (x y : D) : inK' M x y = inD M x y := by
  unfold inK'
  split
  · rw [hasN_eq, in_sign]
  · rfl
def ordK (f : Int → Int → Bool) (x y : D) : Option Bool := match x, y with
  | .int i, .int j => some (f i j)
  | _, _ => none
def cmK (o : C2) (M : Sto) (x y : D) : Option Bool := match o with
  | .eq => eqK M x y
  | .ne => (eqK M x y).map not
  | .isin => inK' M x y
  | .nin => (inK' M x y).map not
  | .lt => ordK (fun i j => tf (leI j i) false true) x y
  | .le => ordK leI x y
  | .gt => ordK (fun i j => tf (leI i j) false true) x y
  | .ge => ordK (fun i j => leI j i) x y
  | o => semC o M x y
theorem lt_not (i j : Int) : (!decide (j ≤ i)) = decide (i < j) := by
  rw [Bool.eq_iff_iff]
  simp
theorem cmK_eq (o : C2) (M : Sto) (x y : D) : cmK o M x y = semC o M x y := by
  cases o with
  | eq => exact eqK_eq M x y
  | ne => show (eqK M x y).map not = _; rw [eqK_eq]; rfl
  | isin => exact inK_eq M x y
  | nin => show (inK' M x y).map not = _; rw [inK_eq]; rfl
  | lt => show ordK _ x y = cmpI _ x y; unfold ordK cmpI; cases x <;> cases y <;> simp only [leI_eq, tf_not, lt_not]
  | le => show ordK _ x y = cmpI _ x y; unfold ordK cmpI; cases x <;> cases y <;> simp [leI_eq]
  | gt => show ordK _ x y = cmpI _ x y; unfold ordK cmpI; cases x <;> cases y <;> simp only [leI_eq, tf_not, lt_not]
  | ge => show ordK _ x y = cmpI _ x y; unfold ordK cmpI; cases x <;> cases y <;> simp [leI_eq]
  | is => rfl
  | isn => rfl
def newK (xs : List D) (M : Sto) : Out D := appK M [.lst xs] fun M' => .ok (.loc (lenK M)) M'
theorem newK_eq (xs : List D) (M : Sto) : newK xs M = new xs M := by unfold newK; rw [appK_eq, lenK_eq]; rfl
def forceK (M : Sto) (f : Sto → β) : β := appK M [] f
theorem forceK_eq (M : Sto) (f : Sto → β) : forceK M f = f M := by unfold forceK; rw [appK_eq, List.append_nil]
/-! ### words -/
def ke_no : KE := fun _ _ _ _ => .no
def ke_var (i : Nat) : KE := fun _ _ ρ M => cs (nth ρ i) .no fun o => cs o .no fun d => .ok d M
def ke_cst (d : D) : KE := fun _ _ _ M => .ok d M
def ke_glb (o : Option D) : KE := Option.rec ke_no ke_cst o
def ke_neg (a : KE) : KE := fun c b ρ M => bd (a c b ρ M) negV
def ke_not (a : KE) : KE := fun c b ρ M => bd (a c b ρ M) fun x M => cs (truth M x) .no fun k => .ok (.bl (tf k false true)) M
def ke_bin (o : B2) (a a' : KE) : KE := fun c b ρ M => bd (a c b ρ M) fun x M => bd (a' c b ρ M) fun y M => semB o x y M
def ke_cmp (o : C2) (a a' : KE) : KE := fun c b ρ M => bd (a c b ρ M) fun x M => bd (a' c b ρ M) fun y M => cs (cmK o M x y) .no fun k => .ok (.bl k) M
def ke_chn (o o' : C2) (a a' a'' : KE) : KE := fun c b ρ M => bd (a c b ρ M) fun x M => bd (a' c b ρ M) fun y M => cs (cmK o M x y) .no fun k => tf k (bd (a'' c b ρ M) fun z M => cs (cmK o' M y z) .no fun k => .ok (.bl k) M) (.ok (.bl false) M)
def ke_and (a a' : KE) : KE := fun c b ρ M => bd (a c b ρ M) fun x M => cs (truth M x) .no fun k => tf k (a' c b ρ M) (.ok x M)
def ke_or (a a' : KE) : KE := fun c b ρ M => bd (a c b ρ M) fun x M => cs (truth M x) .no fun k => tf k (.ok x M) (a' c b ρ M)
def ke_ife (t : KT) (a a' : KE) : KE := fun c b ρ M => bd (t c b ρ M) fun k M => tf k (a c b ρ M) (a' c b ρ M)
def ke_tup (es : KL) : KE := fun c b ρ M => bd (es c b ρ M) fun xs M => capK (lenK xs) (.ok (.tup xs) M) .no
def ke_lst (es : KL) : KE := fun c b ρ M => bd (es c b ρ M) fun xs M => capK (lenK xs) (newK xs M) .no
def ke_dic0 : KE := fun _ _ _ M => appK M [.dct []] fun M' => .ok (.loc (lenK M)) M'
def ke_ix (a a' : KE) : KE := fun c b ρ M => bd (a c b ρ M) fun x M => bd (a' c b ρ M) fun y M => cs (semIx M x y) .no fun d => .ok d M
def ke_sl (a : KE) (lo hi : KO) : KE := fun c b ρ M => bd (a c b ρ M) fun x M => bd (lo c b ρ M) fun l M => bd (hi c b ρ M) fun h M => semSl x l h M
def ke_rev (a : KE) : KE := fun c b ρ M => bd (a c b ρ M) fun x M => semRev x M
def ke_call (f : Nat) (es : KL) : KE := fun c b ρ M => bd (es c b ρ M) fun xs M => c.F f xs b M
def ke_callk (f : Nat) (es : KL) (ks : List Nat) (kes : KL) : KE := fun c b ρ M => bd (es c b ρ M) fun xs M => bd (kes c b ρ M) fun ys M => cs (place (xs.length + ys.length) xs ks ys) .no fun zs => c.F f zs b M
def ke_bi (k : BI) (es : KL) : KE := fun c b ρ M => bd (es c b ρ M) fun xs M => semBI k xs M
def ke_lrng (es : KL) : KE := fun c b ρ M => bd (es c b ρ M) fun xs M => lrngV (rngOf xs) M
def ke_mth (m : MT) (o : KE) (es : KL) : KE := fun c b ρ M => bd (o c b ρ M) fun x M => tf (rcv m M x) (bd (es c b ρ M) fun xs M => bd (semM m x xs b M) fun d M => forceK M fun M => .ok d M) .no
def ke_isi (a : KE) (cl : List CL) : KE := fun c b ρ M => bd (a c b ρ M) fun x M => cs (tyD M x) .no fun t => cs (isAny t cl) .no fun k => .ok (.bl k) M
def ke_new (k f : Nat) (es : KL) : KE := fun c b ρ M => bd (es c b ρ M) fun xs M => appK M [.ins k []] fun M' => bd (c.F f (.loc (lenK M) :: xs) b M') fun d M2 => tf (isNon d) (.ok (.loc (lenK M)) M2) .no
def ke_mc (a : KE) (ms : List (Nat × Nat)) (es : KL) : KE := fun c b ρ M => bd (a c b ρ M) fun x M => cs (pickM M x ms) .no fun f => bd (es c b ρ M) fun xs M => c.F f (x :: xs) b M
def ke_dicT (k v : KE) : KE := fun c b ρ M => bd (hush (k c b ρ M)) fun x M => bd (hush (v c b ρ M)) fun d M => cs (keyT x) .no fun is => appK M [.dctT [(is, d)]] fun M' => .ok (.loc (lenK M)) M'
def ke_fld (a : KE) (k j : Nat) : KE := fun c b ρ M => bd (a c b ρ M) fun x M => cs (fldD M x k j) .no fun d => .ok d M
def ke_dic (ks : List (List Nat)) (es : KL) : KE := fun c b ρ M => bd (hush (es c b ρ M)) fun xs M => tf (Nat.beq (lenK ks) (lenK xs)) (newD ((ks.map KY.s).zip xs) M) .no
def ke_dct (a : KE) : KE := fun c b ρ M => bd (a c b ρ M) fun x M => dctV (itemsOf M x) M
def ke_get (a e : KE) : KE := fun c b ρ M => bd (a c b ρ M) fun x M => cs (dctAt M x) .no fun _ => bd (e c b ρ M) fun y M => cs (getD1 M x y) .no fun d => .ok d M
def ke_gget (kvs : List (List Nat × Int)) (e : KE) : KE := fun c b ρ M => bd (e c b ρ M) fun y M => cs (getG kvs y) .no fun d => .ok d M
def ke_calld (f : Nat) (es : KL) (ds : List D) : KE := fun c b ρ M => bd (es c b ρ M) fun xs M => c.F f (xs ++ ds) b M
def turnsK (next : Sto → Nat → Option (Option D)) (turn : D → Sto → Out (List D)) (c : Nat) : Nat → Sto → Out (List D) :=
  Nat.rec (motive := fun _ => Nat → Sto → Out (List D)) (fun _ _ => .no) (fun _ ih i M => cs (next M i) .no fun o => cs o (.ok [] M) fun d => bd (hush (turn d M)) fun xs M' => bd (hush (ih (Nat.succ i) M')) fun ys M'' => appK xs ys fun zs => .ok zs M'') c
def itemK (fg : D → Enn → Sto → Option (Enn × Sto)) (ft : Enn → Sto → Out Bool) (fe : Enn → Sto → Out (List D)) (ρ : Enn) (d : D) (M : Sto) : Out (List D) := cs (fg d ρ M) .no fun p => bd (ft p.1 p.2) fun k M3 => tf k (fe p.1 M3) (.ok [] M3)
def sealK (n0 : Nat) (xs : List D) (M : Sto) : Out D := capK (lenK xs) (tf (flats xs) (appK (M.take n0) [.lst xs] fun M' => .ok (.loc n0) M') (newK xs M)) .no
def nextK (s : Src) (M : Sto) (i : Nat) : Option (Option D) := match s with
  | .lst n => cs (nth M n) none fun o => match o with
    | .lst xs => some (nth xs i)
    | _ => none
  | .its xs => some (nth xs i)
  | .str s => some (cs (nth s i) none fun c => some (.str [c]))
  | s => s.next M i
theorem nextK_eq (s : Src) (M : Sto) (i : Nat) : nextK s M i = s.next M i := by
  unfold nextK
  cases s with
  | lst n =>
    dsimp only
    rw [nth_eq, cs_m]
    unfold Src.next
    cases M[n]? with
    | none => rfl
    | some o => cases o <;> simp [nth_eq]
  | its xs => simp [nth_eq, Src.next]
  | str s =>
    dsimp only
    rw [nth_eq, cs_m]
    unfold Src.next
    cases s[i]? <;> rfl
  | _ => rfl
def ke_lc (g : KG) (it : KI) (ow : List Nat) (t : KT) (e : KE) : KE := fun c b ρ M => bd (it c b ρ M) fun s M =>
  bd (hush (turnsK (nextK s) (itemK (g c (lenK M)) (t c (lenK M)) (fun ρ2 M3 => bd (e c (lenK M) ρ2 M3) fun d M4 => .ok [d] M4) (wipe ρ ow)) (Nat.succ (s.len M)) 0 M)) fun xs M' => sealK (lenK M) xs M'
def ke_lc2 (g : KG) (it : KI) (t : KT) (g' : KG) (it' : KI) (t' : KT) (ow ow' : List Nat) (e : KE) : KE := fun c b ρ M => bd (it c b ρ M) fun s M =>
  bd (hush (turnsK (nextK s) (itemK (g c (lenK M)) (t c (lenK M)) (fun ρ2 M3 => bd (it' c (lenK M) ρ2 M3) fun s' M4 =>
      turnsK (nextK s') (itemK (g' c (lenK M)) (t' c (lenK M)) (fun ρ6 M7 => bd (e c (lenK M) ρ6 M7) fun d M8 => .ok [d] M8) (wipe ρ2 ow')) (Nat.succ (s'.len M4)) 0 M4) (wipe ρ ow)) (Nat.succ (s.len M)) 0 M)) fun xs M' => sealK (lenK M) xs M'
def ke_dc (g : KG) (it : KI) (ow : List Nat) (t : KT) (k v : KE) : KE := fun c b ρ M => bd (it c b ρ M) fun s M =>
  bd (hush (turnsK (nextK s) (itemK (g c (lenK M)) (t c (lenK M)) (fun ρ2 M3 => bd (k c (lenK M) ρ2 M3) fun kd M4 => bd (v c (lenK M) ρ2 M4) fun d M5 => .ok [.tup [kd, d]] M5) (wipe ρ ow)) (Nat.succ (s.len M)) 0 M)) fun ds M' => sealD (lenK M) ds M'
def ke_dc2 (g : KG) (it : KI) (t : KT) (g' : KG) (it' : KI) (t' : KT) (ow ow' : List Nat) (k v : KE) : KE := fun c b ρ M => bd (it c b ρ M) fun s M =>
  bd (hush (turnsK (nextK s) (itemK (g c (lenK M)) (t c (lenK M)) (fun ρ2 M3 => bd (it' c (lenK M) ρ2 M3) fun s' M4 =>
      turnsK (nextK s') (itemK (g' c (lenK M)) (t' c (lenK M)) (fun ρ6 M7 => bd (k c (lenK M) ρ6 M7) fun kd M8 => bd (v c (lenK M) ρ6 M8) fun d M9 => .ok [.tup [kd, d]] M9) (wipe ρ2 ow')) (Nat.succ (s'.len M4)) 0 M4) (wipe ρ ow)) (Nat.succ (s.len M)) 0 M)) fun ds M' => sealD (lenK M) ds M'
def kl_nil : KL := fun _ _ _ M => .ok [] M
def kl_cons (e : KE) (es : KL) : KL := fun c b ρ M => bd (e c b ρ M) fun x M => bd (es c b ρ M) fun xs M => .ok (x :: xs) M
def ko_none : KO := fun _ _ _ M => .ok none M
def ko_some (e : KE) : KO := fun c b ρ M => bd (e c b ρ M) intO
def kt_yes : KT := fun _ _ _ M => .ok true M
def kt_val (a : KE) : KT := fun c b ρ M => bd (a c b ρ M) fun x M => cs (truth M x) .no fun k => .ok k M
def kt_not (t : KT) : KT := fun c b ρ M => bd (t c b ρ M) fun k M => .ok (tf k false true) M
def kt_and (a a' : KT) : KT := fun c b ρ M => bd (a c b ρ M) fun k M => tf k (a' c b ρ M) (.ok false M)
def kt_or (a a' : KT) : KT := fun c b ρ M => bd (a c b ρ M) fun k M => tf k (.ok true M) (a' c b ρ M)
def kt_cmp (o : C2) (a a' : KE) : KT := fun c b ρ M => bd (a c b ρ M) fun x M => bd (a' c b ρ M) fun y M => cs (cmK o M x y) .no fun k => .ok k M
def kt_chn (o o' : C2) (a a' a'' : KE) : KT := fun c b ρ M => bd (a c b ρ M) fun x M => bd (a' c b ρ M) fun y M => cs (cmK o M x y) .no fun k => tf k (bd (a'' c b ρ M) fun z M => cs (cmK o' M y z) .no fun k => .ok k M) (.ok false M)
def kt_ife (t a a' : KT) : KT := fun c b ρ M => bd (t c b ρ M) fun k M => tf k (a c b ρ M) (a' c b ρ M)
def ki_seq (a : KE) : KI := fun c b ρ M => bd (a c b ρ M) fun x M => cs (srcOf M x) .no fun s => .ok s M
def ki_rng (es : KL) : KI := fun c b ρ M => bd (es c b ρ M) fun xs M => cs (rngOf xs) .no fun s => .ok s M
def ki_enu (a : KE) : KI := fun c b ρ M => bd (a c b ρ M) fun x M => cs (enuOf M x) .no fun s => .ok s M
def ki_zip (a a' : KE) : KI := fun c b ρ M => bd (a c b ρ M) fun x M => bd (a' c b ρ M) fun y M => cs (zipOf M x y) .no fun s => .ok s M
def ki_zips (a a' : KE) : KI := fun c b ρ M => bd (a c b ρ M) fun x M => bd (a' c b ρ M) fun y M => cs (zipsOf M x y) .no fun s => .ok s M
def kg_nam (i : Nat) : KG := fun _ _ d ρ M => setK ρ i (some d) fun ρ' => some (ρ', M)
def tupK (d : D) (n : β) (f : List D → β) : β := match d with
  | .tup ds => f ds
  | _ => n
def kg_tup (gs : KGs) : KG := fun c b d ρ M => cs (itemsOf M d) none fun ds => gs c b ds ρ M
def kg_star (n : Nat) (gs : KGs) : KG := fun c b d ρ M => tupK d none fun ds => tf (Nat.ble n (Nat.succ (lenK ds))) (appK M [.lst (ds.drop (n - 1))] fun M' => gs c b (ds.take (n - 1) ++ [.loc (lenK M)]) ρ M') none
def kg_sub (o i : KE) : KG := fun c b d ρ M => setG (bd (o c b ρ M) fun x M => bd (i c b ρ M) fun y M => cs (semSet x y d b M) .no fun M' => forceK M' fun M' => .ok M' M) ρ
def kg_fld (o : KE) (k j : Nat) : KG := fun c b d ρ M => setG (bd (o c b ρ M) fun x M => cs (setF M x k j d b) .no fun M' => forceK M' fun M' => .ok M' M) ρ
def kgs_nil : KGs := fun _ _ ds ρ M => List.rec (motive := fun _ => Option (Enn × Sto)) (some (ρ, M)) (fun _ _ _ => none) ds
def kgs_cons (g : KG) (gs : KGs) : KGs := fun c b ds ρ M => List.rec (motive := fun _ => Option (Enn × Sto)) none (fun d ds _ => cs (g c b d ρ M) none fun p => gs c b ds p.1 p.2) ds
def ks_expr (e : KE) : KS := fun c b ρ M => lf (e c b ρ M) ρ fun _ M => some (.nx ρ, M)
def ks_asg (g : KG) (e : KE) : KS := fun c b ρ M => lf (e c b ρ M) ρ fun d M => cs (g c b d ρ M) none fun p => some (.nx p.1, p.2)
def ks_par (is : List Nat) (es : KL) : KS := fun c b ρ M => lf (es c b ρ M) ρ fun ds M => if ds.length = is.length then some (.nx (setAll is ds ρ), M) else none
def ks_aug (i : Nat) (o : B2) (e : KE) : KS := fun c b ρ M => augV (nth ρ i) fun x => lf (e c b ρ M) ρ (augI i o x ρ)
/-- a number is seen through, so that it is worked out at once -/
def seeI (i : Int) (f : Int → β) : β := Int.rec (fun n => f (Int.ofNat n)) (fun n => f (Int.negSucc n)) i
theorem seeI_eq (i : Int) (f : Int → β) : seeI i f = f i := by cases i <;> rfl
def seeD (d : D) (f : D → β) : β := match d with
  | .int i => seeI i fun i => f (.int i)
  | d => f d
theorem seeD_eq (d : D) (f : D → β) : seeD d f = f d := by
  cases d with
  | int i => exact seeI_eq i fun i => f (.int i)
  | _ => rfl
def ks_augs (o i : KE) (op : B2) (e : KE) : KS := fun c b ρ M => lf (o c b ρ M) ρ fun x M => lf (i c b ρ M) ρ fun y M => cs (augIx M x y) none fun old => lf (e c b ρ M) ρ fun z M => cs (augD op old z) none fun w => seeD w fun w => cs (semSet x y w b M) none fun M' => forceK M' fun M' => some (.nx ρ, M')
def ks_augf (o : KE) (k j : Nat) (op : B2) (e : KE) : KS := fun c b ρ M => lf (o c b ρ M) ρ fun x M => cs (fldD M x k j) none fun old => lf (e c b ρ M) ρ fun z M => cs (augD op old z) none fun w => seeD w fun w => cs (setF M x k j w b) none fun M' => forceK M' fun M' => some (.nx ρ, M')
def ks_asg2 (g g' : KG) (e : KE) : KS := fun c b ρ M => lf (e c b ρ M) ρ fun d M => cs (g c b d ρ M) none fun p => cs (g' c b d p.1 p.2) none fun p => some (.nx p.1, p.2)
def tryV (o : Option Bool) (x : Xn) (d : D) (ρ : Enn) (M : Sto) : SO := match o with
  | some true => some (.rt d, M)
  | some false => some (.xc x ρ, M)
  | none => none
def tryS (hs : List (Nat × Bool)) (d : D) (o : SO) : SO := match o with
  | some (.xc x ρ', M') => tryV (hs.lookup x.cls) x d ρ' M'
  | r => r
def ks_ret (e : KE) : KS := fun c b ρ M => lf (e c b ρ M) ρ fun d M => some (.rt d, M)
def ks_retn : KS := fun _ _ _ M => some (.rt .non, M)
def ks_pass : KS := fun _ _ ρ M => some (.nx ρ, M)
def ks_brk : KS := fun _ _ ρ M => some (.bk ρ, M)
def ks_cont : KS := fun _ _ ρ M => some (.ct ρ, M)
def ks_iff (t : KT) (s s' : KS) : KS := fun c b ρ M => lf (t c b ρ M) ρ fun k M => tf k (s c b ρ M) (s' c b ρ M)
def flK (o : SO) (nx ct : Enn → Sto → SO) (bk : Enn → Sto → SO) : SO := match o with
  | some (.nx ρ', M') => nx ρ' M'
  | some (.ct ρ', M') => ct ρ' M'
  | some (.bk ρ', M') => bk ρ' M'
  | r => r
def loopK (next : Sto → Nat → Option (Option D)) (body : D → Enn → Sto → SO) (c : Nat) : Nat → Enn → Sto → SO :=
  Nat.rec (motive := fun _ => Nat → Enn → Sto → SO) (fun _ _ _ => none) (fun _ ih i ρ M => cs (next M i) none fun o => cs o (some (.nx ρ, M)) fun d => flK (body d ρ M) (ih (Nat.succ i)) (ih (Nat.succ i)) (fun ρ M => some (.nx ρ, M))) c
def ks_for_ (g : KG) (it : KI) (s : KS) : KS := fun c b ρ M => lf (it c b ρ M) ρ fun src M => loopK (nextK src) (fun d ρ M => cs (g c b d ρ M) none fun p => s c b p.1 p.2) (Nat.succ (src.len M)) 0 ρ M
def wloopK (test : Enn → Sto → Out Bool) (body : Enn → Sto → SO) (c : Nat) : Enn → Sto → SO :=
  Nat.rec (motive := fun _ => Enn → Sto → SO) (fun _ _ => none) (fun _ ih ρ M => lf (test ρ M) ρ fun k M' => tf k (flK (body ρ M') ih ih (fun ρ M => some (.nx ρ, M))) (some (.nx ρ, M'))) c
def ks_whl (t : KT) (s : KS) : KS := fun c b ρ M => wloopK (t c b) (s c b) c.wf ρ M
def ks_bad : KS := fun _ _ _ _ => none
def ks_rai (k : Nat) : KS := fun _ _ ρ M => some (.xc ⟨k, []⟩ ρ, M)
def raiV (k : Nat) (ρ : Enn) (o : Out (List D)) : SO := match o with
  | .ok xs M' => some (.xc ⟨k, xs⟩ ρ, M')
  | _ => none
def ks_raiC (k : Nat) (es : KL) : KS := fun c b ρ M => raiV k ρ (es c b ρ M)
def ks_tri (s : KS) (hs : List (Nat × Option Bool)) : KS := fun c b ρ M => triS hs (s c b ρ M)
def ks_tryc (s : KS) (hs : List (Nat × Bool)) (d : D) : KS := fun c b ρ M => tryS hs d (s c b ρ M)
def kss_nil : KS := fun _ _ ρ M => some (.nx ρ, M)
def kss_cons (s ss : KS) : KS := fun c b ρ M => seqS (s c b ρ M) (ss c b)
/-! ### the words of a text -/
mutual
def cE (gv : Nat → Option D) : E → KE
  | .var i => ke_var i
  | .cst d => ke_cst d
  | .glb g => ke_glb (gv g)
  | .un .neg a => ke_neg (cE gv a)
  | .no a => ke_not (cE gv a)
  | .bin o a a' => ke_bin o (cE gv a) (cE gv a')
  | .cmp o a a' => ke_cmp o (cE gv a) (cE gv a')
  | .chn o o' a a' a'' => ke_chn o o' (cE gv a) (cE gv a') (cE gv a'')
  | .and a a' => ke_and (cE gv a) (cE gv a')
  | .or a a' => ke_or (cE gv a) (cE gv a')
  | .ife t a a' => ke_ife (cT gv t) (cE gv a) (cE gv a')
  | .tup es => ke_tup (cL gv es)
  | .lst es => ke_lst (cL gv es)
  | .dic0 => ke_dic0
  | .ix a a' => ke_ix (cE gv a) (cE gv a')
  | .sl a lo hi => ke_sl (cE gv a) (cO gv lo) (cO gv hi)
  | .rev a => ke_rev (cE gv a)
  | .call f es => ke_call f (cL gv es)
  | .callk f es ks kes => ke_callk f (cL gv es) ks (cL gv kes)
  | .bi k es => ke_bi k (cL gv es)
  | .lrng es => ke_lrng (cL gv es)
  | .mth m o es => ke_mth m (cE gv o) (cL gv es)
  | .isi a cl => ke_isi (cE gv a) cl
  | .new k f es => ke_new k f (cL gv es)
  | .mc a _ ms es => ke_mc (cE gv a) ms (cL gv es)
  | .dicT k v => ke_dicT (cE gv k) (cE gv v)
  | .dc g it ow t k v => ke_dc (cG gv g) (cI gv it) ow (cT gv t) (cE gv k) (cE gv v)
  | .dc2 g it t g' it' t' ow ow' k v => ke_dc2 (cG gv g) (cI gv it) (cT gv t) (cG gv g') (cI gv it') (cT gv t') ow ow' (cE gv k) (cE gv v)
  | .fld a k j => ke_fld (cE gv a) k j
  | .dic ks es => ke_dic ks (cL gv es)
  | .dct a => ke_dct (cE gv a)
  | .get a e => ke_get (cE gv a) (cE gv e)
  | .gget _ kvs e => ke_gget kvs (cE gv e)
  | .calld f es ds => ke_calld f (cL gv es) (ds.map D.int)
  | .lc g it ow t e => ke_lc (cG gv g) (cI gv it) ow (cT gv t) (cE gv e)
  | .lc2 g it t g' it' t' ow ow' e => ke_lc2 (cG gv g) (cI gv it) (cT gv t) (cG gv g') (cI gv it') (cT gv t') ow ow' (cE gv e)
def cL (gv : Nat → Option D) : EL → KL
  | .nil => kl_nil
  | .cons e es => kl_cons (cE gv e) (cL gv es)
def cO (gv : Nat → Option D) : EO → KO
  | .none => ko_none
  | .some e => ko_some (cE gv e)
def cT (gv : Nat → Option D) : T → KT
  | .yes => kt_yes
  | .val a => kt_val (cE gv a)
  | .not t => kt_not (cT gv t)
  | .and a a' => kt_and (cT gv a) (cT gv a')
  | .or a a' => kt_or (cT gv a) (cT gv a')
  | .cmp o a a' => kt_cmp o (cE gv a) (cE gv a')
  | .chn o o' a a' a'' => kt_chn o o' (cE gv a) (cE gv a') (cE gv a'')
  | .ife t a a' => kt_ife (cT gv t) (cT gv a) (cT gv a')
def cI (gv : Nat → Option D) : IT → KI
  | .seq a => ki_seq (cE gv a)
  | .rng es => ki_rng (cL gv es)
  | .enu a => ki_enu (cE gv a)
  | .zip a a' => ki_zip (cE gv a) (cE gv a')
  | .zips a a' => ki_zips (cE gv a) (cE gv a')
def cG (gv : Nat → Option D) : G → KG
  | .nam i => kg_nam i
  | .tup gs => kg_tup (cGs gv gs)
  | .sub o i => kg_sub (cE gv o) (cE gv i)
  | .fld o k j => kg_fld (cE gv o) k j
  | .star gs => kg_star (glen gs) (cGs gv gs)
def cGs (gv : Nat → Option D) : GL → KGs
  | .nil => kgs_nil
  | .cons g gs => kgs_cons (cG gv g) (cGs gv gs)
end
mutual
def cS (gv : Nat → Option D) : S → KS
  | .expr e => ks_expr (cE gv e)
  | .asg g e => ks_asg (cG gv g) (cE gv e)
  | .par is es => ks_par is (cL gv es)
  | .aug i o e => ks_aug i o (cE gv e)
  | .augs o i op e => ks_augs (cE gv o) (cE gv i) op (cE gv e)
  | .augf o k j op e => ks_augf (cE gv o) k j op (cE gv e)
  | .asg2 g g' e => ks_asg2 (cG gv g) (cG gv g') (cE gv e)
  | .tryc s _ hs d => ks_tryc (cSs gv s) hs d
  | .ret e => ks_ret (cE gv e)
  | .retn => ks_retn
  | .pass => ks_pass
  | .brk => ks_brk
  | .cont => ks_cont
  | .iff t s s' => ks_iff (cT gv t) (cSs gv s) (cSs gv s')
  | .for_ g it s => ks_for_ (cG gv g) (cI gv it) (cSs gv s)
  | .whl t s => ks_whl (cT gv t) (cSs gv s)
  | .bad => ks_bad
  | .rai k => ks_rai k
  | .raiC k es => ks_raiC k (cL gv es)
  | .tri s _ _ hs => ks_tri (cSs gv s) hs
def cSs (gv : Nat → Option D) : SL → KS
  | .nil => kss_nil
  | .cons s ss => kss_cons (cS gv s) (cSs gv ss)
end
/-! ### they tell the same -/
theorem turnsK_eq {next next' : Sto → Nat → Option (Option D)} {turn turn' : D → Sto → Out (List D)} (hn : ∀ M i, next M i = next' M i) (ht : ∀ d M, turn d M = turn' d M) : ∀ c i M, turnsK next turn c i M = turns next' turn' c i M
  | 0, i, M => rfl
  | c + 1, i, M => by
    show (cs (next M i) .no fun o => cs o (.ok [] M) fun d => bd (hush (turn d M)) fun xs M' => bd (hush (turnsK next turn c (i + 1) M')) fun ys M'' => appK xs ys fun zs => .ok zs M'') = _
    unfold turns
    rw [hn]
    cases next' M i with
    | none => rfl
    | some o =>
      cases o with
      | none => rfl
      | some d =>
        show (bd (hush (turn d M)) fun xs M' => bd (hush (turnsK next turn c (i + 1) M')) fun ys M'' => appK xs ys fun zs => .ok zs M'') = _
        simp only [bd_eq, ht, appK_eq, turnsK_eq hn ht c]
theorem itemK_eq (fg : D → Enn → Sto → Option (Enn × Sto)) (ft : Enn → Sto → Out Bool) (fe : Enn → Sto → Out (List D)) (ρ : Enn) (d : D) (M : Sto) : itemK fg ft fe ρ d M = itemT fg ft fe ρ d M := by
  unfold itemK itemT
  cases fg d ρ M with
  | none => rfl
  | some p =>
    obtain ⟨ρ2, M2⟩ := p
    show bd (ft ρ2 M2) _ = _
    rw [bd_eq]
    congr 1
    funext k M3
    cases k <;> rfl
theorem sealK_eq (n0 : Nat) (xs : List D) (M : Sto) : sealK n0 xs M = sealL n0 xs M := by
  unfold sealK sealL
  rw [capK_eq, lenK_eq, appK_eq, newK_eq]
  cases flats xs <;> rfl
theorem flK_eq {o : SO} {nx ct bk : Enn → Sto → SO} : flK o nx ct bk = match o with
    | some (.nx ρ', M') => nx ρ' M'
    | some (.ct ρ', M') => ct ρ' M'
    | some (.bk ρ', M') => bk ρ' M'
    | r => r := rfl
theorem loopK_eq {next next' : Sto → Nat → Option (Option D)} {body body' : D → Enn → Sto → SO} (hn : ∀ M i, next M i = next' M i) (hb : ∀ d ρ M, body d ρ M = body' d ρ M) : ∀ c i ρ M, loopK next body c i ρ M = loop next' body' c i ρ M
  | 0, i, ρ, M => rfl
  | c + 1, i, ρ, M => by
    have ih := loopK_eq hn hb c
    show (cs (next M i) none fun o => cs o (some (.nx ρ, M)) fun d => flK (body d ρ M) (loopK next body c (i + 1)) (loopK next body c (i + 1)) (fun ρ M => some (.nx ρ, M))) = _
    unfold loop
    rw [hn]
    cases next' M i with
    | none => rfl
    | some o =>
      cases o with
      | none => rfl
      | some d =>
        show flK (body d ρ M) (loopK next body c (i + 1)) (loopK next body c (i + 1)) (fun ρ M => some (.nx ρ, M)) = _
        rw [hb, flK_eq]
        dsimp only
        split <;> simp_all
theorem wloopK_eq {test test' : Enn → Sto → Out Bool} {body body' : Enn → Sto → SO} (ht : ∀ ρ M, test ρ M = test' ρ M) (hb : ∀ ρ M, body ρ M = body' ρ M) : ∀ c ρ M, wloopK test body c ρ M = wloop test' body' c ρ M
  | 0, ρ, M => rfl
  | c + 1, ρ, M => by
    have ih := wloopK_eq ht hb c
    show (lf (test ρ M) ρ fun k M' => tf k (flK (body ρ M') (wloopK test body c) (wloopK test body c) (fun ρ M => some (.nx ρ, M))) (some (.nx ρ, M'))) = _
    unfold wloop
    rw [ht, lf_eq]
    congr 1
    funext k M'
    cases k with
    | false => rfl
    | true =>
      show flK (body ρ M') (wloopK test body c) (wloopK test body c) (fun ρ M => some (.nx ρ, M)) = _
      rw [hb, flK_eq]
      dsimp only
      split <;> simp_all

section
variable {c : Cf}
theorem seqS_eq (o : SO) {f g : Enn → Sto → SO} (h : ∀ ρ M, f ρ M = g ρ M) : seqS o f = seqS o g := by
  rw [show f = g from funext fun ρ => funext fun M => h ρ M]
mutual
theorem cE_ok : ∀ (e : E) (b : Nat) (ρ : Enn) (M : Sto), cE c.gv e c b ρ M = evE c b e ρ M
  | .var i, b, ρ, M => by
    rw [q_var]
    show cs (nth ρ i) Out.no (fun o => cs o Out.no fun d => Out.ok d M) = _
    rw [nth_eq]
    cases ρ[i]? with
    | none => rfl
    | some o => cases o <;> rfl
  | .cst d, b, ρ, M => by rw [q_cst]; rfl
  | .glb g, b, ρ, M => by
    rw [q_glb]
    show (Option.rec ke_no ke_cst (c.gv g) : KE) c b ρ M = _
    cases c.gv g <;> rfl
  | .un .neg a, b, ρ, M => by simp only [cE, ke_neg, bd_eq, cE_ok a, q_neg]
  | .no a, b, ρ, M => by
    simp only [cE, ke_not, bd_eq, cE_ok a, q_no, tf_not]
    congr 1; funext x M
    cases truth M x <;> rfl
  | .bin o a a', b, ρ, M => by simp only [cE, ke_bin, bd_eq, cE_ok a, cE_ok a', q_bin]
  | .cmp o a a', b, ρ, M => by simp only [cE, ke_cmp, bd_eq, cE_ok a, cE_ok a', q_cmp, cmK_eq]; congr 1; funext x M; congr 1; funext y M; rw [cs_of _ _ M]; cases semC o M x y <;> rfl
  | .chn o o' a a' a'', b, ρ, M => by
    simp only [cE, ke_chn, bd_eq, cE_ok a, cE_ok a', cE_ok a'', q_chn, cmK_eq]
    congr 1; funext x M; congr 1; funext y M
    cases semC o M x y with
    | none => rfl
    | some k =>
      cases k with
      | false => rfl
      | true =>
        show (Out.bind (evE c b a'' ρ M) fun z M => cs (semC o' M y z) Out.no fun k => Out.ok (D.bl k) M) = Out.bind (evE c b a'' ρ M) fun z M => (ofOpt (semC o' M y z) M).bind fun k M => Out.ok (D.bl k) M
        congr 1; funext z M
        cases semC o' M y z <;> rfl
  | .and a a', b, ρ, M => by
    simp only [cE, ke_and, bd_eq, cE_ok a, cE_ok a', q_and, tf_ifO]
    congr 1; funext x M
    cases truth M x <;> rfl
  | .or a a', b, ρ, M => by
    simp only [cE, ke_or, bd_eq, cE_ok a, cE_ok a', q_or, tf_ifO]
    congr 1; funext x M
    cases truth M x <;> rfl
  | .ife t a a', b, ρ, M => by simp only [cE, ke_ife, bd_eq, cT_ok t, cE_ok a, cE_ok a', q_ife, tf_ifO]
  | .tup es, b, ρ, M => by simp only [cE, ke_tup, bd_eq, cL_ok es, q_tup, capK_eq, lenK_eq]
  | .lst es, b, ρ, M => by simp only [cE, ke_lst, bd_eq, cL_ok es, q_lst, capK_eq, lenK_eq, newK_eq]
  | .dic0, b, ρ, M => by simp only [cE, ke_dic0, appK_eq, lenK_eq, q_dic]
  | .ix a a', b, ρ, M => by simp only [cE, ke_ix, bd_eq, cE_ok a, cE_ok a', q_ix, cs_ok]
  | .sl a lo hi, b, ρ, M => by simp only [cE, ke_sl, bd_eq, cE_ok a, cO_ok lo, cO_ok hi, q_sl]
  | .rev a, b, ρ, M => by simp only [cE, ke_rev, bd_eq, cE_ok a, q_rev]
  | .call f es, b, ρ, M => by simp only [cE, ke_call, bd_eq, cL_ok es, q_call]
  | .callk f es ks kes, b, ρ, M => by
    simp only [cE, ke_callk, bd_eq, cL_ok es, cL_ok kes, q_callk]
    congr 1; funext x M; congr 1; funext y M
    cases place (x.length + y.length) x ks y <;> rfl
  | .bi k es, b, ρ, M => by simp only [cE, ke_bi, bd_eq, cL_ok es, q_bi]
  | .lrng es, b, ρ, M => by simp only [cE, ke_lrng, bd_eq, cL_ok es, q_lrng]
  | .mth m o es, b, ρ, M => by simp only [cE, ke_mth, bd_eq, cE_ok o, cL_ok es, q_mth, tf_ifO, forceK_eq, bind_id]
  | .isi a cl, b, ρ, M => by
    simp only [cE, ke_isi, bd_eq, cE_ok a, q_isi]
    congr 1; funext x M
    cases tyD M x with
    | none => rfl
    | some t =>
      show cs (isAny t cl) Out.no (fun k => Out.ok (D.bl k) M) = _
      rw [isiV_some]
      cases isAny t cl <;> rfl
  | .new k f es, b, ρ, M => by simp only [cE, ke_new, bd_eq, cL_ok es, q_new, appK_eq, lenK_eq, tf_ifO]
  | .mc a m ms es, b, ρ, M => by
    simp only [cE, ke_mc, bd_eq, cE_ok a, cL_ok es, q_mc]
    congr 1; funext x M
    cases pickM M x ms <;> rfl
  | .dicT k v, b, ρ, M => by
    simp only [cE, ke_dicT, bd_eq, cE_ok k, cE_ok v, q_dicT, appK_eq, lenK_eq]
    congr 1; funext x M; congr 1; funext d M
    cases keyT x <;> rfl
  | .dc g it ow t k v, b, ρ, M => by
    rw [evE]
    simp only [cE, ke_dc, bd_eq, cI_ok it, lenK_eq]
    congr 1; funext s M
    congr 2
    refine turnsK_eq (nextK_eq s) (fun d M3 => ?_) _ _ _
    rw [itemK_eq]
    congr 1
    · funext d ρ M; exact cG_ok g _ d ρ M
    · funext ρ M; exact cT_ok t _ ρ M
    · funext ρ M
      rw [cE_ok k]
      congr 1; funext kd M4
      rw [cE_ok v]
  | .dc2 g it t g' it' t' ow ow' k v, b, ρ, M => by
    rw [evE]
    simp only [cE, ke_dc2, bd_eq, cI_ok it, lenK_eq]
    congr 1; funext s M
    congr 2
    refine turnsK_eq (nextK_eq s) (fun d M3 => ?_) _ _ _
    rw [itemK_eq]
    congr 1
    · funext d ρ M; exact cG_ok g _ d ρ M
    · funext ρ M; exact cT_ok t _ ρ M
    · funext ρ2 M4
      rw [cI_ok it']
      congr 1; funext s' M5
      refine turnsK_eq (nextK_eq s') (fun d M6 => ?_) _ _ _
      rw [itemK_eq]
      congr 1
      · funext d ρ M; exact cG_ok g' _ d ρ M
      · funext ρ M; exact cT_ok t' _ ρ M
      · funext ρ M
        rw [cE_ok k]
        congr 1; funext kd M4
        rw [cE_ok v]
  | .fld a k j, b, ρ, M => by simp only [cE, ke_fld, bd_eq, cE_ok a, q_fld, cs_ok]
  | .dic ks es, b, ρ, M => by
    simp only [cE, ke_dic, bd_eq, cL_ok es, q_dict, lenK_eq]
    congr 1; funext xs M
    rw [tf_if]
    by_cases h : ks.length = xs.length
    · rw [if_pos h, if_pos (by rw [h]; exact Nat.beq_refl _)]
    · rw [if_neg h, if_neg fun z => h (Nat.eq_of_beq_eq_true z)]
  | .dct a, b, ρ, M => by simp only [cE, ke_dct, bd_eq, cE_ok a, q_dct]
  | .get a e, b, ρ, M => by
    simp only [cE, ke_get, bd_eq, cE_ok a, cE_ok e, q_get]
    congr 1; funext x M
    cases dctAt M x with
    | none => rfl
    | some o =>
      rw [getV_some]
      show (Out.bind (evE c b e ρ M) fun y M => cs (getD1 M x y) Out.no fun d => Out.ok d M) = _
      congr 1; funext y M
      cases getD1 M x y <;> rfl
  | .gget g kvs e, b, ρ, M => by simp only [cE, ke_gget, bd_eq, cE_ok e, q_gget, cs_ok]
  | .calld f es ds, b, ρ, M => by simp only [cE, ke_calld, bd_eq, cL_ok es, q_calld]
  | .lc g it ow t e, b, ρ, M => by
    rw [evE]
    simp only [cE, ke_lc, bd_eq, cI_ok it, lenK_eq, sealK_eq]
    congr 1; funext s M
    congr 2
    refine turnsK_eq (nextK_eq s) (fun d M3 => ?_) _ _ _
    rw [itemK_eq]
    congr 1
    · funext d ρ M; exact cG_ok g _ d ρ M
    · funext ρ M; exact cT_ok t _ ρ M
    · funext ρ M; rw [cE_ok e]
  | .lc2 g it t g' it' t' ow ow' e, b, ρ, M => by
    rw [evE]
    simp only [cE, ke_lc2, bd_eq, cI_ok it, lenK_eq, sealK_eq]
    congr 1; funext s M
    congr 2
    refine turnsK_eq (nextK_eq s) (fun d M3 => ?_) _ _ _
    rw [itemK_eq]
    congr 1
    · funext d ρ M; exact cG_ok g _ d ρ M
    · funext ρ M; exact cT_ok t _ ρ M
    · funext ρ2 M4
      rw [cI_ok it']
      congr 1; funext s' M5
      refine turnsK_eq (nextK_eq s') (fun d M6 => ?_) _ _ _
      rw [itemK_eq]
      congr 1
      · funext d ρ M; exact cG_ok g' _ d ρ M
      · funext ρ M; exact cT_ok t' _ ρ M
      · funext ρ M; rw [cE_ok e]
theorem cL_ok : ∀ (es : EL) (b : Nat) (ρ : Enn) (M : Sto), cL c.gv es c b ρ M = evL c b es ρ M
  | .nil, b, ρ, M => by rw [q_nil]; rfl
  | .cons e es, b, ρ, M => by simp only [cL, kl_cons, bd_eq, cE_ok e, cL_ok es, q_cons]
theorem cO_ok : ∀ (e : EO) (b : Nat) (ρ : Enn) (M : Sto), cO c.gv e c b ρ M = evO c b e ρ M
  | .none, b, ρ, M => by rw [q_on]; rfl
  | .some e, b, ρ, M => by simp only [cO, ko_some, bd_eq, cE_ok e, q_os]
theorem cT_ok : ∀ (t : T) (b : Nat) (ρ : Enn) (M : Sto), cT c.gv t c b ρ M = evT c b t ρ M
  | .yes, b, ρ, M => by rw [q_tyes]; rfl
  | .val a, b, ρ, M => by simp only [cT, kt_val, bd_eq, cE_ok a, q_tval, cs_ok]
  | .not t, b, ρ, M => by simp only [cT, kt_not, bd_eq, cT_ok t, q_tnot, tf_not]
  | .and a a', b, ρ, M => by simp only [cT, kt_and, bd_eq, cT_ok a, cT_ok a', q_tand, tf_ifO]
  | .or a a', b, ρ, M => by simp only [cT, kt_or, bd_eq, cT_ok a, cT_ok a', q_tor, tf_ifO]
  | .cmp o a a', b, ρ, M => by simp only [cT, kt_cmp, bd_eq, cE_ok a, cE_ok a', q_tcmp, cmK_eq, cs_ok]
  | .chn o o' a a' a'', b, ρ, M => by
    simp only [cT, kt_chn, bd_eq, cE_ok a, cE_ok a', cE_ok a'', q_tchn, cmK_eq]
    congr 1; funext x M; congr 1; funext y M
    cases semC o M x y with
    | none => rfl
    | some k =>
      cases k with
      | false => rfl
      | true =>
        show (Out.bind (evE c b a'' ρ M) fun z M => cs (semC o' M y z) Out.no fun k => Out.ok k M) = Out.bind (evE c b a'' ρ M) fun z M => ofOpt (semC o' M y z) M
        congr 1; funext z M
        cases semC o' M y z <;> rfl
  | .ife t a a', b, ρ, M => by simp only [cT, kt_ife, bd_eq, cT_ok t, cT_ok a, cT_ok a', q_tife, tf_ifO]
theorem cI_ok : ∀ (i : IT) (b : Nat) (ρ : Enn) (M : Sto), cI c.gv i c b ρ M = evI c b i ρ M
  | .seq a, b, ρ, M => by simp only [cI, ki_seq, bd_eq, cE_ok a, q_iseq, cs_ok]
  | .rng es, b, ρ, M => by simp only [cI, ki_rng, bd_eq, cL_ok es, q_irng, cs_ok]
  | .enu a, b, ρ, M => by simp only [cI, ki_enu, bd_eq, cE_ok a, q_ienu, cs_ok]
  | .zips a a', b, ρ, M => by simp only [cI, ki_zips, bd_eq, cE_ok a, cE_ok a', q_izips, cs_ok]
  | .zip a a', b, ρ, M => by simp only [cI, ki_zip, bd_eq, cE_ok a, cE_ok a', q_izip, cs_ok]
theorem cG_ok : ∀ (g : G) (b : Nat) (d : D) (ρ : Enn) (M : Sto), cG c.gv g c b d ρ M = evG c b g d ρ M
  | .nam i, b, d, ρ, M => by rw [q_gnam]; exact setK_eq _ _ _ _
  | .tup gs, b, d, ρ, M => by
    rw [evG]
    show cs (itemsOf M d) none (fun ds => cGs c.gv gs c b ds ρ M) = _
    cases itemsOf M d with
    | none => rfl
    | some ds => exact cGs_ok gs b ds ρ M
  | .fld o k j, b, d, ρ, M => by
    simp only [cG, kg_fld, bd_eq, cE_ok o, q_gfld, forceK_eq]
    congr 2; funext x M
    cases setF M x k j d b <;> rfl
  | .sub o i, b, d, ρ, M => by
    simp only [cG, kg_sub, bd_eq, cE_ok o, cE_ok i, q_gsub, forceK_eq]
    congr 2; funext x M; congr 1; funext y M
    cases semSet x y d b M <;> rfl
  | .star gs, b, d, ρ, M => by
    cases d with
    | tup ds =>
      rw [q_gstar]
      show tf (Nat.ble (glen gs) (Nat.succ (lenK ds))) (appK M [.lst (ds.drop (glen gs - 1))] fun M' => cGs c.gv gs c b (ds.take (glen gs - 1) ++ [.loc (lenK M)]) ρ M') none = _
      rw [appK_eq, cGs_ok gs, lenK_eq, lenK_eq]
      cases Nat.ble (glen gs) (Nat.succ ds.length) <;> rfl
    | _ => show none = _; simp [evG]
theorem cGs_ok : ∀ (gs : GL) (b : Nat) (ds : List D) (ρ : Enn) (M : Sto), cGs c.gv gs c b ds ρ M = evGs c b gs ds ρ M
  | .nil, b, ds, ρ, M => by
    cases ds with
    | nil => rw [q_gnil]; rfl
    | cons d ds => show none = _; simp [evGs]
  | .cons g gs, b, ds, ρ, M => by
    cases ds with
    | nil => show none = _; simp [evGs]
    | cons d ds =>
      rw [q_gcons]
      show cs (cG c.gv g c b d ρ M) none (fun p => cGs c.gv gs c b ds p.1 p.2) = _
      rw [cG_ok g]
      cases evG c b g d ρ M with
      | none => rfl
      | some p =>
        obtain ⟨ρ', M'⟩ := p
        exact cGs_ok gs b ds ρ' M'
end
mutual
theorem cS_ok : ∀ (s : S) (b : Nat) (ρ : Enn) (M : Sto), cS c.gv s c b ρ M = evS c b s ρ M
  | .expr e, b, ρ, M => by simp only [cS, ks_expr, lf_eq, cE_ok e, q_expr]
  | .asg g e, b, ρ, M => by
    simp only [cS, ks_asg, lf_eq, cE_ok e, q_asg]
    congr 1; funext d M
    rw [cG_ok g]
    cases evG c b g d ρ M <;> rfl
  | .par is es, b, ρ, M => by simp only [cS, ks_par, lf_eq, cL_ok es, q_par]
  | .aug i o e, b, ρ, M => by simp only [cS, ks_aug, lf_eq, cE_ok e, q_aug, nth_eq]
  | .augs o i op e, b, ρ, M => by
    rw [evS]
    simp only [cS, ks_augs, lf_eq, cE_ok o, cE_ok i, cE_ok e, seeD_eq, forceK_eq]
    congr 1; funext x M; congr 1; funext y M
    cases augIx M x y with
    | none => rfl
    | some old =>
      show lift (evE c b e ρ M) ρ _ = lift (evE c b e ρ M) ρ _
      congr 1; funext z M
      cases augD op old z with
      | none => rfl
      | some w =>
        show cs (semSet x y w b M) none (fun M' => some (Fl.nx ρ, M')) = (match semSet x y w b M with
          | some M' => some (.nx ρ, M')
          | none => none)
        cases semSet x y w b M <;> rfl
  | .augf o k j op e, b, ρ, M => by
    rw [evS]
    simp only [cS, ks_augf, lf_eq, cE_ok o, cE_ok e, seeD_eq, forceK_eq]
    congr 1; funext x M
    cases fldD M x k j with
    | none => rfl
    | some old =>
      show lift (evE c b e ρ M) ρ _ = lift (evE c b e ρ M) ρ _
      congr 1; funext z M
      cases augD op old z with
      | none => rfl
      | some w =>
        show cs (setF M x k j w b) none (fun M' => some (Fl.nx ρ, M')) = (match setF M x k j w b with
          | some M' => some (.nx ρ, M')
          | none => none)
        cases setF M x k j w b <;> rfl
  | .asg2 g g' e, b, ρ, M => by
    rw [evS]
    simp only [cS, ks_asg2, lf_eq, cE_ok e]
    congr 1; funext d M
    rw [cG_ok g]
    cases evG c b g d ρ M with
    | none => rfl
    | some p =>
      obtain ⟨ρ', M'⟩ := p
      show cs (cG c.gv g' c b d ρ' M') none (fun p => some (Fl.nx p.1, p.2)) = (match evG c b g' d ρ' M' with
        | some (ρ'', M'') => some (.nx ρ'', M'')
        | none => none)
      rw [cG_ok g']
      cases evG c b g' d ρ' M' <;> rfl
  | .tryc s k hs d, b, ρ, M => by
    rw [evS]
    show tryS hs d (cSs c.gv s c b ρ M) = _
    rw [cSs_ok s]
    cases evSs c b s ρ M with
    | none => rfl
    | some p =>
      obtain ⟨fl, M'⟩ := p
      cases fl <;> first | rfl | (show tryV _ _ _ _ _ = _; unfold tryV; rfl)
  | .ret e, b, ρ, M => by simp only [cS, ks_ret, lf_eq, cE_ok e, q_ret]
  | .retn, b, ρ, M => by rw [q_retn]; rfl
  | .pass, b, ρ, M => by rw [q_pass]; rfl
  | .brk, b, ρ, M => by rw [q_brk]; rfl
  | .cont, b, ρ, M => by rw [q_cont]; rfl
  | .iff t s s', b, ρ, M => by simp only [cS, ks_iff, lf_eq, cT_ok t, cSs_ok s, cSs_ok s', q_iff, tf_ifS]
  | .for_ g it s, b, ρ, M => by
    rw [evS]
    simp only [cS, ks_for_, lf_eq, cI_ok it]
    congr 1; funext src M
    refine loopK_eq (nextK_eq src) (fun d ρ M => ?_) _ _ _ _
    rw [cG_ok g]
    cases evG c b g d ρ M with
    | none => rfl
    | some p =>
      obtain ⟨ρ', M'⟩ := p
      exact cSs_ok s b ρ' M'
  | .whl t s, b, ρ, M => by
    rw [evS]
    exact wloopK_eq (cT_ok t b) (cSs_ok s b) _ _ _
  | .bad, b, ρ, M => by rw [evS]; rfl
  | .rai k, b, ρ, M => by rw [q_rai]; rfl
  | .raiC k es, b, ρ, M => by
    rw [evS]
    show raiV k ρ (cL c.gv es c b ρ M) = _
    rw [cL_ok es]
    unfold raiV
    cases evL c b es ρ M <;> rfl
  | .tri s _ _ hs, b, ρ, M => by simp only [cS, ks_tri, cSs_ok s, q_tri]
theorem cSs_ok : ∀ (s : SL) (b : Nat) (ρ : Enn) (M : Sto), cSs c.gv s c b ρ M = evSs c b s ρ M
  | .nil, b, ρ, M => by rw [q_snil]; rfl
  | .cons s ss, b, ρ, M => by
    rw [q_scons]
    show seqS (cS c.gv s c b ρ M) (cSs c.gv ss c b) = _
    rw [cS_ok s]
    exact seqS_eq _ (cSs_ok ss b)
end
end
/-! ### defs -/
structure FnK where
  np : Nat
  nl : Nat
  keep : Bool
  body : KS
def cFn (gv : Nat → Option D) (fn : Fn) : FnK := ⟨fn.np, fn.N.length, fn.keep, cSs gv fn.body⟩
def callK (F : Nat → List D → Nat → Sto → Out D) (gv : Nat → Option D) (wf : Nat) (fn : FnK) (xs : List D) (b : Nat) (M : Sto) : Out D :=
  tf (Nat.beq (lenK xs) fn.np) (tf fn.keep (endD (fn.body ⟨F, gv, wf⟩ b (xs.map some ++ List.replicate (fn.nl - fn.np) none) M)) (cutE (lenK M) (endD (fn.body ⟨F, gv, wf⟩ (lenK M) (xs.map some ++ List.replicate (fn.nl - fn.np) none) M)))) .no
def outStoK (ns : List Nat) (M M1 : Sto) : Sto := match ns, M1 with
  | [], [] => M
  | ns, M1 => outSto ns M M1
theorem outStoK_eq (ns : List Nat) (M M1 : Sto) : outStoK ns M M1 = outSto ns M M1 := by
  unfold outStoK
  split
  · simp [outSto, back]
  · rfl
def unsubK (ns : List Nat) (M : Sto) : Out D → Out D
  | .no => .no
  | .ok d M1 => match allK flatO (M1.take ns.length) with
    | true => .ok (outD ns M.length d) (outStoK ns M M1)
    | false => .no
  | .ex x M1 => match allK flatO (M1.take ns.length) with
    | true => .ex ⟨x.cls, outDs ns M.length x.xs⟩ (outStoK ns M M1)
    | false => .no
theorem unsubK_eq (ns : List Nat) (M : Sto) (o : Out D) : unsubK ns M o = unsub ns M o := by
  cases o with
  | no => rfl
  | ok d M1 =>
    simp only [unsubK, unsub, allK_eq, outStoK_eq] <;> cases (M1.take ns.length).all flatO <;> rfl
  | ex x M1 =>
    simp only [unsubK, unsub, allK_eq, outStoK_eq] <;> cases (M1.take ns.length).all flatO <;> rfl
def subK (G : List D → Nat → Sto → Out D) (xs : List D) (b : Nat) (M : Sto) : Out D := match roots M xs [] with
  | none => G xs b M
  | some ns => match picks M ns with
    | none => .no
    | some M0 => unsubK ns M (G (xs.map (inD1 ns)) ns.length M0)
/-- nat: what defs are worth that were shown to be worth it -/
def runK (fns : List FnK) (nat : Nat → List D → Option D) (gv : Nat → Option D) (wf : Nat) (k : Nat) : Nat → List D → Nat → Sto → Out D :=
  Nat.rec (motive := fun _ => Nat → List D → Nat → Sto → Out D) (fun _ _ _ _ => .no) (fun k ih f xs b M => cs (tf (Nat.ble 5 k) (nat f xs) none) (cs (nth fns f) .no fun fn => subK (callK ih gv wf fn) xs b M) fun d => .ok d M) k
def NatOk (fns : List Fn) (gv : Nat → Option D) (wf : Nat) (nat : Nat → List D → Option D) : Prop := ∀ f xs d, nat f xs = some d → ∀ k b M, run fns gv wf (k + 6) f xs b M = .ok d M
theorem callK_eq {F F' : Nat → List D → Nat → Sto → Out D} {gv : Nat → Option D} {wf : Nat} {fn : Fn} (hF : F = F') (xs : List D) (b : Nat) (M : Sto) : callK F gv wf (cFn gv fn) xs b M = callFn F' gv wf fn xs b M := by
  subst hF
  unfold callK callFn
  rw [tf_if, lenK_eq, lenK_eq]
  have e : ∀ b, cSs gv fn.body ⟨F, gv, wf⟩ b (xs.map some ++ List.replicate (fn.N.length - fn.np) none) M = evSs ⟨F, gv, wf⟩ b fn.body (startE fn xs) M := fun b => cSs_ok (c := ⟨F, gv, wf⟩) fn.body b _ M
  by_cases h : xs.length = fn.np
  · rw [if_pos h, if_pos (show Nat.beq xs.length (cFn gv fn).np = true by rw [h]; exact Nat.beq_refl _)]
    show tf fn.keep (endD (cSs gv fn.body ⟨F, gv, wf⟩ b (xs.map some ++ List.replicate (fn.N.length - fn.np) none) M)) (cutE M.length (endD (cSs gv fn.body ⟨F, gv, wf⟩ M.length (xs.map some ++ List.replicate (fn.N.length - fn.np) none) M))) = _
    rw [e, e]
    cases fn.keep <;> rfl
  · rw [if_neg h, if_neg (show ¬ Nat.beq xs.length (cFn gv fn).np = true from fun z => h (Nat.eq_of_beq_eq_true z))]
theorem runK_eq {fns : List Fn} {kf : List FnK} {nat : Nat → List D → Option D} {gv : Nat → Option D} {wf : Nat} (hn : NatOk fns gv wf nat) (hf : kf = fns.map (cFn gv)) : ∀ k, runK kf nat gv wf k = run fns gv wf k
  | 0 => by funext f xs b M; rfl
  | k + 1 => by
    have ih := runK_eq hn hf k
    funext f xs b M
    show cs (tf (Nat.ble 5 k) (nat f xs) none) (cs (nth kf f) .no fun fn => subK (callK (runK kf nat gv wf k) gv wf fn) xs b M) (fun d => .ok d M) = _
    have main : (cs (nth kf f) .no fun fn => subK (callK (runK kf nat gv wf k) gv wf fn) xs b M) = run fns gv wf (k + 1) f xs b M := by
      show _ = (match fns[f]? with
        | some fn => subRun (callFn (run fns gv wf k) gv wf fn) xs b M
        | none => .no)
      rw [nth_eq, hf, List.getElem?_map]
      cases e : fns[f]? with
      | none => rfl
      | some fn =>
        show subK (callK (runK (fns.map (cFn gv)) nat gv wf k) gv wf (cFn gv fn)) xs b M = subRun (callFn (run fns gv wf k) gv wf fn) xs b M
        rw [hf] at ih
        unfold subK subRun
        cases roots M xs [] with
        | none => exact callK_eq ih xs b M
        | some ns =>
          dsimp only
          cases picks M ns with
          | none => rfl
          | some M0 =>
            dsimp only
            rw [unsubK_eq, callK_eq ih _ ns.length M0]
    cases h : Nat.ble 5 k with
    | false => exact main
    | true =>
      cases q : nat f xs with
      | none => exact main
      | some d =>
        have := Nat.le_of_ble_eq_true h
        obtain ⟨j, rfl⟩ : ∃ j, k = j + 5 := ⟨k - 5, by omega⟩
        exact (hn f xs d q j b M).symm
end
end Ev
end

section
/-! K52Tx: the law's text for the evaluator. -/
namespace K52
open PySem Ev
def b_is_whole : SL := (.cons (.ret (.and (.isi (.var 0) [.int]) (.no (.isi (.var 0) [.bool])))) .nil)
def f_is_whole : Fn := ⟨"is_whole", 1, ["thing"], b_is_whole, false, none, false⟩
def b_is_from : SL := (.cons (.ret (.and (.call 0 (.cons (.var 0) .nil)) (.chn .le .le (.var 1) (.var 0) (.var 2)))) .nil)
def f_is_from : Fn := ⟨"is_from", 3, ["thing", "low", "high"], b_is_from, false, none, false⟩
def c1_is_word : E := .lc (.nam 1) (.seq (.var 0)) [1] .yes (.cmp .isin (.var 1) (.glb 2))
def b_is_word : SL := (.cons (.ret (.and (.isi (.var 0) [.str]) (.and (.chn .le .le (.cst (.int 1)) (.bi .len (.cons (.var 0) .nil)) (.glb 1)) (.bi .all (.cons c1_is_word .nil))))) .nil)
def f_is_word : Fn := ⟨"is_word", 1, ["thing", "sign"], b_is_word, false, none, false⟩
def b_is_written : SL := (.cons (.ret (.or (.isi (.var 0) [.bool]) (.call 1 (.cons (.var 0) (.cons (.un .neg (.glb 0)) (.cons (.glb 0) .nil)))))) .nil)
def f_is_written : Fn := ⟨"is_written", 1, ["thing"], b_is_written, false, none, false⟩
def b_is_tuple_of : SL := (.cons (.ret (.and (.isi (.var 0) [.tup]) (.chn .le .le (.var 1) (.bi .len (.cons (.var 0) .nil)) (.var 2)))) .nil)
def f_is_tuple_of : Fn := ⟨"is_tuple_of", 3, ["thing", "low", "high"], b_is_tuple_of, false, none, false⟩
def b_begins : SL := (.cons (.ret (.and (.call 4 (.cons (.var 0) (.cons (.var 1) (.cons (.var 1) .nil)))) (.and (.isi (.ix (.var 0) (.cst (.int 0))) [.str]) (.cmp .eq (.ix (.var 0) (.cst (.int 0))) (.var 2))))) .nil)
def f_begins : Fn := ⟨"begins", 3, ["thing", "many", "word"], b_begins, false, none, false⟩
def c1_are_unlike : E := .lc (.tup (.cons (.nam 1) (.cons (.nam 2) .nil))) (.enu (.var 0)) [1, 2] .yes (.cmp .nin (.var 2) (.sl (.var 0) .none (.some (.var 1))))
def b_are_unlike : SL := (.cons (.ret (.bi .all (.cons c1_are_unlike .nil))) .nil)
def f_are_unlike : Fn := ⟨"are_unlike", 1, ["some", "at", "one"], b_are_unlike, false, none, false⟩
def b_is_named_place : SL := (.cons (.ret (.and (.call 4 (.cons (.var 0) (.cons (.cst (.int 2)) (.cons (.cst (.int 2)) .nil)))) (.and (.call 2 (.cons (.ix (.var 0) (.cst (.int 0))) .nil)) (.call 1 (.cons (.ix (.var 0) (.cst (.int 1))) (.cons (.cst (.int 0)) (.cons (.glb 7) .nil))))))) .nil)
def f_is_named_place : Fn := ⟨"is_named_place", 1, ["thing"], b_is_named_place, false, none, false⟩
def c1_is_kind : E := .lc (.tup (.cons (.nam 2) (.cons (.nam 3) .nil))) (.seq (.ix (.var 0) (.cst (.int 1)))) [2, 3] .yes (.var 2)
def c2_is_kind : E := .lc (.nam 1) (.seq (.ix (.var 0) (.cst (.int 1)))) [1] .yes (.call 7 (.cons (.var 1) .nil))
def b_is_kind : SL := (.cons (.iff (.or (.not (.val (.call 4 (.cons (.var 0) (.cons (.cst (.int 3)) (.cons (.cst (.int 3)) .nil)))))) (.or (.not (.val (.call 2 (.cons (.ix (.var 0) (.cst (.int 0))) .nil)))) (.not (.val (.call 4 (.cons (.ix (.var 0) (.cst (.int 1))) (.cons (.cst (.int 1)) (.cons (.glb 6) .nil)))))))) (.cons (.ret (.cst (.bl false))) .nil) .nil) (.cons (.iff (.or (.not (.val (.bi .all (.cons c2_is_kind .nil)))) (.not (.val (.call 6 (.cons c1_is_kind .nil))))) (.cons (.ret (.cst (.bl false))) .nil) .nil) (.cons (.ret (.call 4 (.cons (.ix (.var 0) (.cst (.int 2))) (.cons (.cst (.int 0)) (.cons (.glb 8) .nil))))) .nil)))
def f_is_kind : Fn := ⟨"is_kind", 1, ["thing", "one", "word", "many"], b_is_kind, false, none, false⟩
def i1_is_slot : SL := (.cons (.ret (.call 2 (.cons (.ix (.var 0) (.cst (.int 1))) .nil))) .nil)
def b_is_slot : SL := (.cons (.iff (.val (.call 5 (.cons (.var 0) (.cons (.cst (.int 2)) (.cons (.cst (.str [97, 115])) .nil))))) i1_is_slot .nil) (.cons (.ret (.and (.call 5 (.cons (.var 0) (.cons (.cst (.int 2)) (.cons (.cst (.str [105, 115])) .nil)))) (.call 3 (.cons (.ix (.var 0) (.cst (.int 1))) .nil)))) .nil))
def f_is_slot : Fn := ⟨"is_slot", 1, ["thing"], b_is_slot, false, none, false⟩
def c1_is_head : E := .lc (.nam 3) (.seq (.ix (.var 1) (.cst (.int 1)))) [3] .yes (.call 9 (.cons (.var 3) .nil))
def b_is_head : SL := (.cons (.iff (.or (.not (.val (.call 4 (.cons (.var 1) (.cons (.cst (.int 2)) (.cons (.cst (.int 2)) .nil)))))) (.or (.not (.val (.call 2 (.cons (.ix (.var 1) (.cst (.int 0))) .nil)))) (.cmp .nin (.ix (.var 1) (.cst (.int 0))) (.var 0)))) (.cons (.ret (.cst (.bl false))) .nil) .nil) (.cons (.asg (.nam 2) (.ix (.var 0) (.ix (.var 1) (.cst (.int 0))))) (.cons (.ret (.and (.call 4 (.cons (.ix (.var 1) (.cst (.int 1))) (.cons (.var 2) (.cons (.var 2) .nil)))) (.bi .all (.cons c1_is_head .nil)))) .nil)))
def f_is_head : Fn := ⟨"is_head", 2, ["places", "thing", "many", "slot"], b_is_head, false, none, false⟩
def c1_names_in : E := .lc2 (.tup (.cons (.nam 1) (.cons (.nam 2) .nil))) (.seq (.var 0)) .yes (.nam 3) (.seq (.var 2)) (.cmp .eq (.ix (.var 3) (.cst (.int 0))) (.cst (.str [97, 115]))) [1, 2, 3] [3] (.ix (.var 3) (.cst (.int 1)))
def b_names_in : SL := (.cons (.ret c1_names_in) .nil)
def f_names_in : Fn := ⟨"names_in", 1, ["heads", "place", "slots", "slot"], b_names_in, false, none, false⟩
def c1_are_heads : E := .lc (.tup (.cons (.nam 2) (.cons (.nam 3) .nil))) (.seq (.var 1)) [2, 3] .yes (.var 2)
def c2_are_heads : E := .lc (.nam 4) (.seq (.var 1)) [4] .yes (.call 10 (.cons (.var 0) (.cons (.var 4) .nil)))
def b_are_heads : SL := (.cons (.iff (.or (.not (.val (.call 4 (.cons (.var 1) (.cons (.cst (.int 1)) (.cons (.glb 9) .nil)))))) (.not (.val (.bi .all (.cons c2_are_heads .nil))))) (.cons (.ret (.cst (.bl false))) .nil) .nil) (.cons (.ret (.and (.call 6 (.cons c1_are_heads .nil)) (.call 6 (.cons (.call 11 (.cons (.var 1) .nil)) .nil)))) .nil))
def f_are_heads : Fn := ⟨"are_heads", 2, ["places", "thing", "place", "slots", "head"], b_are_heads, false, none, false⟩
def i1_is_operand : SL := (.cons (.ret (.cmp .isn (.fld (.var 0) 7 1) (.cst .non))) .nil)
def i2_is_operand : SL := (.cons (.ret (.call 2 (.cons (.ix (.var 1) (.cst (.int 1))) .nil))) .nil)
def b_is_operand : SL := (.cons (.iff (.val (.call 5 (.cons (.var 1) (.cons (.cst (.int 2)) (.cons (.cst (.str [111, 102])) .nil))))) i2_is_operand .nil) (.cons (.iff (.val (.call 5 (.cons (.var 1) (.cons (.cst (.int 1)) (.cons (.cst (.str [111, 119, 110])) .nil))))) i1_is_operand .nil) (.cons (.ret (.and (.call 5 (.cons (.var 1) (.cons (.cst (.int 2)) (.cons (.cst (.str [105, 115])) .nil)))) (.call 3 (.cons (.ix (.var 1) (.cst (.int 1))) .nil)))) .nil)))
def f_is_operand : Fn := ⟨"is_operand", 2, ["scope", "thing"], b_is_operand, false, none, false⟩
def c1_are_given : E := .lc (.nam 4) (.seq (.var 1)) [4] .yes (.call 13 (.cons (.var 0) (.cons (.var 4) .nil)))
def b_are_given : SL := (.cons (.ret (.and (.call 4 (.cons (.var 1) (.cons (.var 2) (.cons (.var 3) .nil)))) (.bi .all (.cons c1_are_given .nil)))) .nil)
def f_are_given : Fn := ⟨"are_given", 4, ["scope", "thing", "low", "high", "one"], b_are_given, false, none, false⟩
def i1_is_own_deed : SL := (.cons (.ret (.and (.cmp .isin (.ix (.var 1) (.cst (.int 1))) (.fld (.var 0) 7 2)) (.call 13 (.cons (.var 0) (.cons (.ix (.var 1) (.cst (.int 2))) .nil))))) .nil)
def b_is_own_deed : SL := (.cons (.iff (.or (.cmp .is (.fld (.var 0) 7 1) (.cst .non)) (.not (.val (.call 2 (.cons (.ix (.var 1) (.cst (.int 1))) .nil))))) (.cons (.ret (.cst (.bl false))) .nil) .nil) (.cons (.iff (.cmp .eq (.ix (.var 1) (.cst (.int 0))) (.cst (.str [97, 110, 115, 119, 101, 114]))) i1_is_own_deed .nil) (.cons (.asg (.nam 2) (.get (.fld (.var 0) 7 1) (.ix (.var 1) (.cst (.int 1))))) (.cons (.ret (.and (.cmp .isn (.var 2) (.cst .non)) (.call 14 (.cons (.var 0) (.cons (.ix (.var 1) (.cst (.int 2))) (.cons (.var 2) (.cons (.var 2) .nil))))))) .nil))))
def f_is_own_deed : Fn := ⟨"is_own_deed", 2, ["scope", "thing", "many"], b_is_own_deed, false, none, false⟩
def i1_is_naming_deed : SL := (.cons (.ret (.and (.call 13 (.cons (.var 0) (.cons (.ix (.var 4) (.cst (.int 0))) .nil))) (.calld 14 (.cons (.var 0) (.cons (.ix (.var 4) (.cst (.int 1))) .nil)) [0, 3]))) .nil)
def i2_is_naming_deed : SL := (.cons (.ret (.and (.call 13 (.cons (.var 0) (.cons (.ix (.var 4) (.cst (.int 0))) .nil))) (.call 2 (.cons (.ix (.var 4) (.cst (.int 1))) .nil)))) .nil)
def i3_is_naming_deed : SL := (.cons (.ret (.and (.call 2 (.cons (.ix (.var 4) (.cst (.int 0))) .nil)) (.cmp .isin (.ix (.var 4) (.cst (.int 0))) (.fld (.var 0) 7 0)))) .nil)
def i4_is_naming_deed : SL := (.cons (.asg (.nam 5) (.and (.isi (.ix (.var 4) (.cst (.int 0))) [.str]) (.cmp .isin (.ix (.var 4) (.cst (.int 0))) (.glb 3)))) (.cons (.ret (.and (.var 5) (.and (.call 13 (.cons (.var 0) (.cons (.ix (.var 4) (.cst (.int 1))) .nil))) (.call 13 (.cons (.var 0) (.cons (.ix (.var 4) (.cst (.int 2))) .nil)))))) .nil))
def b_is_naming_deed : SL := (.cons (.asg (.star (.cons (.nam 2) (.cons (.nam 3) (.cons (.nam 4) .nil)))) (.var 1)) (.cons (.iff (.not (.val (.call 2 (.cons (.var 3) .nil)))) (.cons (.ret (.cst (.bl false))) .nil) .nil) (.cons (.iff (.cmp .eq (.var 2) (.cst (.str [108, 101, 116]))) i4_is_naming_deed .nil) (.cons (.iff (.cmp .eq (.var 2) (.cst (.str [109, 97, 107, 101]))) i3_is_naming_deed .nil) (.cons (.iff (.cmp .eq (.var 2) (.cst (.str [112, 108, 97, 99, 101]))) i2_is_naming_deed .nil) (.cons (.iff (.cmp .eq (.var 2) (.cst (.str [99, 97, 108, 108]))) i1_is_naming_deed .nil) (.cons (.ret (.call 13 (.cons (.var 0) (.cons (.ix (.var 4) (.cst (.int 0))) .nil)))) .nil)))))))
def f_is_naming_deed : Fn := ⟨"is_naming_deed", 2, ["scope", "thing", "word", "name", "rest", "good"], b_is_naming_deed, false, none, false⟩
def i1_is_deed : SL := (.cons (.ret (.and (.call 13 (.cons (.var 0) (.cons (.ix (.var 1) (.cst (.int 1))) .nil))) (.call 1 (.cons (.ix (.var 1) (.cst (.int 2))) (.cons (.cst (.int 1)) (.cons (.var 2) .nil)))))) .nil)
def i2_is_deed : SL := (.cons (.ret (.and (.call 13 (.cons (.var 0) (.cons (.ix (.var 1) (.cst (.int 1))) .nil))) (.calld 14 (.cons (.var 0) (.cons (.ix (.var 1) (.cst (.int 2))) .nil)) [0, 3]))) .nil)
def i3_is_deed : SL := (.cons (.ret (.call 13 (.cons (.var 0) (.cons (.ix (.var 1) (.cst (.int 1))) .nil)))) .nil)
def i4_is_deed : SL := (.cons (.ret (.call 15 (.cons (.var 0) (.cons (.var 1) .nil)))) .nil)
def b_is_deed : SL := (.cons (.iff (.or (.not (.val (.isi (.var 1) [.tup]))) (.or (.cmp .eq (.var 1) (.tup .nil)) (.not (.val (.isi (.ix (.var 1) (.cst (.int 0))) [.str]))))) (.cons (.ret (.cst (.bl false))) .nil) .nil) (.cons (.iff (.cmp .ne (.gget 0 [([115, 101, 116], 3), ([108, 101, 116], 5), ([110, 111, 116, 101], 2), ([109, 97, 107, 101], 3), ([112, 108, 97, 99, 101], 4), ([108, 97, 121], 3), ([112, 117, 116], 3), ([99, 97, 108, 108], 4), ([97, 110, 115, 119, 101, 114], 3), ([119, 104, 101, 110], 3)] (.ix (.var 1) (.cst (.int 0)))) (.bi .len (.cons (.var 1) .nil))) (.cons (.ret (.cst (.bl false))) .nil) .nil) (.cons (.iff (.cmp .isin (.ix (.var 1) (.cst (.int 0))) (.tup (.cons (.cst (.str [112, 117, 116])) (.cons (.cst (.str [97, 110, 115, 119, 101, 114])) .nil)))) i4_is_deed .nil) (.cons (.iff (.cmp .eq (.ix (.var 1) (.cst (.int 0))) (.cst (.str [110, 111, 116, 101]))) i3_is_deed .nil) (.cons (.iff (.cmp .eq (.ix (.var 1) (.cst (.int 0))) (.cst (.str [108, 97, 121]))) i2_is_deed .nil) (.cons (.iff (.cmp .eq (.ix (.var 1) (.cst (.int 0))) (.cst (.str [119, 104, 101, 110]))) i1_is_deed .nil) (.cons (.ret (.call 16 (.cons (.var 0) (.cons (.var 1) .nil)))) .nil)))))))
def f_is_deed : Fn := ⟨"is_deed", 3, ["scope", "thing", "behind"], b_is_deed, false, none, false⟩
def c1_wrong_deed : E := .lc (.tup (.cons (.nam 3) (.cons (.nam 4) .nil))) (.enu (.var 1)) [3, 4] (.not (.val (.call 17 (.cons (.var 0) (.cons (.var 4) (.cons (.bin .sub (.bin .sub (.bi .len (.cons (.var 1) .nil)) (.var 3)) (.cst (.int 1))) .nil)))))) (.var 3)
def b_wrong_deed : SL := (.cons (.asg (.nam 2) c1_wrong_deed) (.cons (.ret (.ife (.cmp .ne (.var 2) (.lst .nil)) (.ix (.var 2) (.cst (.int 0))) (.cst .non))) .nil))
def f_wrong_deed : Fn := ⟨"wrong_deed", 2, ["scope", "deeds", "wrong", "at", "deed"], b_wrong_deed, false, none, false⟩
def c1_look_at_kinds : E := .lc (.star (.cons (.nam 3) (.cons (.nam 4) .nil))) (.seq (.sl (.var 0) .none (.some (.var 1)))) [3, 4] .yes (.var 3)
def i1_look_at_kinds : SL := (.cons (.raiC 1 (.cons (.var 1) (.cons (.cst .non) (.cons (.cst .non) .nil)))) .nil)
def s1_look_at_kinds : SL := (.cons (.iff (.or (.not (.val (.call 8 (.cons (.var 2) .nil)))) (.cmp .isin (.ix (.var 2) (.cst (.int 0))) c1_look_at_kinds)) i1_look_at_kinds .nil) .nil)
def l1_look_at_kinds : S := .for_ (.tup (.cons (.nam 1) (.cons (.nam 2) .nil))) (.enu (.var 0)) s1_look_at_kinds
def b_look_at_kinds : SL := (.cons l1_look_at_kinds .nil)
def f_look_at_kinds : Fn := ⟨"look_at_kinds", 1, ["kinds", "number", "kind", "name", "rest"], b_look_at_kinds, false, none, false⟩
def i1_look_at_rules : SL := (.cons (.raiC 1 (.cons (.var 1) (.cons (.var 4) (.cons (.var 6) .nil)))) .nil)
def c1_look_at_rules : E := .lc (.tup (.cons (.nam 7) (.cons (.nam 8) .nil))) (.seq (.ix (.var 5) (.cst (.int 0)))) [7, 8] .yes (.var 7)
def i2_look_at_rules : SL := (.cons (.raiC 1 (.cons (.var 1) (.cons (.var 4) (.cons (.cst .non) .nil)))) .nil)
def s1_look_at_rules : SL := (.cons (.iff (.or (.not (.val (.call 4 (.cons (.var 5) (.cons (.cst (.int 2)) (.cons (.cst (.int 2)) .nil)))))) (.or (.not (.val (.call 12 (.cons (.var 3) (.cons (.ix (.var 5) (.cst (.int 0))) .nil))))) (.not (.val (.call 4 (.cons (.ix (.var 5) (.cst (.int 1))) (.cons (.cst (.int 0)) (.cons (.glb 10) .nil)))))))) i2_look_at_rules .nil) (.cons (.asg (.nam 6) (.call 18 (.cons (.new 7 50 (.cons (.var 0) (.cons (.var 3) (.cons c1_look_at_rules .nil)))) (.cons (.ix (.var 5) (.cst (.int 1))) .nil)))) (.cons (.iff (.cmp .isn (.var 6) (.cst .non)) i1_look_at_rules .nil) .nil)))
def l1_look_at_rules : S := .for_ (.tup (.cons (.nam 4) (.cons (.nam 5) .nil))) (.enu (.ix (.var 2) (.cst (.int 2)))) s1_look_at_rules
def b_look_at_rules : SL := (.cons (.asg (.nam 3) (.dct (.ix (.var 2) (.cst (.int 1))))) (.cons l1_look_at_rules .nil))
def f_look_at_rules : Fn := ⟨"look_at_rules", 3, ["names", "number", "kind", "places", "at", "rule", "wrong", "place", "slots"], b_look_at_rules, false, none, false⟩
def i1_look_at_program : SL := (.cons (.raiC 1 (.cons (.cst .non) (.cons (.cst .non) (.cons (.var 6) .nil)))) .nil)
def s1_look_at_program : SL := (.cons (.expr (.call 20 (.cons (.var 3) (.cons (.var 4) (.cons (.var 5) .nil))))) .nil)
def l1_look_at_program : S := .for_ (.tup (.cons (.nam 4) (.cons (.nam 5) .nil))) (.enu (.var 1)) s1_look_at_program
def c1_look_at_program : E := .lc (.nam 5) (.seq (.var 1)) [5] .yes (.ix (.var 5) (.cst (.int 0)))
def i2_look_at_program : SL := (.cons (.raiC 1 (.cons (.cst .non) (.cons (.cst .non) (.cons (.cst .non) .nil)))) .nil)
def i3_look_at_program : SL := (.cons (.raiC 1 (.cons (.cst .non) (.cons (.cst .non) (.cons (.cst .non) .nil)))) .nil)
def b_look_at_program : SL := (.cons (.iff (.or (.not (.val (.call 4 (.cons (.var 0) (.cons (.cst (.int 2)) (.cons (.cst (.int 2)) .nil)))))) (.not (.val (.call 4 (.cons (.ix (.var 0) (.cst (.int 0))) (.cons (.cst (.int 1)) (.cons (.glb 4) .nil))))))) i3_look_at_program .nil) (.cons (.asg (.tup (.cons (.nam 1) (.cons (.nam 2) .nil))) (.var 0)) (.cons (.iff (.not (.val (.call 4 (.cons (.var 2) (.cons (.cst (.int 0)) (.cons (.glb 5) .nil)))))) i2_look_at_program .nil) (.cons (.expr (.call 19 (.cons (.var 1) .nil))) (.cons (.asg (.nam 3) c1_look_at_program) (.cons l1_look_at_program (.cons (.asg (.nam 6) (.call 18 (.cons (.new 7 50 (.cons (.var 3) (.cons (.cst .non) (.cons (.lst .nil) .nil)))) (.cons (.var 2) .nil)))) (.cons (.iff (.cmp .isn (.var 6) (.cst .non)) i1_look_at_program .nil) .nil))))))))
def f_look_at_program : Fn := ⟨"look_at_program", 1, ["thing", "kinds", "main", "names", "number", "kind", "wrong"], b_look_at_program, false, none, false⟩
def t1_is_kind_alone : SL := (.cons (.expr (.call 21 (.cons (.tup (.cons (.tup (.cons (.var 0) .nil)) (.cons (.tup .nil) .nil))) .nil))) .nil)
def b_is_kind_alone : SL := (.cons (.tryc t1_is_kind_alone 1 [(0, false), (1, true), (2, false), (3, false), (4, false), (5, false), (6, false)] (.bl false)) (.cons (.ret (.cst (.bl true))) .nil))
def f_is_kind_alone : Fn := ⟨"is_kind_alone", 1, ["thing"], b_is_kind_alone, false, none, false⟩
def b_asked_by : SL := (.cons (.asg (.star (.cons (.nam 1) (.cons (.nam 2) .nil))) (.var 0)) (.cons (.ret (.ife (.cmp .eq (.var 1) (.cst (.str [112, 117, 116]))) (.bi .lst (.cons (.ix (.var 2) (.cst (.int 1))) .nil)) (.lst (.cons (.ix (.var 2) (.un .neg (.cst (.int 1)))) .nil)))) .nil))
def f_asked_by : Fn := ⟨"asked_by", 1, ["deed", "word", "rest"], b_asked_by, false, none, false⟩
def i1_asks_known : SL := (.cons (.asg (.sub (.var 2) (.ix (.var 3) (.cst (.int 1)))) (.cst (.bl true))) .nil)
def c1_asks_known : E := .lc (.nam 8) (.seq (.call 23 (.cons (.var 3) .nil))) [8] .yes (.sl (.bin .add (.var 8) (.tup (.cons (.cst .non) .nil))) .none (.some (.cst (.int 2))))
def c2_asks_known : E := .lc (.tup (.cons (.nam 6) (.cons (.nam 7) .nil))) (.seq c1_asks_known) [6, 7] .yes (.or (.cmp .ne (.var 6) (.cst (.str [111, 102]))) (.cmp .isin (.var 7) (.var 2)))
def s1_asks_known : SL := (.cons (.iff (.not (.val (.bi .all (.cons c2_asks_known .nil)))) (.cons (.ret (.cst (.bl false))) .nil) .nil) (.cons (.iff (.cmp .eq (.ix (.var 3) (.cst (.int 0))) (.cst (.str [115, 101, 116]))) i1_asks_known .nil) .nil))
def l1_asks_known : S := .for_ (.nam 3) (.seq (.var 1)) s1_asks_known
def c3_asks_known : E := .dc2 (.tup (.cons (.nam 4) (.cons (.nam 5) .nil))) (.seq (.var 0)) .yes (.tup (.cons (.nam 6) (.cons (.nam 7) .nil))) (.seq (.var 5)) (.cmp .eq (.var 6) (.cst (.str [97, 115]))) [4, 5, 6, 7] [6, 7] (.var 7) (.cst (.bl true))
def b_asks_known : SL := (.cons (.asg (.nam 2) c3_asks_known) (.cons l1_asks_known (.cons (.ret (.cst (.bl true))) .nil)))
def f_asks_known : Fn := ⟨"asks_known", 2, ["heads", "deeds", "known", "deed", "place", "slots", "word", "what", "one"], b_asks_known, false, none, false⟩
def c1_is_net_rule : E := .lc (.nam 7) (.seq (.var 2)) [7] .yes (.cmp .isin (.ix (.var 7) (.cst (.int 0))) (.glb 11))
def c2_is_net_rule : E := .lc2 (.tup (.cons (.nam 3) (.cons (.nam 4) .nil))) (.seq (.var 1)) .yes (.tup (.cons (.nam 5) (.cons (.nam 6) .nil))) (.seq (.var 4)) .yes [3, 4, 5, 6] [5, 6] (.cmp .eq (.var 5) (.cst (.str [105, 115])))
def b_is_net_rule : SL := (.cons (.asg (.tup (.cons (.nam 1) (.cons (.nam 2) .nil))) (.var 0)) (.cons (.iff (.val (.bi .any (.cons c2_is_net_rule .nil))) (.cons (.ret (.cst (.bl false))) .nil) .nil) (.cons (.ret (.and (.bi .all (.cons c1_is_net_rule .nil)) (.call 24 (.cons (.var 1) (.cons (.var 2) .nil))))) .nil)))
def f_is_net_rule : Fn := ⟨"is_net_rule", 1, ["rule", "heads", "deeds", "place", "slots", "word", "what", "deed"], b_is_net_rule, false, none, false⟩
def c1_is_net : E := .lc (.nam 1) (.seq (.ix (.var 0) (.cst (.int 2)))) [1] .yes (.call 25 (.cons (.var 1) .nil))
def b_is_net : SL := (.cons (.ret (.and (.call 22 (.cons (.var 0) .nil)) (.bi .all (.cons c1_is_net .nil)))) .nil)
def f_is_net : Fn := ⟨"is_net", 1, ["thing", "rule"], b_is_net, false, none, false⟩
def c1_look_at_marking : E := .lc (.nam 2) (.seq (.var 1)) [2] .yes (.and (.call 0 (.cons (.var 2) .nil)) (.cmp .ge (.var 2) (.cst (.int 0))))
def b_look_at_marking : SL := (.cons (.iff (.not (.val (.call 26 (.cons (.var 0) .nil)))) (.cons (.rai 3) .nil) .nil) (.cons (.iff (.or (.not (.val (.isi (.var 1) [.tup]))) (.cmp .ne (.bi .len (.cons (.var 1) .nil)) (.bi .len (.cons (.ix (.var 0) (.cst (.int 1))) .nil)))) (.cons (.rai 4) .nil) .nil) (.cons (.iff (.not (.val (.bi .all (.cons c1_look_at_marking .nil)))) (.cons (.rai 4) .nil) .nil) .nil)))
def f_look_at_marking : Fn := ⟨"look_at_marking", 2, ["net", "marking", "many"], b_look_at_marking, false, none, false⟩
def c1_can_by : E := .lc (.tup (.cons (.nam 9) (.cons (.nam 10) .nil))) (.seq (.var 7)) [9, 10] .yes (.cmp .gt (.ix (.var 2) (.var 9)) (.cst (.int 0)))
def c2_can_by : E := .lc (.tup (.cons (.nam 6) (.cons (.tup (.cons (.nam 7) (.cons (.nam 8) .nil))) .nil))) (.enu (.ix (.var 0) (.cst (.int 2)))) [6, 7, 8] (.val (.bi .all (.cons c1_can_by .nil))) (.var 6)
def c3_can_by : E := .dc (.tup (.cons (.tup (.cons (.nam 3) (.cons (.nam 4) .nil))) (.cons (.nam 5) .nil))) (.zips (.ix (.var 0) (.cst (.int 1))) (.var 1)) [3, 4, 5] .yes (.var 3) (.var 5)
def b_can_by : SL := (.cons (.asg (.nam 2) c3_can_by) (.cons (.ret c2_can_by) .nil))
def f_can_by : Fn := ⟨"can_by", 2, ["net", "marking", "many", "word", "things", "here", "rule", "heads", "deeds", "place", "slots"], b_can_by, false, none, false⟩
def c1_behind_by : E := .lc (.tup (.cons (.nam 9) (.cons (.nam 10) .nil))) (.seq (.ix (.var 0) (.cst (.int 1)))) [9, 10] .yes (.ix (.var 5) (.var 9))
def i1_behind_by : SL := (.cons (.augs (.var 5) (.ix (.var 8) (.cst (.int 1))) .add (.cst (.int 1))) .nil)
def s1_behind_by : SL := (.cons (.iff (.cmp .eq (.ix (.var 8) (.cst (.int 0))) (.cst (.str [112, 117, 116]))) i1_behind_by .nil) .nil)
def l1_behind_by : S := .for_ (.nam 8) (.seq (.var 4)) s1_behind_by
def s2_behind_by : SL := (.cons (.augs (.var 5) (.var 6) .sub (.cst (.int 1))) .nil)
def l2_behind_by : S := .for_ (.tup (.cons (.nam 6) (.cons (.nam 7) .nil))) (.seq (.var 3)) s2_behind_by
def c2_behind_by : E := .dc (.tup (.cons (.tup (.cons (.nam 9) (.cons (.nam 10) .nil))) (.cons (.nam 11) .nil))) (.zips (.ix (.var 0) (.cst (.int 1))) (.var 1)) [9, 10, 11] .yes (.var 9) (.var 11)
def b_behind_by : SL := (.cons (.asg (.tup (.cons (.nam 3) (.cons (.nam 4) .nil))) (.ix (.ix (.var 0) (.cst (.int 2))) (.var 2))) (.cons (.asg (.nam 5) c2_behind_by) (.cons l2_behind_by (.cons l1_behind_by (.cons (.ret (.bi .tup (.cons c1_behind_by .nil))) .nil)))))
def f_behind_by : Fn := ⟨"behind_by", 3, ["net", "marking", "rule", "heads", "deeds", "many", "place", "slots", "deed", "word", "things", "here"], b_behind_by, false, none, false⟩
def b_can : SL := (.cons (.expr (.call 27 (.cons (.var 0) (.cons (.var 1) .nil)))) (.cons (.ret (.call 28 (.cons (.var 0) (.cons (.var 1) .nil)))) .nil))
def f_can : Fn := ⟨"can", 2, ["net", "marking"], b_can, false, none, false⟩
def b_behind : SL := (.cons (.expr (.call 27 (.cons (.var 0) (.cons (.var 1) .nil)))) (.cons (.iff (.or (.not (.val (.call 0 (.cons (.var 2) .nil)))) (.cmp .nin (.var 2) (.call 28 (.cons (.var 0) (.cons (.var 1) .nil))))) (.cons .bad .nil) .nil) (.cons (.ret (.call 29 (.cons (.var 0) (.cons (.var 1) (.cons (.var 2) .nil))))) .nil)))
def f_behind : Fn := ⟨"behind", 3, ["net", "marking", "rule"], b_behind, false, none, false⟩
def c1_is_within : E := .lc (.tup (.cons (.nam 2) (.cons (.nam 3) .nil))) (.zips (.var 0) (.var 1)) [2, 3] .yes (.cmp .le (.var 2) (.var 3))
def b_is_within : SL := (.cons (.ret (.bi .all (.cons c1_is_within .nil))) .nil)
def f_is_within : Fn := ⟨"is_within", 2, ["one", "other", "here", "there"], b_is_within, false, none, false⟩
def b_holds : SL := (.cons (.expr (.call 27 (.cons (.var 0) (.cons (.var 1) .nil)))) (.cons (.iff (.or (.not (.val (.call 0 (.cons (.var 2) .nil)))) (.not (.chn .le .le (.cst (.int 1)) (.var 2) (.glb 12)))) (.cons (.rai 2) .nil) .nil) (.cons (.asg (.nam 3) (.new 8 51 (.cons (.var 0) (.cons (.var 1) (.cons (.var 2) .nil))))) (.cons (.ret (.mc (.var 3) "gone" [(8, 56)] .nil)) .nil))))
def f_holds : Fn := ⟨"holds", 3, ["net", "marking", "most", "going"], b_holds, false, none, true⟩
def c1_is_marking : E := .lc (.nam 2) (.seq (.var 1)) [2] .yes (.and (.call 0 (.cons (.var 2) .nil)) (.cmp .ge (.var 2) (.cst (.int 0))))
def b_is_marking : SL := (.cons (.iff (.or (.not (.val (.isi (.var 1) [.tup]))) (.cmp .ne (.bi .len (.cons (.var 1) .nil)) (.bi .len (.cons (.ix (.var 0) (.cst (.int 1))) .nil)))) (.cons (.ret (.cst (.bl false))) .nil) .nil) (.cons (.ret (.bi .all (.cons c1_is_marking .nil))) .nil))
def f_is_marking : Fn := ⟨"is_marking", 2, ["net", "thing", "many"], b_is_marking, false, none, false⟩
def c1_lets_closed : E := .lc2 (.nam 4) (.seq (.var 2)) .yes (.nam 5) (.seq (.call 28 (.cons (.var 0) (.cons (.var 4) .nil)))) .yes [4, 5] [5] (.cmp .isin (.call 29 (.cons (.var 0) (.cons (.var 4) (.cons (.var 5) .nil)))) (.var 3))
def c2_lets_closed : E := .dc (.nam 4) (.seq (.var 2)) [4] .yes (.var 4) (.cst (.bl true))
def c3_lets_closed : E := .lc (.nam 4) (.seq (.var 2)) [4] .yes (.call 34 (.cons (.var 0) (.cons (.var 4) .nil)))
def b_lets_closed : SL := (.cons (.iff (.or (.not (.val (.isi (.var 2) [.lst]))) (.not (.val (.bi .all (.cons c3_lets_closed .nil))))) (.cons (.ret (.cst (.bl false))) .nil) .nil) (.cons (.asg (.nam 3) c2_lets_closed) (.cons (.iff (.or (.cmp .lt (.bi .len (.cons (.var 3) .nil)) (.bi .len (.cons (.var 2) .nil))) (.cmp .nin (.var 1) (.var 3))) (.cons (.ret (.cst (.bl false))) .nil) .nil) (.cons (.ret (.bi .all (.cons c1_lets_closed .nil))) .nil))))
def f_lets_closed : Fn := ⟨"lets_closed", 3, ["net", "marking", "thing", "there", "one", "rule"], b_lets_closed, false, none, false⟩
def s1_led_by : SL := (.cons (.iff (.or (.not (.val (.call 0 (.cons (.var 3) .nil)))) (.cmp .nin (.var 3) (.call 28 (.cons (.var 0) (.cons (.var 1) .nil))))) (.cons (.ret (.cst .non)) .nil) .nil) (.cons (.asg (.nam 1) (.call 29 (.cons (.var 0) (.cons (.var 1) (.cons (.var 3) .nil))))) .nil))
def l1_led_by : S := .for_ (.nam 3) (.seq (.var 2)) s1_led_by
def b_led_by : SL := (.cons (.iff (.not (.val (.isi (.var 2) [.lst]))) (.cons (.ret (.cst .non)) .nil) .nil) (.cons l1_led_by (.cons (.ret (.var 1)) .nil)))
def f_led_by : Fn := ⟨"led_by", 3, ["net", "marking", "rules", "rule"], b_led_by, false, none, false⟩
def b_lets_grows : SL := (.cons (.asg (.nam 4) (.call 36 (.cons (.var 0) (.cons (.var 1) (.cons (.var 2) .nil))))) (.cons (.iff (.or (.cmp .is (.var 4) (.cst .non)) (.cmp .eq (.var 3) (.lst .nil))) (.cons (.ret (.cst (.bl false))) .nil) .nil) (.cons (.asg (.nam 5) (.call 36 (.cons (.var 0) (.cons (.var 4) (.cons (.var 3) .nil))))) (.cons (.ret (.and (.cmp .isn (.var 5) (.cst .non)) (.and (.cmp .ne (.var 5) (.var 4)) (.call 32 (.cons (.var 4) (.cons (.var 5) .nil)))))) .nil))))
def f_lets_grows : Fn := ⟨"lets_grows", 4, ["net", "marking", "stem", "lap", "begin", "end"], b_lets_grows, false, none, false⟩
def i1_lets_holds : SL := (.cons (.ret (.and (.cmp .eq (.ix (.var 2) (.cst (.int 0))) (.cst (.str [99, 108, 111, 115, 101, 100]))) (.call 35 (.cons (.var 0) (.cons (.var 1) (.cons (.ix (.var 2) (.cst (.int 1))) .nil)))))) .nil)
def b_lets_holds : SL := (.cons (.expr (.call 27 (.cons (.var 0) (.cons (.var 1) .nil)))) (.cons (.iff (.or (.not (.val (.isi (.var 2) [.tup]))) (.or (.cmp .nin (.bi .len (.cons (.var 2) .nil)) (.tup (.cons (.cst (.int 2)) (.cons (.cst (.int 3)) .nil)))) (.not (.val (.isi (.ix (.var 2) (.cst (.int 0))) [.str]))))) (.cons (.ret (.cst (.bl false))) .nil) .nil) (.cons (.iff (.cmp .eq (.bi .len (.cons (.var 2) .nil)) (.cst (.int 2))) i1_lets_holds .nil) (.cons (.ret (.and (.cmp .eq (.ix (.var 2) (.cst (.int 0))) (.cst (.str [103, 114, 111, 119, 115]))) (.call 37 (.cons (.var 0) (.cons (.var 1) (.cons (.ix (.var 2) (.cst (.int 1))) (.cons (.ix (.var 2) (.cst (.int 2))) .nil))))))) .nil))))
def f_lets_holds : Fn := ⟨"lets_holds", 3, ["net", "marking", "thing"], b_lets_holds, false, none, false⟩
def b_l_pool : SL := (.cons (.asg (.nam 2) (.ix (.bin .add (.sl (.var 0) (.some (.var 1)) (.some (.bin .add (.var 1) (.cst (.int 1))))) (.lst (.cons (.cst (.int 0)) .nil))) (.cst (.int 0)))) (.cons (.asg (.nam 3) (.bi .max2 (.cons (.var 2) (.cons (.bin .sub (.un .neg (.cst (.int 1))) (.var 2)) .nil)))) (.cons (.asg (.nam 4) (.bin .mod (.bin .mul (.bin .add (.bin .add (.bin .mod (.var 3) (.cst (.int 2147483629))) (.bin .mul (.cst (.int 7919)) (.var 1))) (.cst (.int 1))) (.cst (.int 48271))) (.cst (.int 2147483647)))) (.cons (.ret (.lst (.cons (.bin .mul (.var 3) (.bi .int (.cons (.cmp .ge (.var 3) (.bin .pow (.cst (.int 10)) (.cst (.int 18)))) .nil))) (.cons (.var 4) .nil)))) .nil))))
def f_l_pool : Fn := ⟨"_law_pool", 2, ["_law_script", "_law_k", "_law_cell", "_law_size", "_law_seed"], b_l_pool, false, none, false⟩
def i1_l_take : SL := (.cons (.asg (.nam 2) (.bin .mod (.ix (.var 0) (.cst (.int 0))) (.var 1))) (.cons (.asg (.sub (.var 0) (.cst (.int 0))) (.bin .div (.ix (.var 0) (.cst (.int 0))) (.var 1))) (.cons (.ret (.var 2)) .nil)))
def b_l_take : SL := (.cons (.iff (.cmp .gt (.ix (.var 0) (.cst (.int 0))) (.cst (.int 0))) i1_l_take .nil) (.cons (.asg (.sub (.var 0) (.cst (.int 1))) (.bin .mod (.bin .add (.bin .mul (.ix (.var 0) (.cst (.int 1))) (.cst (.int 48271))) (.cst (.int 11))) (.cst (.int 2147483647)))) (.cons (.ret (.bin .mod (.bin .div (.bin .mod (.bin .mul (.ix (.var 0) (.cst (.int 1))) (.ix (.var 0) (.cst (.int 1)))) (.cst (.int 2147483629))) (.cst (.int 64))) (.var 1))) .nil)))
def f_l_take : Fn := ⟨"_law_take", 2, ["_law_pool_here", "_law_many", "_law_found"], b_l_take, false, none, false⟩
def b_l_one : SL := (.cons (.ret (.ix (.var 1) (.call 40 (.cons (.var 0) (.cons (.bi .len (.cons (.var 1) .nil)) .nil))))) .nil)
def f_l_one : Fn := ⟨"_law_one", 2, ["_law_pool_here", "_law_some"], b_l_one, false, none, false⟩
def c1_l_rule : E := .lc (.nam 2) (.seq (.var 1)) [2] .yes (.tup (.cons (.cst (.str [112, 117, 116])) (.cons (.var 2) (.cons (.tup .nil) .nil))))
def c2_l_rule : E := .lc (.nam 2) (.seq (.var 0)) [2] .yes (.tup (.cons (.var 2) (.cons (.tup .nil) .nil)))
def b_l_rule : SL := (.cons (.ret (.tup (.cons (.bi .tup (.cons c2_l_rule .nil)) (.cons (.bi .tup (.cons c1_l_rule .nil)) .nil)))) .nil)
def f_l_rule : Fn := ⟨"_law_rule", 2, ["_law_heads", "_law_puts", "_law_place"], b_l_rule, false, none, false⟩
def c1_l_kind : E := .lc (.tup (.cons (.nam 3) (.cons (.nam 4) .nil))) (.seq (.var 1)) [3, 4] .yes (.call 42 (.cons (.var 3) (.cons (.var 4) .nil)))
def c2_l_kind : E := .lc (.nam 2) (.seq (.var 0)) [2] .yes (.tup (.cons (.var 2) (.cons (.cst (.int 0)) .nil)))
def b_l_kind : SL := (.cons (.ret (.tup (.cons (.cst (.str [110, 101, 116])) (.cons (.bi .tup (.cons c2_l_kind .nil)) (.cons (.bi .tup (.cons c1_l_kind .nil)) .nil))))) .nil)
def f_l_kind : Fn := ⟨"_law_kind", 2, ["_law_words", "_law_rules", "_law_word", "_law_heads", "_law_puts"], b_l_kind, false, none, false⟩
def c1_l_steps_right : E := .lc (.nam 7) (.rng (.cons (.bin .add (.var 1) (.cst (.int 1))) .nil)) [7] .yes (.tup (.cons (.var 7) .nil))
def c2_l_steps_right : E := .lc (.nam 7) (.rng (.cons (.bin .add (.var 1) (.cst (.int 1))) .nil)) [7] .yes (.tup (.cons (.var 7) (.cons (.bin .sub (.var 1) (.var 7)) .nil)))
def b_l_steps_right : SL := (.cons (.asg (.tup (.cons (.nam 2) (.cons (.nam 3) .nil))) (.sl (.var 0) .none (.some (.cst (.int 2))))) (.cons (.asg (.nam 4) (.call 43 (.cons (.lst (.cons (.var 2) (.cons (.var 3) .nil))) (.cons (.lst (.cons (.tup (.cons (.lst (.cons (.var 2) .nil)) (.cons (.lst (.cons (.var 3) .nil)) .nil))) (.cons (.tup (.cons (.lst (.cons (.var 3) .nil)) (.cons (.lst (.cons (.var 2) .nil)) .nil))) .nil))) .nil)))) (.cons (.asg (.nam 5) c2_l_steps_right) (.cons (.iff (.or (.cmp .ne (.calld 33 (.cons (.var 4) (.cons (.tup (.cons (.var 1) (.cons (.cst (.int 0)) .nil))) .nil)) [500]) (.tup (.cons (.cst (.str [99, 108, 111, 115, 101, 100])) (.cons (.var 5) .nil)))) (.cmp .ne (.calld 33 (.cons (.var 4) (.cons (.tup (.cons (.cst (.int 0)) (.cons (.var 1) .nil))) .nil)) [500]) (.tup (.cons (.cst (.str [99, 108, 111, 115, 101, 100])) (.cons (.var 5) .nil))))) (.cons (.ret (.cst (.bl false))) .nil) .nil) (.cons (.asg (.nam 6) (.call 43 (.cons (.lst (.cons (.var 2) .nil)) (.cons (.lst (.cons (.tup (.cons (.lst (.cons (.var 2) .nil)) (.cons (.lst .nil) .nil))) .nil)) .nil)))) (.cons (.iff (.cmp .ne (.calld 33 (.cons (.var 6) (.cons (.tup (.cons (.var 1) .nil)) .nil)) [500]) (.tup (.cons (.cst (.str [99, 108, 111, 115, 101, 100])) (.cons c1_l_steps_right .nil)))) (.cons (.ret (.cst (.bl false))) .nil) .nil) (.cons (.ret (.and (.cmp .eq (.call 30 (.cons (.var 6) (.cons (.tup (.cons (.cst (.int 0)) .nil)) .nil))) (.lst .nil)) (.cmp .eq (.call 31 (.cons (.var 6) (.cons (.tup (.cons (.var 1) .nil)) (.cons (.cst (.int 0)) .nil)))) (.tup (.cons (.bin .sub (.var 1) (.cst (.int 1))) .nil))))) .nil)))))))
def f_l_steps_right : Fn := ⟨"_law_steps_right", 2, ["_law_words", "_law_many", "_law_one_here", "_law_two", "_law_to_and_fro", "_law_due", "_law_taker", "_law_number"], b_l_steps_right, false, none, false⟩
def c1_l_locks_right : E := .lc (.nam 7) (.rng (.cons (.bin .add (.var 1) (.cst (.int 1))) .nil)) [7] .yes (.tup (.cons (.cst (.int 1)) (.cons (.var 7) (.cons (.cst (.int 0)) .nil))))
def c2_l_locks_right : E := .lc (.nam 7) (.rng (.cons (.var 1) .nil)) [7] .yes (.tup (.cons (.cst (.int 0)) (.cons (.var 7) (.cons (.cst (.int 1)) .nil))))
def b_l_locks_right : SL := (.cons (.asg (.tup (.cons (.nam 2) (.cons (.nam 3) (.cons (.nam 4) .nil)))) (.sl (.var 0) .none (.some (.cst (.int 3))))) (.cons (.asg (.nam 5) (.call 43 (.cons (.lst (.cons (.var 2) (.cons (.var 3) (.cons (.var 4) .nil)))) (.cons (.lst (.cons (.tup (.cons (.lst (.cons (.var 3) (.cons (.var 2) .nil))) (.cons (.lst (.cons (.var 4) .nil)) .nil))) (.cons (.tup (.cons (.lst (.cons (.var 4) .nil)) (.cons (.lst (.cons (.var 2) .nil)) .nil))) .nil))) .nil)))) (.cons (.asg (.nam 6) (.bin .add c1_l_locks_right c2_l_locks_right)) (.cons (.ret (.and (.cmp .eq (.calld 33 (.cons (.var 5) (.cons (.tup (.cons (.cst (.int 1)) (.cons (.var 1) (.cons (.cst (.int 0)) .nil)))) .nil)) [500]) (.tup (.cons (.cst (.str [99, 108, 111, 115, 101, 100])) (.cons (.bi .srt (.cons (.var 6) .nil)) .nil)))) (.cmp .is (.call 26 (.cons (.var 5) .nil)) (.cst (.bl true))))) .nil))))
def f_l_locks_right : Fn := ⟨"_law_locks_right", 2, ["_law_words", "_law_many", "_law_free", "_law_take_here", "_law_held", "_law_lock", "_law_found", "_law_left"], b_l_locks_right, false, none, false⟩
def c1_l_six_right : E := .lc (.nam 4) (.rng (.cons (.cst (.int 6)) .nil)) [4] .yes (.bin .add (.bin .add (.bin .mul (.tup (.cons (.cst (.int 0)) .nil)) (.var 4)) (.tup (.cons (.cst (.int 1)) .nil))) (.bin .mul (.tup (.cons (.cst (.int 0)) .nil)) (.bin .sub (.cst (.int 5)) (.var 4))))
def c2_l_six_right : E := .lc (.nam 4) (.rng (.cons (.cst (.int 6)) .nil)) [4] .yes (.tup (.cons (.lst (.cons (.ix (.var 0) (.var 4)) .nil)) (.cons (.lst (.cons (.ix (.var 0) (.bin .mod (.bin .add (.var 4) (.cst (.int 1))) (.cst (.int 6)))) .nil)) .nil)))
def b_l_six_right : SL := (.cons (.asg (.nam 0) (.lst (.cons (.cst (.str [97])) (.cons (.cst (.str [98])) (.cons (.cst (.str [99])) (.cons (.cst (.str [100])) (.cons (.cst (.str [101])) (.cons (.cst (.str [102])) .nil)))))))) (.cons (.asg (.nam 1) c2_l_six_right) (.cons (.asg (.nam 2) (.bi .srt (.cons c1_l_six_right .nil))) (.cons (.asg (.nam 3) (.call 43 (.cons (.var 0) (.cons (.bin .add (.var 1) (.lst (.cons (.tup (.cons (.sl (.var 0) .none (.some (.cst (.int 4)))) (.cons (.sl (.var 0) (.some (.cst (.int 2))) (.some (.cst (.int 5)))) .nil))) (.cons (.tup (.cons (.sl (.var 0) (.some (.cst (.int 1))) (.some (.cst (.int 2)))) (.cons (.lst .nil) .nil))) .nil)))) .nil)))) (.cons (.ret (.cmp .eq (.calld 33 (.cons (.var 3) (.cons (.tup (.cons (.cst (.int 1)) (.cons (.cst (.int 0)) (.cons (.cst (.int 0)) (.cons (.cst (.int 0)) (.cons (.cst (.int 0)) (.cons (.cst (.int 0)) .nil))))))) .nil)) [500]) (.tup (.cons (.cst (.str [99, 108, 111, 115, 101, 100])) (.cons (.bi .srt (.cons (.bin .add (.var 2) (.lst (.cons (.bin .mul (.tup (.cons (.cst (.int 0)) .nil)) (.cst (.int 6))) .nil))) .nil)) .nil))))) .nil)))))
def f_l_six_right : Fn := ⟨"_law_six_right", 0, ["_law_words", "_law_rules", "_law_due", "_law_ring", "_law_at"], b_l_six_right, false, none, false⟩
def b_l_growing_right : SL := (.cons (.asg (.tup (.cons (.nam 2) (.cons (.nam 3) .nil))) (.sl (.var 0) .none (.some (.cst (.int 2))))) (.cons (.asg (.nam 4) (.call 43 (.cons (.lst (.cons (.var 2) .nil)) (.cons (.lst (.cons (.tup (.cons (.lst (.cons (.var 2) .nil)) (.cons (.lst (.cons (.var 2) (.cons (.var 2) .nil))) .nil))) .nil)) .nil)))) (.cons (.asg (.nam 5) (.calld 33 (.cons (.var 4) (.cons (.tup (.cons (.var 1) .nil)) .nil)) [500])) (.cons (.iff (.or (.cmp .ne (.ix (.var 5) (.cst (.int 0))) (.cst (.str [103, 114, 111, 119, 115]))) (.cmp .isn (.call 38 (.cons (.var 4) (.cons (.tup (.cons (.var 1) .nil)) (.cons (.tup (.cons (.cst (.str [103, 114, 111, 119, 115])) (.cons (.lst .nil) (.cons (.lst (.cons (.cst (.int 0)) .nil)) .nil)))) .nil)))) (.cst (.bl true)))) (.cons (.ret (.cst (.bl false))) .nil) .nil) (.cons (.iff (.or (.cmp .isn (.call 38 (.cons (.var 4) (.cons (.tup (.cons (.cst (.int 0)) .nil)) (.cons (.tup (.cons (.cst (.str [103, 114, 111, 119, 115])) (.cons (.lst .nil) (.cons (.lst (.cons (.cst (.int 0)) .nil)) .nil)))) .nil)))) (.cst (.bl false))) (.cmp .ne (.calld 33 (.cons (.var 4) (.cons (.tup (.cons (.cst (.int 0)) .nil)) .nil)) [500]) (.tup (.cons (.cst (.str [99, 108, 111, 115, 101, 100])) (.cons (.lst (.cons (.tup (.cons (.cst (.int 0)) .nil)) .nil)) .nil))))) (.cons (.ret (.cst (.bl false))) .nil) .nil) (.cons (.asg (.nam 6) (.call 43 (.cons (.lst (.cons (.var 2) .nil)) (.cons (.lst (.cons (.tup (.cons (.lst (.cons (.var 2) .nil)) (.cons (.lst (.cons (.var 2) .nil)) .nil))) .nil)) .nil)))) (.cons (.iff (.or (.cmp .isn (.call 38 (.cons (.var 6) (.cons (.tup (.cons (.var 1) .nil)) (.cons (.tup (.cons (.cst (.str [103, 114, 111, 119, 115])) (.cons (.lst .nil) (.cons (.lst (.cons (.cst (.int 0)) .nil)) .nil)))) .nil)))) (.cst (.bl false))) (.cmp .ne (.calld 33 (.cons (.var 6) (.cons (.tup (.cons (.var 1) .nil)) .nil)) [500]) (.tup (.cons (.cst (.str [99, 108, 111, 115, 101, 100])) (.cons (.lst (.cons (.tup (.cons (.var 1) .nil)) .nil)) .nil))))) (.cons (.ret (.cst (.bl false))) .nil) .nil) (.cons (.asg (.nam 7) (.call 43 (.cons (.lst (.cons (.var 2) (.cons (.var 3) .nil))) (.cons (.lst (.cons (.tup (.cons (.lst (.cons (.var 2) .nil)) (.cons (.lst (.cons (.var 3) .nil)) .nil))) (.cons (.tup (.cons (.lst (.cons (.var 3) .nil)) (.cons (.lst (.cons (.var 2) (.cons (.var 3) .nil))) .nil))) .nil))) .nil)))) (.cons (.iff (.cmp .isn (.call 38 (.cons (.var 7) (.cons (.tup (.cons (.var 1) (.cons (.cst (.int 0)) .nil))) (.cons (.tup (.cons (.cst (.str [103, 114, 111, 119, 115])) (.cons (.lst (.cons (.cst (.int 0)) .nil)) (.cons (.lst (.cons (.cst (.int 1)) .nil)) .nil)))) .nil)))) (.cst (.bl true))) (.cons (.ret (.cst (.bl false))) .nil) .nil) (.cons (.ret (.and (.cmp .is (.call 38 (.cons (.var 7) (.cons (.tup (.cons (.var 1) (.cons (.cst (.int 0)) .nil))) (.cons (.tup (.cons (.cst (.str [103, 114, 111, 119, 115])) (.cons (.lst .nil) (.cons (.lst (.cons (.cst (.int 0)) .nil)) .nil)))) .nil)))) (.cst (.bl false))) (.cmp .eq (.ix (.calld 33 (.cons (.var 7) (.cons (.tup (.cons (.var 1) (.cons (.cst (.int 0)) .nil))) .nil)) [500]) (.cst (.int 0))) (.cst (.str [103, 114, 111, 119, 115]))))) .nil))))))))))
def f_l_growing_right : Fn := ⟨"_law_growing_right", 2, ["_law_words", "_law_many", "_law_one_here", "_law_two", "_law_doubles", "_law_told", "_law_same", "_law_slow"], b_l_growing_right, false, none, false⟩
def b_l_later_right : SL := (.cons (.asg (.nam 0) (.call 43 (.cons (.lst (.cons (.cst (.str [97])) (.cons (.cst (.str [98])) .nil))) (.cons (.lst (.cons (.tup (.cons (.lst (.cons (.cst (.str [97])) .nil)) (.cons (.lst (.cons (.cst (.str [98])) .nil)) .nil))) (.cons (.tup (.cons (.lst (.cons (.cst (.str [98])) .nil)) (.cons (.lst (.cons (.cst (.str [98])) (.cons (.cst (.str [98])) .nil))) .nil))) .nil))) .nil)))) (.cons (.iff (.or (.cmp .isn (.call 38 (.cons (.var 0) (.cons (.tup (.cons (.cst (.int 1)) (.cons (.cst (.int 0)) .nil))) (.cons (.tup (.cons (.cst (.str [103, 114, 111, 119, 115])) (.cons (.lst (.cons (.cst (.int 0)) .nil)) (.cons (.lst (.cons (.cst (.int 1)) .nil)) .nil)))) .nil)))) (.cst (.bl true))) (.cmp .ne (.ix (.calld 33 (.cons (.var 0) (.cons (.tup (.cons (.cst (.int 1)) (.cons (.cst (.int 0)) .nil))) .nil)) [500]) (.cst (.int 0))) (.cst (.str [103, 114, 111, 119, 115])))) (.cons (.ret (.cst (.bl false))) .nil) .nil) (.cons (.ret (.cmp .eq (.calld 33 (.cons (.var 0) (.cons (.tup (.cons (.cst (.int 0)) (.cons (.cst (.int 0)) .nil))) .nil)) [500]) (.tup (.cons (.cst (.str [99, 108, 111, 115, 101, 100])) (.cons (.lst (.cons (.tup (.cons (.cst (.int 0)) (.cons (.cst (.int 0)) .nil))) .nil)) .nil))))) .nil)))
def f_l_later_right : Fn := ⟨"_law_later_right", 0, ["_law_net"], b_l_later_right, false, none, false⟩
def s1_law : SL := (.cons (.asg (.nam 2) (.call 39 (.cons (.var 0) (.cons (.var 1) .nil)))) (.cons (.asg (.nam 3) (.call 41 (.cons (.var 2) (.cons (.lst (.cons (.lst (.cons (.cst (.str [97])) (.cons (.cst (.str [98])) (.cons (.cst (.str [99])) .nil)))) (.cons (.lst (.cons (.cst (.str [99])) (.cons (.cst (.str [98])) (.cons (.cst (.str [97])) .nil)))) (.cons (.lst (.cons (.cst (.str [102, 114, 101, 101])) (.cons (.cst (.str [116, 97, 107, 101])) (.cons (.cst (.str [104, 101, 108, 100])) .nil)))) (.cons (.lst (.cons (.cst (.str [122, 122])) (.cons (.cst (.str [97])) (.cons (.cst (.str [108, 111, 116])) .nil)))) .nil))))) .nil)))) (.cons (.asg (.nam 4) (.bin .add (.cst (.int 1)) (.call 40 (.cons (.var 2) (.cons (.cst (.int 6)) .nil))))) (.cons (.iff (.or (.not (.val (.call 44 (.cons (.var 3) (.cons (.var 4) .nil))))) (.not (.val (.call 45 (.cons (.var 3) (.cons (.var 4) .nil)))))) (.cons (.ret (.cst (.bl false))) .nil) .nil) (.cons (.iff (.not (.val (.call 47 (.cons (.var 3) (.cons (.var 4) .nil))))) (.cons (.ret (.cst (.bl false))) .nil) .nil) .nil)))))
def l1_law : S := .for_ (.nam 1) (.rng (.cons (.bi .max2 (.cons (.cst (.int 1)) (.cons (.bi .min2 (.cons (.bi .len (.cons (.var 0) .nil)) (.cons (.cst (.int 10)) .nil))) .nil))) .nil)) s1_law
def b_law : SL := (.cons (.iff (.or (.not (.val (.call 46 .nil))) (.not (.val (.call 48 .nil)))) (.cons (.ret (.cst (.bl false))) .nil) .nil) (.cons l1_law (.cons (.ret (.cst (.bl true))) .nil)))
def f_law : Fn := ⟨"law", 1, ["_law_script", "_law_k", "_law_pool_here", "_law_words", "_law_many"], b_law, false, none, false⟩
def b_Scope_init : SL := (.cons (.asg (.fld (.var 0) 7 0) (.var 1)) (.cons (.asg (.fld (.var 0) 7 1) (.var 2)) (.cons (.asg (.fld (.var 0) 7 2) (.var 3)) .nil)))
def f_Scope_init : Fn := ⟨"__init__", 4, ["self", "kinds", "places", "heads"], b_Scope_init, true, some (7, "__init__"), false⟩
def b_Going_init : SL := (.cons (.asg (.fld (.var 0) 8 0) (.var 1)) (.cons (.asg (.fld (.var 0) 8 1) (.var 3)) (.cons (.asg (.fld (.var 0) 8 2) (.lst (.cons (.var 2) .nil))) (.cons (.asg (.fld (.var 0) 8 3) (.dicT (.var 2) (.cst (.bl true)))) (.cons (.asg (.fld (.var 0) 8 4) (.lst (.cons (.cst .non) .nil))) .nil)))))
def f_Going_init : Fn := ⟨"__init__", 4, ["self", "net", "marking", "most"], b_Going_init, true, some (8, "__init__"), false⟩
def s1_Going_way_to : SL := (.cons (.expr (.mth .append (.var 2) (.cons (.ix (.ix (.fld (.var 0) 8 4) (.ix (.var 2) (.un .neg (.cst (.int 1))))) (.cst (.int 0))) .nil))) .nil)
def l1_Going_way_to : S := .whl (.cmp .isn (.ix (.fld (.var 0) 8 4) (.ix (.var 2) (.un .neg (.cst (.int 1))))) (.cst .non)) s1_Going_way_to
def b_Going_way_to : SL := (.cons (.asg (.nam 2) (.lst (.cons (.var 1) .nil))) (.cons l1_Going_way_to (.cons (.ret (.rev (.var 2))) .nil)))
def f_Going_way_to : Fn := ⟨"way_to", 2, ["self", "at", "found"], b_Going_way_to, false, some (8, "way_to"), false⟩
def c1_Going_rules_on : E := .lc (.nam 2) (.seq (.sl (.var 1) (.some (.cst (.int 1))) .none)) [2] .yes (.ix (.ix (.fld (.var 0) 8 4) (.var 2)) (.cst (.int 1)))
def b_Going_rules_on : SL := (.cons (.ret c1_Going_rules_on) .nil)
def f_Going_rules_on : Fn := ⟨"rules_on", 2, ["self", "way", "at"], b_Going_rules_on, false, some (8, "rules_on"), false⟩
def i1_Going_grown : SL := (.cons (.ret (.tup (.cons (.cst (.str [103, 114, 111, 119, 115])) (.cons (.mc (.var 0) "rules_on" [(8, 53)] (.cons (.sl (.var 2) .none (.some (.bin .add (.var 3) (.cst (.int 1))))) .nil)) (.cons (.mc (.var 0) "rules_on" [(8, 53)] (.cons (.sl (.var 2) (.some (.var 3)) .none) .nil)) .nil))))) .nil)
def s1_Going_grown : SL := (.cons (.iff (.val (.call 32 (.cons (.ix (.fld (.var 0) 8 2) (.var 4)) (.cons (.ix (.fld (.var 0) 8 2) (.var 1)) .nil)))) i1_Going_grown .nil) .nil)
def l1_Going_grown : S := .for_ (.tup (.cons (.nam 3) (.cons (.nam 4) .nil))) (.enu (.sl (.var 2) .none (.some (.un .neg (.cst (.int 1)))))) s1_Going_grown
def b_Going_grown : SL := (.cons (.asg (.nam 2) (.mc (.var 0) "way_to" [(8, 52)] (.cons (.var 1) .nil))) (.cons l1_Going_grown (.cons (.ret (.cst .non)) .nil)))
def f_Going_grown : Fn := ⟨"grown", 2, ["self", "at", "way", "spot", "ahead"], b_Going_grown, false, some (8, "grown"), false⟩
def b_Going_come : SL := (.cons (.asg (.nam 3) (.call 29 (.cons (.fld (.var 0) 8 0) (.cons (.ix (.fld (.var 0) 8 2) (.var 1)) (.cons (.var 2) .nil))))) (.cons (.iff (.cmp .isin (.var 3) (.fld (.var 0) 8 3)) (.cons (.ret (.cst .non)) .nil) .nil) (.cons (.iff (.cmp .eq (.bi .len (.cons (.fld (.var 0) 8 2) .nil)) (.fld (.var 0) 8 1)) (.cons .bad .nil) .nil) (.cons (.asg (.sub (.fld (.var 0) 8 3) (.var 3)) (.cst (.bl true))) (.cons (.expr (.mth .append (.fld (.var 0) 8 2) (.cons (.var 3) .nil))) (.cons (.expr (.mth .append (.fld (.var 0) 8 4) (.cons (.tup (.cons (.var 1) (.cons (.var 2) .nil))) .nil))) (.cons (.ret (.mc (.var 0) "grown" [(8, 54)] (.cons (.bin .sub (.bi .len (.cons (.fld (.var 0) 8 2) .nil)) (.cst (.int 1))) .nil))) .nil)))))))
def f_Going_come : Fn := ⟨"come", 3, ["self", "at", "rule", "later"], b_Going_come, false, some (8, "come"), false⟩
def s1_Going_gone : SL := (.cons (.asg (.nam 3) (.mc (.var 0) "come" [(8, 55)] (.cons (.var 1) (.cons (.var 2) .nil)))) (.cons (.iff (.cmp .isn (.var 3) (.cst .non)) (.cons (.ret (.var 3)) .nil) .nil) .nil))
def l1_Going_gone : S := .for_ (.nam 2) (.seq (.call 28 (.cons (.fld (.var 0) 8 0) (.cons (.ix (.fld (.var 0) 8 2) (.var 1)) .nil)))) s1_Going_gone
def s2_Going_gone : SL := (.cons l1_Going_gone (.cons (.aug 1 .add (.cst (.int 1))) .nil))
def l2_Going_gone : S := .whl (.cmp .lt (.var 1) (.bi .len (.cons (.fld (.var 0) 8 2) .nil))) s2_Going_gone
def b_Going_gone : SL := (.cons (.asg (.nam 1) (.cst (.int 0))) (.cons l2_Going_gone (.cons (.ret (.tup (.cons (.cst (.str [99, 108, 111, 115, 101, 100])) (.cons (.bi .srt (.cons (.fld (.var 0) 8 2) .nil)) .nil)))) .nil)))
def f_Going_gone : Fn := ⟨"gone", 1, ["self", "at", "rule", "grown"], b_Going_gone, false, some (8, "gone"), false⟩
def TB : Tb := ⟨[f_is_whole, f_is_from, f_is_word, f_is_written, f_is_tuple_of, f_begins, f_are_unlike, f_is_named_place, f_is_kind, f_is_slot, f_is_head, f_names_in, f_are_heads, f_is_operand, f_are_given, f_is_own_deed, f_is_naming_deed, f_is_deed, f_wrong_deed, f_look_at_kinds, f_look_at_rules, f_look_at_program, f_is_kind_alone, f_asked_by, f_asks_known, f_is_net_rule, f_is_net, f_look_at_marking, f_can_by, f_behind_by, f_can, f_behind, f_is_within, f_holds, f_is_marking, f_lets_closed, f_led_by, f_lets_grows, f_lets_holds, f_l_pool, f_l_take, f_l_one, f_l_rule, f_l_kind, f_l_steps_right, f_l_locks_right, f_l_six_right, f_l_growing_right, f_l_later_right, f_law, f_Scope_init, f_Going_init, f_Going_way_to, f_Going_rules_on, f_Going_grown, f_Going_come, f_Going_gone],
  [("MOST", (.int 1000000000)), ("MOST_LETTERS", (.int 6)), ("SIGNS", (.str [97, 98, 99, 100, 101, 102, 103, 104, 105, 106, 107, 108, 109, 110, 111, 112, 113, 114, 115, 116, 117, 118, 119, 120, 121, 122])), ("WORDS", (.tup [(.str [112, 108, 117, 115]), (.str [109, 105, 110, 117, 115]), (.str [116, 105, 109, 101, 115]), (.str [98, 101, 108, 111, 119]), (.str [115, 97, 109, 101])])), ("MOST_KINDS", (.int 6)), ("MOST_MAIN", (.int 16)), ("MOST_PLACES", (.int 6)), ("MOST_MANY", (.int 3)), ("MOST_RULES", (.int 8)), ("MOST_HEADS", (.int 4)), ("MOST_DEEDS", (.int 12)), ("WORDS_OF_NETS", (.tup [(.str [115, 101, 116]), (.str [112, 117, 116]), (.str [110, 111, 116, 101])])), ("MOST_MARKINGS", (.int 5000))],
  [],
  [(14, 2, [0, 3]), (33, 2, [500])],
  [⟨"MeetError", [], [0], true⟩, ⟨"NoProgram", ["kind", "rule", "deed"], [0, 1], true⟩, ⟨"NoNumber", [], [0, 2], true⟩, ⟨"NoNet", [], [0, 3], true⟩, ⟨"NoMarking", [], [0, 4], true⟩, ⟨"NoRule", ["thing"], [5], true⟩, ⟨"TooMany", ["many"], [6], true⟩, ⟨"Scope", ["kinds_known", "places_known", "heads_known"], [7], false⟩, ⟨"Going", ["of_net", "at_most", "found", "known", "came"], [8], false⟩],
  [("SIZES", [([115, 101, 116], 3), ([108, 101, 116], 5), ([110, 111, 116, 101], 2), ([109, 97, 107, 101], 3), ([112, 108, 97, 99, 101], 4), ([108, 97, 121], 3), ([112, 117, 116], 3), ([99, 97, 108, 108], 4), ([97, 110, 115, 119, 101, 114], 3), ([119, 104, 101, 110], 3)])],
  [(1, 0)]⟩
def top (i : Nat) : Stmt := PySem.Challenge.pw_waitedmeets_k52_known_nets.main.body.getD i (.Pass ⟨0, 0, 0, 0⟩)
def dd (x : Str) (i : Nat) (dv : List He.Dv) (kd : List (Str × He.Dv)) : He.DefD := ⟨(x, none), x, x, C8.fnArgs (top i), C8.fnBody (top i), C8.fnScope (top i), dv, kd⟩
def mst (i j : Nat) : Stmt := (C8.clsBody (top i)).getD j (.Pass ⟨0, 0, 0, 0⟩)
def dm (c m q : Str) (i j : Nat) : He.DefD := ⟨(c, some m), m, q, C8.fnArgs (mst i j), C8.fnBody (mst i j), C8.fnScope (mst i j), [], []⟩
def ds : List He.DefD := [dd "is_whole" 13 [] [], dd "is_from" 14 [] [], dd "is_word" 15 [] [], dd "is_written" 16 [] [], dd "is_tuple_of" 17 [] [], dd "begins" 18 [] [], dd "are_unlike" 29 [] [], dd "is_named_place" 30 [] [], dd "is_kind" 31 [] [], dd "is_slot" 32 [] [], dd "is_head" 33 [] [], dd "names_in" 34 [] [], dd "are_heads" 35 [] [], dd "is_operand" 36 [] [], dd "are_given" 37 [.int 0, .int 3] [], dd "is_own_deed" 38 [] [], dd "is_naming_deed" 39 [] [], dd "is_deed" 40 [] [], dd "wrong_deed" 41 [] [], dd "look_at_kinds" 42 [] [], dd "look_at_rules" 43 [] [], dd "look_at_program" 44 [] [], dd "is_kind_alone" 47 [] [], dd "asked_by" 48 [] [], dd "asks_known" 49 [] [], dd "is_net_rule" 50 [] [], dd "is_net" 51 [] [], dd "look_at_marking" 52 [] [], dd "can_by" 53 [] [], dd "behind_by" 54 [] [], dd "can" 55 [] [], dd "behind" 56 [] [], dd "is_within" 59 [] [], dd "holds" 61 [] [("most", .int 500)], dd "is_marking" 62 [] [], dd "lets_closed" 63 [] [], dd "led_by" 64 [] [], dd "lets_grows" 65 [] [], dd "lets_holds" 66 [] [], dd "_law_pool" 68 [] [], dd "_law_take" 69 [] [], dd "_law_one" 70 [] [], dd "_law_rule" 71 [] [], dd "_law_kind" 72 [] [], dd "_law_steps_right" 73 [] [], dd "_law_locks_right" 74 [] [], dd "_law_six_right" 75 [] [], dd "_law_growing_right" 76 [] [], dd "_law_later_right" 77 [] [], dd "law" 78 [] [], dm "Scope" "__init__" "Scope.__init__" 28 0, dm "Going" "__init__" "Going.__init__" 60 0, dm "Going" "way_to" "Going.way_to" 60 1, dm "Going" "rules_on" "Going.rules_on" 60 2, dm "Going" "grown" "Going.grown" 60 3, dm "Going" "come" "Going.come" 60 4, dm "Going" "gone" "Going.gone" 60 5]
theorem k_is_whole : DefOk TB 0 f_is_whole (dd "is_whole" 13 [] []) := by
  refine ⟨by kernel_rfl, .inr (.inl ⟨rfl, fun _ _ _ _ _ _ us hl => match us, hl with | [_], _ => rfl⟩), ?_, ?_⟩
  · exact fun n is h => (df_none (by decide +kernel) h).elim
  · exact fun n ks h => (bk_none (by decide +kernel) h).elim
theorem k_is_from : DefOk TB 1 f_is_from (dd "is_from" 14 [] []) := by
  refine ⟨by kernel_rfl, .inr (.inl ⟨rfl, fun _ _ _ _ _ _ us hl => match us, hl with | [_, _, _], _ => rfl⟩), ?_, ?_⟩
  · exact fun n is h => (df_none (by decide +kernel) h).elim
  · exact fun n ks h => (bk_none (by decide +kernel) h).elim
theorem k_is_word : DefOk TB 2 f_is_word (dd "is_word" 15 [] []) := by
  refine ⟨by kernel_rfl, .inr (.inl ⟨rfl, fun _ _ _ _ _ _ us hl => match us, hl with | [_], _ => rfl⟩), ?_, ?_⟩
  · exact fun n is h => (df_none (by decide +kernel) h).elim
  · exact fun n ks h => (bk_none (by decide +kernel) h).elim
theorem k_is_written : DefOk TB 3 f_is_written (dd "is_written" 16 [] []) := by
  refine ⟨by kernel_rfl, .inr (.inl ⟨rfl, fun _ _ _ _ _ _ us hl => match us, hl with | [_], _ => rfl⟩), ?_, ?_⟩
  · exact fun n is h => (df_none (by decide +kernel) h).elim
  · exact fun n ks h => (bk_none (by decide +kernel) h).elim
theorem k_is_tuple_of : DefOk TB 4 f_is_tuple_of (dd "is_tuple_of" 17 [] []) := by
  refine ⟨by kernel_rfl, .inr (.inl ⟨rfl, fun _ _ _ _ _ _ us hl => match us, hl with | [_, _, _], _ => rfl⟩), ?_, ?_⟩
  · exact fun n is h => (df_none (by decide +kernel) h).elim
  · exact fun n ks h => (bk_none (by decide +kernel) h).elim
theorem k_begins : DefOk TB 5 f_begins (dd "begins" 18 [] []) := by
  refine ⟨by kernel_rfl, .inr (.inl ⟨rfl, fun _ _ _ _ _ _ us hl => match us, hl with | [_, _, _], _ => rfl⟩), ?_, ?_⟩
  · exact fun n is h => (df_none (by decide +kernel) h).elim
  · exact fun n ks h => (bk_none (by decide +kernel) h).elim
theorem k_are_unlike : DefOk TB 6 f_are_unlike (dd "are_unlike" 29 [] []) := by
  refine ⟨by kernel_rfl, .inr (.inl ⟨rfl, fun _ _ _ _ _ _ us hl => match us, hl with | [_], _ => rfl⟩), ?_, ?_⟩
  · exact fun n is h => (df_none (by decide +kernel) h).elim
  · exact fun n ks h => (bk_none (by decide +kernel) h).elim
theorem k_is_named_place : DefOk TB 7 f_is_named_place (dd "is_named_place" 30 [] []) := by
  refine ⟨by kernel_rfl, .inr (.inl ⟨rfl, fun _ _ _ _ _ _ us hl => match us, hl with | [_], _ => rfl⟩), ?_, ?_⟩
  · exact fun n is h => (df_none (by decide +kernel) h).elim
  · exact fun n ks h => (bk_none (by decide +kernel) h).elim
theorem k_is_kind : DefOk TB 8 f_is_kind (dd "is_kind" 31 [] []) := by
  refine ⟨by kernel_rfl, .inr (.inl ⟨rfl, fun _ _ _ _ _ _ us hl => match us, hl with | [_], _ => rfl⟩), ?_, ?_⟩
  · exact fun n is h => (df_none (by decide +kernel) h).elim
  · exact fun n ks h => (bk_none (by decide +kernel) h).elim
theorem k_is_slot : DefOk TB 9 f_is_slot (dd "is_slot" 32 [] []) := by
  refine ⟨by kernel_rfl, .inr (.inl ⟨rfl, fun _ _ _ _ _ _ us hl => match us, hl with | [_], _ => rfl⟩), ?_, ?_⟩
  · exact fun n is h => (df_none (by decide +kernel) h).elim
  · exact fun n ks h => (bk_none (by decide +kernel) h).elim
theorem k_is_head : DefOk TB 10 f_is_head (dd "is_head" 33 [] []) := by
  refine ⟨by kernel_rfl, .inr (.inl ⟨rfl, fun _ _ _ _ _ _ us hl => match us, hl with | [_, _], _ => rfl⟩), ?_, ?_⟩
  · exact fun n is h => (df_none (by decide +kernel) h).elim
  · exact fun n ks h => (bk_none (by decide +kernel) h).elim
theorem k_names_in : DefOk TB 11 f_names_in (dd "names_in" 34 [] []) := by
  refine ⟨by kernel_rfl, .inr (.inl ⟨rfl, fun _ _ _ _ _ _ us hl => match us, hl with | [_], _ => rfl⟩), ?_, ?_⟩
  · exact fun n is h => (df_none (by decide +kernel) h).elim
  · exact fun n ks h => (bk_none (by decide +kernel) h).elim
theorem k_are_heads : DefOk TB 12 f_are_heads (dd "are_heads" 35 [] []) := by
  refine ⟨by kernel_rfl, .inr (.inl ⟨rfl, fun _ _ _ _ _ _ us hl => match us, hl with | [_, _], _ => rfl⟩), ?_, ?_⟩
  · exact fun n is h => (df_none (by decide +kernel) h).elim
  · exact fun n ks h => (bk_none (by decide +kernel) h).elim
theorem k_is_operand : DefOk TB 13 f_is_operand (dd "is_operand" 36 [] []) := by
  refine ⟨by kernel_rfl, .inr (.inl ⟨rfl, fun _ _ _ _ _ _ us hl => match us, hl with | [_, _], _ => rfl⟩), ?_, ?_⟩
  · exact fun n is h => (df_none (by decide +kernel) h).elim
  · exact fun n ks h => (bk_none (by decide +kernel) h).elim
theorem k_are_given : DefOk TB 14 f_are_given (dd "are_given" 37 [.int 0, .int 3] []) := by
  refine ⟨by kernel_rfl, .inr (.inr ⟨fun z => (by cases z), fun _ _ _ _ _ _ _ us is h1 h2 => match us, is, h1, h2 with | [_, _, _, _], [_, _], _, _ => ⟨_, rfl, rfl⟩⟩), ?_, ?_⟩
  · intro n is h
    obtain ⟨rfl, rfl⟩ := df_one (n0 := 2) (d0 := [0, 3]) (by decide +kernel) h
    exact .inl ⟨rfl, 0, fun z => (by cases z), fun _ _ _ _ _ _ _ us is h1 h2 => match us, is, h1, h2 with | [_, _], [_, _], _, _ => ⟨_, rfl, rfl⟩, rfl, rfl⟩
  · exact fun n ks h => (bk_none (by decide +kernel) h).elim
theorem k_is_own_deed : DefOk TB 15 f_is_own_deed (dd "is_own_deed" 38 [] []) := by
  refine ⟨by kernel_rfl, .inr (.inl ⟨rfl, fun _ _ _ _ _ _ us hl => match us, hl with | [_, _], _ => rfl⟩), ?_, ?_⟩
  · exact fun n is h => (df_none (by decide +kernel) h).elim
  · exact fun n ks h => (bk_none (by decide +kernel) h).elim
theorem k_is_naming_deed : DefOk TB 16 f_is_naming_deed (dd "is_naming_deed" 39 [] []) := by
  refine ⟨by kernel_rfl, .inr (.inl ⟨rfl, fun _ _ _ _ _ _ us hl => match us, hl with | [_, _], _ => rfl⟩), ?_, ?_⟩
  · exact fun n is h => (df_none (by decide +kernel) h).elim
  · exact fun n ks h => (bk_none (by decide +kernel) h).elim
theorem k_is_deed : DefOk TB 17 f_is_deed (dd "is_deed" 40 [] []) := by
  refine ⟨by kernel_rfl, .inr (.inl ⟨rfl, fun _ _ _ _ _ _ us hl => match us, hl with | [_, _, _], _ => rfl⟩), ?_, ?_⟩
  · exact fun n is h => (df_none (by decide +kernel) h).elim
  · exact fun n ks h => (bk_none (by decide +kernel) h).elim
theorem k_wrong_deed : DefOk TB 18 f_wrong_deed (dd "wrong_deed" 41 [] []) := by
  refine ⟨by kernel_rfl, .inr (.inl ⟨rfl, fun _ _ _ _ _ _ us hl => match us, hl with | [_, _], _ => rfl⟩), ?_, ?_⟩
  · exact fun n is h => (df_none (by decide +kernel) h).elim
  · exact fun n ks h => (bk_none (by decide +kernel) h).elim
theorem k_look_at_kinds : DefOk TB 19 f_look_at_kinds (dd "look_at_kinds" 42 [] []) := by
  refine ⟨by kernel_rfl, .inr (.inl ⟨rfl, fun _ _ _ _ _ _ us hl => match us, hl with | [_], _ => rfl⟩), ?_, ?_⟩
  · exact fun n is h => (df_none (by decide +kernel) h).elim
  · exact fun n ks h => (bk_none (by decide +kernel) h).elim
theorem k_look_at_rules : DefOk TB 20 f_look_at_rules (dd "look_at_rules" 43 [] []) := by
  refine ⟨by kernel_rfl, .inr (.inl ⟨rfl, fun _ _ _ _ _ _ us hl => match us, hl with | [_, _, _], _ => rfl⟩), ?_, ?_⟩
  · exact fun n is h => (df_none (by decide +kernel) h).elim
  · exact fun n ks h => (bk_none (by decide +kernel) h).elim
theorem k_look_at_program : DefOk TB 21 f_look_at_program (dd "look_at_program" 44 [] []) := by
  refine ⟨by kernel_rfl, .inr (.inl ⟨rfl, fun _ _ _ _ _ _ us hl => match us, hl with | [_], _ => rfl⟩), ?_, ?_⟩
  · exact fun n is h => (df_none (by decide +kernel) h).elim
  · exact fun n ks h => (bk_none (by decide +kernel) h).elim
theorem k_is_kind_alone : DefOk TB 22 f_is_kind_alone (dd "is_kind_alone" 47 [] []) := by
  refine ⟨by kernel_rfl, .inr (.inl ⟨rfl, fun _ _ _ _ _ _ us hl => match us, hl with | [_], _ => rfl⟩), ?_, ?_⟩
  · exact fun n is h => (df_none (by decide +kernel) h).elim
  · exact fun n ks h => (bk_none (by decide +kernel) h).elim
theorem k_asked_by : DefOk TB 23 f_asked_by (dd "asked_by" 48 [] []) := by
  refine ⟨by kernel_rfl, .inr (.inl ⟨rfl, fun _ _ _ _ _ _ us hl => match us, hl with | [_], _ => rfl⟩), ?_, ?_⟩
  · exact fun n is h => (df_none (by decide +kernel) h).elim
  · exact fun n ks h => (bk_none (by decide +kernel) h).elim
theorem k_asks_known : DefOk TB 24 f_asks_known (dd "asks_known" 49 [] []) := by
  refine ⟨by kernel_rfl, .inr (.inl ⟨rfl, fun _ _ _ _ _ _ us hl => match us, hl with | [_, _], _ => rfl⟩), ?_, ?_⟩
  · exact fun n is h => (df_none (by decide +kernel) h).elim
  · exact fun n ks h => (bk_none (by decide +kernel) h).elim
theorem k_is_net_rule : DefOk TB 25 f_is_net_rule (dd "is_net_rule" 50 [] []) := by
  refine ⟨by kernel_rfl, .inr (.inl ⟨rfl, fun _ _ _ _ _ _ us hl => match us, hl with | [_], _ => rfl⟩), ?_, ?_⟩
  · exact fun n is h => (df_none (by decide +kernel) h).elim
  · exact fun n ks h => (bk_none (by decide +kernel) h).elim
theorem k_is_net : DefOk TB 26 f_is_net (dd "is_net" 51 [] []) := by
  refine ⟨by kernel_rfl, .inr (.inl ⟨rfl, fun _ _ _ _ _ _ us hl => match us, hl with | [_], _ => rfl⟩), ?_, ?_⟩
  · exact fun n is h => (df_none (by decide +kernel) h).elim
  · exact fun n ks h => (bk_none (by decide +kernel) h).elim
theorem k_look_at_marking : DefOk TB 27 f_look_at_marking (dd "look_at_marking" 52 [] []) := by
  refine ⟨by kernel_rfl, .inr (.inl ⟨rfl, fun _ _ _ _ _ _ us hl => match us, hl with | [_, _], _ => rfl⟩), ?_, ?_⟩
  · exact fun n is h => (df_none (by decide +kernel) h).elim
  · exact fun n ks h => (bk_none (by decide +kernel) h).elim
theorem k_can_by : DefOk TB 28 f_can_by (dd "can_by" 53 [] []) := by
  refine ⟨by kernel_rfl, .inr (.inl ⟨rfl, fun _ _ _ _ _ _ us hl => match us, hl with | [_, _], _ => rfl⟩), ?_, ?_⟩
  · exact fun n is h => (df_none (by decide +kernel) h).elim
  · exact fun n ks h => (bk_none (by decide +kernel) h).elim
theorem k_behind_by : DefOk TB 29 f_behind_by (dd "behind_by" 54 [] []) := by
  refine ⟨by kernel_rfl, .inr (.inl ⟨rfl, fun _ _ _ _ _ _ us hl => match us, hl with | [_, _, _], _ => rfl⟩), ?_, ?_⟩
  · exact fun n is h => (df_none (by decide +kernel) h).elim
  · exact fun n ks h => (bk_none (by decide +kernel) h).elim
theorem k_can : DefOk TB 30 f_can (dd "can" 55 [] []) := by
  refine ⟨by kernel_rfl, .inr (.inl ⟨rfl, fun _ _ _ _ _ _ us hl => match us, hl with | [_, _], _ => rfl⟩), ?_, ?_⟩
  · exact fun n is h => (df_none (by decide +kernel) h).elim
  · exact fun n ks h => (bk_none (by decide +kernel) h).elim
theorem k_behind : DefOk TB 31 f_behind (dd "behind" 56 [] []) := by
  refine ⟨by kernel_rfl, .inr (.inl ⟨rfl, fun _ _ _ _ _ _ us hl => match us, hl with | [_, _, _], _ => rfl⟩), ?_, ?_⟩
  · exact fun n is h => (df_none (by decide +kernel) h).elim
  · exact fun n ks h => (bk_none (by decide +kernel) h).elim
theorem k_is_within : DefOk TB 32 f_is_within (dd "is_within" 59 [] []) := by
  refine ⟨by kernel_rfl, .inr (.inl ⟨rfl, fun _ _ _ _ _ _ us hl => match us, hl with | [_, _], _ => rfl⟩), ?_, ?_⟩
  · exact fun n is h => (df_none (by decide +kernel) h).elim
  · exact fun n ks h => (bk_none (by decide +kernel) h).elim
theorem k_holds : DefOk TB 33 f_holds (dd "holds" 61 [] [("most", .int 500)]) := by
  refine ⟨by kernel_rfl, .inl (fun z => by cases z), ?_, ?_⟩
  · intro n is h
    obtain ⟨rfl, rfl⟩ := df_one (n0 := 2) (d0 := [500]) (by decide +kernel) h
    exact .inr ⟨rfl, fun z => (by cases z), fun _ _ _ _ _ _ us ks h1 h2 => match us, ks, h1, h2 with | [_, _], [_], _, _ => ⟨_, _, _, _, _, _, rfl, rfl, rfl⟩, rfl, rfl⟩
  · exact fun n ks h => (bk_none (by decide +kernel) h).elim
theorem k_is_marking : DefOk TB 34 f_is_marking (dd "is_marking" 62 [] []) := by
  refine ⟨by kernel_rfl, .inr (.inl ⟨rfl, fun _ _ _ _ _ _ us hl => match us, hl with | [_, _], _ => rfl⟩), ?_, ?_⟩
  · exact fun n is h => (df_none (by decide +kernel) h).elim
  · exact fun n ks h => (bk_none (by decide +kernel) h).elim
theorem k_lets_closed : DefOk TB 35 f_lets_closed (dd "lets_closed" 63 [] []) := by
  refine ⟨by kernel_rfl, .inr (.inl ⟨rfl, fun _ _ _ _ _ _ us hl => match us, hl with | [_, _, _], _ => rfl⟩), ?_, ?_⟩
  · exact fun n is h => (df_none (by decide +kernel) h).elim
  · exact fun n ks h => (bk_none (by decide +kernel) h).elim
theorem k_led_by : DefOk TB 36 f_led_by (dd "led_by" 64 [] []) := by
  refine ⟨by kernel_rfl, .inr (.inl ⟨rfl, fun _ _ _ _ _ _ us hl => match us, hl with | [_, _, _], _ => rfl⟩), ?_, ?_⟩
  · exact fun n is h => (df_none (by decide +kernel) h).elim
  · exact fun n ks h => (bk_none (by decide +kernel) h).elim
theorem k_lets_grows : DefOk TB 37 f_lets_grows (dd "lets_grows" 65 [] []) := by
  refine ⟨by kernel_rfl, .inr (.inl ⟨rfl, fun _ _ _ _ _ _ us hl => match us, hl with | [_, _, _, _], _ => rfl⟩), ?_, ?_⟩
  · exact fun n is h => (df_none (by decide +kernel) h).elim
  · exact fun n ks h => (bk_none (by decide +kernel) h).elim
theorem k_lets_holds : DefOk TB 38 f_lets_holds (dd "lets_holds" 66 [] []) := by
  refine ⟨by kernel_rfl, .inr (.inl ⟨rfl, fun _ _ _ _ _ _ us hl => match us, hl with | [_, _, _], _ => rfl⟩), ?_, ?_⟩
  · exact fun n is h => (df_none (by decide +kernel) h).elim
  · exact fun n ks h => (bk_none (by decide +kernel) h).elim
theorem k_l_pool : DefOk TB 39 f_l_pool (dd "_law_pool" 68 [] []) := by
  refine ⟨by kernel_rfl, .inr (.inl ⟨rfl, fun _ _ _ _ _ _ us hl => match us, hl with | [_, _], _ => rfl⟩), ?_, ?_⟩
  · exact fun n is h => (df_none (by decide +kernel) h).elim
  · exact fun n ks h => (bk_none (by decide +kernel) h).elim
theorem k_l_take : DefOk TB 40 f_l_take (dd "_law_take" 69 [] []) := by
  refine ⟨by kernel_rfl, .inr (.inl ⟨rfl, fun _ _ _ _ _ _ us hl => match us, hl with | [_, _], _ => rfl⟩), ?_, ?_⟩
  · exact fun n is h => (df_none (by decide +kernel) h).elim
  · exact fun n ks h => (bk_none (by decide +kernel) h).elim
theorem k_l_one : DefOk TB 41 f_l_one (dd "_law_one" 70 [] []) := by
  refine ⟨by kernel_rfl, .inr (.inl ⟨rfl, fun _ _ _ _ _ _ us hl => match us, hl with | [_, _], _ => rfl⟩), ?_, ?_⟩
  · exact fun n is h => (df_none (by decide +kernel) h).elim
  · exact fun n ks h => (bk_none (by decide +kernel) h).elim
theorem k_l_rule : DefOk TB 42 f_l_rule (dd "_law_rule" 71 [] []) := by
  refine ⟨by kernel_rfl, .inr (.inl ⟨rfl, fun _ _ _ _ _ _ us hl => match us, hl with | [_, _], _ => rfl⟩), ?_, ?_⟩
  · exact fun n is h => (df_none (by decide +kernel) h).elim
  · exact fun n ks h => (bk_none (by decide +kernel) h).elim
theorem k_l_kind : DefOk TB 43 f_l_kind (dd "_law_kind" 72 [] []) := by
  refine ⟨by kernel_rfl, .inr (.inl ⟨rfl, fun _ _ _ _ _ _ us hl => match us, hl with | [_, _], _ => rfl⟩), ?_, ?_⟩
  · exact fun n is h => (df_none (by decide +kernel) h).elim
  · exact fun n ks h => (bk_none (by decide +kernel) h).elim
theorem k_l_steps_right : DefOk TB 44 f_l_steps_right (dd "_law_steps_right" 73 [] []) := by
  refine ⟨by kernel_rfl, .inr (.inl ⟨rfl, fun _ _ _ _ _ _ us hl => match us, hl with | [_, _], _ => rfl⟩), ?_, ?_⟩
  · exact fun n is h => (df_none (by decide +kernel) h).elim
  · exact fun n ks h => (bk_none (by decide +kernel) h).elim
theorem k_l_locks_right : DefOk TB 45 f_l_locks_right (dd "_law_locks_right" 74 [] []) := by
  refine ⟨by kernel_rfl, .inr (.inl ⟨rfl, fun _ _ _ _ _ _ us hl => match us, hl with | [_, _], _ => rfl⟩), ?_, ?_⟩
  · exact fun n is h => (df_none (by decide +kernel) h).elim
  · exact fun n ks h => (bk_none (by decide +kernel) h).elim
theorem k_l_six_right : DefOk TB 46 f_l_six_right (dd "_law_six_right" 75 [] []) := by
  refine ⟨by kernel_rfl, .inr (.inl ⟨rfl, fun _ _ _ _ _ _ us hl => match us, hl with | [], _ => rfl⟩), ?_, ?_⟩
  · exact fun n is h => (df_none (by decide +kernel) h).elim
  · exact fun n ks h => (bk_none (by decide +kernel) h).elim
theorem k_l_growing_right : DefOk TB 47 f_l_growing_right (dd "_law_growing_right" 76 [] []) := by
  refine ⟨by kernel_rfl, .inr (.inl ⟨rfl, fun _ _ _ _ _ _ us hl => match us, hl with | [_, _], _ => rfl⟩), ?_, ?_⟩
  · exact fun n is h => (df_none (by decide +kernel) h).elim
  · exact fun n ks h => (bk_none (by decide +kernel) h).elim
theorem k_l_later_right : DefOk TB 48 f_l_later_right (dd "_law_later_right" 77 [] []) := by
  refine ⟨by kernel_rfl, .inr (.inl ⟨rfl, fun _ _ _ _ _ _ us hl => match us, hl with | [], _ => rfl⟩), ?_, ?_⟩
  · exact fun n is h => (df_none (by decide +kernel) h).elim
  · exact fun n ks h => (bk_none (by decide +kernel) h).elim
theorem k_law : DefOk TB 49 f_law (dd "law" 78 [] []) := by
  refine ⟨by kernel_rfl, .inr (.inl ⟨rfl, fun _ _ _ _ _ _ us hl => match us, hl with | [_], _ => rfl⟩), ?_, ?_⟩
  · exact fun n is h => (df_none (by decide +kernel) h).elim
  · exact fun n ks h => (bk_none (by decide +kernel) h).elim
theorem k_Scope_init : DefOk TB 50 f_Scope_init (dm "Scope" "__init__" "Scope.__init__" 28 0) := by
  refine ⟨by kernel_rfl, .inr (.inl ⟨rfl, fun _ _ _ _ _ _ us hl => match us, hl with | [_, _, _, _], _ => rfl⟩), ?_, ?_⟩
  · exact fun n is h => (df_none (by decide +kernel) h).elim
  · exact fun n ks h => (bk_none (by decide +kernel) h).elim
theorem k_Going_init : DefOk TB 51 f_Going_init (dm "Going" "__init__" "Going.__init__" 60 0) := by
  refine ⟨by kernel_rfl, .inr (.inl ⟨rfl, fun _ _ _ _ _ _ us hl => match us, hl with | [_, _, _, _], _ => rfl⟩), ?_, ?_⟩
  · exact fun n is h => (df_none (by decide +kernel) h).elim
  · exact fun n ks h => (bk_none (by decide +kernel) h).elim
theorem k_Going_way_to : DefOk TB 52 f_Going_way_to (dm "Going" "way_to" "Going.way_to" 60 1) := by
  refine ⟨by kernel_rfl, .inr (.inl ⟨rfl, fun _ _ _ _ _ _ us hl => match us, hl with | [_, _], _ => rfl⟩), ?_, ?_⟩
  · exact fun n is h => (df_none (by decide +kernel) h).elim
  · exact fun n ks h => (bk_none (by decide +kernel) h).elim
theorem k_Going_rules_on : DefOk TB 53 f_Going_rules_on (dm "Going" "rules_on" "Going.rules_on" 60 2) := by
  refine ⟨by kernel_rfl, .inr (.inl ⟨rfl, fun _ _ _ _ _ _ us hl => match us, hl with | [_, _], _ => rfl⟩), ?_, ?_⟩
  · exact fun n is h => (df_none (by decide +kernel) h).elim
  · exact fun n ks h => (bk_none (by decide +kernel) h).elim
theorem k_Going_grown : DefOk TB 54 f_Going_grown (dm "Going" "grown" "Going.grown" 60 3) := by
  refine ⟨by kernel_rfl, .inr (.inl ⟨rfl, fun _ _ _ _ _ _ us hl => match us, hl with | [_, _], _ => rfl⟩), ?_, ?_⟩
  · exact fun n is h => (df_none (by decide +kernel) h).elim
  · exact fun n ks h => (bk_none (by decide +kernel) h).elim
theorem k_Going_come : DefOk TB 55 f_Going_come (dm "Going" "come" "Going.come" 60 4) := by
  refine ⟨by kernel_rfl, .inr (.inl ⟨rfl, fun _ _ _ _ _ _ us hl => match us, hl with | [_, _, _], _ => rfl⟩), ?_, ?_⟩
  · exact fun n is h => (df_none (by decide +kernel) h).elim
  · exact fun n ks h => (bk_none (by decide +kernel) h).elim
theorem k_Going_gone : DefOk TB 56 f_Going_gone (dm "Going" "gone" "Going.gone" 60 5) := by
  refine ⟨by kernel_rfl, .inr (.inl ⟨rfl, fun _ _ _ _ _ _ us hl => match us, hl with | [_], _ => rfl⟩), ?_, ?_⟩
  · exact fun n is h => (df_none (by decide +kernel) h).elim
  · exact fun n ks h => (bk_none (by decide +kernel) h).elim
def xi_NoProgram : XI := ⟨1, 0, ["self", "kind", "rule", "deed"], dm "NoProgram" "__init__" "NoProgram.__init__" 2 0⟩
theorem xk_NoProgram : XIOk TB xi_NoProgram := ⟨by kernel_rfl, fun _ _ _ _ _ _ us hl => match us, hl with | [_, _, _, _], _ => rfl⟩
def xis : List XI := [xi_NoProgram]
theorem xoks : XisOk TB xis := ⟨⟨xk_NoProgram, trivial⟩, by decide +kernel⟩
def dz : List He.DefD := ds ++ xis.map (·.d)
def loose : List Str := ((TB.fns.filter fun fn => fn.own.isNone && !(fn.name == ("law" : Str))).map (·.name)) ++ (TB.gl.map (·.1) ++ (TB.gd.map (·.1) ++ TB.cl.map (·.name)))
theorem oks : DefsOk TB 0 TB.fns ds := ⟨k_is_whole, k_is_from, k_is_word, k_is_written, k_is_tuple_of, k_begins, k_are_unlike, k_is_named_place, k_is_kind, k_is_slot, k_is_head, k_names_in, k_are_heads, k_is_operand, k_are_given, k_is_own_deed, k_is_naming_deed, k_is_deed, k_wrong_deed, k_look_at_kinds, k_look_at_rules, k_look_at_program, k_is_kind_alone, k_asked_by, k_asks_known, k_is_net_rule, k_is_net, k_look_at_marking, k_can_by, k_behind_by, k_can, k_behind, k_is_within, k_holds, k_is_marking, k_lets_closed, k_led_by, k_lets_grows, k_lets_holds, k_l_pool, k_l_take, k_l_one, k_l_rule, k_l_kind, k_l_steps_right, k_l_locks_right, k_l_six_right, k_l_growing_right, k_l_later_right, k_law, k_Scope_init, k_Going_init, k_Going_way_to, k_Going_rules_on, k_Going_grown, k_Going_come, k_Going_gone, trivial⟩
-- law: def 49, row 78; names: 0 is_whole, 1 is_from, 2 is_word, 3 is_written, 4 is_tuple_of, 5 begins, 6 are_unlike, 7 is_named_place, 8 is_kind, 9 is_slot, 10 is_head, 11 names_in, 12 are_heads, 13 is_operand, 14 are_given, 15 is_own_deed, 16 is_naming_deed, 17 is_deed, 18 wrong_deed, 19 look_at_kinds, 20 look_at_rules, 21 look_at_program, 22 is_kind_alone, 23 asked_by, 24 asks_known, 25 is_net_rule, 26 is_net, 27 look_at_marking, 28 can_by, 29 behind_by, 30 can, 31 behind, 32 is_within, 33 holds, 34 is_marking, 35 lets_closed, 36 led_by, 37 lets_grows, 38 lets_holds, 39 l_pool, 40 l_take, 41 l_one, 42 l_rule, 43 l_kind, 44 l_steps_right, 45 l_locks_right, 46 l_six_right, 47 l_growing_right, 48 l_later_right, 49 law, 50 Scope_init, 51 Going_init, 52 Going_way_to, 53 Going_rules_on, 54 Going_grown, 55 Going_come, 56 Going_gone
end K52
end

section
set_option maxHeartbeats 0
namespace K52
open PySem PySem.Spec PyProof.Rows L2 Ev
abbrev R : PySem.W.OpenRow := PySem.W.OpenLaw.row PySem.Challenge.rw_waitedmeets_k52_known_nets
abbrev hk : PySem.W.Hook := hookE 5 TB dz
def ob (s : PySem.W.SharedT) : He.AlT := obsEG 5 TB dz (HandSHeadRun.getT s)
theorem ob_eq (s : PySem.W.SharedT) : ob s = hk.obs s.abs := obsEG_eq (HandSHeadRun.getT_eq s)
def KK (s : PySem.W.SharedT) : PySem.W.Frag := He.frG (HandSHeadRun.getT s) (cStatics :: He.asD (HandSHeadRun.getT s) 5)
section
open PySem.W PySem.Calls HandSHeadRun
abbrev vw : Program := view R.prog [78]
noncomputable abbrev en (w : World) (os : OsState) := endF (stepQ (denQ tabQ) R.prog w) 6000 R.prog w os
def PA (w : World) : Prop := ∀ os : OsState, (en w os).map (fun s => (looksF R.prog (boot_heap w.params) s.abs, seenQ vw loose (importedModules R.prog.main.body) (fun s => xlAt vw [] s && recOk R.toRowW.records s) s.abs)) = some (true, openGood vw loose)
def PB (w : World) : Prop := ∀ os : OsState, (en w os).map (fun s => (glsB (KK s) TB.gl && (gdB (KK s) TB.gd && (clsB (KK s) TB.cl && xkB (KK s) TB)))) = some true
def PD (w : World) : Prop := ∀ os : OsState, (en w os).map (fun s => (He.obsD (faOf TB) dz (KK s)).1) = some true
def PC (w : World) : Prop := ∀ os : OsState, (en w os).map (fun s => ((He.obsD (faOf TB) dz (KK s)).2, TB.gd.map fun p => He.dicW (KK s) (He.ga (KK s) p.1))) = some (dz.map He.DefD.val, TB.gd.map fun p => some (He.keysIn w.params (p.2.map fun q => toS q.1)))
theorem run_Af (w : World) : PA (w.withFollow "special-get-raises" false) := fun os => by kernel_rfl
theorem run_At (w : World) : PA (w.withFollow "special-get-raises" true) := fun os => by kernel_rfl
theorem run_A (w : World) : PA w := byRow2 "special-get-raises" (P := PA) run_Af run_At w
theorem run_Bf (w : World) : PB (w.withFollow "special-get-raises" false) := fun os => by kernel_rfl
theorem run_Bt (w : World) : PB (w.withFollow "special-get-raises" true) := fun os => by kernel_rfl
theorem run_B (w : World) : PB w := byRow2 "special-get-raises" (P := PB) run_Bf run_Bt w
theorem run_Df (w : World) : PD (w.withFollow "special-get-raises" false) := fun os => by kernel_rfl
theorem run_Dt (w : World) : PD (w.withFollow "special-get-raises" true) := fun os => by kernel_rfl
theorem run_D (w : World) : PD w := byRow2 "special-get-raises" (P := PD) run_Df run_Dt w
theorem run_Cf (w : World) : PC (w.withFollow "special-get-raises" false) := fun os => by kernel_rfl
theorem run_Ct (w : World) : PC (w.withFollow "special-get-raises" true) := fun os => by kernel_rfl
theorem run_C (w : World) : PC w := byRow2 "special-get-raises" (P := PC) run_Cf run_Ct w
theorem join4 {S β γ δ : Type} {o : Option S} {l x1 x2 x3 x4 : S → Bool} {n : S → β} {y : S → γ} {z : S → δ} {b : β} {c : γ} {d : δ} (h1 : o.map (fun s => (l s, n s)) = some (true, b)) (h2 : o.map (fun s => (x1 s && (x2 s && x3 s))) = some true) (h4 : o.map x4 = some true)
    (h3 : o.map (fun s => (y s, z s)) = some (c, d)) : o.map (fun s => (l s, n s, (((x1 s && (x2 s && (x3 s && x4 s))), y s), z s))) = some (true, b, ((true, c), d)) := by
  cases o with
  | none => cases h1
  | some s =>
    simp only [Option.map_some, Option.some.injEq, Prod.mk.injEq, Bool.and_eq_true] at *
    exact ⟨h1.1, h1.2, ⟨⟨h2.1, h2.2.1, h2.2.2, h4⟩, h3.1⟩, h3.2⟩
end
theorem run_ (w : World) : HandSHeadRun.RunEq R vw hk ob 6000 loose w := fun os => join4 (x3 := fun s => clsB (KK s) TB.cl && xkB (KK s) TB) (run_A w os) (run_B w os) (run_D w os) (run_C w os)
end K52
open PySem PySem.W PySem.Calls PyProof.Rows
theorem k52_of (law : ∀ is : List Int, is.length ≤ 63 → ∃ M, Ev.run K52.TB.fns (Ev.gvOf K52.TB) 64 16 49 [.frz (is.map Ev.D.int)] 0 [] = .ok (.bl true) M) : PySem.Challenge.rw_waitedmeets_k52_known_nets.Holds := by
  w_on; o_law
  refine HandSHeadRun.head_any (r := OpenLaw.row PySem.Challenge.rw_waitedmeets_k52_known_nets) (q := view (OpenLaw.row PySem.Challenge.rw_waitedmeets_k52_known_nets).prog [78]) (H := K52.hk) (ob := K52.ob) (M := 6000) (loose := K52.loose) (d := HandSHeadRun.topDef (OpenLaw.row PySem.Challenge.rw_waitedmeets_k52_known_nets).prog 78) (kwd := []) K52.ob_eq
    (by kernel_rfl) (fun s => by kernel_rfl) K52.run_ (by kernel_rfl) (by kernel_rfl) (by kernel_rfl) (by rfl) (by first | assumption | decide +kernel) (by decide +kernel) ⟨rfl, rfl, rfl, rfl, rfl, by decide +kernel⟩ ?hw ?hc
  case hw => w_witness2
  case hc =>
    exact Ev.walk_ev (l := PySem.Challenge.rw_waitedmeets_k52_known_nets) (n := 63) (k := 16) (wf := 64) (f0 := 49) (TB := K52.TB) (ds := K52.ds) (xis := K52.xis) (fn0 := K52.f_law) (x := "_law_script") rfl (by decide) (by kernel_rfl) ⟨rfl, by decide, by decide⟩ K52.oks K52.xoks rfl rfl rfl rfl (by kernel_rfl) (fun w h z => z) law
end

section
/-! K52W: the text as words. -/
namespace K52
open PySem Ev
noncomputable section
def w_b_is_whole : KS := kss_cons (ks_ret (ke_and (ke_isi (ke_var 0) [.int]) (ke_not (ke_isi (ke_var 0) [.bool])))) kss_nil
def w_b_is_from : KS := kss_cons (ks_ret (ke_and (ke_call 0 (kl_cons (ke_var 0) kl_nil)) (ke_chn .le .le (ke_var 1) (ke_var 0) (ke_var 2)))) kss_nil
def w_c1_is_word : KE := ke_lc (kg_nam 1) (ki_seq (ke_var 0)) [1] kt_yes (ke_cmp .isin (ke_var 1) (ke_cst ((.str [97, 98, 99, 100, 101, 102, 103, 104, 105, 106, 107, 108, 109, 110, 111, 112, 113, 114, 115, 116, 117, 118, 119, 120, 121, 122]))))
def w_b_is_word : KS := kss_cons (ks_ret (ke_and (ke_isi (ke_var 0) [.str]) (ke_and (ke_chn .le .le (ke_cst (.int 1)) (ke_bi .len (kl_cons (ke_var 0) kl_nil)) (ke_cst ((.int 6)))) (ke_bi .all (kl_cons w_c1_is_word kl_nil))))) kss_nil
def w_b_is_written : KS := kss_cons (ks_ret (ke_or (ke_isi (ke_var 0) [.bool]) (ke_call 1 (kl_cons (ke_var 0) (kl_cons (ke_neg (ke_cst ((.int 1000000000)))) (kl_cons (ke_cst ((.int 1000000000))) kl_nil)))))) kss_nil
def w_b_is_tuple_of : KS := kss_cons (ks_ret (ke_and (ke_isi (ke_var 0) [.tup]) (ke_chn .le .le (ke_var 1) (ke_bi .len (kl_cons (ke_var 0) kl_nil)) (ke_var 2)))) kss_nil
def w_b_begins : KS := kss_cons (ks_ret (ke_and (ke_call 4 (kl_cons (ke_var 0) (kl_cons (ke_var 1) (kl_cons (ke_var 1) kl_nil)))) (ke_and (ke_isi (ke_ix (ke_var 0) (ke_cst (.int 0))) [.str]) (ke_cmp .eq (ke_ix (ke_var 0) (ke_cst (.int 0))) (ke_var 2))))) kss_nil
def w_c1_are_unlike : KE := ke_lc (kg_tup (kgs_cons (kg_nam 1) (kgs_cons (kg_nam 2) kgs_nil))) (ki_enu (ke_var 0)) [1, 2] kt_yes (ke_cmp .nin (ke_var 2) (ke_sl (ke_var 0) ko_none (ko_some (ke_var 1))))
def w_b_are_unlike : KS := kss_cons (ks_ret (ke_bi .all (kl_cons w_c1_are_unlike kl_nil))) kss_nil
def w_b_is_named_place : KS := kss_cons (ks_ret (ke_and (ke_call 4 (kl_cons (ke_var 0) (kl_cons (ke_cst (.int 2)) (kl_cons (ke_cst (.int 2)) kl_nil)))) (ke_and (ke_call 2 (kl_cons (ke_ix (ke_var 0) (ke_cst (.int 0))) kl_nil)) (ke_call 1 (kl_cons (ke_ix (ke_var 0) (ke_cst (.int 1))) (kl_cons (ke_cst (.int 0)) (kl_cons (ke_cst ((.int 3))) kl_nil))))))) kss_nil
def w_c1_is_kind : KE := ke_lc (kg_tup (kgs_cons (kg_nam 2) (kgs_cons (kg_nam 3) kgs_nil))) (ki_seq (ke_ix (ke_var 0) (ke_cst (.int 1)))) [2, 3] kt_yes (ke_var 2)
def w_c2_is_kind : KE := ke_lc (kg_nam 1) (ki_seq (ke_ix (ke_var 0) (ke_cst (.int 1)))) [1] kt_yes (ke_call 7 (kl_cons (ke_var 1) kl_nil))
def w_b_is_kind : KS := kss_cons (ks_iff (kt_or (kt_not (kt_val (ke_call 4 (kl_cons (ke_var 0) (kl_cons (ke_cst (.int 3)) (kl_cons (ke_cst (.int 3)) kl_nil)))))) (kt_or (kt_not (kt_val (ke_call 2 (kl_cons (ke_ix (ke_var 0) (ke_cst (.int 0))) kl_nil)))) (kt_not (kt_val (ke_call 4 (kl_cons (ke_ix (ke_var 0) (ke_cst (.int 1))) (kl_cons (ke_cst (.int 1)) (kl_cons (ke_cst ((.int 6))) kl_nil)))))))) (kss_cons (ks_ret (ke_cst (.bl false))) kss_nil) kss_nil) (kss_cons (ks_iff (kt_or (kt_not (kt_val (ke_bi .all (kl_cons w_c2_is_kind kl_nil)))) (kt_not (kt_val (ke_call 6 (kl_cons w_c1_is_kind kl_nil))))) (kss_cons (ks_ret (ke_cst (.bl false))) kss_nil) kss_nil) (kss_cons (ks_ret (ke_call 4 (kl_cons (ke_ix (ke_var 0) (ke_cst (.int 2))) (kl_cons (ke_cst (.int 0)) (kl_cons (ke_cst ((.int 8))) kl_nil))))) kss_nil))
def w_i1_is_slot : KS := kss_cons (ks_ret (ke_call 2 (kl_cons (ke_ix (ke_var 0) (ke_cst (.int 1))) kl_nil))) kss_nil
def w_b_is_slot : KS := kss_cons (ks_iff (kt_val (ke_call 5 (kl_cons (ke_var 0) (kl_cons (ke_cst (.int 2)) (kl_cons (ke_cst (.str [97, 115])) kl_nil))))) w_i1_is_slot kss_nil) (kss_cons (ks_ret (ke_and (ke_call 5 (kl_cons (ke_var 0) (kl_cons (ke_cst (.int 2)) (kl_cons (ke_cst (.str [105, 115])) kl_nil)))) (ke_call 3 (kl_cons (ke_ix (ke_var 0) (ke_cst (.int 1))) kl_nil)))) kss_nil)
def w_c1_is_head : KE := ke_lc (kg_nam 3) (ki_seq (ke_ix (ke_var 1) (ke_cst (.int 1)))) [3] kt_yes (ke_call 9 (kl_cons (ke_var 3) kl_nil))
def w_b_is_head : KS := kss_cons (ks_iff (kt_or (kt_not (kt_val (ke_call 4 (kl_cons (ke_var 1) (kl_cons (ke_cst (.int 2)) (kl_cons (ke_cst (.int 2)) kl_nil)))))) (kt_or (kt_not (kt_val (ke_call 2 (kl_cons (ke_ix (ke_var 1) (ke_cst (.int 0))) kl_nil)))) (kt_cmp .nin (ke_ix (ke_var 1) (ke_cst (.int 0))) (ke_var 0)))) (kss_cons (ks_ret (ke_cst (.bl false))) kss_nil) kss_nil) (kss_cons (ks_asg (kg_nam 2) (ke_ix (ke_var 0) (ke_ix (ke_var 1) (ke_cst (.int 0))))) (kss_cons (ks_ret (ke_and (ke_call 4 (kl_cons (ke_ix (ke_var 1) (ke_cst (.int 1))) (kl_cons (ke_var 2) (kl_cons (ke_var 2) kl_nil)))) (ke_bi .all (kl_cons w_c1_is_head kl_nil)))) kss_nil))
def w_c1_names_in : KE := ke_lc2 (kg_tup (kgs_cons (kg_nam 1) (kgs_cons (kg_nam 2) kgs_nil))) (ki_seq (ke_var 0)) kt_yes (kg_nam 3) (ki_seq (ke_var 2)) (kt_cmp .eq (ke_ix (ke_var 3) (ke_cst (.int 0))) (ke_cst (.str [97, 115]))) [1, 2, 3] [3] (ke_ix (ke_var 3) (ke_cst (.int 1)))
def w_b_names_in : KS := kss_cons (ks_ret w_c1_names_in) kss_nil
def w_c1_are_heads : KE := ke_lc (kg_tup (kgs_cons (kg_nam 2) (kgs_cons (kg_nam 3) kgs_nil))) (ki_seq (ke_var 1)) [2, 3] kt_yes (ke_var 2)
def w_c2_are_heads : KE := ke_lc (kg_nam 4) (ki_seq (ke_var 1)) [4] kt_yes (ke_call 10 (kl_cons (ke_var 0) (kl_cons (ke_var 4) kl_nil)))
def w_b_are_heads : KS := kss_cons (ks_iff (kt_or (kt_not (kt_val (ke_call 4 (kl_cons (ke_var 1) (kl_cons (ke_cst (.int 1)) (kl_cons (ke_cst ((.int 4))) kl_nil)))))) (kt_not (kt_val (ke_bi .all (kl_cons w_c2_are_heads kl_nil))))) (kss_cons (ks_ret (ke_cst (.bl false))) kss_nil) kss_nil) (kss_cons (ks_ret (ke_and (ke_call 6 (kl_cons w_c1_are_heads kl_nil)) (ke_call 6 (kl_cons (ke_call 11 (kl_cons (ke_var 1) kl_nil)) kl_nil)))) kss_nil)
def w_i1_is_operand : KS := kss_cons (ks_ret (ke_cmp .isn (ke_fld (ke_var 0) 7 1) (ke_cst .non))) kss_nil
def w_i2_is_operand : KS := kss_cons (ks_ret (ke_call 2 (kl_cons (ke_ix (ke_var 1) (ke_cst (.int 1))) kl_nil))) kss_nil
def w_b_is_operand : KS := kss_cons (ks_iff (kt_val (ke_call 5 (kl_cons (ke_var 1) (kl_cons (ke_cst (.int 2)) (kl_cons (ke_cst (.str [111, 102])) kl_nil))))) w_i2_is_operand kss_nil) (kss_cons (ks_iff (kt_val (ke_call 5 (kl_cons (ke_var 1) (kl_cons (ke_cst (.int 1)) (kl_cons (ke_cst (.str [111, 119, 110])) kl_nil))))) w_i1_is_operand kss_nil) (kss_cons (ks_ret (ke_and (ke_call 5 (kl_cons (ke_var 1) (kl_cons (ke_cst (.int 2)) (kl_cons (ke_cst (.str [105, 115])) kl_nil)))) (ke_call 3 (kl_cons (ke_ix (ke_var 1) (ke_cst (.int 1))) kl_nil)))) kss_nil))
def w_c1_are_given : KE := ke_lc (kg_nam 4) (ki_seq (ke_var 1)) [4] kt_yes (ke_call 13 (kl_cons (ke_var 0) (kl_cons (ke_var 4) kl_nil)))
def w_b_are_given : KS := kss_cons (ks_ret (ke_and (ke_call 4 (kl_cons (ke_var 1) (kl_cons (ke_var 2) (kl_cons (ke_var 3) kl_nil)))) (ke_bi .all (kl_cons w_c1_are_given kl_nil)))) kss_nil
def w_i1_is_own_deed : KS := kss_cons (ks_ret (ke_and (ke_cmp .isin (ke_ix (ke_var 1) (ke_cst (.int 1))) (ke_fld (ke_var 0) 7 2)) (ke_call 13 (kl_cons (ke_var 0) (kl_cons (ke_ix (ke_var 1) (ke_cst (.int 2))) kl_nil))))) kss_nil
def w_b_is_own_deed : KS := kss_cons (ks_iff (kt_or (kt_cmp .is (ke_fld (ke_var 0) 7 1) (ke_cst .non)) (kt_not (kt_val (ke_call 2 (kl_cons (ke_ix (ke_var 1) (ke_cst (.int 1))) kl_nil))))) (kss_cons (ks_ret (ke_cst (.bl false))) kss_nil) kss_nil) (kss_cons (ks_iff (kt_cmp .eq (ke_ix (ke_var 1) (ke_cst (.int 0))) (ke_cst (.str [97, 110, 115, 119, 101, 114]))) w_i1_is_own_deed kss_nil) (kss_cons (ks_asg (kg_nam 2) (ke_get (ke_fld (ke_var 0) 7 1) (ke_ix (ke_var 1) (ke_cst (.int 1))))) (kss_cons (ks_ret (ke_and (ke_cmp .isn (ke_var 2) (ke_cst .non)) (ke_call 14 (kl_cons (ke_var 0) (kl_cons (ke_ix (ke_var 1) (ke_cst (.int 2))) (kl_cons (ke_var 2) (kl_cons (ke_var 2) kl_nil))))))) kss_nil)))
def w_i1_is_naming_deed : KS := kss_cons (ks_ret (ke_and (ke_call 13 (kl_cons (ke_var 0) (kl_cons (ke_ix (ke_var 4) (ke_cst (.int 0))) kl_nil))) (ke_calld 14 (kl_cons (ke_var 0) (kl_cons (ke_ix (ke_var 4) (ke_cst (.int 1))) kl_nil)) [.int 0, .int 3]))) kss_nil
def w_i2_is_naming_deed : KS := kss_cons (ks_ret (ke_and (ke_call 13 (kl_cons (ke_var 0) (kl_cons (ke_ix (ke_var 4) (ke_cst (.int 0))) kl_nil))) (ke_call 2 (kl_cons (ke_ix (ke_var 4) (ke_cst (.int 1))) kl_nil)))) kss_nil
def w_i3_is_naming_deed : KS := kss_cons (ks_ret (ke_and (ke_call 2 (kl_cons (ke_ix (ke_var 4) (ke_cst (.int 0))) kl_nil)) (ke_cmp .isin (ke_ix (ke_var 4) (ke_cst (.int 0))) (ke_fld (ke_var 0) 7 0)))) kss_nil
def w_i4_is_naming_deed : KS := kss_cons (ks_asg (kg_nam 5) (ke_and (ke_isi (ke_ix (ke_var 4) (ke_cst (.int 0))) [.str]) (ke_cmp .isin (ke_ix (ke_var 4) (ke_cst (.int 0))) (ke_cst ((.tup [(.str [112, 108, 117, 115]), (.str [109, 105, 110, 117, 115]), (.str [116, 105, 109, 101, 115]), (.str [98, 101, 108, 111, 119]), (.str [115, 97, 109, 101])])))))) (kss_cons (ks_ret (ke_and (ke_var 5) (ke_and (ke_call 13 (kl_cons (ke_var 0) (kl_cons (ke_ix (ke_var 4) (ke_cst (.int 1))) kl_nil))) (ke_call 13 (kl_cons (ke_var 0) (kl_cons (ke_ix (ke_var 4) (ke_cst (.int 2))) kl_nil)))))) kss_nil)
def w_b_is_naming_deed : KS := kss_cons (ks_asg (kg_star 3 (kgs_cons (kg_nam 2) (kgs_cons (kg_nam 3) (kgs_cons (kg_nam 4) kgs_nil)))) (ke_var 1)) (kss_cons (ks_iff (kt_not (kt_val (ke_call 2 (kl_cons (ke_var 3) kl_nil)))) (kss_cons (ks_ret (ke_cst (.bl false))) kss_nil) kss_nil) (kss_cons (ks_iff (kt_cmp .eq (ke_var 2) (ke_cst (.str [108, 101, 116]))) w_i4_is_naming_deed kss_nil) (kss_cons (ks_iff (kt_cmp .eq (ke_var 2) (ke_cst (.str [109, 97, 107, 101]))) w_i3_is_naming_deed kss_nil) (kss_cons (ks_iff (kt_cmp .eq (ke_var 2) (ke_cst (.str [112, 108, 97, 99, 101]))) w_i2_is_naming_deed kss_nil) (kss_cons (ks_iff (kt_cmp .eq (ke_var 2) (ke_cst (.str [99, 97, 108, 108]))) w_i1_is_naming_deed kss_nil) (kss_cons (ks_ret (ke_call 13 (kl_cons (ke_var 0) (kl_cons (ke_ix (ke_var 4) (ke_cst (.int 0))) kl_nil)))) kss_nil))))))
def w_i1_is_deed : KS := kss_cons (ks_ret (ke_and (ke_call 13 (kl_cons (ke_var 0) (kl_cons (ke_ix (ke_var 1) (ke_cst (.int 1))) kl_nil))) (ke_call 1 (kl_cons (ke_ix (ke_var 1) (ke_cst (.int 2))) (kl_cons (ke_cst (.int 1)) (kl_cons (ke_var 2) kl_nil)))))) kss_nil
def w_i2_is_deed : KS := kss_cons (ks_ret (ke_and (ke_call 13 (kl_cons (ke_var 0) (kl_cons (ke_ix (ke_var 1) (ke_cst (.int 1))) kl_nil))) (ke_calld 14 (kl_cons (ke_var 0) (kl_cons (ke_ix (ke_var 1) (ke_cst (.int 2))) kl_nil)) [.int 0, .int 3]))) kss_nil
def w_i3_is_deed : KS := kss_cons (ks_ret (ke_call 13 (kl_cons (ke_var 0) (kl_cons (ke_ix (ke_var 1) (ke_cst (.int 1))) kl_nil)))) kss_nil
def w_i4_is_deed : KS := kss_cons (ks_ret (ke_call 15 (kl_cons (ke_var 0) (kl_cons (ke_var 1) kl_nil)))) kss_nil
def w_b_is_deed : KS := kss_cons (ks_iff (kt_or (kt_not (kt_val (ke_isi (ke_var 1) [.tup]))) (kt_or (kt_cmp .eq (ke_var 1) (ke_tup kl_nil)) (kt_not (kt_val (ke_isi (ke_ix (ke_var 1) (ke_cst (.int 0))) [.str]))))) (kss_cons (ks_ret (ke_cst (.bl false))) kss_nil) kss_nil) (kss_cons (ks_iff (kt_cmp .ne (ke_gget [([115, 101, 116], 3), ([108, 101, 116], 5), ([110, 111, 116, 101], 2), ([109, 97, 107, 101], 3), ([112, 108, 97, 99, 101], 4), ([108, 97, 121], 3), ([112, 117, 116], 3), ([99, 97, 108, 108], 4), ([97, 110, 115, 119, 101, 114], 3), ([119, 104, 101, 110], 3)] (ke_ix (ke_var 1) (ke_cst (.int 0)))) (ke_bi .len (kl_cons (ke_var 1) kl_nil))) (kss_cons (ks_ret (ke_cst (.bl false))) kss_nil) kss_nil) (kss_cons (ks_iff (kt_cmp .isin (ke_ix (ke_var 1) (ke_cst (.int 0))) (ke_tup (kl_cons (ke_cst (.str [112, 117, 116])) (kl_cons (ke_cst (.str [97, 110, 115, 119, 101, 114])) kl_nil)))) w_i4_is_deed kss_nil) (kss_cons (ks_iff (kt_cmp .eq (ke_ix (ke_var 1) (ke_cst (.int 0))) (ke_cst (.str [110, 111, 116, 101]))) w_i3_is_deed kss_nil) (kss_cons (ks_iff (kt_cmp .eq (ke_ix (ke_var 1) (ke_cst (.int 0))) (ke_cst (.str [108, 97, 121]))) w_i2_is_deed kss_nil) (kss_cons (ks_iff (kt_cmp .eq (ke_ix (ke_var 1) (ke_cst (.int 0))) (ke_cst (.str [119, 104, 101, 110]))) w_i1_is_deed kss_nil) (kss_cons (ks_ret (ke_call 16 (kl_cons (ke_var 0) (kl_cons (ke_var 1) kl_nil)))) kss_nil))))))
def w_c1_wrong_deed : KE := ke_lc (kg_tup (kgs_cons (kg_nam 3) (kgs_cons (kg_nam 4) kgs_nil))) (ki_enu (ke_var 1)) [3, 4] (kt_not (kt_val (ke_call 17 (kl_cons (ke_var 0) (kl_cons (ke_var 4) (kl_cons (ke_bin .sub (ke_bin .sub (ke_bi .len (kl_cons (ke_var 1) kl_nil)) (ke_var 3)) (ke_cst (.int 1))) kl_nil)))))) (ke_var 3)
def w_b_wrong_deed : KS := kss_cons (ks_asg (kg_nam 2) w_c1_wrong_deed) (kss_cons (ks_ret (ke_ife (kt_cmp .ne (ke_var 2) (ke_lst kl_nil)) (ke_ix (ke_var 2) (ke_cst (.int 0))) (ke_cst .non))) kss_nil)
def w_c1_look_at_kinds : KE := ke_lc (kg_star 2 (kgs_cons (kg_nam 3) (kgs_cons (kg_nam 4) kgs_nil))) (ki_seq (ke_sl (ke_var 0) ko_none (ko_some (ke_var 1)))) [3, 4] kt_yes (ke_var 3)
def w_i1_look_at_kinds : KS := kss_cons (ks_raiC 1 (kl_cons (ke_var 1) (kl_cons (ke_cst .non) (kl_cons (ke_cst .non) kl_nil)))) kss_nil
def w_s1_look_at_kinds : KS := kss_cons (ks_iff (kt_or (kt_not (kt_val (ke_call 8 (kl_cons (ke_var 2) kl_nil)))) (kt_cmp .isin (ke_ix (ke_var 2) (ke_cst (.int 0))) w_c1_look_at_kinds)) w_i1_look_at_kinds kss_nil) kss_nil
def w_l1_look_at_kinds : KS := ks_for_ (kg_tup (kgs_cons (kg_nam 1) (kgs_cons (kg_nam 2) kgs_nil))) (ki_enu (ke_var 0)) w_s1_look_at_kinds
def w_b_look_at_kinds : KS := kss_cons w_l1_look_at_kinds kss_nil
def w_i1_look_at_rules : KS := kss_cons (ks_raiC 1 (kl_cons (ke_var 1) (kl_cons (ke_var 4) (kl_cons (ke_var 6) kl_nil)))) kss_nil
def w_c1_look_at_rules : KE := ke_lc (kg_tup (kgs_cons (kg_nam 7) (kgs_cons (kg_nam 8) kgs_nil))) (ki_seq (ke_ix (ke_var 5) (ke_cst (.int 0)))) [7, 8] kt_yes (ke_var 7)
def w_i2_look_at_rules : KS := kss_cons (ks_raiC 1 (kl_cons (ke_var 1) (kl_cons (ke_var 4) (kl_cons (ke_cst .non) kl_nil)))) kss_nil
def w_s1_look_at_rules : KS := kss_cons (ks_iff (kt_or (kt_not (kt_val (ke_call 4 (kl_cons (ke_var 5) (kl_cons (ke_cst (.int 2)) (kl_cons (ke_cst (.int 2)) kl_nil)))))) (kt_or (kt_not (kt_val (ke_call 12 (kl_cons (ke_var 3) (kl_cons (ke_ix (ke_var 5) (ke_cst (.int 0))) kl_nil))))) (kt_not (kt_val (ke_call 4 (kl_cons (ke_ix (ke_var 5) (ke_cst (.int 1))) (kl_cons (ke_cst (.int 0)) (kl_cons (ke_cst ((.int 12))) kl_nil)))))))) w_i2_look_at_rules kss_nil) (kss_cons (ks_asg (kg_nam 6) (ke_call 18 (kl_cons (ke_new 7 50 (kl_cons (ke_var 0) (kl_cons (ke_var 3) (kl_cons w_c1_look_at_rules kl_nil)))) (kl_cons (ke_ix (ke_var 5) (ke_cst (.int 1))) kl_nil)))) (kss_cons (ks_iff (kt_cmp .isn (ke_var 6) (ke_cst .non)) w_i1_look_at_rules kss_nil) kss_nil))
def w_l1_look_at_rules : KS := ks_for_ (kg_tup (kgs_cons (kg_nam 4) (kgs_cons (kg_nam 5) kgs_nil))) (ki_enu (ke_ix (ke_var 2) (ke_cst (.int 2)))) w_s1_look_at_rules
def w_b_look_at_rules : KS := kss_cons (ks_asg (kg_nam 3) (ke_dct (ke_ix (ke_var 2) (ke_cst (.int 1))))) (kss_cons w_l1_look_at_rules kss_nil)
def w_i1_look_at_program : KS := kss_cons (ks_raiC 1 (kl_cons (ke_cst .non) (kl_cons (ke_cst .non) (kl_cons (ke_var 6) kl_nil)))) kss_nil
def w_s1_look_at_program : KS := kss_cons (ks_expr (ke_call 20 (kl_cons (ke_var 3) (kl_cons (ke_var 4) (kl_cons (ke_var 5) kl_nil))))) kss_nil
def w_l1_look_at_program : KS := ks_for_ (kg_tup (kgs_cons (kg_nam 4) (kgs_cons (kg_nam 5) kgs_nil))) (ki_enu (ke_var 1)) w_s1_look_at_program
def w_c1_look_at_program : KE := ke_lc (kg_nam 5) (ki_seq (ke_var 1)) [5] kt_yes (ke_ix (ke_var 5) (ke_cst (.int 0)))
def w_i2_look_at_program : KS := kss_cons (ks_raiC 1 (kl_cons (ke_cst .non) (kl_cons (ke_cst .non) (kl_cons (ke_cst .non) kl_nil)))) kss_nil
def w_i3_look_at_program : KS := kss_cons (ks_raiC 1 (kl_cons (ke_cst .non) (kl_cons (ke_cst .non) (kl_cons (ke_cst .non) kl_nil)))) kss_nil
def w_b_look_at_program : KS := kss_cons (ks_iff (kt_or (kt_not (kt_val (ke_call 4 (kl_cons (ke_var 0) (kl_cons (ke_cst (.int 2)) (kl_cons (ke_cst (.int 2)) kl_nil)))))) (kt_not (kt_val (ke_call 4 (kl_cons (ke_ix (ke_var 0) (ke_cst (.int 0))) (kl_cons (ke_cst (.int 1)) (kl_cons (ke_cst ((.int 6))) kl_nil))))))) w_i3_look_at_program kss_nil) (kss_cons (ks_asg (kg_tup (kgs_cons (kg_nam 1) (kgs_cons (kg_nam 2) kgs_nil))) (ke_var 0)) (kss_cons (ks_iff (kt_not (kt_val (ke_call 4 (kl_cons (ke_var 2) (kl_cons (ke_cst (.int 0)) (kl_cons (ke_cst ((.int 16))) kl_nil)))))) w_i2_look_at_program kss_nil) (kss_cons (ks_expr (ke_call 19 (kl_cons (ke_var 1) kl_nil))) (kss_cons (ks_asg (kg_nam 3) w_c1_look_at_program) (kss_cons w_l1_look_at_program (kss_cons (ks_asg (kg_nam 6) (ke_call 18 (kl_cons (ke_new 7 50 (kl_cons (ke_var 3) (kl_cons (ke_cst .non) (kl_cons (ke_lst kl_nil) kl_nil)))) (kl_cons (ke_var 2) kl_nil)))) (kss_cons (ks_iff (kt_cmp .isn (ke_var 6) (ke_cst .non)) w_i1_look_at_program kss_nil) kss_nil)))))))
def w_t1_is_kind_alone : KS := kss_cons (ks_expr (ke_call 21 (kl_cons (ke_tup (kl_cons (ke_tup (kl_cons (ke_var 0) kl_nil)) (kl_cons (ke_tup kl_nil) kl_nil))) kl_nil))) kss_nil
def w_b_is_kind_alone : KS := kss_cons (ks_tryc w_t1_is_kind_alone [(0, false), (1, true), (2, false), (3, false), (4, false), (5, false), (6, false)] ((.bl false))) (kss_cons (ks_ret (ke_cst (.bl true))) kss_nil)
def w_b_asked_by : KS := kss_cons (ks_asg (kg_star 2 (kgs_cons (kg_nam 1) (kgs_cons (kg_nam 2) kgs_nil))) (ke_var 0)) (kss_cons (ks_ret (ke_ife (kt_cmp .eq (ke_var 1) (ke_cst (.str [112, 117, 116]))) (ke_bi .lst (kl_cons (ke_ix (ke_var 2) (ke_cst (.int 1))) kl_nil)) (ke_lst (kl_cons (ke_ix (ke_var 2) (ke_neg (ke_cst (.int 1)))) kl_nil)))) kss_nil)
def w_i1_asks_known : KS := kss_cons (ks_asg (kg_sub (ke_var 2) (ke_ix (ke_var 3) (ke_cst (.int 1)))) (ke_cst (.bl true))) kss_nil
def w_c1_asks_known : KE := ke_lc (kg_nam 8) (ki_seq (ke_call 23 (kl_cons (ke_var 3) kl_nil))) [8] kt_yes (ke_sl (ke_bin .add (ke_var 8) (ke_tup (kl_cons (ke_cst .non) kl_nil))) ko_none (ko_some (ke_cst (.int 2))))
def w_c2_asks_known : KE := ke_lc (kg_tup (kgs_cons (kg_nam 6) (kgs_cons (kg_nam 7) kgs_nil))) (ki_seq w_c1_asks_known) [6, 7] kt_yes (ke_or (ke_cmp .ne (ke_var 6) (ke_cst (.str [111, 102]))) (ke_cmp .isin (ke_var 7) (ke_var 2)))
def w_s1_asks_known : KS := kss_cons (ks_iff (kt_not (kt_val (ke_bi .all (kl_cons w_c2_asks_known kl_nil)))) (kss_cons (ks_ret (ke_cst (.bl false))) kss_nil) kss_nil) (kss_cons (ks_iff (kt_cmp .eq (ke_ix (ke_var 3) (ke_cst (.int 0))) (ke_cst (.str [115, 101, 116]))) w_i1_asks_known kss_nil) kss_nil)
def w_l1_asks_known : KS := ks_for_ (kg_nam 3) (ki_seq (ke_var 1)) w_s1_asks_known
def w_c3_asks_known : KE := ke_dc2 (kg_tup (kgs_cons (kg_nam 4) (kgs_cons (kg_nam 5) kgs_nil))) (ki_seq (ke_var 0)) kt_yes (kg_tup (kgs_cons (kg_nam 6) (kgs_cons (kg_nam 7) kgs_nil))) (ki_seq (ke_var 5)) (kt_cmp .eq (ke_var 6) (ke_cst (.str [97, 115]))) [4, 5, 6, 7] [6, 7] (ke_var 7) (ke_cst (.bl true))
def w_b_asks_known : KS := kss_cons (ks_asg (kg_nam 2) w_c3_asks_known) (kss_cons w_l1_asks_known (kss_cons (ks_ret (ke_cst (.bl true))) kss_nil))
def w_c1_is_net_rule : KE := ke_lc (kg_nam 7) (ki_seq (ke_var 2)) [7] kt_yes (ke_cmp .isin (ke_ix (ke_var 7) (ke_cst (.int 0))) (ke_cst ((.tup [(.str [115, 101, 116]), (.str [112, 117, 116]), (.str [110, 111, 116, 101])]))))
def w_c2_is_net_rule : KE := ke_lc2 (kg_tup (kgs_cons (kg_nam 3) (kgs_cons (kg_nam 4) kgs_nil))) (ki_seq (ke_var 1)) kt_yes (kg_tup (kgs_cons (kg_nam 5) (kgs_cons (kg_nam 6) kgs_nil))) (ki_seq (ke_var 4)) kt_yes [3, 4, 5, 6] [5, 6] (ke_cmp .eq (ke_var 5) (ke_cst (.str [105, 115])))
def w_b_is_net_rule : KS := kss_cons (ks_asg (kg_tup (kgs_cons (kg_nam 1) (kgs_cons (kg_nam 2) kgs_nil))) (ke_var 0)) (kss_cons (ks_iff (kt_val (ke_bi .any (kl_cons w_c2_is_net_rule kl_nil))) (kss_cons (ks_ret (ke_cst (.bl false))) kss_nil) kss_nil) (kss_cons (ks_ret (ke_and (ke_bi .all (kl_cons w_c1_is_net_rule kl_nil)) (ke_call 24 (kl_cons (ke_var 1) (kl_cons (ke_var 2) kl_nil))))) kss_nil))
def w_c1_is_net : KE := ke_lc (kg_nam 1) (ki_seq (ke_ix (ke_var 0) (ke_cst (.int 2)))) [1] kt_yes (ke_call 25 (kl_cons (ke_var 1) kl_nil))
def w_b_is_net : KS := kss_cons (ks_ret (ke_and (ke_call 22 (kl_cons (ke_var 0) kl_nil)) (ke_bi .all (kl_cons w_c1_is_net kl_nil)))) kss_nil
def w_c1_look_at_marking : KE := ke_lc (kg_nam 2) (ki_seq (ke_var 1)) [2] kt_yes (ke_and (ke_call 0 (kl_cons (ke_var 2) kl_nil)) (ke_cmp .ge (ke_var 2) (ke_cst (.int 0))))
def w_b_look_at_marking : KS := kss_cons (ks_iff (kt_not (kt_val (ke_call 26 (kl_cons (ke_var 0) kl_nil)))) (kss_cons (ks_rai 3) kss_nil) kss_nil) (kss_cons (ks_iff (kt_or (kt_not (kt_val (ke_isi (ke_var 1) [.tup]))) (kt_cmp .ne (ke_bi .len (kl_cons (ke_var 1) kl_nil)) (ke_bi .len (kl_cons (ke_ix (ke_var 0) (ke_cst (.int 1))) kl_nil)))) (kss_cons (ks_rai 4) kss_nil) kss_nil) (kss_cons (ks_iff (kt_not (kt_val (ke_bi .all (kl_cons w_c1_look_at_marking kl_nil)))) (kss_cons (ks_rai 4) kss_nil) kss_nil) kss_nil))
def w_c1_can_by : KE := ke_lc (kg_tup (kgs_cons (kg_nam 9) (kgs_cons (kg_nam 10) kgs_nil))) (ki_seq (ke_var 7)) [9, 10] kt_yes (ke_cmp .gt (ke_ix (ke_var 2) (ke_var 9)) (ke_cst (.int 0)))
def w_c2_can_by : KE := ke_lc (kg_tup (kgs_cons (kg_nam 6) (kgs_cons (kg_tup (kgs_cons (kg_nam 7) (kgs_cons (kg_nam 8) kgs_nil))) kgs_nil))) (ki_enu (ke_ix (ke_var 0) (ke_cst (.int 2)))) [6, 7, 8] (kt_val (ke_bi .all (kl_cons w_c1_can_by kl_nil))) (ke_var 6)
def w_c3_can_by : KE := ke_dc (kg_tup (kgs_cons (kg_tup (kgs_cons (kg_nam 3) (kgs_cons (kg_nam 4) kgs_nil))) (kgs_cons (kg_nam 5) kgs_nil))) (ki_zips (ke_ix (ke_var 0) (ke_cst (.int 1))) (ke_var 1)) [3, 4, 5] kt_yes (ke_var 3) (ke_var 5)
def w_b_can_by : KS := kss_cons (ks_asg (kg_nam 2) w_c3_can_by) (kss_cons (ks_ret w_c2_can_by) kss_nil)
def w_c1_behind_by : KE := ke_lc (kg_tup (kgs_cons (kg_nam 9) (kgs_cons (kg_nam 10) kgs_nil))) (ki_seq (ke_ix (ke_var 0) (ke_cst (.int 1)))) [9, 10] kt_yes (ke_ix (ke_var 5) (ke_var 9))
def w_i1_behind_by : KS := kss_cons (ks_augs (ke_var 5) (ke_ix (ke_var 8) (ke_cst (.int 1))) .add (ke_cst (.int 1))) kss_nil
def w_s1_behind_by : KS := kss_cons (ks_iff (kt_cmp .eq (ke_ix (ke_var 8) (ke_cst (.int 0))) (ke_cst (.str [112, 117, 116]))) w_i1_behind_by kss_nil) kss_nil
def w_l1_behind_by : KS := ks_for_ (kg_nam 8) (ki_seq (ke_var 4)) w_s1_behind_by
def w_s2_behind_by : KS := kss_cons (ks_augs (ke_var 5) (ke_var 6) .sub (ke_cst (.int 1))) kss_nil
def w_l2_behind_by : KS := ks_for_ (kg_tup (kgs_cons (kg_nam 6) (kgs_cons (kg_nam 7) kgs_nil))) (ki_seq (ke_var 3)) w_s2_behind_by
def w_c2_behind_by : KE := ke_dc (kg_tup (kgs_cons (kg_tup (kgs_cons (kg_nam 9) (kgs_cons (kg_nam 10) kgs_nil))) (kgs_cons (kg_nam 11) kgs_nil))) (ki_zips (ke_ix (ke_var 0) (ke_cst (.int 1))) (ke_var 1)) [9, 10, 11] kt_yes (ke_var 9) (ke_var 11)
def w_b_behind_by : KS := kss_cons (ks_asg (kg_tup (kgs_cons (kg_nam 3) (kgs_cons (kg_nam 4) kgs_nil))) (ke_ix (ke_ix (ke_var 0) (ke_cst (.int 2))) (ke_var 2))) (kss_cons (ks_asg (kg_nam 5) w_c2_behind_by) (kss_cons w_l2_behind_by (kss_cons w_l1_behind_by (kss_cons (ks_ret (ke_bi .tup (kl_cons w_c1_behind_by kl_nil))) kss_nil))))
def w_b_can : KS := kss_cons (ks_expr (ke_call 27 (kl_cons (ke_var 0) (kl_cons (ke_var 1) kl_nil)))) (kss_cons (ks_ret (ke_call 28 (kl_cons (ke_var 0) (kl_cons (ke_var 1) kl_nil)))) kss_nil)
def w_b_behind : KS := kss_cons (ks_expr (ke_call 27 (kl_cons (ke_var 0) (kl_cons (ke_var 1) kl_nil)))) (kss_cons (ks_iff (kt_or (kt_not (kt_val (ke_call 0 (kl_cons (ke_var 2) kl_nil)))) (kt_cmp .nin (ke_var 2) (ke_call 28 (kl_cons (ke_var 0) (kl_cons (ke_var 1) kl_nil))))) (kss_cons ks_bad kss_nil) kss_nil) (kss_cons (ks_ret (ke_call 29 (kl_cons (ke_var 0) (kl_cons (ke_var 1) (kl_cons (ke_var 2) kl_nil))))) kss_nil))
def w_c1_is_within : KE := ke_lc (kg_tup (kgs_cons (kg_nam 2) (kgs_cons (kg_nam 3) kgs_nil))) (ki_zips (ke_var 0) (ke_var 1)) [2, 3] kt_yes (ke_cmp .le (ke_var 2) (ke_var 3))
def w_b_is_within : KS := kss_cons (ks_ret (ke_bi .all (kl_cons w_c1_is_within kl_nil))) kss_nil
def w_b_holds : KS := kss_cons (ks_expr (ke_call 27 (kl_cons (ke_var 0) (kl_cons (ke_var 1) kl_nil)))) (kss_cons (ks_iff (kt_or (kt_not (kt_val (ke_call 0 (kl_cons (ke_var 2) kl_nil)))) (kt_not (kt_chn .le .le (ke_cst (.int 1)) (ke_var 2) (ke_cst ((.int 5000)))))) (kss_cons (ks_rai 2) kss_nil) kss_nil) (kss_cons (ks_asg (kg_nam 3) (ke_new 8 51 (kl_cons (ke_var 0) (kl_cons (ke_var 1) (kl_cons (ke_var 2) kl_nil))))) (kss_cons (ks_ret (ke_mc (ke_var 3) [(8, 56)] kl_nil)) kss_nil)))
def w_c1_is_marking : KE := ke_lc (kg_nam 2) (ki_seq (ke_var 1)) [2] kt_yes (ke_and (ke_call 0 (kl_cons (ke_var 2) kl_nil)) (ke_cmp .ge (ke_var 2) (ke_cst (.int 0))))
def w_b_is_marking : KS := kss_cons (ks_iff (kt_or (kt_not (kt_val (ke_isi (ke_var 1) [.tup]))) (kt_cmp .ne (ke_bi .len (kl_cons (ke_var 1) kl_nil)) (ke_bi .len (kl_cons (ke_ix (ke_var 0) (ke_cst (.int 1))) kl_nil)))) (kss_cons (ks_ret (ke_cst (.bl false))) kss_nil) kss_nil) (kss_cons (ks_ret (ke_bi .all (kl_cons w_c1_is_marking kl_nil))) kss_nil)
def w_c1_lets_closed : KE := ke_lc2 (kg_nam 4) (ki_seq (ke_var 2)) kt_yes (kg_nam 5) (ki_seq (ke_call 28 (kl_cons (ke_var 0) (kl_cons (ke_var 4) kl_nil)))) kt_yes [4, 5] [5] (ke_cmp .isin (ke_call 29 (kl_cons (ke_var 0) (kl_cons (ke_var 4) (kl_cons (ke_var 5) kl_nil)))) (ke_var 3))
def w_c2_lets_closed : KE := ke_dc (kg_nam 4) (ki_seq (ke_var 2)) [4] kt_yes (ke_var 4) (ke_cst (.bl true))
def w_c3_lets_closed : KE := ke_lc (kg_nam 4) (ki_seq (ke_var 2)) [4] kt_yes (ke_call 34 (kl_cons (ke_var 0) (kl_cons (ke_var 4) kl_nil)))
def w_b_lets_closed : KS := kss_cons (ks_iff (kt_or (kt_not (kt_val (ke_isi (ke_var 2) [.lst]))) (kt_not (kt_val (ke_bi .all (kl_cons w_c3_lets_closed kl_nil))))) (kss_cons (ks_ret (ke_cst (.bl false))) kss_nil) kss_nil) (kss_cons (ks_asg (kg_nam 3) w_c2_lets_closed) (kss_cons (ks_iff (kt_or (kt_cmp .lt (ke_bi .len (kl_cons (ke_var 3) kl_nil)) (ke_bi .len (kl_cons (ke_var 2) kl_nil))) (kt_cmp .nin (ke_var 1) (ke_var 3))) (kss_cons (ks_ret (ke_cst (.bl false))) kss_nil) kss_nil) (kss_cons (ks_ret (ke_bi .all (kl_cons w_c1_lets_closed kl_nil))) kss_nil)))
def w_s1_led_by : KS := kss_cons (ks_iff (kt_or (kt_not (kt_val (ke_call 0 (kl_cons (ke_var 3) kl_nil)))) (kt_cmp .nin (ke_var 3) (ke_call 28 (kl_cons (ke_var 0) (kl_cons (ke_var 1) kl_nil))))) (kss_cons (ks_ret (ke_cst .non)) kss_nil) kss_nil) (kss_cons (ks_asg (kg_nam 1) (ke_call 29 (kl_cons (ke_var 0) (kl_cons (ke_var 1) (kl_cons (ke_var 3) kl_nil))))) kss_nil)
def w_l1_led_by : KS := ks_for_ (kg_nam 3) (ki_seq (ke_var 2)) w_s1_led_by
def w_b_led_by : KS := kss_cons (ks_iff (kt_not (kt_val (ke_isi (ke_var 2) [.lst]))) (kss_cons (ks_ret (ke_cst .non)) kss_nil) kss_nil) (kss_cons w_l1_led_by (kss_cons (ks_ret (ke_var 1)) kss_nil))
def w_b_lets_grows : KS := kss_cons (ks_asg (kg_nam 4) (ke_call 36 (kl_cons (ke_var 0) (kl_cons (ke_var 1) (kl_cons (ke_var 2) kl_nil))))) (kss_cons (ks_iff (kt_or (kt_cmp .is (ke_var 4) (ke_cst .non)) (kt_cmp .eq (ke_var 3) (ke_lst kl_nil))) (kss_cons (ks_ret (ke_cst (.bl false))) kss_nil) kss_nil) (kss_cons (ks_asg (kg_nam 5) (ke_call 36 (kl_cons (ke_var 0) (kl_cons (ke_var 4) (kl_cons (ke_var 3) kl_nil))))) (kss_cons (ks_ret (ke_and (ke_cmp .isn (ke_var 5) (ke_cst .non)) (ke_and (ke_cmp .ne (ke_var 5) (ke_var 4)) (ke_call 32 (kl_cons (ke_var 4) (kl_cons (ke_var 5) kl_nil)))))) kss_nil)))
def w_i1_lets_holds : KS := kss_cons (ks_ret (ke_and (ke_cmp .eq (ke_ix (ke_var 2) (ke_cst (.int 0))) (ke_cst (.str [99, 108, 111, 115, 101, 100]))) (ke_call 35 (kl_cons (ke_var 0) (kl_cons (ke_var 1) (kl_cons (ke_ix (ke_var 2) (ke_cst (.int 1))) kl_nil)))))) kss_nil
def w_b_lets_holds : KS := kss_cons (ks_expr (ke_call 27 (kl_cons (ke_var 0) (kl_cons (ke_var 1) kl_nil)))) (kss_cons (ks_iff (kt_or (kt_not (kt_val (ke_isi (ke_var 2) [.tup]))) (kt_or (kt_cmp .nin (ke_bi .len (kl_cons (ke_var 2) kl_nil)) (ke_tup (kl_cons (ke_cst (.int 2)) (kl_cons (ke_cst (.int 3)) kl_nil)))) (kt_not (kt_val (ke_isi (ke_ix (ke_var 2) (ke_cst (.int 0))) [.str]))))) (kss_cons (ks_ret (ke_cst (.bl false))) kss_nil) kss_nil) (kss_cons (ks_iff (kt_cmp .eq (ke_bi .len (kl_cons (ke_var 2) kl_nil)) (ke_cst (.int 2))) w_i1_lets_holds kss_nil) (kss_cons (ks_ret (ke_and (ke_cmp .eq (ke_ix (ke_var 2) (ke_cst (.int 0))) (ke_cst (.str [103, 114, 111, 119, 115]))) (ke_call 37 (kl_cons (ke_var 0) (kl_cons (ke_var 1) (kl_cons (ke_ix (ke_var 2) (ke_cst (.int 1))) (kl_cons (ke_ix (ke_var 2) (ke_cst (.int 2))) kl_nil))))))) kss_nil)))
def w_b_l_pool : KS := kss_cons (ks_asg (kg_nam 2) (ke_ix (ke_bin .add (ke_sl (ke_var 0) (ko_some (ke_var 1)) (ko_some (ke_bin .add (ke_var 1) (ke_cst (.int 1))))) (ke_lst (kl_cons (ke_cst (.int 0)) kl_nil))) (ke_cst (.int 0)))) (kss_cons (ks_asg (kg_nam 3) (ke_bi .max2 (kl_cons (ke_var 2) (kl_cons (ke_bin .sub (ke_neg (ke_cst (.int 1))) (ke_var 2)) kl_nil)))) (kss_cons (ks_asg (kg_nam 4) (ke_bin .mod (ke_bin .mul (ke_bin .add (ke_bin .add (ke_bin .mod (ke_var 3) (ke_cst (.int 2147483629))) (ke_bin .mul (ke_cst (.int 7919)) (ke_var 1))) (ke_cst (.int 1))) (ke_cst (.int 48271))) (ke_cst (.int 2147483647)))) (kss_cons (ks_ret (ke_lst (kl_cons (ke_bin .mul (ke_var 3) (ke_bi .int (kl_cons (ke_cmp .ge (ke_var 3) (ke_bin .pow (ke_cst (.int 10)) (ke_cst (.int 18)))) kl_nil))) (kl_cons (ke_var 4) kl_nil)))) kss_nil)))
def w_i1_l_take : KS := kss_cons (ks_asg (kg_nam 2) (ke_bin .mod (ke_ix (ke_var 0) (ke_cst (.int 0))) (ke_var 1))) (kss_cons (ks_asg (kg_sub (ke_var 0) (ke_cst (.int 0))) (ke_bin .div (ke_ix (ke_var 0) (ke_cst (.int 0))) (ke_var 1))) (kss_cons (ks_ret (ke_var 2)) kss_nil))
def w_b_l_take : KS := kss_cons (ks_iff (kt_cmp .gt (ke_ix (ke_var 0) (ke_cst (.int 0))) (ke_cst (.int 0))) w_i1_l_take kss_nil) (kss_cons (ks_asg (kg_sub (ke_var 0) (ke_cst (.int 1))) (ke_bin .mod (ke_bin .add (ke_bin .mul (ke_ix (ke_var 0) (ke_cst (.int 1))) (ke_cst (.int 48271))) (ke_cst (.int 11))) (ke_cst (.int 2147483647)))) (kss_cons (ks_ret (ke_bin .mod (ke_bin .div (ke_bin .mod (ke_bin .mul (ke_ix (ke_var 0) (ke_cst (.int 1))) (ke_ix (ke_var 0) (ke_cst (.int 1)))) (ke_cst (.int 2147483629))) (ke_cst (.int 64))) (ke_var 1))) kss_nil))
def w_b_l_one : KS := kss_cons (ks_ret (ke_ix (ke_var 1) (ke_call 40 (kl_cons (ke_var 0) (kl_cons (ke_bi .len (kl_cons (ke_var 1) kl_nil)) kl_nil))))) kss_nil
def w_c1_l_rule : KE := ke_lc (kg_nam 2) (ki_seq (ke_var 1)) [2] kt_yes (ke_tup (kl_cons (ke_cst (.str [112, 117, 116])) (kl_cons (ke_var 2) (kl_cons (ke_tup kl_nil) kl_nil))))
def w_c2_l_rule : KE := ke_lc (kg_nam 2) (ki_seq (ke_var 0)) [2] kt_yes (ke_tup (kl_cons (ke_var 2) (kl_cons (ke_tup kl_nil) kl_nil)))
def w_b_l_rule : KS := kss_cons (ks_ret (ke_tup (kl_cons (ke_bi .tup (kl_cons w_c2_l_rule kl_nil)) (kl_cons (ke_bi .tup (kl_cons w_c1_l_rule kl_nil)) kl_nil)))) kss_nil
def w_c1_l_kind : KE := ke_lc (kg_tup (kgs_cons (kg_nam 3) (kgs_cons (kg_nam 4) kgs_nil))) (ki_seq (ke_var 1)) [3, 4] kt_yes (ke_call 42 (kl_cons (ke_var 3) (kl_cons (ke_var 4) kl_nil)))
def w_c2_l_kind : KE := ke_lc (kg_nam 2) (ki_seq (ke_var 0)) [2] kt_yes (ke_tup (kl_cons (ke_var 2) (kl_cons (ke_cst (.int 0)) kl_nil)))
def w_b_l_kind : KS := kss_cons (ks_ret (ke_tup (kl_cons (ke_cst (.str [110, 101, 116])) (kl_cons (ke_bi .tup (kl_cons w_c2_l_kind kl_nil)) (kl_cons (ke_bi .tup (kl_cons w_c1_l_kind kl_nil)) kl_nil))))) kss_nil
def w_c1_l_steps_right : KE := ke_lc (kg_nam 7) (ki_rng (kl_cons (ke_bin .add (ke_var 1) (ke_cst (.int 1))) kl_nil)) [7] kt_yes (ke_tup (kl_cons (ke_var 7) kl_nil))
def w_c2_l_steps_right : KE := ke_lc (kg_nam 7) (ki_rng (kl_cons (ke_bin .add (ke_var 1) (ke_cst (.int 1))) kl_nil)) [7] kt_yes (ke_tup (kl_cons (ke_var 7) (kl_cons (ke_bin .sub (ke_var 1) (ke_var 7)) kl_nil)))
def w_b_l_steps_right : KS := kss_cons (ks_asg (kg_tup (kgs_cons (kg_nam 2) (kgs_cons (kg_nam 3) kgs_nil))) (ke_sl (ke_var 0) ko_none (ko_some (ke_cst (.int 2))))) (kss_cons (ks_asg (kg_nam 4) (ke_call 43 (kl_cons (ke_lst (kl_cons (ke_var 2) (kl_cons (ke_var 3) kl_nil))) (kl_cons (ke_lst (kl_cons (ke_tup (kl_cons (ke_lst (kl_cons (ke_var 2) kl_nil)) (kl_cons (ke_lst (kl_cons (ke_var 3) kl_nil)) kl_nil))) (kl_cons (ke_tup (kl_cons (ke_lst (kl_cons (ke_var 3) kl_nil)) (kl_cons (ke_lst (kl_cons (ke_var 2) kl_nil)) kl_nil))) kl_nil))) kl_nil)))) (kss_cons (ks_asg (kg_nam 5) w_c2_l_steps_right) (kss_cons (ks_iff (kt_or (kt_cmp .ne (ke_calld 33 (kl_cons (ke_var 4) (kl_cons (ke_tup (kl_cons (ke_var 1) (kl_cons (ke_cst (.int 0)) kl_nil))) kl_nil)) [.int 500]) (ke_tup (kl_cons (ke_cst (.str [99, 108, 111, 115, 101, 100])) (kl_cons (ke_var 5) kl_nil)))) (kt_cmp .ne (ke_calld 33 (kl_cons (ke_var 4) (kl_cons (ke_tup (kl_cons (ke_cst (.int 0)) (kl_cons (ke_var 1) kl_nil))) kl_nil)) [.int 500]) (ke_tup (kl_cons (ke_cst (.str [99, 108, 111, 115, 101, 100])) (kl_cons (ke_var 5) kl_nil))))) (kss_cons (ks_ret (ke_cst (.bl false))) kss_nil) kss_nil) (kss_cons (ks_asg (kg_nam 6) (ke_call 43 (kl_cons (ke_lst (kl_cons (ke_var 2) kl_nil)) (kl_cons (ke_lst (kl_cons (ke_tup (kl_cons (ke_lst (kl_cons (ke_var 2) kl_nil)) (kl_cons (ke_lst kl_nil) kl_nil))) kl_nil)) kl_nil)))) (kss_cons (ks_iff (kt_cmp .ne (ke_calld 33 (kl_cons (ke_var 6) (kl_cons (ke_tup (kl_cons (ke_var 1) kl_nil)) kl_nil)) [.int 500]) (ke_tup (kl_cons (ke_cst (.str [99, 108, 111, 115, 101, 100])) (kl_cons w_c1_l_steps_right kl_nil)))) (kss_cons (ks_ret (ke_cst (.bl false))) kss_nil) kss_nil) (kss_cons (ks_ret (ke_and (ke_cmp .eq (ke_call 30 (kl_cons (ke_var 6) (kl_cons (ke_tup (kl_cons (ke_cst (.int 0)) kl_nil)) kl_nil))) (ke_lst kl_nil)) (ke_cmp .eq (ke_call 31 (kl_cons (ke_var 6) (kl_cons (ke_tup (kl_cons (ke_var 1) kl_nil)) (kl_cons (ke_cst (.int 0)) kl_nil)))) (ke_tup (kl_cons (ke_bin .sub (ke_var 1) (ke_cst (.int 1))) kl_nil))))) kss_nil))))))
def w_c1_l_locks_right : KE := ke_lc (kg_nam 7) (ki_rng (kl_cons (ke_bin .add (ke_var 1) (ke_cst (.int 1))) kl_nil)) [7] kt_yes (ke_tup (kl_cons (ke_cst (.int 1)) (kl_cons (ke_var 7) (kl_cons (ke_cst (.int 0)) kl_nil))))
def w_c2_l_locks_right : KE := ke_lc (kg_nam 7) (ki_rng (kl_cons (ke_var 1) kl_nil)) [7] kt_yes (ke_tup (kl_cons (ke_cst (.int 0)) (kl_cons (ke_var 7) (kl_cons (ke_cst (.int 1)) kl_nil))))
def w_b_l_locks_right : KS := kss_cons (ks_asg (kg_tup (kgs_cons (kg_nam 2) (kgs_cons (kg_nam 3) (kgs_cons (kg_nam 4) kgs_nil)))) (ke_sl (ke_var 0) ko_none (ko_some (ke_cst (.int 3))))) (kss_cons (ks_asg (kg_nam 5) (ke_call 43 (kl_cons (ke_lst (kl_cons (ke_var 2) (kl_cons (ke_var 3) (kl_cons (ke_var 4) kl_nil)))) (kl_cons (ke_lst (kl_cons (ke_tup (kl_cons (ke_lst (kl_cons (ke_var 3) (kl_cons (ke_var 2) kl_nil))) (kl_cons (ke_lst (kl_cons (ke_var 4) kl_nil)) kl_nil))) (kl_cons (ke_tup (kl_cons (ke_lst (kl_cons (ke_var 4) kl_nil)) (kl_cons (ke_lst (kl_cons (ke_var 2) kl_nil)) kl_nil))) kl_nil))) kl_nil)))) (kss_cons (ks_asg (kg_nam 6) (ke_bin .add w_c1_l_locks_right w_c2_l_locks_right)) (kss_cons (ks_ret (ke_and (ke_cmp .eq (ke_calld 33 (kl_cons (ke_var 5) (kl_cons (ke_tup (kl_cons (ke_cst (.int 1)) (kl_cons (ke_var 1) (kl_cons (ke_cst (.int 0)) kl_nil)))) kl_nil)) [.int 500]) (ke_tup (kl_cons (ke_cst (.str [99, 108, 111, 115, 101, 100])) (kl_cons (ke_bi .srt (kl_cons (ke_var 6) kl_nil)) kl_nil)))) (ke_cmp .is (ke_call 26 (kl_cons (ke_var 5) kl_nil)) (ke_cst (.bl true))))) kss_nil)))
def w_c1_l_six_right : KE := ke_lc (kg_nam 4) (ki_rng (kl_cons (ke_cst (.int 6)) kl_nil)) [4] kt_yes (ke_bin .add (ke_bin .add (ke_bin .mul (ke_tup (kl_cons (ke_cst (.int 0)) kl_nil)) (ke_var 4)) (ke_tup (kl_cons (ke_cst (.int 1)) kl_nil))) (ke_bin .mul (ke_tup (kl_cons (ke_cst (.int 0)) kl_nil)) (ke_bin .sub (ke_cst (.int 5)) (ke_var 4))))
def w_c2_l_six_right : KE := ke_lc (kg_nam 4) (ki_rng (kl_cons (ke_cst (.int 6)) kl_nil)) [4] kt_yes (ke_tup (kl_cons (ke_lst (kl_cons (ke_ix (ke_var 0) (ke_var 4)) kl_nil)) (kl_cons (ke_lst (kl_cons (ke_ix (ke_var 0) (ke_bin .mod (ke_bin .add (ke_var 4) (ke_cst (.int 1))) (ke_cst (.int 6)))) kl_nil)) kl_nil)))
def w_b_l_six_right : KS := kss_cons (ks_asg (kg_nam 0) (ke_lst (kl_cons (ke_cst (.str [97])) (kl_cons (ke_cst (.str [98])) (kl_cons (ke_cst (.str [99])) (kl_cons (ke_cst (.str [100])) (kl_cons (ke_cst (.str [101])) (kl_cons (ke_cst (.str [102])) kl_nil)))))))) (kss_cons (ks_asg (kg_nam 1) w_c2_l_six_right) (kss_cons (ks_asg (kg_nam 2) (ke_bi .srt (kl_cons w_c1_l_six_right kl_nil))) (kss_cons (ks_asg (kg_nam 3) (ke_call 43 (kl_cons (ke_var 0) (kl_cons (ke_bin .add (ke_var 1) (ke_lst (kl_cons (ke_tup (kl_cons (ke_sl (ke_var 0) ko_none (ko_some (ke_cst (.int 4)))) (kl_cons (ke_sl (ke_var 0) (ko_some (ke_cst (.int 2))) (ko_some (ke_cst (.int 5)))) kl_nil))) (kl_cons (ke_tup (kl_cons (ke_sl (ke_var 0) (ko_some (ke_cst (.int 1))) (ko_some (ke_cst (.int 2)))) (kl_cons (ke_lst kl_nil) kl_nil))) kl_nil)))) kl_nil)))) (kss_cons (ks_ret (ke_cmp .eq (ke_calld 33 (kl_cons (ke_var 3) (kl_cons (ke_tup (kl_cons (ke_cst (.int 1)) (kl_cons (ke_cst (.int 0)) (kl_cons (ke_cst (.int 0)) (kl_cons (ke_cst (.int 0)) (kl_cons (ke_cst (.int 0)) (kl_cons (ke_cst (.int 0)) kl_nil))))))) kl_nil)) [.int 500]) (ke_tup (kl_cons (ke_cst (.str [99, 108, 111, 115, 101, 100])) (kl_cons (ke_bi .srt (kl_cons (ke_bin .add (ke_var 2) (ke_lst (kl_cons (ke_bin .mul (ke_tup (kl_cons (ke_cst (.int 0)) kl_nil)) (ke_cst (.int 6))) kl_nil))) kl_nil)) kl_nil))))) kss_nil))))
def w_b_l_growing_right : KS := kss_cons (ks_asg (kg_tup (kgs_cons (kg_nam 2) (kgs_cons (kg_nam 3) kgs_nil))) (ke_sl (ke_var 0) ko_none (ko_some (ke_cst (.int 2))))) (kss_cons (ks_asg (kg_nam 4) (ke_call 43 (kl_cons (ke_lst (kl_cons (ke_var 2) kl_nil)) (kl_cons (ke_lst (kl_cons (ke_tup (kl_cons (ke_lst (kl_cons (ke_var 2) kl_nil)) (kl_cons (ke_lst (kl_cons (ke_var 2) (kl_cons (ke_var 2) kl_nil))) kl_nil))) kl_nil)) kl_nil)))) (kss_cons (ks_asg (kg_nam 5) (ke_calld 33 (kl_cons (ke_var 4) (kl_cons (ke_tup (kl_cons (ke_var 1) kl_nil)) kl_nil)) [.int 500])) (kss_cons (ks_iff (kt_or (kt_cmp .ne (ke_ix (ke_var 5) (ke_cst (.int 0))) (ke_cst (.str [103, 114, 111, 119, 115]))) (kt_cmp .isn (ke_call 38 (kl_cons (ke_var 4) (kl_cons (ke_tup (kl_cons (ke_var 1) kl_nil)) (kl_cons (ke_tup (kl_cons (ke_cst (.str [103, 114, 111, 119, 115])) (kl_cons (ke_lst kl_nil) (kl_cons (ke_lst (kl_cons (ke_cst (.int 0)) kl_nil)) kl_nil)))) kl_nil)))) (ke_cst (.bl true)))) (kss_cons (ks_ret (ke_cst (.bl false))) kss_nil) kss_nil) (kss_cons (ks_iff (kt_or (kt_cmp .isn (ke_call 38 (kl_cons (ke_var 4) (kl_cons (ke_tup (kl_cons (ke_cst (.int 0)) kl_nil)) (kl_cons (ke_tup (kl_cons (ke_cst (.str [103, 114, 111, 119, 115])) (kl_cons (ke_lst kl_nil) (kl_cons (ke_lst (kl_cons (ke_cst (.int 0)) kl_nil)) kl_nil)))) kl_nil)))) (ke_cst (.bl false))) (kt_cmp .ne (ke_calld 33 (kl_cons (ke_var 4) (kl_cons (ke_tup (kl_cons (ke_cst (.int 0)) kl_nil)) kl_nil)) [.int 500]) (ke_tup (kl_cons (ke_cst (.str [99, 108, 111, 115, 101, 100])) (kl_cons (ke_lst (kl_cons (ke_tup (kl_cons (ke_cst (.int 0)) kl_nil)) kl_nil)) kl_nil))))) (kss_cons (ks_ret (ke_cst (.bl false))) kss_nil) kss_nil) (kss_cons (ks_asg (kg_nam 6) (ke_call 43 (kl_cons (ke_lst (kl_cons (ke_var 2) kl_nil)) (kl_cons (ke_lst (kl_cons (ke_tup (kl_cons (ke_lst (kl_cons (ke_var 2) kl_nil)) (kl_cons (ke_lst (kl_cons (ke_var 2) kl_nil)) kl_nil))) kl_nil)) kl_nil)))) (kss_cons (ks_iff (kt_or (kt_cmp .isn (ke_call 38 (kl_cons (ke_var 6) (kl_cons (ke_tup (kl_cons (ke_var 1) kl_nil)) (kl_cons (ke_tup (kl_cons (ke_cst (.str [103, 114, 111, 119, 115])) (kl_cons (ke_lst kl_nil) (kl_cons (ke_lst (kl_cons (ke_cst (.int 0)) kl_nil)) kl_nil)))) kl_nil)))) (ke_cst (.bl false))) (kt_cmp .ne (ke_calld 33 (kl_cons (ke_var 6) (kl_cons (ke_tup (kl_cons (ke_var 1) kl_nil)) kl_nil)) [.int 500]) (ke_tup (kl_cons (ke_cst (.str [99, 108, 111, 115, 101, 100])) (kl_cons (ke_lst (kl_cons (ke_tup (kl_cons (ke_var 1) kl_nil)) kl_nil)) kl_nil))))) (kss_cons (ks_ret (ke_cst (.bl false))) kss_nil) kss_nil) (kss_cons (ks_asg (kg_nam 7) (ke_call 43 (kl_cons (ke_lst (kl_cons (ke_var 2) (kl_cons (ke_var 3) kl_nil))) (kl_cons (ke_lst (kl_cons (ke_tup (kl_cons (ke_lst (kl_cons (ke_var 2) kl_nil)) (kl_cons (ke_lst (kl_cons (ke_var 3) kl_nil)) kl_nil))) (kl_cons (ke_tup (kl_cons (ke_lst (kl_cons (ke_var 3) kl_nil)) (kl_cons (ke_lst (kl_cons (ke_var 2) (kl_cons (ke_var 3) kl_nil))) kl_nil))) kl_nil))) kl_nil)))) (kss_cons (ks_iff (kt_cmp .isn (ke_call 38 (kl_cons (ke_var 7) (kl_cons (ke_tup (kl_cons (ke_var 1) (kl_cons (ke_cst (.int 0)) kl_nil))) (kl_cons (ke_tup (kl_cons (ke_cst (.str [103, 114, 111, 119, 115])) (kl_cons (ke_lst (kl_cons (ke_cst (.int 0)) kl_nil)) (kl_cons (ke_lst (kl_cons (ke_cst (.int 1)) kl_nil)) kl_nil)))) kl_nil)))) (ke_cst (.bl true))) (kss_cons (ks_ret (ke_cst (.bl false))) kss_nil) kss_nil) (kss_cons (ks_ret (ke_and (ke_cmp .is (ke_call 38 (kl_cons (ke_var 7) (kl_cons (ke_tup (kl_cons (ke_var 1) (kl_cons (ke_cst (.int 0)) kl_nil))) (kl_cons (ke_tup (kl_cons (ke_cst (.str [103, 114, 111, 119, 115])) (kl_cons (ke_lst kl_nil) (kl_cons (ke_lst (kl_cons (ke_cst (.int 0)) kl_nil)) kl_nil)))) kl_nil)))) (ke_cst (.bl false))) (ke_cmp .eq (ke_ix (ke_calld 33 (kl_cons (ke_var 7) (kl_cons (ke_tup (kl_cons (ke_var 1) (kl_cons (ke_cst (.int 0)) kl_nil))) kl_nil)) [.int 500]) (ke_cst (.int 0))) (ke_cst (.str [103, 114, 111, 119, 115]))))) kss_nil)))))))))
def w_b_l_later_right : KS := kss_cons (ks_asg (kg_nam 0) (ke_call 43 (kl_cons (ke_lst (kl_cons (ke_cst (.str [97])) (kl_cons (ke_cst (.str [98])) kl_nil))) (kl_cons (ke_lst (kl_cons (ke_tup (kl_cons (ke_lst (kl_cons (ke_cst (.str [97])) kl_nil)) (kl_cons (ke_lst (kl_cons (ke_cst (.str [98])) kl_nil)) kl_nil))) (kl_cons (ke_tup (kl_cons (ke_lst (kl_cons (ke_cst (.str [98])) kl_nil)) (kl_cons (ke_lst (kl_cons (ke_cst (.str [98])) (kl_cons (ke_cst (.str [98])) kl_nil))) kl_nil))) kl_nil))) kl_nil)))) (kss_cons (ks_iff (kt_or (kt_cmp .isn (ke_call 38 (kl_cons (ke_var 0) (kl_cons (ke_tup (kl_cons (ke_cst (.int 1)) (kl_cons (ke_cst (.int 0)) kl_nil))) (kl_cons (ke_tup (kl_cons (ke_cst (.str [103, 114, 111, 119, 115])) (kl_cons (ke_lst (kl_cons (ke_cst (.int 0)) kl_nil)) (kl_cons (ke_lst (kl_cons (ke_cst (.int 1)) kl_nil)) kl_nil)))) kl_nil)))) (ke_cst (.bl true))) (kt_cmp .ne (ke_ix (ke_calld 33 (kl_cons (ke_var 0) (kl_cons (ke_tup (kl_cons (ke_cst (.int 1)) (kl_cons (ke_cst (.int 0)) kl_nil))) kl_nil)) [.int 500]) (ke_cst (.int 0))) (ke_cst (.str [103, 114, 111, 119, 115])))) (kss_cons (ks_ret (ke_cst (.bl false))) kss_nil) kss_nil) (kss_cons (ks_ret (ke_cmp .eq (ke_calld 33 (kl_cons (ke_var 0) (kl_cons (ke_tup (kl_cons (ke_cst (.int 0)) (kl_cons (ke_cst (.int 0)) kl_nil))) kl_nil)) [.int 500]) (ke_tup (kl_cons (ke_cst (.str [99, 108, 111, 115, 101, 100])) (kl_cons (ke_lst (kl_cons (ke_tup (kl_cons (ke_cst (.int 0)) (kl_cons (ke_cst (.int 0)) kl_nil))) kl_nil)) kl_nil))))) kss_nil))
def w_s1_law : KS := kss_cons (ks_asg (kg_nam 2) (ke_call 39 (kl_cons (ke_var 0) (kl_cons (ke_var 1) kl_nil)))) (kss_cons (ks_asg (kg_nam 3) (ke_call 41 (kl_cons (ke_var 2) (kl_cons (ke_lst (kl_cons (ke_lst (kl_cons (ke_cst (.str [97])) (kl_cons (ke_cst (.str [98])) (kl_cons (ke_cst (.str [99])) kl_nil)))) (kl_cons (ke_lst (kl_cons (ke_cst (.str [99])) (kl_cons (ke_cst (.str [98])) (kl_cons (ke_cst (.str [97])) kl_nil)))) (kl_cons (ke_lst (kl_cons (ke_cst (.str [102, 114, 101, 101])) (kl_cons (ke_cst (.str [116, 97, 107, 101])) (kl_cons (ke_cst (.str [104, 101, 108, 100])) kl_nil)))) (kl_cons (ke_lst (kl_cons (ke_cst (.str [122, 122])) (kl_cons (ke_cst (.str [97])) (kl_cons (ke_cst (.str [108, 111, 116])) kl_nil)))) kl_nil))))) kl_nil)))) (kss_cons (ks_asg (kg_nam 4) (ke_bin .add (ke_cst (.int 1)) (ke_call 40 (kl_cons (ke_var 2) (kl_cons (ke_cst (.int 6)) kl_nil))))) (kss_cons (ks_iff (kt_or (kt_not (kt_val (ke_call 44 (kl_cons (ke_var 3) (kl_cons (ke_var 4) kl_nil))))) (kt_not (kt_val (ke_call 45 (kl_cons (ke_var 3) (kl_cons (ke_var 4) kl_nil)))))) (kss_cons (ks_ret (ke_cst (.bl false))) kss_nil) kss_nil) (kss_cons (ks_iff (kt_not (kt_val (ke_call 47 (kl_cons (ke_var 3) (kl_cons (ke_var 4) kl_nil))))) (kss_cons (ks_ret (ke_cst (.bl false))) kss_nil) kss_nil) kss_nil))))
def w_l1_law : KS := ks_for_ (kg_nam 1) (ki_rng (kl_cons (ke_bi .max2 (kl_cons (ke_cst (.int 1)) (kl_cons (ke_bi .min2 (kl_cons (ke_bi .len (kl_cons (ke_var 0) kl_nil)) (kl_cons (ke_cst (.int 10)) kl_nil))) kl_nil))) kl_nil)) w_s1_law
def w_b_law : KS := kss_cons (ks_iff (kt_or (kt_not (kt_val (ke_call 46 kl_nil))) (kt_not (kt_val (ke_call 48 kl_nil)))) (kss_cons (ks_ret (ke_cst (.bl false))) kss_nil) kss_nil) (kss_cons w_l1_law (kss_cons (ks_ret (ke_cst (.bl true))) kss_nil))
def w_b_Scope_init : KS := kss_cons (ks_asg (kg_fld (ke_var 0) 7 0) (ke_var 1)) (kss_cons (ks_asg (kg_fld (ke_var 0) 7 1) (ke_var 2)) (kss_cons (ks_asg (kg_fld (ke_var 0) 7 2) (ke_var 3)) kss_nil))
def w_b_Going_init : KS := kss_cons (ks_asg (kg_fld (ke_var 0) 8 0) (ke_var 1)) (kss_cons (ks_asg (kg_fld (ke_var 0) 8 1) (ke_var 3)) (kss_cons (ks_asg (kg_fld (ke_var 0) 8 2) (ke_lst (kl_cons (ke_var 2) kl_nil))) (kss_cons (ks_asg (kg_fld (ke_var 0) 8 3) (ke_dicT (ke_var 2) (ke_cst (.bl true)))) (kss_cons (ks_asg (kg_fld (ke_var 0) 8 4) (ke_lst (kl_cons (ke_cst .non) kl_nil))) kss_nil))))
def w_s1_Going_way_to : KS := kss_cons (ks_expr (ke_mth .append (ke_var 2) (kl_cons (ke_ix (ke_ix (ke_fld (ke_var 0) 8 4) (ke_ix (ke_var 2) (ke_neg (ke_cst (.int 1))))) (ke_cst (.int 0))) kl_nil))) kss_nil
def w_l1_Going_way_to : KS := ks_whl (kt_cmp .isn (ke_ix (ke_fld (ke_var 0) 8 4) (ke_ix (ke_var 2) (ke_neg (ke_cst (.int 1))))) (ke_cst .non)) w_s1_Going_way_to
def w_b_Going_way_to : KS := kss_cons (ks_asg (kg_nam 2) (ke_lst (kl_cons (ke_var 1) kl_nil))) (kss_cons w_l1_Going_way_to (kss_cons (ks_ret (ke_rev (ke_var 2))) kss_nil))
def w_c1_Going_rules_on : KE := ke_lc (kg_nam 2) (ki_seq (ke_sl (ke_var 1) (ko_some (ke_cst (.int 1))) ko_none)) [2] kt_yes (ke_ix (ke_ix (ke_fld (ke_var 0) 8 4) (ke_var 2)) (ke_cst (.int 1)))
def w_b_Going_rules_on : KS := kss_cons (ks_ret w_c1_Going_rules_on) kss_nil
def w_i1_Going_grown : KS := kss_cons (ks_ret (ke_tup (kl_cons (ke_cst (.str [103, 114, 111, 119, 115])) (kl_cons (ke_mc (ke_var 0) [(8, 53)] (kl_cons (ke_sl (ke_var 2) ko_none (ko_some (ke_bin .add (ke_var 3) (ke_cst (.int 1))))) kl_nil)) (kl_cons (ke_mc (ke_var 0) [(8, 53)] (kl_cons (ke_sl (ke_var 2) (ko_some (ke_var 3)) ko_none) kl_nil)) kl_nil))))) kss_nil
def w_s1_Going_grown : KS := kss_cons (ks_iff (kt_val (ke_call 32 (kl_cons (ke_ix (ke_fld (ke_var 0) 8 2) (ke_var 4)) (kl_cons (ke_ix (ke_fld (ke_var 0) 8 2) (ke_var 1)) kl_nil)))) w_i1_Going_grown kss_nil) kss_nil
def w_l1_Going_grown : KS := ks_for_ (kg_tup (kgs_cons (kg_nam 3) (kgs_cons (kg_nam 4) kgs_nil))) (ki_enu (ke_sl (ke_var 2) ko_none (ko_some (ke_neg (ke_cst (.int 1)))))) w_s1_Going_grown
def w_b_Going_grown : KS := kss_cons (ks_asg (kg_nam 2) (ke_mc (ke_var 0) [(8, 52)] (kl_cons (ke_var 1) kl_nil))) (kss_cons w_l1_Going_grown (kss_cons (ks_ret (ke_cst .non)) kss_nil))
def w_b_Going_come : KS := kss_cons (ks_asg (kg_nam 3) (ke_call 29 (kl_cons (ke_fld (ke_var 0) 8 0) (kl_cons (ke_ix (ke_fld (ke_var 0) 8 2) (ke_var 1)) (kl_cons (ke_var 2) kl_nil))))) (kss_cons (ks_iff (kt_cmp .isin (ke_var 3) (ke_fld (ke_var 0) 8 3)) (kss_cons (ks_ret (ke_cst .non)) kss_nil) kss_nil) (kss_cons (ks_iff (kt_cmp .eq (ke_bi .len (kl_cons (ke_fld (ke_var 0) 8 2) kl_nil)) (ke_fld (ke_var 0) 8 1)) (kss_cons ks_bad kss_nil) kss_nil) (kss_cons (ks_asg (kg_sub (ke_fld (ke_var 0) 8 3) (ke_var 3)) (ke_cst (.bl true))) (kss_cons (ks_expr (ke_mth .append (ke_fld (ke_var 0) 8 2) (kl_cons (ke_var 3) kl_nil))) (kss_cons (ks_expr (ke_mth .append (ke_fld (ke_var 0) 8 4) (kl_cons (ke_tup (kl_cons (ke_var 1) (kl_cons (ke_var 2) kl_nil))) kl_nil))) (kss_cons (ks_ret (ke_mc (ke_var 0) [(8, 54)] (kl_cons (ke_bin .sub (ke_bi .len (kl_cons (ke_fld (ke_var 0) 8 2) kl_nil)) (ke_cst (.int 1))) kl_nil))) kss_nil))))))
def w_s1_Going_gone : KS := kss_cons (ks_asg (kg_nam 3) (ke_mc (ke_var 0) [(8, 55)] (kl_cons (ke_var 1) (kl_cons (ke_var 2) kl_nil)))) (kss_cons (ks_iff (kt_cmp .isn (ke_var 3) (ke_cst .non)) (kss_cons (ks_ret (ke_var 3)) kss_nil) kss_nil) kss_nil)
def w_l1_Going_gone : KS := ks_for_ (kg_nam 2) (ki_seq (ke_call 28 (kl_cons (ke_fld (ke_var 0) 8 0) (kl_cons (ke_ix (ke_fld (ke_var 0) 8 2) (ke_var 1)) kl_nil)))) w_s1_Going_gone
def w_s2_Going_gone : KS := kss_cons w_l1_Going_gone (kss_cons (ks_aug 1 .add (ke_cst (.int 1))) kss_nil)
def w_l2_Going_gone : KS := ks_whl (kt_cmp .lt (ke_var 1) (ke_bi .len (kl_cons (ke_fld (ke_var 0) 8 2) kl_nil))) w_s2_Going_gone
def w_b_Going_gone : KS := kss_cons (ks_asg (kg_nam 1) (ke_cst (.int 0))) (kss_cons w_l2_Going_gone (kss_cons (ks_ret (ke_tup (kl_cons (ke_cst (.str [99, 108, 111, 115, 101, 100])) (kl_cons (ke_bi .srt (kl_cons (ke_fld (ke_var 0) 8 2) kl_nil)) kl_nil)))) kss_nil))
def KF : List FnK := [⟨1, 1, false, w_b_is_whole⟩, ⟨3, 3, false, w_b_is_from⟩, ⟨1, 2, false, w_b_is_word⟩, ⟨1, 1, false, w_b_is_written⟩, ⟨3, 3, false, w_b_is_tuple_of⟩, ⟨3, 3, false, w_b_begins⟩, ⟨1, 3, false, w_b_are_unlike⟩, ⟨1, 1, false, w_b_is_named_place⟩, ⟨1, 4, false, w_b_is_kind⟩, ⟨1, 1, false, w_b_is_slot⟩, ⟨2, 4, false, w_b_is_head⟩, ⟨1, 4, false, w_b_names_in⟩, ⟨2, 5, false, w_b_are_heads⟩, ⟨2, 2, false, w_b_is_operand⟩, ⟨4, 5, false, w_b_are_given⟩, ⟨2, 3, false, w_b_is_own_deed⟩, ⟨2, 6, false, w_b_is_naming_deed⟩, ⟨3, 3, false, w_b_is_deed⟩, ⟨2, 5, false, w_b_wrong_deed⟩, ⟨1, 5, false, w_b_look_at_kinds⟩, ⟨3, 9, false, w_b_look_at_rules⟩, ⟨1, 7, false, w_b_look_at_program⟩, ⟨1, 1, false, w_b_is_kind_alone⟩, ⟨1, 3, false, w_b_asked_by⟩, ⟨2, 9, false, w_b_asks_known⟩, ⟨1, 8, false, w_b_is_net_rule⟩, ⟨1, 2, false, w_b_is_net⟩, ⟨2, 3, false, w_b_look_at_marking⟩, ⟨2, 11, false, w_b_can_by⟩, ⟨3, 12, false, w_b_behind_by⟩, ⟨2, 2, false, w_b_can⟩, ⟨3, 3, false, w_b_behind⟩, ⟨2, 4, false, w_b_is_within⟩, ⟨3, 4, false, w_b_holds⟩, ⟨2, 3, false, w_b_is_marking⟩, ⟨3, 6, false, w_b_lets_closed⟩, ⟨3, 4, false, w_b_led_by⟩, ⟨4, 6, false, w_b_lets_grows⟩, ⟨3, 3, false, w_b_lets_holds⟩, ⟨2, 5, false, w_b_l_pool⟩, ⟨2, 3, false, w_b_l_take⟩, ⟨2, 2, false, w_b_l_one⟩, ⟨2, 3, false, w_b_l_rule⟩, ⟨2, 5, false, w_b_l_kind⟩, ⟨2, 8, false, w_b_l_steps_right⟩, ⟨2, 8, false, w_b_l_locks_right⟩, ⟨0, 5, false, w_b_l_six_right⟩, ⟨2, 8, false, w_b_l_growing_right⟩, ⟨0, 1, false, w_b_l_later_right⟩, ⟨1, 5, false, w_b_law⟩, ⟨4, 4, true, w_b_Scope_init⟩, ⟨4, 4, true, w_b_Going_init⟩, ⟨2, 3, false, w_b_Going_way_to⟩, ⟨2, 3, false, w_b_Going_rules_on⟩, ⟨2, 5, false, w_b_Going_grown⟩, ⟨3, 4, false, w_b_Going_come⟩, ⟨1, 4, false, w_b_Going_gone⟩]
theorem w_b_is_whole_ok : cSs (gvOf TB) b_is_whole = w_b_is_whole := by kernel_rfl
theorem w_b_is_from_ok : cSs (gvOf TB) b_is_from = w_b_is_from := by kernel_rfl
theorem w_c1_is_word_ok : cE (gvOf TB) c1_is_word = w_c1_is_word := by kernel_rfl
theorem w_b_is_word_ok : cSs (gvOf TB) b_is_word = w_b_is_word := by kernel_rfl
theorem w_b_is_written_ok : cSs (gvOf TB) b_is_written = w_b_is_written := by kernel_rfl
theorem w_b_is_tuple_of_ok : cSs (gvOf TB) b_is_tuple_of = w_b_is_tuple_of := by kernel_rfl
theorem w_b_begins_ok : cSs (gvOf TB) b_begins = w_b_begins := by kernel_rfl
theorem w_c1_are_unlike_ok : cE (gvOf TB) c1_are_unlike = w_c1_are_unlike := by kernel_rfl
theorem w_b_are_unlike_ok : cSs (gvOf TB) b_are_unlike = w_b_are_unlike := by kernel_rfl
theorem w_b_is_named_place_ok : cSs (gvOf TB) b_is_named_place = w_b_is_named_place := by kernel_rfl
theorem w_c1_is_kind_ok : cE (gvOf TB) c1_is_kind = w_c1_is_kind := by kernel_rfl
theorem w_c2_is_kind_ok : cE (gvOf TB) c2_is_kind = w_c2_is_kind := by kernel_rfl
theorem w_b_is_kind_ok : cSs (gvOf TB) b_is_kind = w_b_is_kind := by kernel_rfl
theorem w_i1_is_slot_ok : cSs (gvOf TB) i1_is_slot = w_i1_is_slot := by kernel_rfl
theorem w_b_is_slot_ok : cSs (gvOf TB) b_is_slot = w_b_is_slot := by kernel_rfl
theorem w_c1_is_head_ok : cE (gvOf TB) c1_is_head = w_c1_is_head := by kernel_rfl
theorem w_b_is_head_ok : cSs (gvOf TB) b_is_head = w_b_is_head := by kernel_rfl
theorem w_c1_names_in_ok : cE (gvOf TB) c1_names_in = w_c1_names_in := by kernel_rfl
theorem w_b_names_in_ok : cSs (gvOf TB) b_names_in = w_b_names_in := by kernel_rfl
theorem w_c1_are_heads_ok : cE (gvOf TB) c1_are_heads = w_c1_are_heads := by kernel_rfl
theorem w_c2_are_heads_ok : cE (gvOf TB) c2_are_heads = w_c2_are_heads := by kernel_rfl
theorem w_b_are_heads_ok : cSs (gvOf TB) b_are_heads = w_b_are_heads := by kernel_rfl
theorem w_i1_is_operand_ok : cSs (gvOf TB) i1_is_operand = w_i1_is_operand := by kernel_rfl
theorem w_i2_is_operand_ok : cSs (gvOf TB) i2_is_operand = w_i2_is_operand := by kernel_rfl
theorem w_b_is_operand_ok : cSs (gvOf TB) b_is_operand = w_b_is_operand := by kernel_rfl
theorem w_c1_are_given_ok : cE (gvOf TB) c1_are_given = w_c1_are_given := by kernel_rfl
theorem w_b_are_given_ok : cSs (gvOf TB) b_are_given = w_b_are_given := by kernel_rfl
theorem w_i1_is_own_deed_ok : cSs (gvOf TB) i1_is_own_deed = w_i1_is_own_deed := by kernel_rfl
theorem w_b_is_own_deed_ok : cSs (gvOf TB) b_is_own_deed = w_b_is_own_deed := by kernel_rfl
theorem w_i1_is_naming_deed_ok : cSs (gvOf TB) i1_is_naming_deed = w_i1_is_naming_deed := by kernel_rfl
theorem w_i2_is_naming_deed_ok : cSs (gvOf TB) i2_is_naming_deed = w_i2_is_naming_deed := by kernel_rfl
theorem w_i3_is_naming_deed_ok : cSs (gvOf TB) i3_is_naming_deed = w_i3_is_naming_deed := by kernel_rfl
theorem w_i4_is_naming_deed_ok : cSs (gvOf TB) i4_is_naming_deed = w_i4_is_naming_deed := by kernel_rfl
theorem w_b_is_naming_deed_ok : cSs (gvOf TB) b_is_naming_deed = w_b_is_naming_deed := by kernel_rfl
theorem w_i1_is_deed_ok : cSs (gvOf TB) i1_is_deed = w_i1_is_deed := by kernel_rfl
theorem w_i2_is_deed_ok : cSs (gvOf TB) i2_is_deed = w_i2_is_deed := by kernel_rfl
theorem w_i3_is_deed_ok : cSs (gvOf TB) i3_is_deed = w_i3_is_deed := by kernel_rfl
theorem w_i4_is_deed_ok : cSs (gvOf TB) i4_is_deed = w_i4_is_deed := by kernel_rfl
theorem w_b_is_deed_ok : cSs (gvOf TB) b_is_deed = w_b_is_deed := by kernel_rfl
theorem w_c1_wrong_deed_ok : cE (gvOf TB) c1_wrong_deed = w_c1_wrong_deed := by kernel_rfl
theorem w_b_wrong_deed_ok : cSs (gvOf TB) b_wrong_deed = w_b_wrong_deed := by kernel_rfl
theorem w_c1_look_at_kinds_ok : cE (gvOf TB) c1_look_at_kinds = w_c1_look_at_kinds := by kernel_rfl
theorem w_i1_look_at_kinds_ok : cSs (gvOf TB) i1_look_at_kinds = w_i1_look_at_kinds := by kernel_rfl
theorem w_s1_look_at_kinds_ok : cSs (gvOf TB) s1_look_at_kinds = w_s1_look_at_kinds := by kernel_rfl
theorem w_l1_look_at_kinds_ok : cS (gvOf TB) l1_look_at_kinds = w_l1_look_at_kinds := by kernel_rfl
theorem w_b_look_at_kinds_ok : cSs (gvOf TB) b_look_at_kinds = w_b_look_at_kinds := by kernel_rfl
theorem w_i1_look_at_rules_ok : cSs (gvOf TB) i1_look_at_rules = w_i1_look_at_rules := by kernel_rfl
theorem w_c1_look_at_rules_ok : cE (gvOf TB) c1_look_at_rules = w_c1_look_at_rules := by kernel_rfl
theorem w_i2_look_at_rules_ok : cSs (gvOf TB) i2_look_at_rules = w_i2_look_at_rules := by kernel_rfl
theorem w_s1_look_at_rules_ok : cSs (gvOf TB) s1_look_at_rules = w_s1_look_at_rules := by kernel_rfl
theorem w_l1_look_at_rules_ok : cS (gvOf TB) l1_look_at_rules = w_l1_look_at_rules := by kernel_rfl
theorem w_b_look_at_rules_ok : cSs (gvOf TB) b_look_at_rules = w_b_look_at_rules := by kernel_rfl
theorem w_i1_look_at_program_ok : cSs (gvOf TB) i1_look_at_program = w_i1_look_at_program := by kernel_rfl
theorem w_s1_look_at_program_ok : cSs (gvOf TB) s1_look_at_program = w_s1_look_at_program := by kernel_rfl
theorem w_l1_look_at_program_ok : cS (gvOf TB) l1_look_at_program = w_l1_look_at_program := by kernel_rfl
theorem w_c1_look_at_program_ok : cE (gvOf TB) c1_look_at_program = w_c1_look_at_program := by kernel_rfl
theorem w_i2_look_at_program_ok : cSs (gvOf TB) i2_look_at_program = w_i2_look_at_program := by kernel_rfl
theorem w_i3_look_at_program_ok : cSs (gvOf TB) i3_look_at_program = w_i3_look_at_program := by kernel_rfl
theorem w_b_look_at_program_ok : cSs (gvOf TB) b_look_at_program = w_b_look_at_program := by kernel_rfl
theorem w_t1_is_kind_alone_ok : cSs (gvOf TB) t1_is_kind_alone = w_t1_is_kind_alone := by kernel_rfl
theorem w_b_is_kind_alone_ok : cSs (gvOf TB) b_is_kind_alone = w_b_is_kind_alone := by kernel_rfl
theorem w_b_asked_by_ok : cSs (gvOf TB) b_asked_by = w_b_asked_by := by kernel_rfl
theorem w_i1_asks_known_ok : cSs (gvOf TB) i1_asks_known = w_i1_asks_known := by kernel_rfl
theorem w_c1_asks_known_ok : cE (gvOf TB) c1_asks_known = w_c1_asks_known := by kernel_rfl
theorem w_c2_asks_known_ok : cE (gvOf TB) c2_asks_known = w_c2_asks_known := by kernel_rfl
theorem w_s1_asks_known_ok : cSs (gvOf TB) s1_asks_known = w_s1_asks_known := by kernel_rfl
theorem w_l1_asks_known_ok : cS (gvOf TB) l1_asks_known = w_l1_asks_known := by kernel_rfl
theorem w_c3_asks_known_ok : cE (gvOf TB) c3_asks_known = w_c3_asks_known := by kernel_rfl
theorem w_b_asks_known_ok : cSs (gvOf TB) b_asks_known = w_b_asks_known := by kernel_rfl
theorem w_c1_is_net_rule_ok : cE (gvOf TB) c1_is_net_rule = w_c1_is_net_rule := by kernel_rfl
theorem w_c2_is_net_rule_ok : cE (gvOf TB) c2_is_net_rule = w_c2_is_net_rule := by kernel_rfl
theorem w_b_is_net_rule_ok : cSs (gvOf TB) b_is_net_rule = w_b_is_net_rule := by kernel_rfl
theorem w_c1_is_net_ok : cE (gvOf TB) c1_is_net = w_c1_is_net := by kernel_rfl
theorem w_b_is_net_ok : cSs (gvOf TB) b_is_net = w_b_is_net := by kernel_rfl
theorem w_c1_look_at_marking_ok : cE (gvOf TB) c1_look_at_marking = w_c1_look_at_marking := by kernel_rfl
theorem w_b_look_at_marking_ok : cSs (gvOf TB) b_look_at_marking = w_b_look_at_marking := by kernel_rfl
theorem w_c1_can_by_ok : cE (gvOf TB) c1_can_by = w_c1_can_by := by kernel_rfl
theorem w_c2_can_by_ok : cE (gvOf TB) c2_can_by = w_c2_can_by := by kernel_rfl
theorem w_c3_can_by_ok : cE (gvOf TB) c3_can_by = w_c3_can_by := by kernel_rfl
theorem w_b_can_by_ok : cSs (gvOf TB) b_can_by = w_b_can_by := by kernel_rfl
theorem w_c1_behind_by_ok : cE (gvOf TB) c1_behind_by = w_c1_behind_by := by kernel_rfl
theorem w_i1_behind_by_ok : cSs (gvOf TB) i1_behind_by = w_i1_behind_by := by kernel_rfl
theorem w_s1_behind_by_ok : cSs (gvOf TB) s1_behind_by = w_s1_behind_by := by kernel_rfl
theorem w_l1_behind_by_ok : cS (gvOf TB) l1_behind_by = w_l1_behind_by := by kernel_rfl
theorem w_s2_behind_by_ok : cSs (gvOf TB) s2_behind_by = w_s2_behind_by := by kernel_rfl
theorem w_l2_behind_by_ok : cS (gvOf TB) l2_behind_by = w_l2_behind_by := by kernel_rfl
theorem w_c2_behind_by_ok : cE (gvOf TB) c2_behind_by = w_c2_behind_by := by kernel_rfl
theorem w_b_behind_by_ok : cSs (gvOf TB) b_behind_by = w_b_behind_by := by kernel_rfl
theorem w_b_can_ok : cSs (gvOf TB) b_can = w_b_can := by kernel_rfl
theorem w_b_behind_ok : cSs (gvOf TB) b_behind = w_b_behind := by kernel_rfl
theorem w_c1_is_within_ok : cE (gvOf TB) c1_is_within = w_c1_is_within := by kernel_rfl
theorem w_b_is_within_ok : cSs (gvOf TB) b_is_within = w_b_is_within := by kernel_rfl
theorem w_b_holds_ok : cSs (gvOf TB) b_holds = w_b_holds := by kernel_rfl
theorem w_c1_is_marking_ok : cE (gvOf TB) c1_is_marking = w_c1_is_marking := by kernel_rfl
theorem w_b_is_marking_ok : cSs (gvOf TB) b_is_marking = w_b_is_marking := by kernel_rfl
theorem w_c1_lets_closed_ok : cE (gvOf TB) c1_lets_closed = w_c1_lets_closed := by kernel_rfl
theorem w_c2_lets_closed_ok : cE (gvOf TB) c2_lets_closed = w_c2_lets_closed := by kernel_rfl
theorem w_c3_lets_closed_ok : cE (gvOf TB) c3_lets_closed = w_c3_lets_closed := by kernel_rfl
theorem w_b_lets_closed_ok : cSs (gvOf TB) b_lets_closed = w_b_lets_closed := by kernel_rfl
theorem w_s1_led_by_ok : cSs (gvOf TB) s1_led_by = w_s1_led_by := by kernel_rfl
theorem w_l1_led_by_ok : cS (gvOf TB) l1_led_by = w_l1_led_by := by kernel_rfl
theorem w_b_led_by_ok : cSs (gvOf TB) b_led_by = w_b_led_by := by kernel_rfl
theorem w_b_lets_grows_ok : cSs (gvOf TB) b_lets_grows = w_b_lets_grows := by kernel_rfl
theorem w_i1_lets_holds_ok : cSs (gvOf TB) i1_lets_holds = w_i1_lets_holds := by kernel_rfl
theorem w_b_lets_holds_ok : cSs (gvOf TB) b_lets_holds = w_b_lets_holds := by kernel_rfl
theorem w_b_l_pool_ok : cSs (gvOf TB) b_l_pool = w_b_l_pool := by kernel_rfl
theorem w_i1_l_take_ok : cSs (gvOf TB) i1_l_take = w_i1_l_take := by kernel_rfl
theorem w_b_l_take_ok : cSs (gvOf TB) b_l_take = w_b_l_take := by kernel_rfl
theorem w_b_l_one_ok : cSs (gvOf TB) b_l_one = w_b_l_one := by kernel_rfl
theorem w_c1_l_rule_ok : cE (gvOf TB) c1_l_rule = w_c1_l_rule := by kernel_rfl
theorem w_c2_l_rule_ok : cE (gvOf TB) c2_l_rule = w_c2_l_rule := by kernel_rfl
theorem w_b_l_rule_ok : cSs (gvOf TB) b_l_rule = w_b_l_rule := by kernel_rfl
theorem w_c1_l_kind_ok : cE (gvOf TB) c1_l_kind = w_c1_l_kind := by kernel_rfl
theorem w_c2_l_kind_ok : cE (gvOf TB) c2_l_kind = w_c2_l_kind := by kernel_rfl
theorem w_b_l_kind_ok : cSs (gvOf TB) b_l_kind = w_b_l_kind := by kernel_rfl
theorem w_c1_l_steps_right_ok : cE (gvOf TB) c1_l_steps_right = w_c1_l_steps_right := by kernel_rfl
theorem w_c2_l_steps_right_ok : cE (gvOf TB) c2_l_steps_right = w_c2_l_steps_right := by kernel_rfl
theorem w_b_l_steps_right_ok : cSs (gvOf TB) b_l_steps_right = w_b_l_steps_right := by kernel_rfl
theorem w_c1_l_locks_right_ok : cE (gvOf TB) c1_l_locks_right = w_c1_l_locks_right := by kernel_rfl
theorem w_c2_l_locks_right_ok : cE (gvOf TB) c2_l_locks_right = w_c2_l_locks_right := by kernel_rfl
theorem w_b_l_locks_right_ok : cSs (gvOf TB) b_l_locks_right = w_b_l_locks_right := by kernel_rfl
theorem w_c1_l_six_right_ok : cE (gvOf TB) c1_l_six_right = w_c1_l_six_right := by kernel_rfl
theorem w_c2_l_six_right_ok : cE (gvOf TB) c2_l_six_right = w_c2_l_six_right := by kernel_rfl
theorem w_b_l_six_right_ok : cSs (gvOf TB) b_l_six_right = w_b_l_six_right := by kernel_rfl
theorem w_b_l_growing_right_ok : cSs (gvOf TB) b_l_growing_right = w_b_l_growing_right := by kernel_rfl
theorem w_b_l_later_right_ok : cSs (gvOf TB) b_l_later_right = w_b_l_later_right := by kernel_rfl
theorem w_s1_law_ok : cSs (gvOf TB) s1_law = w_s1_law := by kernel_rfl
theorem w_l1_law_ok : cS (gvOf TB) l1_law = w_l1_law := by kernel_rfl
theorem w_b_law_ok : cSs (gvOf TB) b_law = w_b_law := by kernel_rfl
theorem w_b_Scope_init_ok : cSs (gvOf TB) b_Scope_init = w_b_Scope_init := by kernel_rfl
theorem w_b_Going_init_ok : cSs (gvOf TB) b_Going_init = w_b_Going_init := by kernel_rfl
theorem w_s1_Going_way_to_ok : cSs (gvOf TB) s1_Going_way_to = w_s1_Going_way_to := by kernel_rfl
theorem w_l1_Going_way_to_ok : cS (gvOf TB) l1_Going_way_to = w_l1_Going_way_to := by kernel_rfl
theorem w_b_Going_way_to_ok : cSs (gvOf TB) b_Going_way_to = w_b_Going_way_to := by kernel_rfl
theorem w_c1_Going_rules_on_ok : cE (gvOf TB) c1_Going_rules_on = w_c1_Going_rules_on := by kernel_rfl
theorem w_b_Going_rules_on_ok : cSs (gvOf TB) b_Going_rules_on = w_b_Going_rules_on := by kernel_rfl
theorem w_i1_Going_grown_ok : cSs (gvOf TB) i1_Going_grown = w_i1_Going_grown := by kernel_rfl
theorem w_s1_Going_grown_ok : cSs (gvOf TB) s1_Going_grown = w_s1_Going_grown := by kernel_rfl
theorem w_l1_Going_grown_ok : cS (gvOf TB) l1_Going_grown = w_l1_Going_grown := by kernel_rfl
theorem w_b_Going_grown_ok : cSs (gvOf TB) b_Going_grown = w_b_Going_grown := by kernel_rfl
theorem w_b_Going_come_ok : cSs (gvOf TB) b_Going_come = w_b_Going_come := by kernel_rfl
theorem w_s1_Going_gone_ok : cSs (gvOf TB) s1_Going_gone = w_s1_Going_gone := by kernel_rfl
theorem w_l1_Going_gone_ok : cS (gvOf TB) l1_Going_gone = w_l1_Going_gone := by kernel_rfl
theorem w_s2_Going_gone_ok : cSs (gvOf TB) s2_Going_gone = w_s2_Going_gone := by kernel_rfl
theorem w_l2_Going_gone_ok : cS (gvOf TB) l2_Going_gone = w_l2_Going_gone := by kernel_rfl
theorem w_b_Going_gone_ok : cSs (gvOf TB) b_Going_gone = w_b_Going_gone := by kernel_rfl
theorem KF_ok : KF = TB.fns.map (cFn (gvOf TB)) := by kernel_rfl
end
end K52
end

section
namespace K52
open PySem Ev
variable {k b n m p : Nat} {M : Sto} {is : List Int}
abbrev cf (k : Nat) : Cf := ⟨run TB.fns (gvOf TB) 64 k, gvOf TB, 64⟩
theorem roots1 {o : O} {ds : List D} (h : M[n]? = some o) (f : flatO o = true) (hd : flats ds = true) : roots M (.loc n :: ds) [] = some [n] := by
  unfold roots
  simp only [List.contains_nil, h, f, List.nil_append]
  exact roots_flat hd
theorem roots2 {o : O} {d : D} {ds : List D} (h : M[n]? = some o) (f : flatO o = true) (h1 : d.flat = true) (hd : flats ds = true) : roots M (d :: .loc n :: ds) [] = some [n] := by
  have r := roots1 h f hd
  rw [roots.eq_def]
  cases d with
  | loc n => simp at h1
  | _ => dsimp only; rw [h1]; exact r
theorem in1 {ds : List D} (hd : flats ds = true) : (D.loc n :: ds).map (inD1 [n]) = .loc 0 :: ds := by
  rw [List.map_cons, in_flat hd]
  simp [inD1]
theorem in2 {d : D} {ds : List D} (h1 : d.flat = true) (hd : flats ds = true) : (d :: D.loc n :: ds).map (inD1 [n]) = d :: .loc 0 :: ds := by
  rw [List.map_cons, in1 hd]
  cases d with
  | loc n => simp at h1
  | _ => rfl
theorem take1 {m : Int} (P : PoolAt p M) (hm : 0 < m ∧ m < 1073741824) :
    ∃ r M', run TB.fns (gvOf TB) 64 (k + 1) 40 [.loc p, .int m] b M = .ok (.int r) M' ∧ 0 ≤ r ∧ r < m ∧ PoolAt p M' ∧ M'.length = M.length ∧ Nx p M M' := by
  obtain ⟨a, s, h, hs⟩ := P
  have hp := lt_of_get h
  have hr : roots M [.loc p, .int m] [] = some [p] := roots1 h (by simp [flatO]) (by simp)
  suffices z : ∃ r a' s', callFn (run TB.fns (gvOf TB) 64 k) (gvOf TB) 64 f_l_take [.loc 0, .int m] 1 [.lst [.int a, .int s]] = .ok (.int r) [.lst [.int a', .int s']] ∧ 0 ≤ r ∧ r < m ∧ 0 ≤ s' ∧ s' < 2147483647 by
    obtain ⟨r, a', s', e, r1, r2, r3⟩ := z
    exact ⟨r, _, run1 (fn := f_l_take) (ys' := [.int a', .int s']) rfl h hr (by rw [in1 (by simp)]; exact e) (by simp) (by simp), r1, r2, ⟨a', s', List.getElem?_set_self hp, r3⟩, by simp, by simp, fun n _ ne => List.getElem?_set_ne (Ne.symm ne)⟩
  by_cases ha : 0 < a
  · refine ⟨a % m, a / m, s, ?_, Int.emod_nonneg _ (by omega), Int.emod_lt_of_pos _ hm.1, hs.1, hs.2⟩
    rw [callFn_of (o := .ok (.int (a % m)) [.lst [.int (a / m), .int s]]) rfl rfl (by
      simp -implicitDefEqProofs [q_var, q_cst, q_glb, q_neg, q_no, q_bin, q_cmp, q_chn, q_and, q_or, q_ife, q_tup, q_lst, q_dic, q_ix, q_sl, q_rev, q_call, q_callk, q_bi, q_lrng, q_mth, q_isi, q_nil, q_cons, q_on, q_os, q_tyes, q_tval, q_tnot, q_tand, q_tor, q_tcmp, q_tchn, q_tife, q_iseq, q_irng, q_ienu, q_izip, q_gnam, q_gtup, q_gsub, q_gnil, q_gcons, q_expr, q_asg, q_par, q_aug, q_ret, q_retn, q_pass, q_brk, q_cont, q_iff, q_snil, q_scons, q_start, q_srcT, q_srcF, q_srcS, q_srcL, q_new, q_fld, q_dict, q_dct, q_get, q_gget, q_calld, q_gstar, q_rai, q_tri, set_loc, cap, Nat.add_assoc, f_l_take, b_l_take, i1_l_take, ha, hm, L2.atI, L2.ixN]
      done)]
    simp [cutE]
  · have e1 : 0 ≤ (s * 48271 + 11) % 2147483647 := Int.emod_nonneg _ (by omega)
    have e2 : (s * 48271 + 11) % 2147483647 < 2147483647 := Int.emod_lt_of_pos _ (by omega)
    refine ⟨((s * 48271 + 11) % 2147483647) * ((s * 48271 + 11) % 2147483647) % 2147483629 / 64 % m, a, (s * 48271 + 11) % 2147483647, ?_, Int.emod_nonneg _ (by omega), Int.emod_lt_of_pos _ hm.1, e1, e2⟩
    generalize eq : (s * 48271 + 11) % 2147483647 = s2 at e1 e2
    have sm1 : small s2 = true := small_of (by omega) (by omega)
    rw [callFn_of (o := .ok (.int (s2 * s2 % 2147483629 / 64 % m)) [.lst [.int a, .int s2]]) rfl rfl (by
      simp -implicitDefEqProofs [q_var, q_cst, q_glb, q_neg, q_no, q_bin, q_cmp, q_chn, q_and, q_or, q_ife, q_tup, q_lst, q_dic, q_ix, q_sl, q_rev, q_call, q_callk, q_bi, q_lrng, q_mth, q_isi, q_nil, q_cons, q_on, q_os, q_tyes, q_tval, q_tnot, q_tand, q_tor, q_tcmp, q_tchn, q_tife, q_iseq, q_irng, q_ienu, q_izip, q_gnam, q_gtup, q_gsub, q_gnil, q_gcons, q_expr, q_asg, q_par, q_aug, q_ret, q_retn, q_pass, q_brk, q_cont, q_iff, q_snil, q_scons, q_start, q_srcT, q_srcF, q_srcS, q_srcL, q_new, q_fld, q_dict, q_dct, q_get, q_gget, q_calld, q_gstar, q_rai, q_tri, set_loc, cap, Nat.add_assoc, f_l_take, b_l_take, i1_l_take, ha, hm, L2.atI, L2.ixN, eq, sm1]
      done)]
    simp [cutE]
theorem atI_nat {α : Type} {xs : List α} {r : Int} (h0 : 0 ≤ r) (h1 : r < xs.length) : L2.atI xs r = xs[r.toNat]? := by
  unfold L2.atI L2.ixN
  rw [if_pos h0, if_pos h1]
  rfl
theorem look {n : Nat} {o : O} (h : M[n]? = some o) (X : Sto) : (M ++ X)[n]? = some o := by rw [List.getElem?_append_left (lt_of_get h)]; exact h
theorem flats_mem : ∀ {xs : List D} {x : D}, flats xs = true → x ∈ xs → x.flat = true
  | [], _, _, m => by cases m
  | y :: ys, x, h, m => by
    rw [fl_cons, Bool.and_eq_true] at h
    rcases List.mem_cons.mp m with rfl | m
    · exact h.1
    · exact flats_mem h.2 m
/-- one of some lists -/
theorem one2 {q : Nat} {ls : List Nat} (P : PoolAt p M) (hq : M[q]? = some (.lst (ls.map D.loc))) (ne : q ≠ p) (h0 : 0 < ls.length) (h1 : ls.length < 1073741824) (hl : ∀ n ∈ ls, n < M.length) :
    ∃ n M', run TB.fns (gvOf TB) 64 (k + 2) 41 [.loc p, .loc q] b M = .ok (.loc n) M' ∧ n ∈ ls ∧ PoolAt p M' ∧ M'.length = M.length ∧ Nx p M M' := by
  have hr : roots M [.loc p, .loc q] [] = none := by
    obtain ⟨a, s, h, hs⟩ := P
    unfold roots
    simp only [List.contains_nil, h, flatO, List.nil_append]
    simp only [show flats [.int a, .int s] = true by simp]
    unfold roots
    have c : [p].contains q = false := by simp [ne]
    have f : flats (ls.map D.loc) = false := by
      cases ls with
      | nil => cases h0
      | cons n ls => simp
    simp only [c, hq, flatO, f]
  obtain ⟨r, M1, e1, r1, r2, P1, l1, N1⟩ := take1 (k := k) (b := M.length) P (m := ls.length) ⟨by omega, by omega⟩
  obtain ⟨n, hn⟩ : ∃ n, ls[r.toNat]? = some n := ⟨_, List.getElem?_eq_getElem (by omega)⟩
  have ax : L2.atI (ls.map D.loc) r = some (.loc n) := by rw [atI_nat r1 (by rw [List.length_map]; exact r2), List.getElem?_map, hn]; rfl
  have mn := List.mem_of_getElem? hn
  have q1 : M1[q]? = some (.lst (ls.map D.loc)) := (N1.at_ q (lt_of_get hq) ne).trans hq
  refine ⟨n, M1, ?_, mn, P1, l1, N1⟩
  rw [run_sub (fn := f_l_one) rfl]
  unfold subRun
  rw [hr]
  show callFn (run TB.fns (gvOf TB) 64 (k + 1)) (gvOf TB) 64 f_l_one [.loc p, .loc q] b M = _
  rw [callFn_of (o := .ok (.loc n) M1) rfl rfl (by
    simp -implicitDefEqProofs [q_var, q_cst, q_glb, q_neg, q_no, q_bin, q_cmp, q_chn, q_and, q_or, q_ife, q_tup, q_lst, q_dic, q_ix, q_sl, q_rev, q_call, q_callk, q_bi, q_lrng, q_mth, q_isi, q_nil, q_cons, q_on, q_os, q_tyes, q_tval, q_tnot, q_tand, q_tor, q_tcmp, q_tchn, q_tife, q_iseq, q_irng, q_ienu, q_izip, q_gnam, q_gtup, q_gsub, q_gnil, q_gcons, q_expr, q_asg, q_par, q_aug, q_ret, q_retn, q_pass, q_brk, q_cont, q_iff, q_snil, q_scons, q_start, q_srcT, q_srcF, q_srcS, q_srcL, q_new, q_fld, q_dict, q_dct, q_get, q_gget, q_calld, q_gstar, q_rai, q_tri, set_loc, cap, Nat.add_assoc, f_l_one, b_l_one, hq, e1, q1, ax]
    done)]
  rw [cut_old (hl n mn), ← l1, List.take_length]
theorem cutD_map {lo hi : Option Int} (is : List Int) : cutD (is.map D.int) lo hi = (cutD is lo hi).map D.int := by
  unfold cutD
  rw [List.length_map, List.map_take, List.map_drop]
theorem cutD_le {α : Type} {lo hi : Option Int} (is : List α) : (cutD is lo hi).length ≤ is.length := by
  unfold cutD
  rw [List.length_take, List.length_drop]
  omega
theorem pool1 (hl : is.length ≤ 63) (i : Nat) (hi : i ≤ 100) : ∃ a s, run TB.fns (gvOf TB) 64 (k + 1) 39 [.frz (is.map D.int), .int i] b M = .ok (.loc M.length) (M ++ [.lst [.int a, .int s]]) ∧ 0 ≤ s ∧ s < 2147483647 := by
  have cl : (cutD is (some (i : Int)) (some ((i : Int) + 1))).length ≤ 63 := Nat.le_trans (cutD_le is) hl
  have e0 : semSl (.frz (is.map D.int)) (some (i : Int)) (some ((i : Int) + 1)) [] = .ok (.loc 0) [.lst ((cutD is (some (i : Int)) (some ((i : Int) + 1))).map D.int)] := by
    rw [← cutD_map]; rfl
  generalize cutD is (some (i : Int)) (some ((i : Int) + 1)) = cs at cl e0
  obtain ⟨c, ec⟩ : ∃ c : Int, L2.atI (cs.map D.int ++ [.int 0]) 0 = some (.int c) := by
    cases cs with
    | nil => exact ⟨0, rfl⟩
    | cons c cs =>
      refine ⟨c, ?_⟩
      unfold L2.atI L2.ixN
      simp
      rw [if_pos (by omega)]
      rfl
  have hle : cs.length + 1 ≤ 16777216 := by omega
  have s1 : small (7919 * (i : Int)) = true := small_of (by omega) (by omega)
  obtain ⟨z, hz⟩ : ∃ z : Int, z = (if -1 - c > c then -1 - c else c) := ⟨_, rfl⟩
  have s2 : small (if z ≥ 1000000000000000000 then 1 else 0) = true := by split <;> rfl
  refine ⟨z * (if z ≥ 1000000000000000000 then 1 else 0), (z % 2147483629 + 7919 * (i : Int) + 1) * 48271 % 2147483647, ?_, Int.emod_nonneg _ (by omega), Int.emod_lt_of_pos _ (by omega)⟩
  have fi : ∀ is : List Int, flats (is.map D.int) = true := fun is => by
    induction is with
    | nil => simp
    | cons i is ih => simp [ih]
  have e : cal TB.fns (gvOf TB) 64 k f_l_pool [.frz (is.map D.int), .int i] [] = .ok (.loc 0) [.lst [.int (z * (if z ≥ 1000000000000000000 then 1 else 0)), .int ((z % 2147483629 + 7919 * (i : Int) + 1) * 48271 % 2147483647)]] := by
    unfold cal
    rw [callFn_of (o := .ok (.loc 3) [.lst (cs.map D.int), .lst [.int 0], .lst (cs.map D.int ++ [.int 0]), .lst [.int (z * (if z ≥ 1000000000000000000 then 1 else 0)), .int ((z % 2147483629 + 7919 * (i : Int) + 1) * 48271 % 2147483647)]]) rfl rfl (by
      simp -implicitDefEqProofs [q_var, q_cst, q_glb, q_neg, q_no, q_bin, q_cmp, q_chn, q_and, q_or, q_ife, q_tup, q_lst, q_dic, q_ix, q_sl, q_rev, q_call, q_callk, q_bi, q_lrng, q_mth, q_isi, q_nil, q_cons, q_on, q_os, q_tyes, q_tval, q_tnot, q_tand, q_tor, q_tcmp, q_tchn, q_tife, q_iseq, q_irng, q_ienu, q_izip, q_gnam, q_gtup, q_gsub, q_gnil, q_gcons, q_expr, q_asg, q_par, q_aug, q_ret, q_retn, q_pass, q_brk, q_cont, q_iff, q_snil, q_scons, q_start, q_srcT, q_srcF, q_srcS, q_srcL, q_new, q_fld, q_dict, q_dct, q_get, q_gget, q_calld, q_gstar, q_rai, q_tri, set_loc, cap, Nat.add_assoc, f_l_pool, b_l_pool, e0, ec, hle, s1, s2, ← hz])]
    exact cut_list (ys := [.int (z * (if z ≥ 1000000000000000000 then 1 else 0)), .int ((z % 2147483629 + 7919 * (i : Int) + 1) * 48271 % 2147483647)]) (by simp) rfl (by simp)
  have fz : (D.frz (is.map D.int)).flat = true := by unfold D.flat; exact fi is
  rw [run0L (fn := f_l_pool) rfl (by simp [fz]) e (by simp)]
end K52
end

section
namespace K52
open PySem Ev
noncomputable section
/-- a def's run by the words -/
def nn : Nat → List D → Option D := fun _ _ => none
def KC (k f : Nat) (xs : List D) (b : Nat) (M : Sto) : Out D := cs (nth KF f) .no fun fn => callK (runK KF nn (gvOf TB) 64 k) (gvOf TB) 64 fn xs b M
theorem KC_eq {k f : Nat} {fn : Fn} {xs : List D} {b : Nat} {M : Sto} (h : TB.fns[f]? = some fn) : KC k f xs b M = callFn (run TB.fns (gvOf TB) 64 k) (gvOf TB) 64 fn xs b M := by
  unfold KC
  rw [nth_eq, KF_ok, List.getElem?_map, h]
  refine callK_eq ?_ xs b M
  rw [← KF_ok]
  exact runK_eq (fun f xs d h => by cases h) KF_ok k
/-- small things are the same -/
def sm1 (x y : D) : Bool := match x, y with
  | .str a, .str b => eqN a b
  | _, _ => false
def smL : List D → List D → Bool
  | [], [] => true
  | x :: xs, y :: ys => sm1 x y && smL xs ys
  | _, _ => false
/-- nothing else is there, and it is as it was -/
def same (M M' : Sto) : Bool := match M, M' with
  | [], [] => true
  | [.lst xs], [.lst ys] => smL xs ys
  | _, _ => false
theorem sm1_eq {x y : D} (h : sm1 x y = true) : x = y := by
  unfold sm1 at h
  split at h
  · rw [eqN_eq] at h
    rw [of_decide_eq_true h]
  · cases h
theorem smL_eq : ∀ {xs ys : List D}, smL xs ys = true → xs = ys
  | [], [], _ => rfl
  | x :: xs, y :: ys, h => by
    unfold smL at h
    rw [Bool.and_eq_true] at h
    rw [sm1_eq h.1, smL_eq h.2]
  | [], _ :: _, h => by cases h
  | _ :: _, [], h => by cases h
theorem same_eq {M M' : Sto} (h : same M M' = true) : M = M' := by
  unfold same at h
  split at h
  · rfl
  · rw [smL_eq h]
  · cases h
/-- it answers True, and leaves all as it was -/
def isT (M : Sto) (o : Out D) : Bool := match o with
  | .ok (.bl true) M' => same M M'
  | _ => false
theorem isT_eq {M : Sto} {o : Out D} (h : isT M o = true) : o = .ok (.bl true) M := by
  unfold isT at h
  split at h
  · rw [same_eq h]
  · cases h
def WA : List D := [.str [97], .str [98], .str [99]]
def WB : List D := [.str [99], .str [98], .str [97]]
def WC : List D := [.str [102, 114, 101, 101], .str [116, 97, 107, 101], .str [104, 101, 108, 100]]
def WD : List D := [.str [122, 122], .str [97], .str [108, 111, 116]]
/-- one of the law's parts at a word list and a number -/
def okP (f : Nat) (w : List D) (m : Nat) : Bool := isT [.lst w] (KC 14 f [.loc 0, .int (Int.ofNat m)] 1 [.lst w])
end
end K52
end

section
namespace K52
open PySem Ev
theorem pA_44_1 : okP 44 WA 1 = true := by kernel_rfl
theorem pA_44_2 : okP 44 WA 2 = true := by kernel_rfl
theorem pA_44_3 : okP 44 WA 3 = true := by kernel_rfl
theorem pA_44_4 : okP 44 WA 4 = true := by kernel_rfl
theorem pA_44_5 : okP 44 WA 5 = true := by kernel_rfl
theorem pA_44_6 : okP 44 WA 6 = true := by kernel_rfl
theorem pA_45_1 : okP 45 WA 1 = true := by kernel_rfl
theorem pA_45_2 : okP 45 WA 2 = true := by kernel_rfl
theorem pA_45_3 : okP 45 WA 3 = true := by kernel_rfl
theorem pA_45_4 : okP 45 WA 4 = true := by kernel_rfl
theorem pA_45_5 : okP 45 WA 5 = true := by kernel_rfl
theorem pA_45_6 : okP 45 WA 6 = true := by kernel_rfl
theorem pA_47_1 : okP 47 WA 1 = true := by kernel_rfl
theorem pA_47_2 : okP 47 WA 2 = true := by kernel_rfl
theorem pA_47_3 : okP 47 WA 3 = true := by kernel_rfl
theorem pA_47_4 : okP 47 WA 4 = true := by kernel_rfl
theorem pA_47_5 : okP 47 WA 5 = true := by kernel_rfl
theorem pA_47_6 : okP 47 WA 6 = true := by kernel_rfl
end K52
end

section
namespace K52
open PySem Ev
theorem pB_44_1 : okP 44 WB 1 = true := by kernel_rfl
theorem pB_44_2 : okP 44 WB 2 = true := by kernel_rfl
theorem pB_44_3 : okP 44 WB 3 = true := by kernel_rfl
theorem pB_44_4 : okP 44 WB 4 = true := by kernel_rfl
theorem pB_44_5 : okP 44 WB 5 = true := by kernel_rfl
theorem pB_44_6 : okP 44 WB 6 = true := by kernel_rfl
theorem pB_45_1 : okP 45 WB 1 = true := by kernel_rfl
theorem pB_45_2 : okP 45 WB 2 = true := by kernel_rfl
theorem pB_45_3 : okP 45 WB 3 = true := by kernel_rfl
theorem pB_45_4 : okP 45 WB 4 = true := by kernel_rfl
theorem pB_45_5 : okP 45 WB 5 = true := by kernel_rfl
theorem pB_45_6 : okP 45 WB 6 = true := by kernel_rfl
theorem pB_47_1 : okP 47 WB 1 = true := by kernel_rfl
theorem pB_47_2 : okP 47 WB 2 = true := by kernel_rfl
theorem pB_47_3 : okP 47 WB 3 = true := by kernel_rfl
theorem pB_47_4 : okP 47 WB 4 = true := by kernel_rfl
theorem pB_47_5 : okP 47 WB 5 = true := by kernel_rfl
theorem pB_47_6 : okP 47 WB 6 = true := by kernel_rfl
end K52
end

section
namespace K52
open PySem Ev
theorem pC_44_1 : okP 44 WC 1 = true := by kernel_rfl
theorem pC_44_2 : okP 44 WC 2 = true := by kernel_rfl
theorem pC_44_3 : okP 44 WC 3 = true := by kernel_rfl
theorem pC_44_4 : okP 44 WC 4 = true := by kernel_rfl
theorem pC_44_5 : okP 44 WC 5 = true := by kernel_rfl
theorem pC_44_6 : okP 44 WC 6 = true := by kernel_rfl
theorem pC_45_1 : okP 45 WC 1 = true := by kernel_rfl
theorem pC_45_2 : okP 45 WC 2 = true := by kernel_rfl
theorem pC_45_3 : okP 45 WC 3 = true := by kernel_rfl
theorem pC_45_4 : okP 45 WC 4 = true := by kernel_rfl
theorem pC_45_5 : okP 45 WC 5 = true := by kernel_rfl
theorem pC_45_6 : okP 45 WC 6 = true := by kernel_rfl
theorem pC_47_1 : okP 47 WC 1 = true := by kernel_rfl
theorem pC_47_2 : okP 47 WC 2 = true := by kernel_rfl
theorem pC_47_3 : okP 47 WC 3 = true := by kernel_rfl
theorem pC_47_4 : okP 47 WC 4 = true := by kernel_rfl
theorem pC_47_5 : okP 47 WC 5 = true := by kernel_rfl
theorem pC_47_6 : okP 47 WC 6 = true := by kernel_rfl
end K52
end

section
namespace K52
open PySem Ev
theorem pD_44_1 : okP 44 WD 1 = true := by kernel_rfl
theorem pD_44_2 : okP 44 WD 2 = true := by kernel_rfl
theorem pD_44_3 : okP 44 WD 3 = true := by kernel_rfl
theorem pD_44_4 : okP 44 WD 4 = true := by kernel_rfl
theorem pD_44_5 : okP 44 WD 5 = true := by kernel_rfl
theorem pD_44_6 : okP 44 WD 6 = true := by kernel_rfl
theorem pD_45_1 : okP 45 WD 1 = true := by kernel_rfl
theorem pD_45_2 : okP 45 WD 2 = true := by kernel_rfl
theorem pD_45_3 : okP 45 WD 3 = true := by kernel_rfl
theorem pD_45_4 : okP 45 WD 4 = true := by kernel_rfl
theorem pD_45_5 : okP 45 WD 5 = true := by kernel_rfl
theorem pD_45_6 : okP 45 WD 6 = true := by kernel_rfl
theorem pD_47_1 : okP 47 WD 1 = true := by kernel_rfl
theorem pD_47_2 : okP 47 WD 2 = true := by kernel_rfl
theorem pD_47_3 : okP 47 WD 3 = true := by kernel_rfl
theorem pD_47_4 : okP 47 WD 4 = true := by kernel_rfl
theorem pD_47_5 : okP 47 WD 5 = true := by kernel_rfl
theorem pD_47_6 : okP 47 WD 6 = true := by kernel_rfl
end K52
end

section
namespace K52
open PySem Ev
theorem six : isT [] (KC 14 46 [] 0 []) = true := by kernel_rfl
theorem later : isT [] (KC 14 48 [] 0 []) = true := by kernel_rfl
end K52
end

section
namespace K52
open PySem Ev
variable {k b n m p : Nat} {M M' : Sto} {is : List Int}
theorem all_parts {w : List D} (hw : w = WA ∨ w = WB ∨ w = WC ∨ w = WD) {m : Nat} (h1 : 1 ≤ m) (h2 : m ≤ 6) : okP 44 w m = true ∧ okP 45 w m = true ∧ okP 47 w m = true := by
  obtain rfl | rfl | rfl | rfl | rfl | rfl : m = 1 ∨ m = 2 ∨ m = 3 ∨ m = 4 ∨ m = 5 ∨ m = 6 := by omega
  · rcases hw with rfl | rfl | rfl | rfl
    · exact ⟨pA_44_1, pA_45_1, pA_47_1⟩
    · exact ⟨pB_44_1, pB_45_1, pB_47_1⟩
    · exact ⟨pC_44_1, pC_45_1, pC_47_1⟩
    · exact ⟨pD_44_1, pD_45_1, pD_47_1⟩
  · rcases hw with rfl | rfl | rfl | rfl
    · exact ⟨pA_44_2, pA_45_2, pA_47_2⟩
    · exact ⟨pB_44_2, pB_45_2, pB_47_2⟩
    · exact ⟨pC_44_2, pC_45_2, pC_47_2⟩
    · exact ⟨pD_44_2, pD_45_2, pD_47_2⟩
  · rcases hw with rfl | rfl | rfl | rfl
    · exact ⟨pA_44_3, pA_45_3, pA_47_3⟩
    · exact ⟨pB_44_3, pB_45_3, pB_47_3⟩
    · exact ⟨pC_44_3, pC_45_3, pC_47_3⟩
    · exact ⟨pD_44_3, pD_45_3, pD_47_3⟩
  · rcases hw with rfl | rfl | rfl | rfl
    · exact ⟨pA_44_4, pA_45_4, pA_47_4⟩
    · exact ⟨pB_44_4, pB_45_4, pB_47_4⟩
    · exact ⟨pC_44_4, pC_45_4, pC_47_4⟩
    · exact ⟨pD_44_4, pD_45_4, pD_47_4⟩
  · rcases hw with rfl | rfl | rfl | rfl
    · exact ⟨pA_44_5, pA_45_5, pA_47_5⟩
    · exact ⟨pB_44_5, pB_45_5, pB_47_5⟩
    · exact ⟨pC_44_5, pC_45_5, pC_47_5⟩
    · exact ⟨pD_44_5, pD_45_5, pD_47_5⟩
  · rcases hw with rfl | rfl | rfl | rfl
    · exact ⟨pA_44_6, pA_45_6, pA_47_6⟩
    · exact ⟨pB_44_6, pB_45_6, pB_47_6⟩
    · exact ⟨pC_44_6, pC_45_6, pC_47_6⟩
    · exact ⟨pD_44_6, pD_45_6, pD_47_6⟩
theorem part_run {f : Nat} {fn : Fn} {w : List D} (hf : TB.fns[f]? = some fn) (h : okP f w m = true) (hw : flats w = true) (hM : M[n]? = some (.lst w)) : run TB.fns (gvOf TB) 64 15 f [.loc n, .int (m : Int)] b M = .ok (.bl true) M := by
  refine run1s (fn := fn) hf hM (roots1 hM (by rw [flatO, hw]) (by simp)) ?_ hw (by simp)
  rw [in1 (by simp)]
  exact (KC_eq (k := 14) (b := 1) hf).symm.trans (isT_eq h)
/-- one turn of the law -/
theorem s1_law_ev {i : Nat} (hl : is.length ≤ 63) (hi : i ≤ 100) {a2 a3 a4 : Option D} : ∃ y2 y3 y4 M', evSs (cf 15) b s1_law [some (.frz (is.map D.int)), some (.int i), a2, a3, a4] M = some (.nx [some (.frz (is.map D.int)), some (.int i), y2, y3, y4], M') := by
  obtain ⟨a, s, e1, s1, s2⟩ := pool1 (k := 14) (b := b) (M := M) hl i hi
  obtain ⟨M1, hM1⟩ : ∃ M1 : Sto, M1 = M ++ [.lst [.int a, .int s], .lst WA, .lst WB, .lst WC, .lst WD, .lst ([M.length + 1, M.length + 2, M.length + 3, M.length + 4].map D.loc)] := ⟨_, rfl⟩
  have P : PoolAt M.length M1 := ⟨a, s, by rw [hM1]; simp, s1, s2⟩
  have len1 : M1.length = M.length + 6 := by rw [hM1]; simp
  obtain ⟨n, M2, e2, mn, P2, l2, N2⟩ := one2 (k := 13) (b := b) (q := M.length + 5) (ls := [M.length + 1, M.length + 2, M.length + 3, M.length + 4]) P (by rw [hM1]; simp) (by omega) (by simp) (by simp) (fun n h => by
    simp only [List.mem_cons, List.not_mem_nil, or_false] at h
    omega)
  obtain ⟨w, hw, gw, np⟩ : ∃ w : List D, (w = WA ∨ w = WB ∨ w = WC ∨ w = WD) ∧ M2[n]? = some (.lst w) ∧ n ≠ M.length := by
    simp only [List.mem_cons, List.not_mem_nil, or_false] at mn
    rcases mn with rfl | rfl | rfl | rfl
    · exact ⟨WA, .inl rfl, (N2.at_ _ (by omega) (by omega)).trans (by rw [hM1]; simp), by omega⟩
    · exact ⟨WB, .inr (.inl rfl), (N2.at_ _ (by omega) (by omega)).trans (by rw [hM1]; simp), by omega⟩
    · exact ⟨WC, .inr (.inr (.inl rfl)), (N2.at_ _ (by omega) (by omega)).trans (by rw [hM1]; simp), by omega⟩
    · exact ⟨WD, .inr (.inr (.inr rfl)), (N2.at_ _ (by omega) (by omega)).trans (by rw [hM1]; simp), by omega⟩
  obtain ⟨r, M3, e3, r1, r2, P3, l3, N3⟩ := take1 (k := 14) (b := b) P2 (m := 6) ⟨by omega, by omega⟩
  have g3 : M3[n]? = some (.lst w) := (N3.at_ n (lt_of_get gw) np).trans gw
  obtain ⟨m, rfl⟩ : ∃ m : Nat, r = (m : Int) := ⟨r.toNat, by omega⟩
  have fw : flats w = true := by rcases hw with rfl | rfl | rfl | rfl <;> simp [WA, WB, WC, WD]
  obtain ⟨k1, k2, k3⟩ := all_parts hw (m := 1 + m) (by omega) (by omega)
  have c1 := part_run (b := b) (fn := f_l_steps_right) rfl k1 fw g3
  have c2 := part_run (b := b) (fn := f_l_locks_right) rfl k2 fw g3
  have c3 := part_run (b := b) (fn := f_l_growing_right) rfl k3 fw g3
  have em : ((1 + m : Nat) : Int) = 1 + (m : Int) := by omega
  rw [em] at c1 c2 c3
  refine ⟨some (.loc M.length), some (.loc n), some (.int (1 + (m : Int))), M3, ?_⟩
  rw [hM1] at e2
  simp only [WA, WB, WC, WD, List.map_cons, List.map_nil] at e2
  simp -implicitDefEqProofs [q_var, q_cst, q_glb, q_neg, q_no, q_bin, q_cmp, q_chn, q_and, q_or, q_ife, q_tup, q_lst, q_dic, q_ix, q_sl, q_rev, q_call, q_callk, q_bi, q_lrng, q_mth, q_isi, q_nil, q_cons, q_on, q_os, q_tyes, q_tval, q_tnot, q_tand, q_tor, q_tcmp, q_tchn, q_tife, q_iseq, q_irng, q_ienu, q_izip, q_gnam, q_gtup, q_gsub, q_gnil, q_gcons, q_expr, q_asg, q_par, q_aug, q_ret, q_retn, q_pass, q_brk, q_cont, q_iff, q_snil, q_scons, q_start, q_srcT, q_srcF, q_srcS, q_srcL, q_new, q_fld, q_dict, q_dct, q_get, q_gget, q_calld, q_gstar, q_rai, q_tri, set_loc, cap, Nat.add_assoc, s1_law, e1, e2, e3, c1, c2, c3]
  done
theorem l1_law_ev {a1 a2 a3 a4 : Option D} (hl : is.length ≤ 63) : ∃ ρ' M', evS (cf 15) b l1_law [some (.frz (is.map D.int)), a1, a2, a3, a4] M = some (.nx ρ', M') := by
  obtain ⟨N, hN, lN⟩ : ∃ N : Nat, (N : Int) = (if (if (10 : Int) < ((is.length : Nat) : Int) then (10 : Int) else ((is.length : Nat) : Int)) > 1 then (if (10 : Int) < ((is.length : Nat) : Int) then (10 : Int) else ((is.length : Nat) : Int)) else 1) ∧ N ≤ 20 := by
    refine ⟨(if (if (10 : Int) < ((is.length : Nat) : Int) then (10 : Int) else ((is.length : Nat) : Int)) > 1 then (if (10 : Int) < ((is.length : Nat) : Int) then (10 : Int) else ((is.length : Nat) : Int)) else 1).toNat, ?_, ?_⟩ <;> split <;> split <;> omega
  obtain ⟨ρ', M', el, _⟩ := loop_go (xs := rngD 0 N) (next := fun M i => (Src.rng 0 N).next M i) (body := fun d ρ M => bodyS (evG (cf 15) b (.nam 1) d ρ M) (evSs (cf 15) b s1_law))
    (I := fun ρ M' => ∃ y1 y2 y3 y4, ρ = [some (.frz (is.map D.int)), y1, y2, y3, y4])
    (fun ρ M' i h => next_rng 0 N i) (fun d md ρ M2 h => by
      obtain ⟨y1, y2, y3, y4, rfl⟩ := h
      obtain ⟨i, hi, rfl⟩ := rng_mem md
      obtain ⟨z2, z3, z4, M3, e3⟩ := s1_law_ev (b := b) (M := M2) (i := i) hl (by omega) (a2 := y2) (a3 := y3) (a4 := y4)
      exact ⟨[some (.frz (is.map D.int)), some (.int i), z2, z3, z4], M3, by simp -implicitDefEqProofs [q_var, q_cst, q_glb, q_neg, q_no, q_bin, q_cmp, q_chn, q_and, q_or, q_ife, q_tup, q_lst, q_dic, q_ix, q_sl, q_rev, q_call, q_callk, q_bi, q_lrng, q_mth, q_isi, q_nil, q_cons, q_on, q_os, q_tyes, q_tval, q_tnot, q_tand, q_tor, q_tcmp, q_tchn, q_tife, q_iseq, q_irng, q_ienu, q_izip, q_gnam, q_gtup, q_gsub, q_gnil, q_gcons, q_expr, q_asg, q_par, q_aug, q_ret, q_retn, q_pass, q_brk, q_cont, q_iff, q_snil, q_scons, q_start, q_srcT, q_srcF, q_srcS, q_srcL, q_new, q_fld, q_dict, q_dct, q_get, q_gget, q_calld, q_gstar, q_rai, q_tri, set_loc, cap, Nat.add_assoc, e3], _, _, _, _, rfl⟩) (rngD 0 N).length 0 (by omega) [some (.frz (is.map D.int)), a1, a2, a3, a4] M ⟨_, _, _, _, rfl⟩
  refine ⟨ρ', M', ?_⟩
  unfold l1_law
  have hb : big (N : Int) = true := big_of (by omega) (by omega)
  rw [for_ev (src := .rng 0 N) (M1 := M) (by
    simp -implicitDefEqProofs [q_var, q_cst, q_glb, q_neg, q_no, q_bin, q_cmp, q_chn, q_and, q_or, q_ife, q_tup, q_lst, q_dic, q_ix, q_sl, q_rev, q_call, q_callk, q_bi, q_lrng, q_mth, q_isi, q_nil, q_cons, q_on, q_os, q_tyes, q_tval, q_tnot, q_tand, q_tor, q_tcmp, q_tchn, q_tife, q_iseq, q_irng, q_ienu, q_izip, q_gnam, q_gtup, q_gsub, q_gnil, q_gcons, q_expr, q_asg, q_par, q_aug, q_ret, q_retn, q_pass, q_brk, q_cont, q_iff, q_snil, q_scons, q_start, q_srcT, q_srcF, q_srcS, q_srcL, q_new, q_fld, q_dict, q_dct, q_get, q_gget, q_calld, q_gstar, q_rai, q_tri, set_loc, cap, Nat.add_assoc]
    rw [← hN]
    simp [hb]), len_rng]
  exact el
theorem law_ev (hl : is.length ≤ 63) : ∃ M, run TB.fns (gvOf TB) 64 16 49 [.frz (is.map D.int)] 0 [] = .ok (.bl true) M := by
  obtain ⟨ρ', M', e3⟩ := l1_law_ev (b := 0) (M := []) (a1 := none) (a2 := none) (a3 := none) (a4 := none) hl
  have h1 : run TB.fns (gvOf TB) 64 15 46 [] 0 [] = .ok (.bl true) [] := run0 (fn := f_l_six_right) rfl (by simp) ((KC_eq (k := 14) (f := 46) (fn := f_l_six_right) rfl).symm.trans (isT_eq six)) (by simp)
  have h2 : run TB.fns (gvOf TB) 64 15 48 [] 0 [] = .ok (.bl true) [] := run0 (fn := f_l_later_right) rfl (by simp) ((KC_eq (k := 14) (f := 48) (fn := f_l_later_right) rfl).symm.trans (isT_eq later)) (by simp)
  have fz : flats [.frz (is.map D.int)] = true := by rw [fl_cons]; unfold D.flat; simp
  refine ⟨[], run0 (fn := f_law) rfl fz ?_ (by simp)⟩
  show callFn _ _ _ f_law _ 0 [] = _
  rw [callFn_of (o := .ok (.bl true) M') rfl rfl (by
    simp -implicitDefEqProofs [q_var, q_cst, q_glb, q_neg, q_no, q_bin, q_cmp, q_chn, q_and, q_or, q_ife, q_tup, q_lst, q_dic, q_ix, q_sl, q_rev, q_call, q_callk, q_bi, q_lrng, q_mth, q_isi, q_nil, q_cons, q_on, q_os, q_tyes, q_tval, q_tnot, q_tand, q_tor, q_tcmp, q_tchn, q_tife, q_iseq, q_irng, q_ienu, q_izip, q_gnam, q_gtup, q_gsub, q_gnil, q_gcons, q_expr, q_asg, q_par, q_aug, q_ret, q_retn, q_pass, q_brk, q_cont, q_iff, q_snil, q_scons, q_start, q_srcT, q_srcF, q_srcS, q_srcL, q_new, q_fld, q_dict, q_dct, q_get, q_gget, q_calld, q_gstar, q_rai, q_tri, set_loc, cap, Nat.add_assoc, f_law, b_law, h1, h2, e3])]
  rw [cut_flat (by simp)]
  rfl
end K52
theorem k52_holds : PySem.Challenge.rw_waitedmeets_k52_known_nets.Holds := k52_of fun is h => K52.law_ev h
end

theorem PySem.Challenge.cw_waitedmeets_k52_known_nets_holds : PySem.Challenge.rw_waitedmeets_k52_known_nets.Holds :=
  k52_holds
