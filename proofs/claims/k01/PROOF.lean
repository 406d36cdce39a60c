import PyProof.Rows.All
import Wide.All
import OpenK.AllK
import Wide.FinOn
import HandS.ForMost
import HandS.ForExc
import HandS.CallSlots
import HandS.TupAny
import HandS.Flow
import HandS.IsInst
import HandS.SortInts
import HandS.SetFor
import HandS.Style
import HandS.More
import HandS.Strs
import HandS.Conv
import HandS.TupLe
import HandS.Deep
import HandS.RaiseMore
import HandS.Zip
import HandS.Defaults
import HandS.Codes
import HandS.Words
import HandS.WordsExc
import HandS.Head0
import HandS.Head1
import HandS.Head2
import HandS.HeadEnd
import HandS.HeadHook1
import HandS.HeadHook2
import HandS.Text
import PySem.Challenge.RW_waitedmeets_k01_worths_of_all_sorts
set_option Elab.async false
set_option linter.all false
set_option maxRecDepth 100000
section
/-! EvDef: a small evaluator over plain data, for the part of Python that the program and its laws use. -/
namespace Ev
open PySem

/-- a value: lists, dicts and instances stand in the store, all else is a tree; frz: a list that nobody changes -/
inductive D where
  | non | bl (b : Bool) | int (i : Int) | str (s : List Nat) | tup (xs : List D) | frz (xs : List D) | loc (n : Nat) | fn (n : Nat)
  deriving Inhabited
inductive O where
  | lst (xs : List D) | dct (kvs : List (D × D)) | ins (c : Nat) (fs : List (Nat × D))
  deriving Inhabited
abbrev Sto := List O
abbrev Enn := List (Option D)
/-- an exception: its class, its fields -/
structure Xn where
  cls : Nat
  fs : List (Nat × D)
inductive Out (α : Type) where
  | no | ok (a : α) (M : Sto) | ex (x : Xn) (M : Sto)
def Out.bind {α β : Type} (o : Out α) (f : α → Sto → Out β) : Out β := match o with
  | .no => .no
  | .ok a M => f a M
  | .ex x M => .ex x M
@[simp] theorem bind_ok {α β : Type} (a : α) (M : Sto) (f : α → Sto → Out β) : (Out.ok a M).bind f = f a M := rfl
@[simp] theorem bind_no {α β : Type} (f : α → Sto → Out β) : (Out.no : Out α).bind f = .no := rfl
@[simp] theorem bind_ex {α β : Type} (x : Xn) (M : Sto) (f : α → Sto → Out β) : (Out.ex x M : Out α).bind f = .ex x M := rfl
def ofOpt {α : Type} (o : Option α) (M : Sto) : Out α := match o with
  | some a => .ok a M
  | none => .no
@[simp] theorem ofOpt_some {α : Type} (a : α) (M : Sto) : ofOpt (some a) M = .ok a M := rfl
@[simp] theorem ofOpt_none {α : Type} (M : Sto) : ofOpt (none : Option α) M = .no := rfl

mutual
/-- no address within -/
def D.flat : D → Bool
  | .non => true
  | .bl _ => true
  | .int _ => true
  | .str _ => true
  | .tup xs => flats xs
  | .frz xs => flats xs
  | .loc _ => false
  | .fn _ => true
def flats : List D → Bool
  | [] => true
  | x :: xs => x.flat && flats xs
end

def allS {α : Type} : List (Option α) → Option (List α)
  | [] => some []
  | none :: _ => none
  | some x :: xs => match allS xs with
    | some ys => some (x :: ys)
    | none => none

def cap : Nat := 16777216
def MX : Nat := 12
def codes (s : List Nat) : Bool := s.all fun c => Nat.blt c 1114112
/-- as plain data, so many levels deep -/
def py (M : Sto) : Nat → D → Option PyData
  | 0, _ => none
  | k + 1, d => match d with
    | .non => some .none
    | .bl b => some (.bool b)
    | .int i => some (.int i)
    | .str s => match codes s with
      | true => some (.str ⟨s.toArray⟩)
      | false => none
    | .tup xs => (allS (xs.map (py M k))).map .tuple
    | .frz xs => (allS (xs.map (py M k))).map .list
    | .loc n => match M[n]? with
      | some (.lst xs) => (allS (xs.map (py M k))).map .list
      | _ => none
    | .fn _ => none

/-! ### the syntax -/
inductive U1 where | neg
inductive B2 where | add | sub | mul | div | mod | pow
inductive C2 where | eq | ne | lt | le | gt | ge | isin | nin | is | isn
inductive BI where | len | max2 | min2 | abs | int | str | repr | lst | tup | srt | all | any | sum
inductive MT where | append | extend | pop | popAt | insert | count | index | clear | join
inductive CL where | int | bool | str | tup | lst | dct | own (c : Nat)
mutual
inductive E where
  | var (i : Nat) | cst (d : D) | glb (g : Nat)
  | un (o : U1) (a : E) | no (a : E)
  | bin (o : B2) (a b : E) | cmp (o : C2) (a b : E) | chn (o o' : C2) (a b c : E)
  | and (a b : E) | or (a b : E) | ife (t : T) (a b : E)
  | tup (es : EL) | lst (es : EL) | dic0
  | ix (a b : E) | sl (a : E) (lo hi : EO) | rev (a : E)
  | call (f : Nat) (es : EL) | callk (f : Nat) (es : EL) (ks : List Nat) (kes : EL)
  | bi (b : BI) (es : EL) | lrng (es : EL)
  | mth (m : MT) (o : E) (es : EL)
  | isi (a : E) (cs : List CL)
  | lc (g : G) (it : IT) (ow : List Nat) (t : T) (e : E)
  | lc2 (g : G) (it : IT) (t : T) (g' : G) (it' : IT) (t' : T) (ow ow' : List Nat) (e : E)
inductive EL where
  | nil | cons (e : E) (es : EL)
inductive EO where
  | none | some (e : E)
inductive T where
  | yes | val (a : E) | not (t : T) | and (a b : T) | or (a b : T) | cmp (o : C2) (a b : E) | chn (o o' : C2) (a b c : E) | ife (c a b : T)
inductive IT where
  | seq (a : E) | rng (es : EL) | enu (a : E) | zip (a b : E)
inductive G where
  | nam (i : Nat) | tup (gs : GL) | sub (o i : E)
inductive GL where
  | nil | cons (g : G) (gs : GL)
end
mutual
inductive S where
  | expr (e : E) | asg (g : G) (e : E) | par (is : List Nat) (es : EL) | aug (i : Nat) (o : B2) (e : E) | augs (o i : E) (op : B2) (e : E)
  | ret (e : E) | retn | pass | brk | cont
  | iff (t : T) (a b : SL) | for_ (g : G) (it : IT) (b : SL) | whl (t : T) (b : SL)
inductive SL where
  | nil | cons (s : S) (ss : SL)
end

/-! ### what values do -/
def truth (M : Sto) : D → Option Bool
  | .non => some false
  | .bl b => some b
  | .int i => some (i != 0)
  | .str s => match Nat.ble s.length cap with
    | true => some (!s.isEmpty)
    | false => none
  | .tup xs => some (!xs.isEmpty)
  | .frz xs => some (!xs.isEmpty)
  | .loc n => match M[n]? with
    | some (.lst xs) => some (!xs.isEmpty)
    | _ => none
  | .fn _ => none
/-- the items of a list or a tuple -/
def itemsOf (M : Sto) : D → Option (List D)
  | .tup xs => some xs
  | .frz xs => some xs
  | .loc n => match M[n]? with
    | some (.lst xs) => some xs
    | _ => none
  | _ => none
/-- .. of a list -/
def listOf (M : Sto) : D → Option (List D)
  | .frz xs => some xs
  | .loc n => match M[n]? with
    | some (.lst xs) => some xs
    | _ => none
  | _ => none
def new (xs : List D) (M : Sto) : Out D := .ok (.loc M.length) (M ++ [.lst xs])
def small (i : Int) : Bool := decide (-18446744073709551616 < i) && decide (i < 18446744073709551616)
def semB (o : B2) (x y : D) (M : Sto) : Out D := match o, x, y with
  | .add, .int i, .int j => .ok (.int (i + j)) M
  | .add, .str s, .str t => if s.length + t.length ≤ cap then .ok (.str (s ++ t)) M else .no
  | .add, .tup xs, .tup ys => if xs.length + ys.length ≤ cap then .ok (.tup (xs ++ ys)) M else .no
  | .add, .loc n, .loc m => match M[n]?, M[m]? with
    | some (.lst xs), some (.lst ys) => if xs.length + ys.length ≤ cap then new (xs ++ ys) M else .no
    | _, _ => .no
  | .sub, .int i, .int j => .ok (.int (i - j)) M
  | .mul, .int i, .int j => match small i || small j with
    | true => .ok (.int (i * j)) M
    | false => .no
  | .mul, .loc n, .int k => match M[n]? with
    | some (.lst xs) => if -9223372036854775808 ≤ k ∧ k < 9223372036854775808 ∧ xs.length * k.toNat ≤ cap then new (List.replicate k.toNat xs).flatten M else .no
    | _ => .no
  | .div, .int i, .int j => if 0 < j ∧ j < 1073741824 then .ok (.int (i / j)) M else .no
  | .mod, .int i, .int j => if 0 < j then .ok (.int (i % j)) M else .no
  | .pow, .int i, .int j => if 0 ≤ j ∧ j ≤ 1000000 ∧ i.natAbs < 18446744073709551616 then .ok (.int (i ^ j.toNat)) M else .no
  | _, _, _ => .no
def eqD (M : Sto) (x y : D) : Option Bool := match py M MX x, py M MX y with
  | some a, some b => some (PyData.eqv a b)
  | _, _ => none
def atom : D → Bool
  | .non => true
  | .bl _ => true
  | .int _ => true
  | .str _ => true
  | _ => false
/-- == of atoms -/
def eqA : D → D → Bool
  | .non, .non => true
  | .bl a, .bl b => a == b
  | .bl a, .int b => (if a then 1 else 0) == b
  | .int a, .bl b => a == (if b then 1 else 0)
  | .int a, .int b => a == b
  | .str a, .str b => a == b
  | _, _ => false
def isTup : D → Bool
  | .tup _ => true
  | _ => false
/-- x in the items ys of y -/
def inL (M : Sto) (x y : D) (ys : List D) : Option Bool := match atom x && ys.all atom with
  | true => some (ys.any fun z => eqA z x)
  | false => match isTup y, py M MX x, allS (ys.map (py M MX)) with
    | false, some d, some ds => some (ds.any fun z => PyData.eqv z d)
    | _, _, _ => none
def inD (M : Sto) (x y : D) : Option Bool := match x, y with
  | .str [c], .str t => some (t.contains c)
  | .str _, .str _ => none
  | x, y => match itemsOf M y with
    | some ys => inL M x y ys
    | none => none
def isNon : D → Bool
  | .non => true
  | _ => false
def isD (x y : D) : Option Bool := match x, y with
  | .bl a, .bl b => some (a == b)
  | x, .non => some (isNon x)
  | _, _ => none
def cmpI (f : Int → Int → Bool) (x y : D) : Option Bool := match x, y with
  | .int i, .int j => some (f i j)
  | _, _ => none
def semC (o : C2) (M : Sto) (x y : D) : Option Bool := match o with
  | .eq => eqD M x y
  | .ne => (eqD M x y).map not
  | .lt => cmpI (fun i j => decide (i < j)) x y
  | .le => cmpI (fun i j => decide (i ≤ j)) x y
  | .gt => cmpI (fun i j => decide (j < i)) x y
  | .ge => cmpI (fun i j => decide (j ≤ i)) x y
  | .isin => inD M x y
  | .nin => (inD M x y).map not
  | .is => isD x y
  | .isn => (isD x y).map not
def intsD : List D → Option (List Int)
  | [] => some []
  | .int i :: xs => match intsD xs with
    | some is => some (i :: is)
    | none => none
  | _ :: _ => none
def boolsD : List D → Option (List Bool)
  | [] => some []
  | .bl i :: xs => match boolsD xs with
    | some is => some (i :: is)
    | none => none
  | _ :: _ => none
def strsD : List D → Option (List (List Nat))
  | [] => some []
  | .str i :: xs => match strsD xs with
    | some is => some (i :: is)
    | none => none
  | _ :: _ => none
def ins1 (i : Int) : List Int → List Int
  | [] => [i]
  | j :: js => if i ≤ j then i :: j :: js else j :: ins1 i js
def isort : List Int → List Int
  | [] => []
  | i :: is => ins1 i (isort is)
def lenD (M : Sto) : D → Option Nat
  | .str s => if s.length ≤ cap then some s.length else none
  | x => (itemsOf M x).map List.length
def reprD (M : Sto) (x : D) : Option (List Nat) := match py M MX x with
  | some d => match d.showable && Nat.ble (d.shown.length + 64) cap with
    | true => some d.shown.cps.toList
    | false => none
  | none => match x with
    | .loc n => match M[n]? with
      | some (.dct []) => some [123, 125]
      | _ => none
    | _ => none
def semB2 (b : BI) (x y : D) (M : Sto) : Out D := match b with
  | .max2 => match x, y with
    | .int i, .int j => .ok (.int (if j > i then j else i)) M
    | _, _ => .no
  | .min2 => match x, y with
    | .int i, .int j => .ok (.int (if j < i then j else i)) M
    | _, _ => .no
  | _ => .no
def onInts (o : Option (List D)) (f : List Int → Out D) : Out D := match o with
  | some ys => match intsD ys with
    | some is => f is
    | none => .no
  | none => .no
def onBools (o : Option (List D)) (f : List Bool → Out D) : Out D := match o with
  | some ys => match boolsD ys with
    | some is => f is
    | none => .no
  | none => .no
def semB1 (b : BI) (x : D) (M : Sto) : Out D := match b with
  | .len => match lenD M x with
    | some n => .ok (.int n) M
    | none => .no
  | .abs => match x with
    | .int i => .ok (.int (if i < 0 then -i else i)) M
    | _ => .no
  | .int => match x with
    | .int i => .ok (.int i) M
    | .bl k => .ok (.int (if k then 1 else 0)) M
    | _ => .no
  | .str => match x with
    | .int i => if i.natAbs.log2 < 1920 then .ok (.str (toString i : Str).cps.toList) M else .no
    | _ => .no
  | .repr => match reprD M x with
    | some s => .ok (.str s) M
    | none => .no
  | .lst => match itemsOf M x with
    | some ys => new ys M
    | none => .no
  | .tup => match itemsOf M x with
    | some ys => .ok (.tup ys) M
    | none => .no
  | .srt => onInts (listOf M x) fun is => new ((isort is).map D.int) M
  | .all => onBools (listOf M x) fun is => .ok (.bl (is.all id)) M
  | .any => onBools (listOf M x) fun is => .ok (.bl (is.any id)) M
  | .sum => onInts (listOf M x) fun is => .ok (.int is.sum) M
  | _ => .no
def semBI (b : BI) (xs : List D) (M : Sto) : Out D := match xs with
  | [x] => semB1 b x M
  | [x, y] => semB2 b x y M
  | _ => .no
def firstAt (p : D → Bool) : List D → Nat → Option Nat
  | [], _ => none
  | x :: xs, n => match p x with
    | true => some n
    | false => firstAt p xs (n + 1)
/-- a write to n is let: it stands above the barrier, or what is written holds no address -/
def may (b n : Nat) (y : D) : Bool := Nat.ble b n || y.flat
def mays (b n : Nat) (ys : List D) : Bool := Nat.ble b n || flats ys
/-- the list at n -/
def lstAt (M : Sto) (o : D) : Option (Nat × List D) := match o with
  | .loc n => match M[n]? with
    | some (.lst xs) => some (n, xs)
    | _ => none
  | _ => none
def onL {α : Type} (M : Sto) (o : D) (f : Nat → List D → Out α) : Out α := match lstAt M o with
  | some (n, xs) => f n xs
  | none => .no
def joinD (S : List Nat) : List (List Nat) → List Nat
  | [] => []
  | [p] => p
  | p :: q :: r => p ++ S ++ joinD S (q :: r)
def popAt (xs : List D) (i : Int) (f : Nat → D → Out D) : Out D :=
  if -9223372036854775808 ≤ i ∧ i < 9223372036854775808 then match L2.ixN xs.length i with
    | some k => match xs[k]? with
      | some y => f k y
      | none => .no
    | none => .no
  else .no
def semM0 (m : MT) (o : D) (M : Sto) : Out D := match m with
  | .pop => onL M o fun n xs => match xs[xs.length - 1]? with
    | some y => .ok y (M.set n (.lst xs.dropLast))
    | none => .no
  | .clear => onL M o fun n _ => .ok .non (M.set n (.lst []))
  | _ => .no
def semM1 (m : MT) (o y : D) (b : Nat) (M : Sto) : Out D := match m with
  | .append => onL M o fun n xs => if xs.length < cap then match may b n y with
      | true => .ok .non (M.set n (.lst (xs ++ [y])))
      | false => .no
      else .no
  | .extend => onL M o fun n xs => onL M y fun _ ys => if xs.length + ys.length ≤ cap then match mays b n ys with
      | true => .ok .non (M.set n (.lst (xs ++ ys)))
      | false => .no
      else .no
  | .popAt => match y with
    | .int i => onL M o fun n xs => popAt xs i fun k y => .ok y (M.set n (.lst (xs.eraseIdx k)))
    | _ => .no
  | .count => match y with
    | .int k => onInts (listOf M o) fun is => .ok (.int (is.count k : Nat)) M
    | _ => .no
  | .index => match listOf M o with
    | some ys => match atom y && ys.all atom with
      | true => match firstAt (fun z => eqA z y) ys 0 with
        | some j => .ok (.int (j : Nat)) M
        | none => .no
      | false => .no
    | none => .no
  | .join => match o, itemsOf M y with
    | .str s, some ys => match strsD ys with
      | some ts => if (ts.map List.length).sum + ts.length * s.length ≤ cap then .ok (.str (joinD s ts)) M else .no
      | none => .no
    | _, _ => .no
  | _ => .no
def semM2 (m : MT) (o x y : D) (b : Nat) (M : Sto) : Out D := match m with
  | .insert => match x with
    | .int i => onL M o fun n xs => if xs.length < cap ∧ 0 ≤ i ∧ i < 9223372036854775808 then match may b n y with
      | true => .ok .non (M.set n (.lst (xs.take i.toNat ++ [y] ++ xs.drop i.toNat)))
      | false => .no
      else .no
    | _ => .no
  | _ => .no
/-- what has the method -/
def rcv (m : MT) (M : Sto) (x : D) : Bool := match m with
  | .join => match x with
    | .str _ => true
    | _ => false
  | _ => (listOf M x).isSome
def semM (m : MT) (o : D) (xs : List D) (b : Nat) (M : Sto) : Out D := match xs with
  | [] => semM0 m o M
  | [x] => semM1 m o x b M
  | [x, y] => semM2 m o x y b M
  | _ => .no
def cutD {α : Type} (xs : List α) (lo hi : Option Int) : List α := (xs.drop (HT.sIx xs.length 0 lo)).take (HT.sIx xs.length xs.length hi - HT.sIx xs.length 0 lo)
def semIx (M : Sto) (x y : D) : Option D := match y with
  | .int i => match x with
    | .str s => match Nat.ble s.length cap, L2.atI s i with
      | true, some c => some (.str [c])
      | _, _ => none
    | x => match itemsOf M x with
      | some xs => L2.atI xs i
      | none => none
  | _ => none
def semSl (x : D) (lo hi : Option Int) (M : Sto) : Out D := match x with
  | .str s => if s.length ≤ cap then .ok (.str (cutD s lo hi)) M else .no
  | .tup xs => .ok (.tup (cutD xs lo hi)) M
  | x => match listOf M x with
    | some xs => new (cutD xs lo hi) M
    | none => .no
def semRev (x : D) (M : Sto) : Out D := match listOf M x with
  | some xs => new xs.reverse M
  | none => .no
inductive Ty where | non | bl | int | str | tup | lst | dct
def tyD (M : Sto) : D → Option Ty
  | .non => some .non
  | .bl _ => some .bl
  | .int _ => some .int
  | .str _ => some .str
  | .tup _ => some .tup
  | .frz _ => some .lst
  | .loc n => match M[n]? with
    | some (.lst _) => some .lst
    | some (.dct _) => some .dct
    | _ => none
  | .fn _ => none
def isTy : Ty → CL → Option Bool
  | .bl, .int => some true
  | .bl, .bool => some true
  | .int, .int => some true
  | .str, .str => some true
  | .tup, .tup => some true
  | .lst, .lst => some true
  | .dct, .dct => some true
  | _, .own _ => none
  | _, _ => some false
def isAny (t : Ty) : List CL → Option Bool
  | [] => some false
  | c :: cs => match isTy t c, isAny t cs with
    | some a, some b => some (a || b)
    | _, _ => none
/-- o[i] = v -/
def semSet (o i v : D) (b : Nat) (M : Sto) : Option Sto := match lstAt M o, i with
  | some (n, xs), .int i => match L2.ixN xs.length i, may b n v with
    | some k, true => some (M.set n (.lst (xs.set k v)))
    | _, _ => none
  | _, _ => none

/-! ### what is walked -/
inductive Src where
  | lst (n : Nat) | its (xs : List D) | rng (lo : Int) (n : Nat) | str (s : List Nat) | enu (s : Src) | zip (a b : Src)
/-- none: it can't be said; some none: the end -/
def Src.next (M : Sto) : Src → Nat → Option (Option D)
  | .lst n, i => match M[n]? with
    | some (.lst xs) => some xs[i]?
    | _ => none
  | .its xs, i => some xs[i]?
  | .rng lo n, i => some (if i < n then some (.int (lo + i)) else none)
  | .str s, i => some (s[i]?.map fun c => .str [c])
  | .enu s, i => match s.next M i with
    | some (some d) => some (some (.tup [.int i, d]))
    | some none => some none
    | none => none
  | .zip a b, i => match a.next M i, b.next M i with
    | some (some d), some (some e) => some (some (.tup [d, e]))
    | some none, some _ => some none
    | some (some _), some none => some none
    | _, _ => none
def Src.len (M : Sto) : Src → Nat
  | .lst n => match M[n]? with
    | some (.lst xs) => xs.length
    | _ => 0
  | .its xs => xs.length
  | .rng _ n => n
  | .str s => s.length
  | .enu s => s.len M
  | .zip a _ => a.len M
def srcOf (M : Sto) : D → Option Src
  | .tup xs => some (.its xs)
  | .frz xs => some (.its xs)
  | .str s => some (.str s)
  | .loc n => match M[n]? with
    | some (.lst _) => some (.lst n)
    | _ => none
  | _ => none
/-- a list, as it is walked -/
def lsrc (M : Sto) : D → Option Src
  | .frz xs => some (.its xs)
  | .loc n => match M[n]? with
    | some (.lst _) => some (.lst n)
    | _ => none
  | _ => none
def enuOf (M : Sto) (x : D) : Option Src := match lsrc M x with
  | some s => some (.enu s)
  | none => none
def zipOf (M : Sto) (x y : D) : Option Src := match lsrc M x, lsrc M y with
  | some s, some t => some (.zip s t)
  | _, _ => match x, y with
    | .tup xs, .tup ys => some (.zip (.its xs) (.its ys))
    | _, _ => none
def big (i : Int) : Bool := decide (-4611686018427387904 ≤ i) && decide (i < 4611686018427387904)
def rngOf : List D → Option Src
  | [.int j] => if big j then some (.rng 0 j.toNat) else none
  | [.int i, .int j] => if big i && big j then some (.rng i (j - i).toNat) else none
  | _ => none

/-! ### the evaluator -/
inductive Fl where
  | nx (ρ : Enn) | rt (d : D) | bk (ρ : Enn) | ct (ρ : Enn) | xc (x : Xn) (ρ : Enn)
abbrev SO := Option (Fl × Sto)
def lift {α : Type} (o : Out α) (ρ : Enn) (f : α → Sto → SO) : SO := match o with
  | .no => none
  | .ok a M => f a M
  | .ex x M => some (.xc x ρ, M)
@[simp] theorem lift_ok {α : Type} (a : α) (M : Sto) (ρ : Enn) (f : α → Sto → SO) : lift (.ok a M) ρ f = f a M := rfl
/-- calls, the module's constants, a while's most turns -/
structure Cf where
  F : Nat → List D → Nat → Sto → Out D
  gv : Nat → Option D
  wf : Nat
def wipe : Enn → List Nat → Enn
  | ρ, [] => ρ
  | ρ, v :: vs => (wipe ρ vs).set v none
/-- nothing is raised within -/
def hush {α : Type} (o : Out α) : Out α := match o with
  | .ex _ _ => .no
  | o => o
@[simp] theorem hush_ok {α : Type} (a : α) (M : Sto) : hush (Out.ok a M) = .ok a M := rfl
@[simp] theorem hush_no {α : Type} : hush (Out.no : Out α) = .no := rfl
/-- the turns of a comprehension: each gives items -/
def turns (next : Sto → Nat → Option (Option D)) (turn : D → Sto → Out (List D)) : Nat → Nat → Sto → Out (List D)
  | 0, _, _ => .no
  | c + 1, i, M => match next M i with
    | none => .no
    | some none => .ok [] M
    | some (some d) => (hush (turn d M)).bind fun xs M' => (hush (turns next turn c (i + 1) M')).bind fun ys M'' => .ok (xs ++ ys) M''
/-- a turn: the target, the test, what it gives -/
def itemT (fg : D → Enn → Sto → Option (Enn × Sto)) (ft : Enn → Sto → Out Bool) (fe : Enn → Sto → Out (List D)) (ρ : Enn) (d : D) (M : Sto) : Out (List D) := match fg d ρ M with
  | none => .no
  | some (ρ2, M2) => (ft ρ2 M2).bind fun k M3 => match k with
    | false => .ok [] M3
    | true => fe ρ2 M3
/-- a comprehension's end: what it made on the way is cut off where no item holds an address -/
def sealL (n0 : Nat) (xs : List D) (M : Sto) : Out D := if xs.length ≤ cap then match flats xs with
  | true => .ok (.loc n0) (M.take n0 ++ [.lst xs])
  | false => new xs M
  else .no
def loop (next : Sto → Nat → Option (Option D)) (body : D → Enn → Sto → SO) : Nat → Nat → Enn → Sto → SO
  | 0, _, _, _ => none
  | c + 1, i, ρ, M => match next M i with
    | none => none
    | some none => some (.nx ρ, M)
    | some (some d) => match body d ρ M with
      | some (.nx ρ', M') => loop next body c (i + 1) ρ' M'
      | some (.ct ρ', M') => loop next body c (i + 1) ρ' M'
      | some (.bk ρ', M') => some (.nx ρ', M')
      | r => r
def wloop (test : Enn → Sto → Out Bool) (body : Enn → Sto → SO) : Nat → Enn → Sto → SO
  | 0, _, _ => none
  | c + 1, ρ, M => lift (test ρ M) ρ fun b M' => match b with
    | false => some (.nx ρ, M')
    | true => match body ρ M' with
      | some (.nx ρ', M'') => wloop test body c ρ' M''
      | some (.ct ρ', M'') => wloop test body c ρ' M''
      | some (.bk ρ', M'') => some (.nx ρ', M'')
      | r => r
def setAll : List Nat → List D → Enn → Enn
  | i :: is, d :: ds, ρ => setAll is ds (ρ.set i (some d))
  | _, _, ρ => ρ
/-- the arguments by their parameters' places -/
def place {α : Type} (n : Nat) (xs : List α) (ks : List Nat) (ys : List α) : Option (List α) :=
  if xs.length + ys.length = n ∧ ks.length = ys.length then
    allS ((List.range n).map fun i => match xs[i]? with
      | some d => some d
      | none => (ks.zip ys).lookup i)
  else none
mutual
def evE (c : Cf) (b : Nat) : E → Enn → Sto → Out D
  | .var i, ρ, M => match ρ[i]? with
    | some (some d) => .ok d M
    | _ => .no
  | .cst d, _, M => .ok d M
  | .glb g, _, M => ofOpt (c.gv g) M
  | .un .neg a, ρ, M => (evE c b a ρ M).bind fun x M => match x with
    | .int i => .ok (.int (-i)) M
    | _ => .no
  | .no a, ρ, M => (evE c b a ρ M).bind fun x M => (ofOpt (truth M x) M).bind fun k M => .ok (.bl (!k)) M
  | .bin o a a', ρ, M => (evE c b a ρ M).bind fun x M => (evE c b a' ρ M).bind fun y M => semB o x y M
  | .cmp o a a', ρ, M => (evE c b a ρ M).bind fun x M => (evE c b a' ρ M).bind fun y M => (ofOpt (semC o M x y) M).bind fun k M => .ok (.bl k) M
  | .chn o o' a a' a'', ρ, M => (evE c b a ρ M).bind fun x M => (evE c b a' ρ M).bind fun y M => (ofOpt (semC o M x y) M).bind fun k M => match k with
    | false => .ok (.bl false) M
    | true => (evE c b a'' ρ M).bind fun z M => (ofOpt (semC o' M y z) M).bind fun k M => .ok (.bl k) M
  | .and a a', ρ, M => (evE c b a ρ M).bind fun x M => (ofOpt (truth M x) M).bind fun k M => match k with
    | true => evE c b a' ρ M
    | false => .ok x M
  | .or a a', ρ, M => (evE c b a ρ M).bind fun x M => (ofOpt (truth M x) M).bind fun k M => match k with
    | false => evE c b a' ρ M
    | true => .ok x M
  | .ife t a a', ρ, M => (evT c b t ρ M).bind fun k M => match k with
    | true => evE c b a ρ M
    | false => evE c b a' ρ M
  | .tup es, ρ, M => (evL c b es ρ M).bind fun xs M => if xs.length ≤ cap then .ok (.tup xs) M else .no
  | .lst es, ρ, M => (evL c b es ρ M).bind fun xs M => if xs.length ≤ cap then new xs M else .no
  | .dic0, _, M => .ok (.loc M.length) (M ++ [.dct []])
  | .ix a a', ρ, M => (evE c b a ρ M).bind fun x M => (evE c b a' ρ M).bind fun y M => ofOpt (semIx M x y) M
  | .sl a lo hi, ρ, M => (evE c b a ρ M).bind fun x M => (evO c b lo ρ M).bind fun l M => (evO c b hi ρ M).bind fun h M => semSl x l h M
  | .rev a, ρ, M => (evE c b a ρ M).bind fun x M => semRev x M
  | .call f es, ρ, M => (evL c b es ρ M).bind fun xs M => c.F f xs b M
  | .callk f es ks kes, ρ, M => (evL c b es ρ M).bind fun xs M => (evL c b kes ρ M).bind fun ys M => (ofOpt (place (xs.length + ys.length) xs ks ys) M).bind fun zs M => c.F f zs b M
  | .bi k es, ρ, M => (evL c b es ρ M).bind fun xs M => semBI k xs M
  | .lrng es, ρ, M => (evL c b es ρ M).bind fun xs M => match rngOf xs with
    | some (.rng lo n) => if n ≤ cap then new ((List.range n).map fun i => D.int (lo + (i : Nat))) M else .no
    | _ => .no
  | .mth m o es, ρ, M => (evE c b o ρ M).bind fun x M => match rcv m M x with
    | true => (evL c b es ρ M).bind fun xs M => semM m x xs b M
    | false => .no
  | .isi a cs, ρ, M => (evE c b a ρ M).bind fun x M => match tyD M x with
    | some t => (ofOpt (isAny t cs) M).bind fun k M => .ok (.bl k) M
    | none => .no
  | .lc g it ow t e, ρ, M => (evI c b it ρ M).bind fun s M =>
    (hush (turns (fun M i => s.next M i) (itemT (evG c M.length g) (evT c M.length t) (fun ρ2 M3 => (evE c M.length e ρ2 M3).bind fun d M4 => .ok [d] M4) (wipe ρ ow)) (s.len M + 1) 0 M)).bind fun xs M' => sealL M.length xs M'
  | .lc2 g it t g' it' t' ow ow' e, ρ, M => (evI c b it ρ M).bind fun s M =>
    (hush (turns (fun M i => s.next M i) (itemT (evG c M.length g) (evT c M.length t) (fun ρ2 M3 => (evI c M.length it' ρ2 M3).bind fun s' M4 =>
      turns (fun M i => s'.next M i) (itemT (evG c M.length g') (evT c M.length t') (fun ρ6 M7 => (evE c M.length e ρ6 M7).bind fun d M8 => .ok [d] M8) (wipe ρ2 ow')) (s'.len M4 + 1) 0 M4) (wipe ρ ow)) (s.len M + 1) 0 M)).bind fun xs M' => sealL M.length xs M'
def evL (c : Cf) (b : Nat) : EL → Enn → Sto → Out (List D)
  | .nil, _, M => .ok [] M
  | .cons e es, ρ, M => (evE c b e ρ M).bind fun x M => (evL c b es ρ M).bind fun xs M => .ok (x :: xs) M
def evO (c : Cf) (b : Nat) : EO → Enn → Sto → Out (Option Int)
  | .none, _, M => .ok none M
  | .some e, ρ, M => (evE c b e ρ M).bind fun x M => match x with
    | .int i => .ok (some i) M
    | _ => .no
def evT (c : Cf) (b : Nat) : T → Enn → Sto → Out Bool
  | .yes, _, M => .ok true M
  | .val a, ρ, M => (evE c b a ρ M).bind fun x M => ofOpt (truth M x) M
  | .not t, ρ, M => (evT c b t ρ M).bind fun k M => .ok (!k) M
  | .and a a', ρ, M => (evT c b a ρ M).bind fun k M => match k with
    | true => evT c b a' ρ M
    | false => .ok false M
  | .or a a', ρ, M => (evT c b a ρ M).bind fun k M => match k with
    | true => .ok true M
    | false => evT c b a' ρ M
  | .cmp o a a', ρ, M => (evE c b a ρ M).bind fun x M => (evE c b a' ρ M).bind fun y M => ofOpt (semC o M x y) M
  | .chn o o' a a' a'', ρ, M => (evE c b a ρ M).bind fun x M => (evE c b a' ρ M).bind fun y M => (ofOpt (semC o M x y) M).bind fun k M => match k with
    | false => .ok false M
    | true => (evE c b a'' ρ M).bind fun z M => ofOpt (semC o' M y z) M
  | .ife t a a', ρ, M => (evT c b t ρ M).bind fun k M => match k with
    | true => evT c b a ρ M
    | false => evT c b a' ρ M
def evI (c : Cf) (b : Nat) : IT → Enn → Sto → Out Src
  | .seq a, ρ, M => (evE c b a ρ M).bind fun x M => ofOpt (srcOf M x) M
  | .rng es, ρ, M => (evL c b es ρ M).bind fun xs M => ofOpt (rngOf xs) M
  | .enu a, ρ, M => (evE c b a ρ M).bind fun x M => ofOpt (enuOf M x) M
  | .zip a a', ρ, M => (evE c b a ρ M).bind fun x M => (evE c b a' ρ M).bind fun y M => ofOpt (zipOf M x y) M
def evG (c : Cf) (b : Nat) : G → D → Enn → Sto → Option (Enn × Sto)
  | .nam i, d, ρ, M => some (ρ.set i (some d), M)
  | .tup gs, d, ρ, M => match d with
    | .tup ds => evGs c b gs ds ρ M
    | _ => none
  | .sub o i, d, ρ, M => match (evE c b o ρ M).bind fun x M => (evE c b i ρ M).bind fun y M => ofOpt (semSet x y d b M) M with
    | .ok M2 _ => some (ρ, M2)
    | _ => none
def evGs (c : Cf) (b : Nat) : GL → List D → Enn → Sto → Option (Enn × Sto)
  | .nil, ds, ρ, M => match ds with
    | [] => some (ρ, M)
    | _ :: _ => none
  | .cons g gs, ds, ρ, M => match ds with
    | [] => none
    | d :: ds => match evG c b g d ρ M with
      | some (ρ', M') => evGs c b gs ds ρ' M'
      | none => none
end
mutual
def evS (c : Cf) (b : Nat) : S → Enn → Sto → SO
  | .expr e, ρ, M => lift (evE c b e ρ M) ρ fun _ M => some (.nx ρ, M)
  | .asg g e, ρ, M => lift (evE c b e ρ M) ρ fun d M => match evG c b g d ρ M with
    | some (ρ', M') => some (.nx ρ', M')
    | none => none
  | .par is es, ρ, M => lift (evL c b es ρ M) ρ fun ds M => if ds.length = is.length then some (.nx (setAll is ds ρ), M) else none
  | .aug i o e, ρ, M => match ρ[i]? with
    | some (some x) => lift (evE c b e ρ M) ρ fun y M => match o, x, y with
      | .add, .int i', .int j => some (.nx (ρ.set i (some (.int (i' + j)))), M)
      | .sub, .int i', .int j => some (.nx (ρ.set i (some (.int (i' - j)))), M)
      | _, _, _ => none
    | _ => none
  | .augs o i op e, ρ, M => lift (evE c b o ρ M) ρ fun x M => lift (evE c b i ρ M) ρ fun y M => match semIx M x y with
    | some old => lift (evE c b e ρ M) ρ fun z M => match op, old, z with
      | .add, .int i', .int j => match semSet x y (.int (i' + j)) b M with
        | some M' => some (.nx ρ, M')
        | none => none
      | .sub, .int i', .int j => match semSet x y (.int (i' - j)) b M with
        | some M' => some (.nx ρ, M')
        | none => none
      | _, _, _ => none
    | none => none
  | .ret e, ρ, M => lift (evE c b e ρ M) ρ fun d M => some (.rt d, M)
  | .retn, _, M => some (.rt .non, M)
  | .pass, ρ, M => some (.nx ρ, M)
  | .brk, ρ, M => some (.bk ρ, M)
  | .cont, ρ, M => some (.ct ρ, M)
  | .iff t s s', ρ, M => lift (evT c b t ρ M) ρ fun k M => match k with
    | true => evSs c b s ρ M
    | false => evSs c b s' ρ M
  | .for_ g it s, ρ, M => lift (evI c b it ρ M) ρ fun src M => loop (fun M i => src.next M i) (fun d ρ M => match evG c b g d ρ M with
    | some (ρ', M') => evSs c b s ρ' M'
    | none => none) (src.len M + 1) 0 ρ M
  | .whl t s, ρ, M => wloop (evT c b t) (evSs c b s) c.wf ρ M
def evSs (c : Cf) (b : Nat) : SL → Enn → Sto → SO
  | .nil, ρ, M => some (.nx ρ, M)
  | .cons s ss, ρ, M => match evS c b s ρ M with
    | some (.nx ρ', M') => evSs c b ss ρ' M'
    | r => r
end

/-- a def of the text: its parameters, the names by slot, its body; keep: what it makes may stand in what stood before -/
structure Fn where
  name : Str
  np : Nat
  N : List Str
  body : SL
  keep : Bool := false
def endD : SO → Out D
  | some (.nx _, M) => .ok .non M
  | some (.rt d, M) => .ok d M
  | some (.xc x _, M) => .ex x M
  | _ => .no
def flatX (x : Xn) : Bool := x.fs.all fun p => p.2.flat
/-- what a def made is cut off behind it -/
def cutE (n0 : Nat) : Out D → Out D
  | .ok d M => match d.flat with
    | true => .ok d (M.take n0)
    | false => match d with
      | .loc n => match Nat.ble n0 n with
        | true => match M[n]? with
          | some (.lst xs) => match flats xs with
            | true => .ok (.loc n0) (M.take n0 ++ [.lst xs])
            | false => .ok d M
          | _ => .ok d M
        | false => .ok d (M.take n0)
      | _ => .ok d M
  | .ex x M => match flatX x with
    | true => .ex x (M.take n0)
    | false => .ex x M
  | .no => .no
def startE (fn : Fn) (xs : List D) : Enn := xs.map some ++ List.replicate (fn.N.length - fn.np) none
def callFn (F : Nat → List D → Nat → Sto → Out D) (gv : Nat → Option D) (wf : Nat) (fn : Fn) (xs : List D) (b : Nat) (M : Sto) : Out D :=
  if xs.length = fn.np then match fn.keep with
    | true => endD (evSs ⟨F, gv, wf⟩ b fn.body (startE fn xs) M)
    | false => cutE M.length (endD (evSs ⟨F, gv, wf⟩ M.length fn.body (startE fn xs) M))
  else .no
def run (fns : List Fn) (gv : Nat → Option D) (wf : Nat) : Nat → Nat → List D → Nat → Sto → Out D
  | 0, _, _, _, _ => .no
  | k + 1, f, xs, b, M => match fns[f]? with
    | some fn => callFn (run fns gv wf k) gv wf fn xs b M
    | none => .no
end Ev
end

section
/-! EvRel: how plain data and a store lie in the layer's abstract heap. -/
namespace Ev
open PySem L2

/-- where the defs and the classes of the text stand, the fields' names -/
structure Cn where
  K : PySem.W.Frag
  fa : Nat → Addr
  ca : Nat → Addr
  nm : Nat → Str
/-- a list that nobody changes -/
def FzL (K : PySem.W.Frag) (H : Hp) (a : Addr) (vs : List V) : Prop :=
  (∃ o, H a = some (.frz o (.lst vs))) ∨
    ∃ (o : Obj) (its : Array Value) (n : Nat), K.lookup a = some o ∧ o.cls = .type "list" ∧ o.dict = none ∧ o.data = .seq its n ∧ its.size ≤ sizeLine ∧ Vals vs its.toList
theorem FzL.sq {K : PySem.W.Frag} {H : Hp} {a : Addr} {vs : List V} (h : FzL K H a vs) : SqL K H a vs := h.elim (fun z => .inl (.inr z)) .inr
variable {C : Cn} {μ μ' : List Addr} {H H' : Hp} {M M' : Sto} {bs : List Nat}
mutual
def RelD (C : Cn) (μ : List Addr) (H : Hp) : D → V → Prop
  | .non, v => v = .non
  | .bl b, v => v = .bl b
  | .int i, v => v = .int i
  | .str s, v => v = .str ⟨s.toArray⟩
  | .tup xs, v => ∃ a vs, v = .ref a ∧ SqT C.K H a vs ∧ RelDs C μ H xs vs
  | .frz xs, v => ∃ a vs, v = .ref a ∧ FzL C.K H a vs ∧ RelDs C μ H xs vs
  | .loc n, v => ∃ a, μ[n]? = some a ∧ v = .ref a
  | .fn f, v => v = .ref (C.fa f)
def RelDs (C : Cn) (μ : List Addr) (H : Hp) : List D → List V → Prop
  | [], vs => vs = []
  | d :: ds, vs => ∃ v vr, vs = v :: vr ∧ RelD C μ H d v ∧ RelDs C μ H ds vr
end
/-- tuples and frozen things stay -/
structure Stay (H H' : Hp) : Prop where
  tup : ∀ a xs, H a = some (.tup xs) → H' a = some (.tup xs)
  frz : ∀ a o u, H a = some (.frz o u) → H' a = some (.frz o u)
theorem Stay.refl (H : Hp) : Stay H H := ⟨fun _ _ h => h, fun _ _ _ h => h⟩
theorem Stay.trans {H1 H2 H3 : Hp} (a : Stay H1 H2) (b : Stay H2 H3) : Stay H1 H3 := ⟨fun _ _ h => b.tup _ _ (a.tup _ _ h), fun _ _ _ h => b.frz _ _ _ (a.frz _ _ _ h)⟩
theorem Stay.new {H : Hp} {p : Addr} {o : HO} (h : H p = none) : Stay H (upd H p o) :=
  ⟨fun a xs e => by rw [upd_ne (ne_of_none e h)]; exact e, fun a ob u e => by rw [upd_ne (ne_of_none e h)]; exact e⟩
theorem Stay.put {H : Hp} {p : Addr} {o : HO} (h : Mut (H p)) : Stay H (upd H p o) :=
  ⟨fun a xs e => by
    have z : a ≠ p := fun q => by subst q; rw [e] at h; exact h
    rw [upd_ne z]; exact e, fun a ob u e => by
    have z : a ≠ p := fun q => by subst q; rw [e] at h; exact h
    rw [upd_ne z]; exact e⟩
theorem sqT_stay {K : PySem.W.Frag} {a : Addr} {vs : List V} (h : SqT K H a vs) (s : Stay H H') : SqT K H' a vs := by
  rcases h with (h | ⟨o, h⟩) | h
  · exact .inl (.inl (s.tup _ _ h))
  · exact .inl (.inr ⟨o, s.frz _ _ _ h⟩)
  · exact .inr h
theorem FzL.stay {K : PySem.W.Frag} {a : Addr} {vs : List V} (h : FzL K H a vs) (s : Stay H H') : FzL K H' a vs := by
  rcases h with ⟨o, h⟩ | h
  · exact .inl ⟨o, s.frz _ _ _ h⟩
  · exact .inr h
theorem pre_get {μ μ' : List Addr} (h : μ <+: μ') {n : Nat} {a : Addr} (e : μ[n]? = some a) : μ'[n]? = some a := by
  obtain ⟨t, rfl⟩ := h
  rw [List.getElem?_append_left (List.getElem?_eq_some_iff.mp e).1]
  exact e
mutual
theorem RelD.mono (p : μ <+: μ') (s : Stay H H') : ∀ {d : D} {v : V}, RelD C μ H d v → RelD C μ' H' d v
  | .non, _, h => by unfold RelD at *; exact h
  | .bl _, _, h => by unfold RelD at *; exact h
  | .int _, _, h => by unfold RelD at *; exact h
  | .str _, _, h => by unfold RelD at *; exact h
  | .tup xs, _, h => by
    unfold RelD at *
    obtain ⟨a, vs, e, q, r⟩ := h
    exact ⟨a, vs, e, sqT_stay q s, RelDs.mono p s r⟩
  | .frz xs, _, h => by
    unfold RelD at *
    obtain ⟨a, vs, e, q, r⟩ := h
    exact ⟨a, vs, e, q.stay s, RelDs.mono p s r⟩
  | .loc n, _, h => by
    unfold RelD at *
    obtain ⟨a, e, r⟩ := h
    exact ⟨a, pre_get p e, r⟩
  | .fn _, _, h => by unfold RelD at *; exact h
theorem RelDs.mono (p : μ <+: μ') (s : Stay H H') : ∀ {ds : List D} {vs : List V}, RelDs C μ H ds vs → RelDs C μ' H' ds vs
  | [], _, h => by unfold RelDs at *; exact h
  | d :: ds, _, h => by
    unfold RelDs at *
    obtain ⟨v, vr, e, r, q⟩ := h
    exact ⟨v, vr, e, r.mono p s, RelDs.mono p s q⟩
end
mutual
theorem RelD.flat : ∀ {d : D} {v : V}, d.flat = true → RelD C μ H d v → RelD C μ' H d v
  | .non, _, _, h => by unfold RelD at *; exact h
  | .bl _, _, _, h => by unfold RelD at *; exact h
  | .int _, _, _, h => by unfold RelD at *; exact h
  | .str _, _, _, h => by unfold RelD at *; exact h
  | .tup xs, _, f, h => by
    unfold RelD at *
    obtain ⟨a, vs, e, q, r⟩ := h
    exact ⟨a, vs, e, q, RelDs.flat (by unfold D.flat at f; exact f) r⟩
  | .frz xs, _, f, h => by
    unfold RelD at *
    obtain ⟨a, vs, e, q, r⟩ := h
    exact ⟨a, vs, e, q, RelDs.flat (by unfold D.flat at f; exact f) r⟩
  | .loc n, _, f, h => by unfold D.flat at f; cases f
  | .fn _, _, _, h => by unfold RelD at *; exact h
theorem RelDs.flat : ∀ {ds : List D} {vs : List V}, flats ds = true → RelDs C μ H ds vs → RelDs C μ' H ds vs
  | [], _, _, h => by unfold RelDs at *; exact h
  | d :: ds, _, f, h => by
    unfold RelDs at *
    unfold flats at f
    rw [Bool.and_eq_true] at f
    obtain ⟨v, vr, e, r, q⟩ := h
    exact ⟨v, vr, e, r.flat f.1, RelDs.flat f.2 q⟩
end
/-! ### lists of them -/
theorem RelDs.length : ∀ {ds : List D} {vs : List V}, RelDs C μ H ds vs → ds.length = vs.length
  | [], _, h => by unfold RelDs at h; rw [h]; rfl
  | d :: ds, _, h => by
    unfold RelDs at h
    obtain ⟨v, vr, rfl, _, q⟩ := h
    exact congrArg Nat.succ q.length
theorem RelDs.nil : RelDs C μ H [] [] := by unfold RelDs; rfl
theorem RelDs.cons {d : D} {v : V} {ds : List D} {vs : List V} (r : RelD C μ H d v) (q : RelDs C μ H ds vs) : RelDs C μ H (d :: ds) (v :: vs) := by
  unfold RelDs
  exact ⟨v, vs, rfl, r, q⟩
theorem RelDs.inv {d : D} {ds : List D} {vs : List V} (h : RelDs C μ H (d :: ds) vs) : ∃ v vr, vs = v :: vr ∧ RelD C μ H d v ∧ RelDs C μ H ds vr := by
  unfold RelDs at h
  exact h
theorem RelDs.nil_inv {vs : List V} (h : RelDs C μ H [] vs) : vs = [] := by unfold RelDs at h; exact h
theorem RelDs.app : ∀ {ds es : List D} {vs ws : List V}, RelDs C μ H ds vs → RelDs C μ H es ws → RelDs C μ H (ds ++ es) (vs ++ ws)
  | [], _, _, _, h, q => by rw [h.nil_inv]; exact q
  | d :: ds, _, _, _, h, q => by
    obtain ⟨v, vr, rfl, r, z⟩ := h.inv
    exact .cons r (z.app q)
theorem RelDs.get : ∀ {ds : List D} {vs : List V} {i : Nat} {d : D}, RelDs C μ H ds vs → ds[i]? = some d → ∃ v, vs[i]? = some v ∧ RelD C μ H d v
  | [], _, _, _, _, e => by simp at e
  | d :: ds, _, 0, _, h, e => by
    obtain ⟨v, vr, rfl, r, z⟩ := h.inv
    simp at e
    subst e
    exact ⟨v, rfl, r⟩
  | d :: ds, _, i + 1, _, h, e => by
    obtain ⟨v, vr, rfl, r, z⟩ := h.inv
    obtain ⟨w, e1, e2⟩ := z.get (i := i) (by simpa using e)
    exact ⟨w, by simpa using e1, e2⟩
theorem RelDs.take : ∀ {ds : List D} {vs : List V} (n : Nat), RelDs C μ H ds vs → RelDs C μ H (ds.take n) (vs.take n)
  | _, _, 0, _ => by simpa using RelDs.nil
  | [], _, n + 1, h => by rw [h.nil_inv]; simpa using RelDs.nil
  | d :: ds, _, n + 1, h => by
    obtain ⟨v, vr, rfl, r, z⟩ := h.inv
    simpa using RelDs.cons r (z.take n)
theorem RelDs.drop : ∀ {ds : List D} {vs : List V} (n : Nat), RelDs C μ H ds vs → RelDs C μ H (ds.drop n) (vs.drop n)
  | _, _, 0, h => by simpa using h
  | [], _, n + 1, h => by rw [h.nil_inv]; simpa using RelDs.nil
  | d :: ds, _, n + 1, h => by
    obtain ⟨v, vr, rfl, r, z⟩ := h.inv
    simpa using z.drop n
theorem RelDs.set : ∀ {ds : List D} {vs : List V} (n : Nat) {d : D} {v : V}, RelDs C μ H ds vs → RelD C μ H d v → RelDs C μ H (ds.set n d) (vs.set n v)
  | [], _, n, _, _, h, r => by rw [h.nil_inv]; simpa using RelDs.nil
  | d :: ds, _, 0, _, _, h, r => by
    obtain ⟨v, vr, rfl, _, z⟩ := h.inv
    simpa using RelDs.cons r z
  | d :: ds, _, n + 1, _, _, h, r => by
    obtain ⟨v, vr, rfl, q, z⟩ := h.inv
    simpa using RelDs.cons q (z.set n r)
theorem RelDs.erase : ∀ {ds : List D} {vs : List V} (n : Nat), RelDs C μ H ds vs → RelDs C μ H (ds.eraseIdx n) (vs.eraseIdx n)
  | [], _, n, h => by rw [h.nil_inv]; simpa using RelDs.nil
  | d :: ds, _, 0, h => by
    obtain ⟨v, vr, rfl, _, z⟩ := h.inv
    simpa using z
  | d :: ds, _, n + 1, h => by
    obtain ⟨v, vr, rfl, q, z⟩ := h.inv
    simpa using RelDs.cons q (z.erase n)
theorem RelDs.rev : ∀ {ds : List D} {vs : List V}, RelDs C μ H ds vs → RelDs C μ H ds.reverse vs.reverse
  | [], _, h => by rw [h.nil_inv]; simpa using RelDs.nil
  | d :: ds, _, h => by
    obtain ⟨v, vr, rfl, q, z⟩ := h.inv
    simpa using z.rev.app (.cons q .nil)
theorem RelDs.rep {ds : List D} {vs : List V} (h : RelDs C μ H ds vs) : ∀ n : Nat, RelDs C μ H (List.replicate n ds).flatten (List.replicate n vs).flatten
  | 0 => by simpa using RelDs.nil
  | n + 1 => by
    rw [List.replicate_succ, List.replicate_succ, List.flatten_cons, List.flatten_cons]
    exact h.app (h.rep n)
theorem relDs_int : ∀ (is : List Int), RelDs C μ H (is.map D.int) (is.map V.int)
  | [] => .nil
  | i :: is => .cons (by unfold RelD; rfl) (relDs_int is)
theorem ints_rel : ∀ {ds : List D} {is : List Int} {vs : List V}, intsD ds = some is → RelDs C μ H ds vs → vs = is.map V.int
  | [], is, vs, e, h => by
    unfold intsD at e
    cases e
    exact h.nil_inv
  | d :: ds, is, vs, e, h => by
    obtain ⟨v, vr, rfl, r, z⟩ := h.inv
    cases d with
    | int i =>
      unfold intsD at e
      cases q : intsD ds with
      | none => rw [q] at e; cases e
      | some js =>
        rw [q] at e
        cases e
        unfold RelD at r
        rw [r, ints_rel q z]
        rfl
    | _ => unfold intsD at e; cases e
theorem ints_map : ∀ {ds : List D} {is : List Int}, intsD ds = some is → ds = is.map D.int
  | [], is, e => by
    unfold intsD at e
    cases e
    rfl
  | d :: ds, is, e => by
    cases d with
    | int i =>
      unfold intsD at e
      cases q : intsD ds with
      | none => rw [q] at e; cases e
      | some js =>
        rw [q] at e
        cases e
        rw [ints_map q]
        rfl
    | _ => unfold intsD at e; cases e
theorem bools_rel : ∀ {ds : List D} {is : List Bool} {vs : List V}, boolsD ds = some is → RelDs C μ H ds vs → vs = is.map V.bl
  | [], is, vs, e, h => by
    unfold boolsD at e
    cases e
    exact h.nil_inv
  | d :: ds, is, vs, e, h => by
    obtain ⟨v, vr, rfl, r, z⟩ := h.inv
    cases d with
    | bl i =>
      unfold boolsD at e
      cases q : boolsD ds with
      | none => rw [q] at e; cases e
      | some js =>
        rw [q] at e
        cases e
        unfold RelD at r
        rw [r, bools_rel q z]
        rfl
    | _ => unfold boolsD at e; cases e
def toS (s : List Nat) : Str := ⟨s.toArray⟩
theorem strs_rel : ∀ {ds : List D} {is : List (List Nat)} {vs : List V}, strsD ds = some is → RelDs C μ H ds vs → vs = (is.map toS).map V.str
  | [], is, vs, e, h => by
    unfold strsD at e
    cases e
    exact h.nil_inv
  | d :: ds, is, vs, e, h => by
    obtain ⟨v, vr, rfl, r, z⟩ := h.inv
    cases d with
    | str i =>
      unfold strsD at e
      cases q : strsD ds with
      | none => rw [q] at e; cases e
      | some js =>
        rw [q] at e
        cases e
        unfold RelD at r
        rw [r, strs_rel q z]
        rfl
    | _ => unfold strsD at e; cases e

/-! ### the store -/
def RepO (C : Cn) (μ : List Addr) (H : Hp) (a : Addr) : O → Prop
  | .lst xs => ∃ vs, H a = some (.lst vs) ∧ RelDs C μ H xs vs
  | .dct kvs => kvs = [] ∧ H a = some (.dK [])
  | .ins _ _ => False
structure Rep (C : Cn) (bs : List Nat) (μ : List Addr) (M : Sto) (H : Hp) : Prop where
  len : μ.length = M.length
  nd : μ.Nodup
  le : ∀ c ∈ bs, c ≤ μ.length
  ob : ∀ n a o, μ[n]? = some a → M[n]? = some o → ∀ c, (c ∈ bs ∧ n < c) ∨ c = μ.length → RepO C (μ.take c) H a o
theorem RepO.mono {a : Addr} {o : O} (p : μ <+: μ') (s : Stay H H') (e : H' a = H a) (h : RepO C μ H a o) : RepO C μ' H' a o := by
  cases o with
  | lst xs =>
    obtain ⟨vs, q, r⟩ := h
    exact ⟨vs, e.trans q, r.mono p s⟩
  | dct kvs =>
    obtain ⟨q, r⟩ := h
    exact ⟨q, e.trans r⟩
  | ins _ _ => exact h.elim
theorem RepO.mut {a : Addr} {o : O} (h : RepO C μ H a o) : Mut (H a) := by
  cases o with
  | lst xs =>
    obtain ⟨vs, q, r⟩ := h
    rw [q]; trivial
  | dct kvs =>
    obtain ⟨q, r⟩ := h
    rw [r]; trivial
  | ins _ _ => exact h.elim
theorem Rep.at (R : Rep C bs μ M H) {n : Nat} {a : Addr} {o : O} (e : μ[n]? = some a) (q : M[n]? = some o) : RepO C μ H a o := by
  have z := R.ob n a o e q μ.length (.inr rfl)
  rwa [List.take_length] at z
theorem Rep.find (R : Rep C bs μ M H) {n : Nat} {o : O} (q : M[n]? = some o) : ∃ a, μ[n]? = some a ∧ RepO C μ H a o := by
  have h : n < μ.length := by rw [R.len]; exact (List.getElem?_eq_some_iff.mp q).1
  exact ⟨μ[n], List.getElem?_eq_getElem h, R.at (List.getElem?_eq_getElem h) q⟩
theorem Rep.there (R : Rep C bs μ M H) {n : Nat} {a : Addr} (e : μ[n]? = some a) : ∃ o, M[n]? = some o ∧ RepO C μ H a o := by
  have h : n < M.length := by rw [← R.len]; exact (List.getElem?_eq_some_iff.mp e).1
  exact ⟨M[n], List.getElem?_eq_getElem h, R.at e (List.getElem?_eq_getElem h)⟩
theorem Rep.mut (R : Rep C bs μ M H) {n : Nat} {a : Addr} (e : μ[n]? = some a) : Mut (H a) := by
  obtain ⟨o, _, r⟩ := R.there e
  exact r.mut
theorem Rep.fresh (R : Rep C bs μ M H) {p : Addr} (h : H p = none) : p ∉ μ := fun m => by
  obtain ⟨n, e⟩ := List.getElem?_of_mem m
  have z := R.mut e
  rw [h] at z
  exact z
theorem Rep.keep (R : Rep C bs μ M H) (s : Stay H H') (e : ∀ a ∈ μ, H' a = H a) : Rep C bs μ M H' :=
  ⟨R.len, R.nd, R.le, fun n a o e1 e2 c hc => (R.ob n a o e1 e2 c hc).mono (List.prefix_refl _) s (e a (List.mem_of_getElem? e1))⟩
theorem Rep.new (R : Rep C bs μ M H) {p : Addr} {o : HO} (h : H p = none) : Rep C bs μ M (upd H p o) :=
  R.keep (.new h) fun a m => upd_ne fun z => R.fresh h (z ▸ m)
theorem Rep.add (R : Rep C bs μ M H) {p : Addr} {o : O} (h : p ∉ μ) (q : RepO C (μ ++ [p]) H p o) : Rep C bs (μ ++ [p]) (M ++ [o]) H := by
  have hp : μ <+: μ ++ [p] := List.prefix_append _ _
  refine ⟨by simp [R.len], ?_, fun c hc => by have := R.le c hc; simp; omega, fun n a o' e1 e2 c hc => ?_⟩
  · rw [List.nodup_append]
    exact ⟨R.nd, by simp, fun a ha b hb => by simp at hb; subst hb; exact fun z => h (z ▸ ha)⟩
  · by_cases hn : n < μ.length
    · rw [List.getElem?_append_left hn] at e1
      rw [List.getElem?_append_left (by rw [← R.len]; exact hn)] at e2
      rcases hc with ⟨hc, hl⟩ | hc
      · have z := R.ob n a o' e1 e2 c (.inl ⟨hc, hl⟩)
        rw [List.take_append_of_le_length (R.le c hc)]
        exact z
      · rw [hc, List.take_length]
        exact (R.at e1 e2).mono hp (.refl _) rfl
    · have hn' : n = μ.length := by
        have z := (List.getElem?_eq_some_iff.mp e1).1
        simp at z
        omega
      subst hn'
      have e1' : p = a := by simpa using e1
      have e2' : o = o' := by
        rw [R.len] at e2
        simpa using e2
      subst e1' e2'
      rcases hc with ⟨hc, hl⟩ | hc
      · exact absurd (R.le c hc) (by omega)
      · rw [hc, List.take_length]
        exact q
theorem Rep.alloc (R : Rep C bs μ M H) {p : Addr} {ho : HO} {o : O} (h : H p = none) (q : RepO C (μ ++ [p]) (upd H p ho) p o) : Rep C bs (μ ++ [p]) (M ++ [o]) (upd H p ho) :=
  (R.new h).add (R.fresh h) q
theorem nodup_get {l : List Addr} (h : l.Nodup) {i j : Nat} {a : Addr} (e1 : l[i]? = some a) (e2 : l[j]? = some a) : i = j := by
  obtain ⟨h1, q1⟩ := List.getElem?_eq_some_iff.mp e1
  obtain ⟨h2, q2⟩ := List.getElem?_eq_some_iff.mp e2
  exact (List.getElem_inj h).mp (q1.trans q2.symm)
theorem Rep.put (R : Rep C bs μ M H) {n : Nat} {a : Addr} {ho : HO} {o' : O} (e : μ[n]? = some a)
    (q : ∀ c, (c ∈ bs ∧ n < c) ∨ c = μ.length → RepO C (μ.take c) (upd H a ho) a o') : Rep C bs μ (M.set n o') (upd H a ho) := by
  have hm := R.mut e
  refine ⟨by rw [List.length_set]; exact R.len, R.nd, R.le, fun j b o e1 e2 c hc => ?_⟩
  by_cases hj : j = n
  · subst hj
    rw [e] at e1
    cases e1
    have hl : j < M.length := by rw [← R.len]; exact (List.getElem?_eq_some_iff.mp e).1
    rw [List.getElem?_set_self hl] at e2
    cases e2
    exact q c hc
  · rw [List.getElem?_set_ne (Ne.symm hj)] at e2
    have hne : b ≠ a := fun z => by subst z; exact hj (nodup_get R.nd e1 e)
    exact (R.ob j b o e1 e2 c hc).mono (List.prefix_refl _) (.put hm) (upd_ne hne)
theorem Rep.enter (R : Rep C bs μ M H) : Rep C (M.length :: bs) μ M H :=
  ⟨R.len, R.nd, fun c hc => by
    rcases List.mem_cons.mp hc with rfl | hc
    · rw [R.len]; exact Nat.le_refl _
    · exact R.le c hc, fun n a o e1 e2 c hc => by
    rcases hc with ⟨hc, hl⟩ | hc
    · rcases List.mem_cons.mp hc with rfl | hc
      · rw [← R.len, List.take_length]; exact R.at e1 e2
      · exact R.ob n a o e1 e2 c (.inl ⟨hc, hl⟩)
    · exact R.ob n a o e1 e2 c (.inr hc)⟩
theorem Rep.leave {n0 : Nat} (R : Rep C (n0 :: bs) μ M H) : Rep C bs μ M H :=
  ⟨R.len, R.nd, fun c hc => R.le c (List.mem_cons_of_mem _ hc), fun n a o e1 e2 c hc => R.ob n a o e1 e2 c (hc.imp (fun z => ⟨List.mem_cons_of_mem _ z.1, z.2⟩) fun z => z)⟩
theorem Rep.cut {n0 : Nat} (R : Rep C (n0 :: bs) μ M H) (hb : ∀ c ∈ bs, c ≤ n0) : Rep C bs (μ.take n0) (M.take n0) H := by
  have h0 : n0 ≤ μ.length := R.le n0 (List.mem_cons_self ..)
  refine ⟨by rw [List.length_take, List.length_take, R.len], R.nd.sublist (List.take_sublist _ _), fun c hc => by rw [List.length_take]; have := hb c hc; omega, fun n a o e1 e2 c hc => ?_⟩
  have hn : n < n0 := by
    have z := (List.getElem?_eq_some_iff.mp e1).1
    rw [List.length_take] at z
    omega
  rw [List.getElem?_take_of_lt hn] at e1 e2
  rcases hc with ⟨hc, hl⟩ | hc
  · rw [List.take_take, Nat.min_eq_left (hb c hc)]
    exact R.ob n a o e1 e2 c (.inl ⟨List.mem_cons_of_mem _ hc, hl⟩)
  · rw [hc, List.length_take, Nat.min_eq_left h0, List.take_take, Nat.min_self]
    exact R.ob n a o e1 e2 n0 (.inl ⟨List.mem_cons_self .., hn⟩)
/-- onwards: what was walked stays, the new ones were free, what the store does not know is left alone -/
structure Lo (μ : List Addr) (H : Hp) (μ' : List Addr) (H' : Hp) : Prop where
  pre : μ <+: μ'
  st : Stay H H'
theorem Lo.trans {μ1 μ2 μ3 : List Addr} {H1 H2 H3 : Hp} (a : Lo μ1 H1 μ2 H2) (b : Lo μ2 H2 μ3 H3) : Lo μ1 H1 μ3 H3 := ⟨a.pre.trans b.pre, a.st.trans b.st⟩
structure Le (μ : List Addr) (H : Hp) (μ' : List Addr) (H' : Hp) : Prop extends Lo μ H μ' H' where
  fr : ∀ a ∈ μ', a ∉ μ → H a = none
  off : ∀ a, a ∉ μ → H a ≠ none → H' a = H a
theorem Le.refl (μ : List Addr) (H : Hp) : Le μ H μ H := ⟨⟨List.prefix_refl _, .refl _⟩, fun _ h n => absurd h n, fun _ _ _ => rfl⟩
theorem Le.trans {μ1 μ2 μ3 : List Addr} {H1 H2 H3 : Hp} (a : Le μ1 H1 μ2 H2) (b : Le μ2 H2 μ3 H3) : Le μ1 H1 μ3 H3 := by
  have out : ∀ x, x ∉ μ1 → H1 x ≠ none → x ∉ μ2 := fun x n h m => h (a.fr x m n)
  refine ⟨a.toLo.trans b.toLo, fun x m n => ?_, fun x n h => ?_⟩
  · by_cases q : x ∈ μ2
    · exact a.fr x q n
    · cases e : H1 x with
      | none => rfl
      | some o =>
        have z := a.off x n (by rw [e]; exact fun c => by cases c)
        have y := b.fr x m q
        rw [z, e] at y
        cases y
  · have q := a.off x n h
    rw [b.off x (out x n h) (by rw [q]; exact h), q]
/-- the store's new part forgotten -/
theorem Le.cut (l : Le μ H μ' H') (n : Nat) (hn : μ.length = n) : Le μ H (μ'.take n) H' := by
  obtain ⟨t, rfl⟩ := l.pre
  subst hn
  rw [List.take_left]
  exact ⟨⟨List.prefix_refl _, l.st⟩, fun _ h n => absurd h n, l.off⟩
theorem RelD.lo {d : D} {v : V} (h : RelD C μ H d v) (l : Lo μ H μ' H') : RelD C μ' H' d v := h.mono l.pre l.st
theorem RelDs.lo {d : List D} {v : List V} (h : RelDs C μ H d v) (l : Lo μ H μ' H') : RelDs C μ' H' d v := h.mono l.pre l.st
theorem RelD.le {d : D} {v : V} (h : RelD C μ H d v) (l : Le μ H μ' H') : RelD C μ' H' d v := h.mono l.pre l.st
theorem RelDs.le {d : List D} {v : List V} (h : RelDs C μ H d v) (l : Le μ H μ' H') : RelDs C μ' H' d v := h.mono l.pre l.st
def RelEn (C : Cn) (μ : List Addr) (H : Hp) (ρ : Enn) (σ : St) : Prop := ρ.length = σ.length ∧ ∀ (i : Nat) (d : D), ρ[i]? = some (some d) → ∃ v, σ[i]? = some (some v) ∧ RelD C μ H d v
theorem RelEn.lo {ρ : Enn} {σ : St} (h : RelEn C μ H ρ σ) (l : Lo μ H μ' H') : RelEn C μ' H' ρ σ := ⟨h.1, fun i d e => by
  obtain ⟨v, e1, r⟩ := h.2 i d e
  exact ⟨v, e1, r.lo l⟩⟩
theorem RelEn.le {ρ : Enn} {σ : St} (h : RelEn C μ H ρ σ) (l : Le μ H μ' H') : RelEn C μ' H' ρ σ := ⟨h.1, fun i d e => by
  obtain ⟨v, e1, r⟩ := h.2 i d e
  exact ⟨v, e1, r.le l⟩⟩
theorem RelEn.set {ρ : Enn} {σ : St} (h : RelEn C μ H ρ σ) {i : Nat} {d : D} {v : V} (r : RelD C μ H d v) : RelEn C μ H (ρ.set i (some d)) (σ.set i (some v)) :=
  ⟨by simp [h.1], fun j e q => by
    by_cases hj : j = i
    · subst hj
      have hl : j < ρ.length := by
        have z := (List.getElem?_eq_some_iff.mp q).1
        simpa using z
      rw [List.getElem?_set_self hl] at q
      cases q
      exact ⟨v, List.getElem?_set_self (by rw [← h.1]; exact hl), r⟩
    · rw [List.getElem?_set_ne (Ne.symm hj)] at q
      obtain ⟨w, e1, r1⟩ := h.2 j e q
      exact ⟨w, by rw [List.getElem?_set_ne (Ne.symm hj)]; exact e1, r1⟩⟩
theorem wipe_len (ρ : Enn) : ∀ vs : List Nat, (wipe ρ vs).length = ρ.length
  | [] => rfl
  | v :: vs => by unfold wipe; rw [List.length_set, wipe_len ρ vs]
theorem RelEn.wipe {ρ : Enn} {σ : St} (h : RelEn C μ H ρ σ) : ∀ vs : List Nat, RelEn C μ H (wipe ρ vs) (L2.wipe σ vs)
  | [] => h
  | x :: vs => by
    have ih := h.wipe vs
    unfold Ev.wipe L2.wipe
    refine ⟨by simp [ih.1], fun j e q => ?_⟩
    by_cases hj : j = x
    · subst hj
      have hl : j < (Ev.wipe ρ vs).length := by
        have z := (List.getElem?_eq_some_iff.mp q).1
        simpa using z
      rw [List.getElem?_set_self hl] at q
      cases q
    · rw [List.getElem?_set_ne (Ne.symm hj)] at q
      obtain ⟨w, e1, r1⟩ := ih.2 j e q
      exact ⟨w, by rw [List.getElem?_set_ne (Ne.symm hj)]; exact e1, r1⟩

/-! ### what is wanted of an end -/
def RelX (C : Cn) (μ : List Addr) (H : Hp) (x : Xn) (cls : Value) (d : Option Addr) : Prop :=
  cls = .ref (C.ca x.cls) ∧ (x.fs = [] ∨ ∃ a fs, d = some a ∧ H a = some (.xd fs) ∧ fs.map (·.1) = x.fs.map (fun p => C.nm p.1) ∧ RelDs C μ H (x.fs.map (·.2)) (fs.map (·.2)))
def Post {α : Type} (C : Cn) (bs : List Nat) (W : XK) (μ : List Addr) (H : Hp) (o : Out α) (Q : α → List Addr → Sto → Hp → Prop) : Prop := match o with
  | .no => False
  | .ok a M' => ∀ μ' H', Le μ H μ' H' → Rep C bs μ' M' H' → Q a μ' M' H'
  | .ex x M' => ∀ μ' H' cls d, Le μ H μ' H' → Rep C bs μ' M' H' → RelX C μ' H' x cls d → W cls d H'
theorem Post.imp {α : Type} {W : XK} {o : Out α} {Q Q' : α → List Addr → Sto → Hp → Prop} (h : Post C bs W μ H o Q) (f : ∀ a μ' M' H', Le μ H μ' H' → Rep C bs μ' M' H' → Q a μ' M' H' → Q' a μ' M' H') : Post C bs W μ H o Q' := by
  cases o with
  | no => exact h
  | ok a M' => exact fun μ' H' l r => f _ _ _ _ l r (h μ' H' l r)
  | ex x M' => exact h
theorem Post.le {α : Type} {W : XK} {o : Out α} {Q : α → List Addr → Sto → Hp → Prop} (h : Post C bs W μ H o Q) (l : Le μ H μ' H') : Post C bs W μ' H' o Q := by
  cases o with
  | no => exact h
  | ok a M' => exact fun μ2 H2 l2 r => h μ2 H2 (l.trans l2) r
  | ex x M' => exact fun μ2 H2 c d l2 r => h μ2 H2 c d (l.trans l2) r
/-- one behind another -/
theorem Post.bind {α β : Type} {W : XK} {o : Out α} {f : α → Sto → Out β} {Q : β → List Addr → Sto → Hp → Prop} (h : Post C bs W μ H (o.bind f) Q) :
    Post C bs W μ H o (fun a μ' M' H' => Post C bs W μ' H' (f a M') Q) := by
  cases o with
  | no => exact h
  | ok a M' => exact fun μ' H' l r => Post.le h l
  | ex x M' => exact h
theorem Post.here {α : Type} {W : XK} {a : α} {Q : α → List Addr → Sto → Hp → Prop} (h : Post C bs W μ H (.ok a M) Q) (r : Rep C bs μ M H) : Q a μ M H := h μ H (.refl _ _) r
end Ev
end

section
/-! EvOp1: operators and comparisons of values. -/
namespace Ev
open PySem L2
variable {C : Cn} {μ μ' : List Addr} {H H' : Hp} {M M' : Sto} {bs : List Nat} {v : V}
theorem relD_non : RelD C μ H .non v ↔ v = .non := by unfold RelD; rfl
theorem relD_bl {b : Bool} : RelD C μ H (.bl b) v ↔ v = .bl b := by unfold RelD; rfl
theorem relD_int {i : Int} : RelD C μ H (.int i) v ↔ v = .int i := by unfold RelD; rfl
theorem relD_str {s : List Nat} : RelD C μ H (.str s) v ↔ v = .str ⟨s.toArray⟩ := by unfold RelD; rfl
theorem relD_tup {xs : List D} : RelD C μ H (.tup xs) v ↔ ∃ a vs, v = .ref a ∧ SqT C.K H a vs ∧ RelDs C μ H xs vs := by conv => lhs; unfold RelD
theorem relD_frz {xs : List D} : RelD C μ H (.frz xs) v ↔ ∃ a vs, v = .ref a ∧ FzL C.K H a vs ∧ RelDs C μ H xs vs := by conv => lhs; unfold RelD
theorem relD_loc {n : Nat} : RelD C μ H (.loc n) v ↔ ∃ a, μ[n]? = some a ∧ v = .ref a := by unfold RelD; rfl
theorem relD_fn {n : Nat} : RelD C μ H (.fn n) v ↔ v = .ref (C.fa n) := by unfold RelD; rfl
/-- a list in the store -/
theorem Rep.lst (R : Rep C bs μ M H) {n : Nat} {xs : List D} (q : M[n]? = some (.lst xs)) (r : RelD C μ H (.loc n) v) : ∃ a vs, v = .ref a ∧ μ[n]? = some a ∧ H a = some (.lst vs) ∧ RelDs C μ H xs vs := by
  obtain ⟨a, e, rfl⟩ := relD_loc.mp r
  obtain ⟨vs, h, z⟩ := R.at e q
  exact ⟨a, vs, rfl, e, h, z⟩
/-- what is wanted of a value -/
def VP (C : Cn) (bs : List Nat) (W : XK) (μ : List Addr) (H : Hp) (o : Out D) (Q : VK) : Prop := Post C bs W μ H o (fun d μ' _ H' => ∀ v, RelD C μ' H' d v → Q v H')
variable {W : XK} {Q : VK}
theorem VP.at {d : D} (h : VP C bs W μ H (.ok d M) Q) (R : Rep C bs μ M H) {v : V} (r : RelD C μ H d v) : Q v H := Post.here h R v r
theorem VP.on {d : D} (h : VP C bs W μ H (.ok d M') Q) (l : Le μ H μ' H') (R : Rep C bs μ' M' H') {v : V} (r : RelD C μ' H' d v) : Q v H' := h _ _ l R v r
theorem Le.new {p : Addr} {o : HO} (h : H p = none) : Le μ H μ (upd H p o) :=
  ⟨⟨List.prefix_refl _, .new h⟩, fun _ m n => absurd m n, fun a _ q => upd_ne fun e => q (e ▸ h)⟩
theorem Le.add {p : Addr} {o : HO} (h : H p = none) : Le μ H (μ ++ [p]) (upd H p o) :=
  ⟨⟨List.prefix_append _ _, .new h⟩, fun a m n => by
    rcases List.mem_append.mp m with m | m
    · exact absurd m n
    · rw [List.mem_singleton.mp m]; exact h, fun a _ q => upd_ne fun e => q (e ▸ h)⟩
theorem Le.put {p : Addr} {o : HO} (m : p ∈ μ) (h : Mut (H p)) : Le μ H μ (upd H p o) :=
  ⟨⟨List.prefix_refl _, .put h⟩, fun _ m n => absurd m n, fun a n _ => upd_ne fun e => n (e ▸ m)⟩
/-- a new list -/
theorem VP.newL {xs : List D} {vs : List V} (h : VP C bs W μ H (new xs M) Q) (R : Rep C bs μ M H) (r : RelDs C μ H xs vs) {p : Addr} (hp : H p = none) : Q (.ref p) (upd H p (.lst vs)) := by
  refine h.on (Le.add hp) (R.alloc hp ⟨vs, upd_same, r.mono (List.prefix_append _ _) (.new hp)⟩) (relD_loc.mpr ⟨p, ?_, rfl⟩)
  rw [← R.len]
  simp
/-- a new tuple -/
theorem VP.newT {xs : List D} {vs : List V} (h : VP C bs W μ H (.ok (.tup xs) M) Q) (R : Rep C bs μ M H) (r : RelDs C μ H xs vs) {p : Addr} (hp : H p = none) : Q (.ref p) (upd H p (.tup vs)) :=
  h.on (Le.new hp) (R.new hp) (relD_tup.mpr ⟨p, vs, rfl, .of upd_same, r.mono (List.prefix_refl _) (.new hp)⟩)

/-! ### operators -/
def rB (C : Cn) (o : B2) : R2 := fun x y H Q => ∃ bs W μ M dx dy, Rep C bs μ M H ∧ RelD C μ H dx x ∧ RelD C μ H dy y ∧ VP C bs W μ H (semB o dx dy M) Q
def opB : B2 → Operator
  | .add => .Add
  | .sub => .Sub
  | .mul => .Mult
  | .div => .FloorDiv
  | .mod => .Mod
  | .pow => .Pow
theorem small_iff {i : Int} (h : small i = true) : -(2 ^ 64) < i ∧ i < 2 ^ 64 := by
  unfold small at h
  rw [Bool.and_eq_true, decide_eq_true_eq, decide_eq_true_eq] at h
  omega
theorem len_arr (s : List Nat) : (⟨s.toArray⟩ : Str).length = s.length := by show s.toArray.size = _; simp
theorem app_str (s t : List Nat) : ((⟨s.toArray⟩ : Str) ++ (⟨t.toArray⟩ : Str)) = ⟨(s ++ t).toArray⟩ := by
  show (⟨s.toArray ++ t.toArray⟩ : Str) = _
  simp
variable {X : Cx}
theorem op_rB (hK : X.K = C.K) (o : B2) : OpR X (binaryOp (opB o)) (rB C o) := by
  intro pins s σ H x y vx vy Q I rx ry h
  obtain ⟨bs, W, μ, M, dx, dy, R, r1, r2, p⟩ := h
  cases o with
  | add =>
    cases dx with
    | int i =>
      cases dy with
      | int j => exact op_add pins s σ H x y vx vy Q I rx ry ⟨i, j, relD_int.mp r1, relD_int.mp r2, p.at R (relD_int.mpr rfl)⟩
      | _ => exact p.elim
    | str i =>
      cases dy with
      | str j =>
        dsimp only [semB] at p
        by_cases hl : i.length + j.length ≤ cap
        · rw [if_pos hl] at p
          refine op_add_str pins s σ H x y vx vy Q I rx ry ⟨_, _, relD_str.mp r1, relD_str.mp r2, ?_, ?_⟩
          · rw [len_arr, len_arr, sizeLine_eq]; exact hl
          · rw [app_str]; exact p.at R (relD_str.mpr rfl)
        · rw [if_neg hl] at p; exact p.elim
      | _ => exact p.elim
    | tup xs =>
      cases dy with
      | tup ys =>
        dsimp only [semB] at p
        by_cases hl : xs.length + ys.length ≤ cap
        · rw [if_pos hl] at p
          obtain ⟨a, vs, e1, q1, z1⟩ := relD_tup.mp r1
          obtain ⟨b, ws, e2, q2, z2⟩ := relD_tup.mp r2
          refine op_catA pins s σ H x y vx vy Q I rx ry ⟨a, b, vs, ws, e1, e2, hK ▸ q1, hK ▸ q2, ?_, fun hn => ?_, fun hn hm => ?_, fun _ _ t ht => ?_⟩
          · rw [← z1.length, ← z2.length, sizeLine_eq]; exact hl
          · subst hn
            have : xs = [] := List.eq_nil_of_length_eq_zero (by rw [z1.length]; rfl)
            subst this
            exact p.at R (relD_tup.mpr ⟨b, ws, rfl, q2, z2⟩)
          · subst hm
            have : ys = [] := List.eq_nil_of_length_eq_zero (by rw [z2.length]; rfl)
            subst this
            rw [List.append_nil] at p
            exact p.at R (relD_tup.mpr ⟨a, vs, rfl, q1, z1⟩)
          · exact p.newT R (z1.app z2) ht
        · rw [if_neg hl] at p; exact p.elim
      | _ => exact p.elim
    | loc n =>
      cases dy with
      | loc m =>
        dsimp only [semB] at p
        cases e1 : M[n]? with
        | none => rw [e1] at p; exact p.elim
        | some o1 =>
          cases e2 : M[m]? with
          | none => rw [e1, e2] at p; cases o1 <;> exact p.elim
          | some o2 =>
            rw [e1, e2] at p
            cases o1 with
            | lst xs =>
              cases o2 with
              | lst ys =>
                dsimp only at p
                by_cases hl : xs.length + ys.length ≤ cap
                · rw [if_pos hl] at p
                  obtain ⟨a, vs, rfl, _, h1, z1⟩ := R.lst e1 r1
                  obtain ⟨b, ws, rfl, _, h2, z2⟩ := R.lst e2 r2
                  refine op_cat pins s σ H _ _ vx vy Q I rx ry ⟨a, b, vs, ws, rfl, rfl, h1, h2, ?_, fun t ht => ?_⟩
                  · rw [← z1.length, ← z2.length, sizeLine_eq]; exact hl
                  · exact p.newL R (z1.app z2) ht
                · rw [if_neg hl] at p; exact p.elim
              | _ => exact p.elim
            | _ => exact p.elim
      | _ => exact p.elim
    | _ => exact p.elim
  | sub =>
    cases dx with
    | int i =>
      cases dy with
      | int j => exact op_sub pins s σ H x y vx vy Q I rx ry ⟨i, j, relD_int.mp r1, relD_int.mp r2, p.at R (relD_int.mpr rfl)⟩
      | _ => exact p.elim
    | _ => exact p.elim
  | mul =>
    cases dx with
    | int i =>
      cases dy with
      | int j =>
        dsimp only [semB] at p
        cases hs : (small i || small j) with
        | false => rw [hs] at p; exact p.elim
        | true =>
          rw [hs] at p
          rw [Bool.or_eq_true] at hs
          exact op_mul pins s σ H x y vx vy Q I rx ry ⟨i, j, relD_int.mp r1, relD_int.mp r2, hs.imp small_iff small_iff, p.at R (relD_int.mpr rfl)⟩
      | _ => exact p.elim
    | loc n =>
      cases dy with
      | int k =>
        dsimp only [semB] at p
        cases e1 : M[n]? with
        | none => rw [e1] at p; exact p.elim
        | some o1 =>
          rw [e1] at p
          cases o1 with
          | lst xs =>
            dsimp only at p
            by_cases hl : -9223372036854775808 ≤ k ∧ k < 9223372036854775808 ∧ xs.length * k.toNat ≤ cap
            · rw [if_pos hl] at p
              obtain ⟨a, vs, rfl, _, h1, z1⟩ := R.lst e1 r1
              refine op_rep pins s σ H _ y vx vy Q I rx ry ⟨a, k, vs, rfl, relD_int.mp r2, h1, by have := hl.1; omega, by have := hl.2.1; omega, ?_, fun t ht => ?_⟩
              · rw [← z1.length, sizeLine_eq]; exact hl.2.2
              · exact p.newL R (z1.rep _) ht
            · rw [if_neg hl] at p; exact p.elim
          | _ => exact p.elim
      | _ => exact p.elim
    | _ => exact p.elim
  | div =>
    cases dx with
    | int i =>
      cases dy with
      | int j =>
        dsimp only [semB] at p
        by_cases hl : 0 < j ∧ j < 1073741824
        · rw [if_pos hl] at p
          exact op_fdiv pins s σ H x y vx vy Q I rx ry ⟨i, j, relD_int.mp r1, relD_int.mp r2, hl, p.at R (relD_int.mpr rfl)⟩
        · rw [if_neg hl] at p; exact p.elim
      | _ => exact p.elim
    | _ => exact p.elim
  | mod =>
    cases dx with
    | int i =>
      cases dy with
      | int j =>
        dsimp only [semB] at p
        by_cases hl : 0 < j
        · rw [if_pos hl] at p
          exact op_mod pins s σ H x y vx vy Q I rx ry ⟨i, j, relD_int.mp r1, relD_int.mp r2, hl, p.at R (relD_int.mpr rfl)⟩
        · rw [if_neg hl] at p; exact p.elim
      | _ => exact p.elim
    | _ => exact p.elim
  | pow =>
    cases dx with
    | int i =>
      cases dy with
      | int j =>
        dsimp only [semB] at p
        by_cases hl : 0 ≤ j ∧ j ≤ 1000000 ∧ i.natAbs < 18446744073709551616
        · rw [if_pos hl] at p
          exact op_pow pins s σ H x y vx vy Q I rx ry ⟨i, j, relD_int.mp r1, relD_int.mp r2, ⟨hl.1, hl.2.1, by have := hl.2.2; omega⟩, p.at R (relD_int.mpr rfl)⟩
        · rw [if_neg hl] at p; exact p.elim
      | _ => exact p.elim
    | _ => exact p.elim

/-! ### plain data -/
theorem strOk_of {s : List Nat} (h : codes s = true) : PyData.strOk ⟨s.toArray⟩ = true := by
  unfold codes at h
  unfold PyData.strOk
  rw [List.all_eq_true] at h
  show s.toArray.all _ = true
  rw [List.all_toArray, List.all_eq_true]
  intro c hc
  have z := h c hc
  rw [decide_eq_true_eq]
  exact Nat.le_of_ble_eq_true z
theorem allS_cons {α : Type} {x : Option α} {xs : List (Option α)} {ys : List α} (h : allS (x :: xs) = some ys) : ∃ y zs, x = some y ∧ allS xs = some zs ∧ ys = y :: zs := by
  cases x with
  | none => unfold allS at h; cases h
  | some y =>
    unfold allS at h
    cases q : allS xs with
    | none => rw [q] at h; cases h
    | some zs => rw [q] at h; cases h; exact ⟨y, zs, rfl, rfl, rfl⟩
structure Shp (d : PyData) (k : Nat) : Prop where
  lay : d.canLay0 = true
  dep : d.depth ≤ k
structure ShpA (d : List PyData) (k : Nat) : Prop where
  lay : PyData.canLayAll0 d = true
  dep : PyData.depthAll d ≤ k
theorem py_all (R : Rep C bs μ M H) {k : Nat} (ih : ∀ {d : D} {p : PyData} {v : V}, py M k d = some p → RelD C μ H d v → Dp C.K H v p ∧ Shp p k) :
    ∀ {xs : List D} {ps : List PyData} {vs : List V}, allS (xs.map (py M k)) = some ps → RelDs C μ H xs vs → DpAll C.K H vs ps ∧ ShpA ps k
  | [], ps, vs, e, r => by
    cases e
    rw [r.nil_inv]
    exact ⟨.nil, ⟨by simp [PyData.canLayAll0], by simp [PyData.depthAll]⟩⟩
  | x :: xs, ps, vs, e, r => by
    rw [List.map_cons] at e
    obtain ⟨y, zs, e1, e2, rfl⟩ := allS_cons e
    obtain ⟨v, vr, rfl, r1, r2⟩ := r.inv
    obtain ⟨d1, s1⟩ := ih e1 r1
    obtain ⟨d2, s2⟩ := py_all R ih e2 r2
    refine ⟨.cons d1 d2, ⟨by simp [PyData.canLayAll0, s1.lay, s2.lay], ?_⟩⟩
    have h1 := s1.dep
    have h2 := s2.dep
    simp only [PyData.depthAll]
    omega
theorem py_dp (R : Rep C bs μ M H) : ∀ {k : Nat} {d : D} {p : PyData} {v : V}, py M k d = some p → RelD C μ H d v → Dp C.K H v p ∧ Shp p k
  | 0, _, _, _, e, _ => by unfold py at e; cases e
  | k + 1, d, p, v, e, r => by
    unfold py at e
    cases d with
    | non => cases e; rw [relD_non.mp r]; exact ⟨.non, ⟨by simp [PyData.canLay0], by simp [PyData.depth]⟩⟩
    | bl b => cases e; rw [relD_bl.mp r]; exact ⟨.bl b, ⟨by simp [PyData.canLay0], by simp [PyData.depth]⟩⟩
    | int b => cases e; rw [relD_int.mp r]; exact ⟨.int b, ⟨by simp [PyData.canLay0], by simp [PyData.depth]⟩⟩
    | str s =>
      dsimp only at e
      cases q : codes s with
      | false => rw [q] at e; cases e
      | true =>
        rw [q] at e
        cases e
        rw [relD_str.mp r]
        exact ⟨.str _, ⟨by simp [PyData.canLay0, strOk_of q], by simp [PyData.depth]⟩⟩
    | tup xs =>
      dsimp only at e
      cases q : allS (xs.map (py M k)) with
      | none => rw [q] at e; cases e
      | some ps =>
        rw [q] at e
        cases e
        obtain ⟨a, vs, rfl, q1, z1⟩ := relD_tup.mp r
        obtain ⟨d1, s1⟩ := py_all R (fun h h' => py_dp R h h') q z1
        exact ⟨.tup q1 d1, ⟨by simp [PyData.canLay0, s1.lay], by simp only [PyData.depth]; have := s1.dep; omega⟩⟩
    | frz xs =>
      dsimp only at e
      cases q : allS (xs.map (py M k)) with
      | none => rw [q] at e; cases e
      | some ps =>
        rw [q] at e
        cases e
        obtain ⟨a, vs, rfl, q1, z1⟩ := relD_frz.mp r
        obtain ⟨d1, s1⟩ := py_all R (fun h h' => py_dp R h h') q z1
        exact ⟨.lst q1.sq d1, ⟨by simp [PyData.canLay0, s1.lay], by simp only [PyData.depth]; have := s1.dep; omega⟩⟩
    | loc n =>
      dsimp only at e
      cases q0 : M[n]? with
      | none => rw [q0] at e; cases e
      | some o =>
        rw [q0] at e
        cases o with
        | lst xs =>
          dsimp only at e
          cases q : allS (xs.map (py M k)) with
          | none => rw [q] at e; cases e
          | some ps =>
            rw [q] at e
            cases e
            obtain ⟨a, vs, rfl, _, q1, z1⟩ := R.lst q0 r
            obtain ⟨d1, s1⟩ := py_all R (fun h h' => py_dp R h h') q z1
            exact ⟨.lst (.of q1) d1, ⟨by simp [PyData.canLay0, s1.lay], by simp only [PyData.depth]; have := s1.dep; omega⟩⟩
        | _ => cases e
    | fn n => cases e
theorem Shp.shaped {d : PyData} {k : Nat} (h : Shp d k) (hk : k ≤ 64) : SeqAt.shaped d = true := by
  unfold SeqAt.shaped
  rw [h.lay, Bool.true_and, decide_eq_true_eq]
  exact Nat.le_trans h.dep hk
end Ev
end

section
/-! EvOp2: comparisons. -/
namespace Ev
open PySem L2
variable {C : Cn} {μ μ' : List Addr} {H H' : Hp} {M M' : Sto} {bs : List Nat} {v : V} {X : Cx}
def opC : C2 → CmpOp
  | .eq => .Eq
  | .ne => .NotEq
  | .lt => .Lt
  | .le => .LtE
  | .gt => .Gt
  | .ge => .GtE
  | .isin => .In
  | .nin => .NotIn
  | .is => .Is
  | .isn => .IsNot
def rC (C : Cn) (o : C2) : R2 := fun x y H Q => ∃ bs μ M dx dy k, Rep C bs μ M H ∧ RelD C μ H dx x ∧ RelD C μ H dy y ∧ semC o M dx dy = some k ∧ Q (.bl k) H
theorem eqD_inv {x y : D} {k : Bool} (h : eqD M x y = some k) : ∃ a b, py M MX x = some a ∧ py M MX y = some b ∧ k = PyData.eqv a b := by
  unfold eqD at h
  cases e1 : py M MX x with
  | none => rw [e1] at h; cases h
  | some a =>
    cases e2 : py M MX y with
    | none => rw [e1, e2] at h; cases h
    | some b => rw [e1, e2] at h; cases h; exact ⟨a, b, rfl, rfl, rfl⟩
theorem strEq (a b : List Nat) : ((⟨a.toArray⟩ : Str) == (⟨b.toArray⟩ : Str)) = (a == b) := by
  rw [Bool.eq_iff_iff, beq_iff_eq, beq_iff_eq]
  constructor
  · intro h
    have z := congrArg (fun s : Str => s.cps.toList) h
    simpa using z
  · rintro rfl; rfl
theorem atom_flatV {x : D} (h : atom x = true) (r : RelD C μ H x v) : flatV v = true := by
  cases x with
  | non => rw [relD_non.mp r]; rfl
  | bl _ => rw [relD_bl.mp r]; rfl
  | int _ => rw [relD_int.mp r]; rfl
  | str _ => rw [relD_str.mp r]; rfl
  | _ => cases h
theorem eqA_eqV {x y : D} {v w : V} (hx : atom x = true) (hy : atom y = true) (r : RelD C μ H x v) (q : RelD C μ H y w) : eqV v w = eqA x y := by
  cases x with
  | non =>
    cases relD_non.mp r
    cases y with
    | non => cases relD_non.mp q; rfl
    | bl _ => cases relD_bl.mp q; rfl
    | int _ => cases relD_int.mp q; rfl
    | str _ => cases relD_str.mp q; rfl
    | _ => cases hy
  | bl _ =>
    cases relD_bl.mp r
    cases y with
    | non => cases relD_non.mp q; rfl
    | bl _ => cases relD_bl.mp q; rfl
    | int _ => cases relD_int.mp q; rfl
    | str _ => cases relD_str.mp q; rfl
    | _ => cases hy
  | int _ =>
    cases relD_int.mp r
    cases y with
    | non => cases relD_non.mp q; rfl
    | bl _ => cases relD_bl.mp q; rfl
    | int _ => cases relD_int.mp q; rfl
    | str _ => cases relD_str.mp q; rfl
    | _ => cases hy
  | str s =>
    cases relD_str.mp r
    cases y with
    | non => cases relD_non.mp q; rfl
    | bl _ => cases relD_bl.mp q; rfl
    | int _ => cases relD_int.mp q; rfl
    | str t => cases relD_str.mp q; exact strEq s t
    | _ => cases hy
  | _ => cases hx
theorem any_atoms {x : D} {w : V} (hx : atom x = true) (q : RelD C μ H x w) : ∀ {ys : List D} {vs : List V}, ys.all atom = true → RelDs C μ H ys vs → vs.all flatV = true ∧ (vs.any fun y => eqV y w) = ys.any fun z => eqA z x
  | [], _, _, r => by rw [r.nil_inv]; exact ⟨rfl, rfl⟩
  | y :: ys, _, h, r => by
    obtain ⟨v, vr, rfl, r1, r2⟩ := r.inv
    rw [List.all_cons, Bool.and_eq_true] at h
    obtain ⟨i1, i2⟩ := any_atoms hx q h.2 r2
    refine ⟨?_, ?_⟩
    · rw [List.all_cons, atom_flatV h.1 r1, i1]; rfl
    · rw [List.any_cons, List.any_cons, i2, eqA_eqV h.1 hx r1 q]
theorem items_inv {y : D} {ys : List D} {w : V} (R : Rep C bs μ M H) (h : itemsOf M y = some ys) (q : RelD C μ H y w) : ∃ a vs, w = .ref a ∧ (SqL C.K H a vs ∨ SqT C.K H a vs) ∧ RelDs C μ H ys vs := by
  unfold itemsOf at h
  cases y with
  | tup xs =>
    cases h
    obtain ⟨a, vs, e, h1, z⟩ := relD_tup.mp q
    exact ⟨a, vs, e, .inr h1, z⟩
  | frz xs =>
    cases h
    obtain ⟨a, vs, e, h1, z⟩ := relD_frz.mp q
    exact ⟨a, vs, e, .inl h1.sq, z⟩
  | loc n =>
    dsimp only at h
    cases e : M[n]? with
    | none => rw [e] at h; cases h
    | some o =>
      rw [e] at h
      cases o with
      | lst xs =>
        cases h
        obtain ⟨a, vs, e1, _, h1, z⟩ := R.lst e q
        exact ⟨a, vs, e1, .inl (.of h1), z⟩
      | _ => cases h
  | _ => cases h
theorem list_inv {y : D} {ys : List D} {w : V} (R : Rep C bs μ M H) (h : listOf M y = some ys) (q : RelD C μ H y w) : ∃ a vs, w = .ref a ∧ SqL C.K H a vs ∧ RelDs C μ H ys vs := by
  unfold listOf at h
  cases y with
  | frz xs =>
    cases h
    obtain ⟨a, vs, e, h1, z⟩ := relD_frz.mp q
    exact ⟨a, vs, e, h1.sq, z⟩
  | loc n =>
    dsimp only at h
    cases e : M[n]? with
    | none => rw [e] at h; cases h
    | some o =>
      rw [e] at h
      cases o with
      | lst xs =>
        cases h
        obtain ⟨a, vs, e1, _, h1, z⟩ := R.lst e q
        exact ⟨a, vs, e1, .of h1, z⟩
      | _ => cases h
  | _ => cases h
theorem items_list {y : D} {ys : List D} (h : itemsOf M y = some ys) (hn : ∀ xs, y ≠ .tup xs) : listOf M y = some ys := by
  unfold itemsOf at h
  unfold listOf
  cases y with
  | tup xs => exact absurd rfl (hn xs)
  | frz xs => exact h
  | loc n => exact h
  | _ => cases h
theorem contains_dec (t : List Nat) (c : Nat) : t.contains c = decide (c ∈ t) := by
  rw [Bool.eq_iff_iff, decide_eq_true_eq, List.contains_iff_mem]
/-- what `in` tells -/
theorem in_sound (hK : X.K = C.K) (hu : X.A.units + 65 < cLine) (neg : Bool) {x y : D} {k : Bool} (hk : inD M x y = some k) (R : Rep C bs μ M H) {pins : List (Addr × Obj)} {s : Shared} {σ : St} {vx vy : V} {ux uy : Value} {Q : VK}
    (I : L2.Inv X pins σ H s) (rx : RelV vx ux) (ry : RelV vy uy) (r : RelD C μ H x vx) (q : RelD C μ H y vy) (hQ : Q (.bl (if neg then !k else k)) H) :
    wpAny (model X.prog X.w) X.A (compareOp (if neg then .NotIn else .In) ux uy) (EP X pins σ Q) X.xe s := by
  have other : ∀ ys, itemsOf M y = some ys → inL M x y ys = some k → wpAny (model X.prog X.w) X.A (compareOp (if neg then .NotIn else .In) ux uy) (EP X pins σ Q) X.xe s := by
    intro ys hys hk
    unfold inL at hk
    cases ha : (atom x && ys.all atom) with
    | true =>
      rw [ha] at hk
      cases hk
      rw [Bool.and_eq_true] at ha
      obtain ⟨a, vs, rfl, h1, z⟩ := items_inv R hys q
      obtain ⟨f1, f2⟩ := any_atoms ha.1 r ha.2 z
      have h1' : SqL X.K H a vs ∨ SqT X.K H a vs := hK ▸ h1
      have inq : inV vx vs = ys.any fun z => eqA z x := f2
      cases neg with
      | false => exact op_in_seq pins s σ H _ _ ux uy Q I rx ry ⟨a, vs, rfl, h1', atom_flatV ha.1 r, f1, by rw [inq]; exact hQ⟩
      | true => exact op_notIn_seq pins s σ H _ _ ux uy Q I rx ry ⟨a, vs, rfl, h1', atom_flatV ha.1 r, f1, by rw [inq]; exact hQ⟩
    | false =>
      rw [ha] at hk
      dsimp only at hk
      cases e0 : isTup y with
      | true => rw [e0] at hk; cases hk
      | false =>
        have nt : ∀ xs, y ≠ .tup xs := by
          rintro xs rfl
          cases e0
        cases e1 : py M MX x with
        | none => rw [e0, e1] at hk; cases hk
        | some d =>
          cases e2 : allS (ys.map (py M MX)) with
          | none => rw [e0, e1, e2] at hk; cases hk
          | some ds =>
            rw [e0, e1, e2] at hk
            cases hk
            obtain ⟨a, vs, rfl, h1, z⟩ := list_inv R (items_list hys nt) q
            obtain ⟨d1, s1⟩ := py_dp R e1 r
            obtain ⟨d2, s2⟩ := py_all R (fun h h' => py_dp R h h') e2 z
            have sh1 : SeqAt.shaped d = true := s1.shaped (by unfold MX; omega)
            have sh2 : SeqAt.shaped (.list ds) = true := Shp.shaped (k := MX + 1) ⟨by simp [PyData.canLay0, s2.lay], by simp only [PyData.depth]; have := s2.dep; omega⟩ (by unfold MX; omega)
            have dl : Dp X.K H (.ref a) (.list ds) := hK ▸ Dp.lst h1 d2
            have d1' : Dp X.K H vx d := hK ▸ d1
            cases neg with
            | false => exact op_inD hu pins s σ H _ _ ux uy Q I rx ry ⟨d, ds, d1', dl, sh1, sh2, hQ⟩
            | true => exact op_notInD hu pins s σ H _ _ ux uy Q I rx ry ⟨d, ds, d1', dl, sh1, sh2, hQ⟩
  unfold inD at hk
  split at hk
  · rename_i c t
    cases hk
    cases relD_str.mp r
    cases relD_str.mp q
    cases neg with
    | false => exact op_in_sign pins s σ H _ _ ux uy Q I rx ry ⟨c, ⟨t.toArray⟩, rfl, rfl, by rw [show (⟨t.toArray⟩ : Str).cps.toList = t by simp, ← contains_dec]; exact hQ⟩
    | true => exact op_notIn_sign pins s σ H _ _ ux uy Q I rx ry ⟨c, ⟨t.toArray⟩, rfl, rfl, by rw [show (⟨t.toArray⟩ : Str).cps.toList = t by simp, ← contains_dec]; exact hQ⟩
  · cases hk
  · cases hi : itemsOf M y with
    | some ys => rw [hi] at hk; exact other ys hi hk
    | none => rw [hi] at hk; cases hk
theorem isNon_dec {x : D} {v : V} (r : RelD C μ H x v) : decide (v = V.non) = isNon x := by
  cases x with
  | non => rw [relD_non.mp r]; rfl
  | bl _ => rw [relD_bl.mp r]; rfl
  | int _ => rw [relD_int.mp r]; rfl
  | str _ => rw [relD_str.mp r]; rfl
  | tup _ => obtain ⟨a, vs, rfl, _⟩ := relD_tup.mp r; rfl
  | frz _ => obtain ⟨a, vs, rfl, _⟩ := relD_frz.mp r; rfl
  | loc _ => obtain ⟨a, _, rfl⟩ := relD_loc.mp r; rfl
  | fn _ => rw [relD_fn.mp r]; rfl
theorem is_sound (neg : Bool) {x y : D} {k : Bool} (hk : isD x y = some k) {pins : List (Addr × Obj)} {s : Shared} {σ : St} {vx vy : V} {ux uy : Value} {Q : VK}
    (I : L2.Inv X pins σ H s) (rx : RelV vx ux) (ry : RelV vy uy) (r : RelD C μ H x vx) (q : RelD C μ H y vy) (hQ : Q (.bl (if neg then !k else k)) H) :
    wpAny (model X.prog X.w) X.A (compareOp (if neg then .IsNot else .Is) ux uy) (EP X pins σ Q) X.xe s := by
  unfold isD at hk
  split at hk
  · rename_i a b
    cases hk
    have e : decide (a = b) = (a == b) := by cases a <;> cases b <;> rfl
    cases neg with
    | false => exact op_is_bl pins s σ H _ _ ux uy Q I rx ry ⟨a, b, relD_bl.mp r, relD_bl.mp q, by rw [e]; exact hQ⟩
    | true => exact op_isnot_bl pins s σ H _ _ ux uy Q I rx ry ⟨a, b, relD_bl.mp r, relD_bl.mp q, by rw [e]; exact hQ⟩
  · cases hk
    cases neg with
    | false => exact op_isN pins s σ H _ _ ux uy Q I rx ry ⟨relD_non.mp q, by rw [isNon_dec r]; exact hQ⟩
    | true => exact op_notN pins s σ H _ _ ux uy Q I rx ry ⟨relD_non.mp q, by rw [isNon_dec r]; exact hQ⟩
  · cases hk
theorem map_not {o : Option Bool} {k : Bool} (h : o.map not = some k) : ∃ k', o = some k' ∧ k = !k' := by
  cases o with
  | none => cases h
  | some a => cases h; exact ⟨a, rfl, rfl⟩
theorem op_rC (hK : X.K = C.K) (hu : X.A.units + 65 < cLine) (o : C2) : OpR X (compareOp (opC o)) (rC C o) := by
  intro pins s σ H x y vx vy Q I rx ry h
  obtain ⟨bs, μ, M, dx, dy, k, R, r1, r2, p, hQ⟩ := h
  have cmp2 : ∀ {f : Int → Int → Bool}, cmpI f dx dy = some k → ∃ i j, x = .int i ∧ y = .int j ∧ Q (.bl (f i j)) H := by
    intro f e
    unfold cmpI at e
    split at e
    · cases e; exact ⟨_, _, relD_int.mp r1, relD_int.mp r2, hQ⟩
    · cases e
  cases o with
  | eq =>
    obtain ⟨a, b, e1, e2, rfl⟩ := eqD_inv p
    obtain ⟨d1, s1⟩ := py_dp R e1 r1
    obtain ⟨d2, s2⟩ := py_dp R e2 r2
    exact op_eqD (by omega) pins s σ H x y vx vy Q I rx ry ⟨a, b, hK ▸ d1, hK ▸ d2, s1.shaped (by unfold MX; omega), s2.shaped (by unfold MX; omega), hQ⟩
  | ne =>
    obtain ⟨k', p', rfl⟩ := map_not p
    obtain ⟨a, b, e1, e2, rfl⟩ := eqD_inv p'
    obtain ⟨d1, s1⟩ := py_dp R e1 r1
    obtain ⟨d2, s2⟩ := py_dp R e2 r2
    exact op_neD (by omega) pins s σ H x y vx vy Q I rx ry ⟨a, b, hK ▸ d1, hK ▸ d2, s1.shaped (by unfold MX; omega), s2.shaped (by unfold MX; omega), hQ⟩
  | lt => exact op_lt pins s σ H x y vx vy Q I rx ry (cmp2 p)
  | le => exact op_le pins s σ H x y vx vy Q I rx ry (cmp2 p)
  | gt => exact op_gt pins s σ H x y vx vy Q I rx ry (cmp2 (f := fun i j => decide (j < i)) p)
  | ge => exact op_ge pins s σ H x y vx vy Q I rx ry (cmp2 (f := fun i j => decide (j ≤ i)) p)
  | isin => exact in_sound hK hu false p R I rx ry r1 r2 hQ
  | nin =>
    obtain ⟨k', p', rfl⟩ := map_not p
    exact in_sound hK hu true p' R I rx ry r1 r2 hQ
  | is => exact is_sound false p I rx ry r1 r2 hQ
  | isn =>
    obtain ⟨k', p', rfl⟩ := map_not p
    exact is_sound true p' I rx ry r1 r2 hQ
end Ev
end

section
/-! EvOp3: built-in functions of values. -/
namespace Ev
open PySem L2
variable {C : Cn} {μ μ' : List Addr} {H H' : Hp} {M M' : Sto} {bs : List Nat} {v : V} {X : Cx} {W : XK} {Q : VK}
def rF (C : Cn) (b : BI) : List V → Hp → VK → Prop := fun xs H Q => ∃ bs W μ M ds, Rep C bs μ M H ∧ RelDs C μ H ds xs ∧ VP C bs W μ H (semBI b ds M) Q
def fvB : BI → Value
  | .len => .builtin "len"
  | .max2 => .builtin "max"
  | .min2 => .builtin "min"
  | .abs => .builtin "abs"
  | .int => .type "int"
  | .str => .type "str"
  | .repr => .builtin "repr"
  | .lst => .type "list"
  | .tup => .type "tuple"
  | .srt => .builtin "sorted"
  | .all => .builtin "all"
  | .any => .builtin "any"
  | .sum => .builtin "sum"
theorem ins1_perm (i : Int) : ∀ l : List Int, (ins1 i l).Perm (i :: l)
  | [] => .refl _
  | j :: js => by
    unfold ins1
    split
    · exact .refl _
    · exact ((ins1_perm i js).cons j).trans (.swap ..)
theorem isort_perm : ∀ l : List Int, (isort l).Perm l
  | [] => .refl _
  | i :: l => (ins1_perm i (isort l)).trans ((isort_perm l).cons i)
theorem ins1_pw (i : Int) : ∀ l : List Int, l.Pairwise (· ≤ ·) → (ins1 i l).Pairwise (· ≤ ·)
  | [], _ => by unfold ins1; simp
  | j :: js, h => by
    unfold ins1
    rw [List.pairwise_cons] at h
    split
    · rename_i hl
      rw [List.pairwise_cons]
      refine ⟨fun a ha => ?_, List.pairwise_cons.mpr h⟩
      rcases List.mem_cons.mp ha with rfl | ha
      · exact hl
      · exact Int.le_trans hl (h.1 a ha)
    · rename_i hl
      rw [List.pairwise_cons]
      refine ⟨fun a ha => ?_, ins1_pw i js h.2⟩
      rcases List.mem_cons.mp ((ins1_perm i js).mem_iff.mp ha) with rfl | ha
      · omega
      · exact h.1 a ha
theorem isort_pw : ∀ l : List Int, (isort l).Pairwise (· ≤ ·)
  | [] => by unfold isort; simp
  | i :: l => ins1_pw i _ (isort_pw l)
theorem one_inv {ds : List D} {xs : List V} (h : RelDs C μ H ds xs) {d : D} (e : ds = [d]) : ∃ v, xs = [v] ∧ RelD C μ H d v := by
  subst e
  obtain ⟨v, vr, rfl, r, z⟩ := h.inv
  rw [z.nil_inv]
  exact ⟨v, rfl, r⟩
/-- repr of data -/
theorem repr_sound (hK : X.K = C.K) (hu : X.A.units + 80 < cLine) (hg : X.A.guards = some []) {d : PyData} {vx : V} {u : Value} (hd : Dp C.K H vx d) (hs : d.showable = true) (hl : d.canLay0 = true) (hz : d.depth ≤ 64) (hn : d.shown.length + 64 ≤ cap)
    {pins : List (Addr × Obj)} {s : Shared} {σ : St} (I : L2.Inv X pins σ H s) (rx : RelV vx u) (q : Q (.str d.shown) H) : wpAny (model X.prog X.w) X.A (call (.builtin "repr") [u]) (EP X pins σ Q) X.xe s := by
  have hn' : d.shown.length ≤ sizeLine := by rw [sizeLine_eq]; unfold cap at hn; omega
  cases hd with
  | non =>
    cases rx
    exact PySem.P.repr_of_none ⟨.str _, H, I.tok _, ⟨_, rfl⟩, q⟩
  | bl b =>
    cases rx
    refine PySem.P.repr_of_bool ⟨.str _, H, I.tok _, ⟨_, rfl⟩, ?_⟩
    cases b <;> exact q
  | int i =>
    obtain ⟨t, rfl⟩ := rx
    exact PySem.P.repr_of_int (by simpa [PyData.showable] using hs) ⟨.str _, H, I.tok _, ⟨_, rfl⟩, q⟩
  | str x =>
    obtain ⟨t, rfl⟩ := rx
    exact PySem.P.repr_of_str ⟨.str _, H, I.tok _, ⟨_, rfl⟩, q⟩ hn'
  | lst h1 h2 =>
    obtain ⟨as, rd⟩ := Dp.reads I _ _ _ (hK ▸ Dp.lst h1 h2) rx
    cases rx
    exact repr_of_reads' rd hs (PyData.noDict_hsm (PyData.hasDict_of_canLay _ hl)) hg (by omega) (fun _ _ e => e) (fun h' u' tk hk => ⟨.str _, H, I.kept hk, ⟨_, rfl⟩, q⟩) hn'
  | tup h1 h2 =>
    obtain ⟨as, rd⟩ := Dp.reads I _ _ _ (hK ▸ Dp.tup h1 h2) rx
    cases rx
    exact repr_of_reads' rd hs (PyData.noDict_hsm (PyData.hasDict_of_canLay _ hl)) hg (by omega) (fun _ _ e => e) (fun h' u' tk hk => ⟨.str _, H, I.kept hk, ⟨_, rfl⟩, q⟩) hn'
theorem call_repr1 (hK : X.K = C.K) (hu : X.A.units + 80 < cLine) (hg : X.A.guards = some []) {d : D} {vx : V} (R : Rep C bs μ M H) (r1 : RelD C μ H d vx) (p : VP C bs W μ H (semB1 .repr d M) Q)
    {pins : List (Addr × Obj)} {s : Shared} {σ : St} {u : Value} (I : L2.Inv X pins σ H s) (ru : RelV vx u) : wpAny (model X.prog X.w) X.A (call (.builtin "repr") [u]) (EP X pins σ Q) X.xe s := by
  dsimp only [semB1] at p
  cases e : reprD M d with
  | none => rw [e] at p; exact p.elim
  | some t =>
    rw [e] at p
    have hQ : Q (.str ⟨t.toArray⟩) H := p.at R (relD_str.mpr rfl)
    unfold reprD at e
    cases e1 : py M MX d with
    | some pd =>
      rw [e1] at e
      dsimp only at e
      cases e2 : (pd.showable && Nat.ble (pd.shown.length + 64) cap) with
      | false => rw [e2] at e; cases e
      | true =>
        rw [e2] at e
        cases e
        rw [Bool.and_eq_true] at e2
        obtain ⟨dp, sh⟩ := py_dp R e1 r1
        exact repr_sound hK hu hg dp e2.1 sh.lay (Nat.le_trans sh.dep (by unfold MX; omega)) (Nat.le_of_ble_eq_true e2.2) I ru hQ
    | none =>
      rw [e1] at e
      cases d with
      | loc n =>
        dsimp only at e
        cases e2 : M[n]? with
        | none => rw [e2] at e; cases e
        | some o =>
          rw [e2] at e
          cases o with
          | dct kvs =>
            cases kvs with
            | cons _ _ => cases e
            | nil =>
              cases e
              obtain ⟨a, ea, rfl⟩ := relD_loc.mp r1
              obtain ⟨_, hH⟩ := R.at ea e2
              obtain ⟨z1, z2, vs, rk, o, es, ep, ho, hx, hdat, hko, hpr, hnd⟩ := (show ObjOk X.prog X.w H s.heap a (.dK []) from I.hok a _ hH)
              cases ru
              have hvs : vs = [] := by
                cases rk
                rfl
              subst hvs
              have hnil : es.toList = [] := by
                cases hq : es.toList with
                | nil => rfl
                | cons a l => rw [hq] at hpr; cases hpr
              have rd : Reads s.heap (.ref a) (.dict []) (a :: [] ++ []) := .dict ho hx.1 hdat (by rw [hnil]; exact .nil) (by rw [hnil]; exact .nil)
              refine repr_of_reads' rd (by rfl) (fun _ hm => ?_) hg (by simp only [PyData.depth, PyData.depthKv]; omega) (fun _ _ e => e) (fun h' u' tk hk => ⟨.str _, H, I.kept hk, ⟨_, rfl⟩, ?_⟩) (by decide +kernel)
              · simp at hm
                rw [← hm] at z2
                simp at z2
              · exact hQ
          | _ => cases e
      | _ => cases e
theorem lenD_inv {d : D} {n : Nat} (h : lenD M d = some n) : (∃ s, d = .str s ∧ s.length ≤ cap ∧ n = s.length) ∨ ∃ ys, itemsOf M d = some ys ∧ n = ys.length := by
  unfold lenD at h
  cases d with
  | str s =>
    dsimp only at h
    by_cases hl : s.length ≤ cap
    · rw [if_pos hl] at h; cases h; exact .inl ⟨s, rfl, hl, rfl⟩
    · rw [if_neg hl] at h; cases h
  | _ =>
    dsimp only at h
    cases e : itemsOf M _ with
    | none => rw [e] at h; cases h
    | some ys => rw [e] at h; cases h; exact .inr ⟨ys, rfl, rfl⟩
theorem onInts_inv {o : Option (List D)} {f : List Int → Out D} (h : VP C bs W μ H (onInts o f) Q) : ∃ ys is, o = some ys ∧ intsD ys = some is ∧ VP C bs W μ H (f is) Q := by
  unfold onInts at h
  cases o with
  | none => exact h.elim
  | some ys =>
    dsimp only at h
    cases e : intsD ys with
    | none => rw [e] at h; exact h.elim
    | some is => rw [e] at h; exact ⟨ys, is, rfl, e, h⟩
theorem onBools_inv {o : Option (List D)} {f : List Bool → Out D} (h : VP C bs W μ H (onBools o f) Q) : ∃ ys is, o = some ys ∧ boolsD ys = some is ∧ VP C bs W μ H (f is) Q := by
  unfold onBools at h
  cases o with
  | none => exact h.elim
  | some ys =>
    dsimp only at h
    cases e : boolsD ys with
    | none => rw [e] at h; exact h.elim
    | some is => rw [e] at h; exact ⟨ys, is, rfl, e, h⟩
theorem call_rF1 (hK : X.K = C.K) (hc : X.calm = true) (hu : X.A.units + 80 < cLine) (hg : X.A.guards = some []) (b : BI) {d : D} {vx : V} (R : Rep C bs μ M H) (r2 : RelD C μ H d vx) (p : VP C bs W μ H (semB1 b d M) Q)
    {pins : List (Addr × Obj)} {s : Shared} {σ : St} {us : List Value} (I : L2.Inv X pins σ H s) (r : Vals [vx] us) : wpAny (model X.prog X.w) X.A (call (fvB b) us) (EP X pins σ Q) X.xe s := by
  cases b with
  | repr =>
    obtain ⟨u, rfl, ru⟩ := Vals.one r
    exact call_repr1 hK hu hg R r2 p I ru
  | max2 => exact p.elim
  | min2 => exact p.elim
  | abs =>
    cases d with
    | int i =>
      cases relD_int.mp r2
      exact call_abs pins s σ H _ us Q I r ⟨i, rfl, p.at R (relD_int.mpr rfl)⟩
    | _ => exact p.elim
  | int =>
    cases d with
    | int i =>
      cases relD_int.mp r2
      exact call_int1 pins s σ H _ us Q I r (.inl ⟨i, rfl, p.at R (relD_int.mpr rfl)⟩)
    | bl i =>
      cases relD_bl.mp r2
      exact call_int1 pins s σ H _ us Q I r (.inr ⟨i, rfl, p.at R (relD_int.mpr rfl)⟩)
    | _ => exact p.elim
  | str =>
    cases d with
    | int i =>
      cases relD_int.mp r2
      dsimp only [semB1] at p
      by_cases hl : i.natAbs.log2 < 1920
      · rw [if_pos hl] at p
        exact call_str_int pins s σ H _ us Q I r ⟨i, rfl, hl, p.at R (relD_str.mpr (by simp))⟩
      · rw [if_neg hl] at p; exact p.elim
    | _ => exact p.elim
  | len =>
    dsimp only [semB1] at p
    cases e : lenD M d with
    | none => rw [e] at p; exact p.elim
    | some n =>
      rw [e] at p
      have hQ : Q (.int (n : Nat)) H := p.at R (relD_int.mpr rfl)
      rcases lenD_inv e with ⟨t, rfl, hl, rfl⟩ | ⟨ys, hi, rfl⟩
      · cases relD_str.mp r2
        exact call_len_str pins s σ H _ us Q I r ⟨_, rfl, by rw [len_arr, sizeLine_eq]; exact hl, by rw [len_arr]; exact hQ⟩
      · obtain ⟨a, vs, rfl, h1, z⟩ := items_inv R hi r2
        exact call_len_seq pins s σ H _ us Q I r ⟨a, vs, rfl, hK ▸ h1, by rw [← z.length]; exact hQ⟩
  | lst =>
    dsimp only [semB1] at p
    cases e : itemsOf M d with
    | none => rw [e] at p; exact p.elim
    | some ys =>
      rw [e] at p
      obtain ⟨a, vs, rfl, h1, z⟩ := items_inv R e r2
      exact call_list_of pins s σ H _ us Q I r ⟨a, vs, rfl, hK ▸ h1, fun l hl => VP.newL p R z hl⟩
  | tup =>
    dsimp only [semB1] at p
    cases e : itemsOf M d with
    | none => rw [e] at p; exact p.elim
    | some ys =>
      rw [e] at p
      obtain ⟨a, vs, rfl, h1, z⟩ := items_inv R e r2
      refine call_tuple_of pins s σ H _ us Q I r ⟨a, vs, rfl, ?_⟩
      rcases h1 with h1 | h1
      · exact .inl ⟨hK ▸ h1, fun l hl => VP.newT p R z hl⟩
      · exact .inr ⟨hK ▸ h1, p.at R (relD_tup.mpr ⟨a, vs, rfl, h1, z⟩)⟩
  | srt =>
    obtain ⟨ys, is, e, e2, p⟩ := onInts_inv p
    obtain ⟨a, vs, rfl, h1, z⟩ := list_inv R e r2
    refine cr_sortedI pins s σ H _ us Q I r ⟨a, is, rfl, hK ▸ (ints_rel e2 z ▸ h1), fun ns' l hp hw hl => ?_⟩
    rw [PySem.W.ksm_same (hp.trans (isort_perm is).symm) hw (isort_pw is)]
    exact VP.newL p R (relDs_int _) hl
  | all =>
    obtain ⟨ys, is, e, e2, p⟩ := onBools_inv p
    obtain ⟨a, vs, rfl, h1, z⟩ := list_inv R e r2
    exact cr_all hc pins s σ H _ us Q I r ⟨a, is, rfl, hK ▸ (bools_rel e2 z ▸ h1), p.at R (relD_bl.mpr rfl)⟩
  | any =>
    obtain ⟨ys, is, e, e2, p⟩ := onBools_inv p
    obtain ⟨a, vs, rfl, h1, z⟩ := list_inv R e r2
    exact cr_any hc pins s σ H _ us Q I r ⟨a, is, rfl, hK ▸ (bools_rel e2 z ▸ h1), p.at R (relD_bl.mpr rfl)⟩
  | sum =>
    obtain ⟨ys, is, e, e2, p⟩ := onInts_inv p
    obtain ⟨a, vs, rfl, h1, z⟩ := list_inv R e r2
    exact cr_sum hc pins s σ H _ us Q I r ⟨a, is, rfl, hK ▸ (ints_rel e2 z ▸ h1), p.at R (relD_int.mpr rfl)⟩
theorem call_rF (hK : X.K = C.K) (hc : X.calm = true) (hu : X.A.units + 80 < cLine) (hg : X.A.guards = some []) (b : BI) : CallR X (fvB b) (rF C b) := by
  intro pins s σ H xs us Q I r h
  obtain ⟨bs, W, μ, M, ds, R, rd, p⟩ := h
  cases ds with
  | nil => exact p.elim
  | cons d dr =>
    obtain ⟨v, vr, rfl, r1, rd⟩ := rd.inv
    cases dr with
    | nil =>
      cases rd.nil_inv
      exact call_rF1 hK hc hu hg b R r1 p I r
    | cons d2 dr =>
      obtain ⟨v2, vr, rfl, r2, rd⟩ := rd.inv
      cases dr with
      | cons _ _ => exact p.elim
      | nil =>
        cases rd.nil_inv
        have p' : VP C bs W μ H (semB2 b d d2 M) Q := p
        cases b with
        | max2 =>
          cases d with
          | int i =>
            cases d2 with
            | int j =>
              cases relD_int.mp r1
              cases relD_int.mp r2
              exact call_max2 hc pins s σ H _ us Q I r ⟨i, j, rfl, p'.at R (relD_int.mpr rfl)⟩
            | _ => exact p'.elim
          | _ => exact p'.elim
        | min2 =>
          cases d with
          | int i =>
            cases d2 with
            | int j =>
              cases relD_int.mp r1
              cases relD_int.mp r2
              exact call_min2 hc pins s σ H _ us Q I r ⟨i, j, rfl, p'.at R (relD_int.mpr rfl)⟩
            | _ => exact p'.elim
          | _ => exact p'.elim
        | _ => exact p'.elim
end Ev
end

section
/-! EvOp4: methods of built-in types, subscripts, slices, isinstance, truth. -/
namespace Ev
open PySem L2
variable {C : Cn} {μ μ' : List Addr} {H H' : Hp} {M M' : Sto} {bs : List Nat} {v : V} {X : Cx} {W : XK} {Q : VK} {b : Nat}
theorem lstAt_inv {o : D} {n : Nat} {xs : List D} (h : lstAt M o = some (n, xs)) : o = .loc n ∧ M[n]? = some (.lst xs) := by
  unfold lstAt at h
  cases o with
  | loc m =>
    dsimp only at h
    cases e : M[m]? with
    | none => rw [e] at h; cases h
    | some ob =>
      rw [e] at h
      cases ob with
      | lst ys => cases h; exact ⟨rfl, e⟩
      | _ => cases h
  | _ => cases h
theorem onL_inv {o : D} {f : Nat → List D → Out D} (h : VP C bs W μ H (onL M o f) Q) : ∃ n xs, o = .loc n ∧ M[n]? = some (.lst xs) ∧ VP C bs W μ H (f n xs) Q := by
  unfold onL at h
  cases e : lstAt M o with
  | none => rw [e] at h; exact h.elim
  | some p =>
    obtain ⟨n, xs⟩ := p
    rw [e] at h
    obtain ⟨e1, e2⟩ := lstAt_inv e
    exact ⟨n, xs, e1, e2, h⟩
theorem may_rel {n : Nat} {y : D} (h : may b n y = true) (hb : ∀ c ∈ bs, c ≤ b) (R : Rep C bs μ M H) {c : Nat} (hc : (c ∈ bs ∧ n < c) ∨ c = μ.length) (r : RelD C μ H y v) : RelD C (μ.take c) H y v := by
  rcases hc with ⟨h1, h2⟩ | rfl
  · unfold may at h
    rw [Bool.or_eq_true] at h
    rcases h with h | h
    · have := Nat.le_of_ble_eq_true h
      have := hb c h1
      omega
    · exact r.flat h
  · rw [List.take_length]; exact r
theorem mays_rel {n : Nat} {y : List D} {vs : List V} (h : mays b n y = true) (hb : ∀ c ∈ bs, c ≤ b) (R : Rep C bs μ M H) {c : Nat} (hc : (c ∈ bs ∧ n < c) ∨ c = μ.length) (r : RelDs C μ H y vs) : RelDs C (μ.take c) H y vs := by
  rcases hc with ⟨h1, h2⟩ | rfl
  · unfold mays at h
    rw [Bool.or_eq_true] at h
    rcases h with h | h
    · have := Nat.le_of_ble_eq_true h
      have := hb c h1
      omega
    · exact r.flat h
  · rw [List.take_length]; exact r
/-- a list in the store is stored anew -/
theorem Rep.putL (R : Rep C bs μ M H) {n : Nat} {a : Addr} {xs ys : List D} {vs ws : List V} (e : μ[n]? = some a) (q : M[n]? = some (.lst xs)) (h : H a = some (.lst vs))
    (f : ∀ c, (c ∈ bs ∧ n < c) ∨ c = μ.length → RelDs C (μ.take c) H xs vs → RelDs C (μ.take c) H ys ws) : Rep C bs μ (M.set n (.lst ys)) (upd H a (.lst ws)) := by
  refine R.put e fun c hc => ⟨ws, upd_same, ?_⟩
  obtain ⟨vs', h', z⟩ := R.ob n a _ e q c hc
  rw [h] at h'
  cases h'
  exact (f c hc z).mono (List.prefix_refl _) (.put (by rw [h]; trivial))
theorem mutL {a : Addr} {vs : List V} (h : H a = some (.lst vs)) : Mut (H a) := by rw [h]; trivial
def rM (C : Cn) (m : MT) : V → List V → Hp → VK → Prop := fun x xs H Q => ∃ bs W μ M b d ds, (∀ c ∈ bs, c ≤ b) ∧ Rep C bs μ M H ∧ RelD C μ H d x ∧ RelDs C μ H ds xs ∧ VP C bs W μ H (semM m d ds b M) Q
def idM : MT → String
  | .append => "list.append"
  | .extend => "list.extend"
  | .pop => "list.pop"
  | .popAt => "list.pop"
  | .insert => "list.insert"
  | .count => "list.count"
  | .index => "list.index"
  | .clear => "list.clear"
  | .join => "str.join"
def tyM : MT → String
  | .join => "str"
  | _ => "list"
theorem firstAt_inv {p : D → Bool} : ∀ {ys : List D} {n j : Nat}, firstAt p ys n = some j → n ≤ j ∧ (∃ y, ys[j - n]? = some y ∧ p y = true) ∧ ∀ m y, m < j - n → ys[m]? = some y → p y = false
  | [], n, j, h => by unfold firstAt at h; cases h
  | y :: ys, n, j, h => by
    unfold firstAt at h
    cases e : p y with
    | true =>
      rw [e] at h
      cases h
      exact ⟨Nat.le_refl _, ⟨y, by simp, e⟩, fun m y hm => by omega⟩
    | false =>
      rw [e] at h
      obtain ⟨h1, ⟨z, h2, h3⟩, h4⟩ := firstAt_inv (n := n + 1) h
      refine ⟨by omega, ⟨z, ?_, h3⟩, fun m w hm hw => ?_⟩
      · have : j - n = (j - (n + 1)) + 1 := by omega
        rw [this]
        simpa using h2
      · cases m with
        | zero => simp at hw; subst hw; exact e
        | succ m => exact h4 m w (by omega) (by simpa using hw)
theorem strJoin_D (S : List Nat) : ∀ ts : List (List Nat), Str.join (toS S) (ts.map toS) = toS (joinD S ts)
  | [] => rfl
  | [_] => rfl
  | p :: q :: r => by
    show toS p ++ toS S ++ Str.join (toS S) ((q :: r).map toS) = toS (p ++ S ++ joinD S (q :: r))
    rw [strJoin_D S (q :: r)]
    show ((⟨p.toArray⟩ : Str) ++ (⟨S.toArray⟩ : Str)) ++ (⟨(joinD S (q :: r)).toArray⟩ : Str) = _
    rw [app_str, app_str]
    rfl
theorem txtJoin_D (S : List Nat) (ts : List (List Nat)) : Txt.join (toS S) (ts.map toS) = toS (joinD S ts) := by
  rw [← strJoin_D]
  exact StrLaws.glued_eq_join _ _
theorem sum_lens (ts : List (List Nat)) : ((ts.map toS).map (·.length)).sum = (ts.map List.length).sum := by
  rw [List.map_map]
  congr 1
theorem mt_rM (hK : X.K = C.K) (m : MT) : MtR X (idM m) (rM C m) := by
  intro pins s σ H x xs v us Q I rx rxs h
  obtain ⟨bs, W, μ, M, b, d, ds, hb, R, r, rs, p⟩ := h
  cases ds with
  | nil =>
    cases rs.nil_inv
    have p : VP C bs W μ H (semM0 m d M) Q := p
    cases m with
    | pop =>
      obtain ⟨n, ys, rfl, e, p⟩ := onL_inv p
      obtain ⟨a, vs, rfl, ea, h, z⟩ := R.lst e r
      cases e2 : ys[ys.length - 1]? with
      | none => rw [e2] at p; exact p.elim
      | some y =>
        rw [e2] at p
        obtain ⟨w, hw, rw'⟩ := z.get e2
        have hl := z.length
        refine mt_pop pins s σ H _ _ v us Q I rx rxs ⟨a, vs, w, rfl, rfl, h, by rw [← hl]; exact hw, ?_⟩
        refine p.on (Le.put (List.mem_of_getElem? ea) (mutL h)) (R.putL (ws := vs.dropLast) ea e h fun c hc z' => ?_) (rw'.le (Le.put (List.mem_of_getElem? ea) (mutL h)))
        rw [List.dropLast_eq_take, List.dropLast_eq_take, hl]
        exact z'.take _
    | clear =>
      obtain ⟨n, ys, rfl, e, p⟩ := onL_inv p
      obtain ⟨a, vs, rfl, ea, h, z⟩ := R.lst e r
      exact mt_clear pins s σ H _ _ v us Q I rx rxs ⟨a, vs, rfl, rfl, h, p.on (Le.put (List.mem_of_getElem? ea) (mutL h)) (R.putL ea e h fun c hc z' => .nil) (relD_non.mpr rfl)⟩
    | _ => exact p.elim
  | cons d1 ds =>
    obtain ⟨w1, wr, rfl, r1, rs⟩ := rs.inv
    cases ds with
    | nil =>
      cases rs.nil_inv
      have p : VP C bs W μ H (semM1 m d d1 b M) Q := p
      cases m with
      | append =>
        obtain ⟨n, ys, rfl, e, p⟩ := onL_inv p
        obtain ⟨a, vs, rfl, ea, h, z⟩ := R.lst e r
        by_cases hl : ys.length < cap
        · rw [if_pos hl] at p
          cases hm : may b n d1 with
          | false => rw [hm] at p; exact p.elim
          | true =>
            rw [hm] at p
            refine mt_append pins s σ H _ _ v us Q I rx rxs ⟨a, vs, w1, rfl, rfl, h, by rw [← z.length, sizeLine_eq]; exact hl, ?_⟩
            exact p.on (Le.put (List.mem_of_getElem? ea) (mutL h)) (R.putL ea e h fun c hc z' => z'.app (.cons (may_rel hm hb R hc r1) .nil)) (relD_non.mpr rfl)
        · rw [if_neg hl] at p; exact p.elim
      | extend =>
        obtain ⟨n, ys, rfl, e, p⟩ := onL_inv p
        obtain ⟨n2, zs, rfl, e2, p⟩ := onL_inv p
        obtain ⟨a, vs, rfl, ea, h, z⟩ := R.lst e r
        obtain ⟨a2, ws, rfl, ea2, h2, z2⟩ := R.lst e2 r1
        by_cases hl : ys.length + zs.length ≤ cap
        · rw [if_pos hl] at p
          cases hm : mays b n zs with
          | false => rw [hm] at p; exact p.elim
          | true =>
            rw [hm] at p
            refine mt_extend pins s σ H _ _ v us Q I rx rxs ⟨a, a2, vs, ws, rfl, rfl, h, h2, by rw [← z.length, ← z2.length, sizeLine_eq]; exact hl, ?_⟩
            exact p.on (Le.put (List.mem_of_getElem? ea) (mutL h)) (R.putL ea e h fun c hc z' => z'.app (mays_rel hm hb R hc z2)) (relD_non.mpr rfl)
        · rw [if_neg hl] at p; exact p.elim
      | popAt =>
        cases d1 with
        | int i =>
          cases relD_int.mp r1
          obtain ⟨n, ys, rfl, e, p⟩ := onL_inv p
          obtain ⟨a, vs, rfl, ea, h, z⟩ := R.lst e r
          unfold popAt at p
          by_cases hl : -9223372036854775808 ≤ i ∧ i < 9223372036854775808
          · rw [if_pos hl] at p
            cases e2 : ixN ys.length i with
            | none => rw [e2] at p; exact p.elim
            | some k =>
              rw [e2] at p
              dsimp only at p
              cases e3 : ys[k]? with
              | none => rw [e3] at p; exact p.elim
              | some y =>
                rw [e3] at p
                obtain ⟨w, hw, rw'⟩ := z.get e3
                refine mt_popAt pins s σ H _ _ v us Q I rx rxs ⟨a, vs, i, k, w, rfl, rfl, h, by have := hl.1; omega, by have := hl.2; omega, by rw [← z.length]; exact (ixN_seq e2).1, hw, ?_⟩
                exact p.on (Le.put (List.mem_of_getElem? ea) (mutL h)) (R.putL ea e h fun c hc z' => z'.erase k) (rw'.le (Le.put (List.mem_of_getElem? ea) (mutL h)))
          · rw [if_neg hl] at p; exact p.elim
        | _ => exact p.elim
      | count =>
        cases d1 with
        | int i =>
          cases relD_int.mp r1
          obtain ⟨ys, is, e, e2, p⟩ := onInts_inv p
          obtain ⟨a, vs, rfl, h1, z⟩ := list_inv R e r
          exact mt_lcount pins s σ H _ _ v us Q I rx rxs ⟨a, is, i, rfl, rfl, hK ▸ (ints_rel e2 z ▸ h1), p.at R (relD_int.mpr rfl)⟩
        | _ => exact p.elim
      | index =>
        dsimp only [semM1] at p
        cases e : listOf M d with
        | none => rw [e] at p; exact p.elim
        | some ys =>
          rw [e] at p
          dsimp only at p
          cases ha : (atom d1 && ys.all atom) with
          | false => rw [ha] at p; exact p.elim
          | true =>
            rw [ha] at p
            dsimp only at p
            cases ef : firstAt (fun z => eqA z d1) ys 0 with
            | none => rw [ef] at p; exact p.elim
            | some j =>
              rw [ef] at p
              rw [Bool.and_eq_true] at ha
              obtain ⟨a, vs, rfl, h1, z⟩ := list_inv R e r
              obtain ⟨_, ⟨y, hy, hp⟩, hno⟩ := firstAt_inv ef
              rw [Nat.sub_zero] at hy hno
              obtain ⟨w, hw, rw'⟩ := z.get hy
              obtain ⟨f1, _⟩ := any_atoms ha.1 r1 ha.2 z
              have ay : ∀ {m : Nat} {y : D}, ys[m]? = some y → atom y = true := fun hm => List.all_eq_true.mp ha.2 _ (List.mem_of_getElem? hm)
              refine mt_index pins s σ H _ _ v us Q I rx rxs ⟨a, vs, w1, j, w, rfl, rfl, hK ▸ h1, atom_flatV ha.1 r1, f1, hw, ?_, fun m z' hm hz => ?_, p.at R (relD_int.mpr rfl)⟩
              · rw [eqA_eqV (ay hy) ha.1 rw' r1]; exact hp
              · have hlt : m < ys.length := by rw [z.length]; exact (List.getElem?_eq_some_iff.mp hz).1
                obtain ⟨w', hw', rr⟩ := z.get (List.getElem?_eq_getElem hlt)
                rw [hz] at hw'
                cases hw'
                rw [eqA_eqV (ay (List.getElem?_eq_getElem hlt)) ha.1 rr r1]
                exact hno m _ hm (List.getElem?_eq_getElem hlt)
      | join =>
        cases d with
        | str S =>
          cases relD_str.mp r
          dsimp only [semM1] at p
          cases e : itemsOf M d1 with
          | none => rw [e] at p; exact p.elim
          | some ys =>
            rw [e] at p
            dsimp only at p
            cases e2 : strsD ys with
            | none => rw [e2] at p; exact p.elim
            | some ts =>
              rw [e2] at p
              dsimp only at p
              by_cases hl : (ts.map List.length).sum + ts.length * S.length ≤ cap
              · rw [if_pos hl] at p
                obtain ⟨a, vs, rfl, h1, z⟩ := items_inv R e r1
                have hv := strs_rel e2 z
                subst hv
                refine mt_join pins s σ H _ _ v us Q I rx rxs ⟨toS S, a, ts.map toS, rfl, rfl, hK ▸ h1, ?_, ?_⟩
                · rw [sum_lens, List.length_map, show (toS S).length = S.length from len_arr S]
                  exact hl
                · rw [txtJoin_D]
                  exact p.at R (relD_str.mpr rfl)
              · rw [if_neg hl] at p; exact p.elim
        | _ => exact p.elim
      | _ => exact p.elim
    | cons d2 ds =>
      obtain ⟨w2, wr, rfl, r2, rs⟩ := rs.inv
      cases ds with
      | cons _ _ => exact p.elim
      | nil =>
        cases rs.nil_inv
        have p : VP C bs W μ H (semM2 m d d1 d2 b M) Q := p
        cases m with
        | insert =>
          cases d1 with
          | int i =>
            cases relD_int.mp r1
            obtain ⟨n, ys, rfl, e, p⟩ := onL_inv p
            obtain ⟨a, vs, rfl, ea, h, z⟩ := R.lst e r
            by_cases hl : ys.length < cap ∧ 0 ≤ i ∧ i < 9223372036854775808
            · rw [if_pos hl] at p
              cases hm : may b n d2 with
              | false => rw [hm] at p; exact p.elim
              | true =>
                rw [hm] at p
                refine mt_insert pins s σ H _ _ v us Q I rx rxs ⟨a, vs, i, w2, rfl, rfl, h, by rw [← z.length, sizeLine_eq]; exact hl.1, hl.2.1, by have := hl.2.2; omega, ?_⟩
                exact p.on (Le.put (List.mem_of_getElem? ea) (mutL h)) (R.putL ea e h fun c hc z' => ((z'.take _).app (.cons (may_rel hm hb R hc r2) .nil)).app (z'.drop _)) (relD_non.mpr rfl)
            · rw [if_neg hl] at p; exact p.elim
          | _ => exact p.elim
        | _ => exact p.elim
end Ev
end

section
/-! EvOp5: subscripts, slices, stores at a place, truth, isinstance. -/
namespace Ev
open PySem L2
variable {C : Cn} {μ μ' : List Addr} {H H' : Hp} {M M' : Sto} {bs : List Nat} {v : V} {X : Cx} {W : XK} {Q : VK} {b : Nat}
theorem atI_rel {xs : List D} {vs : List V} {i : Int} {d : D} (z : RelDs C μ H xs vs) (h : atI xs i = some d) : ∃ w, atI vs i = some w ∧ RelD C μ H d w := by
  unfold atI at *
  rw [← z.length]
  cases e : ixN xs.length i with
  | none => rw [e] at h; cases h
  | some k =>
    rw [e] at h
    exact z.get h
def rIxE (C : Cn) : R2 := fun x y H Q => ∃ bs μ M dx dy d, Rep C bs μ M H ∧ RelD C μ H dx x ∧ RelD C μ H dy y ∧ semIx M dx dy = some d ∧ ∀ v, RelD C μ H d v → Q v H
theorem ix_rIxE (hK : X.K = C.K) : IxR X (rIxE C) := by
  intro value slice pins s σ H x y v u Q I rx ry h hs
  obtain ⟨bs, μ, M, dx, dy, d, R, r1, r2, e, q⟩ := h
  refine ix_seq value slice pins s σ H x y v u Q I rx ry ?_ hs
  cases dy with
  | int i =>
    cases relD_int.mp r2
    have other : ∀ xs, itemsOf M dx = some xs → atI xs i = some d → rIx X.K x (.int i) H Q := fun xs hi e => by
      obtain ⟨a, vs, rfl, h1, z⟩ := items_inv R hi r1
      obtain ⟨w, hw, rw'⟩ := atI_rel z e
      rcases h1 with h1 | h1
      · exact .inl ⟨a, vs, i, w, rfl, rfl, hK ▸ h1, hw, q w rw'⟩
      · exact .inr (.inl ⟨a, vs, i, w, rfl, rfl, hK ▸ h1, hw, q w rw'⟩)
    cases dx with
    | str t =>
      cases relD_str.mp r1
      dsimp only [semIx] at e
      cases e1 : Nat.ble t.length cap with
      | false => rw [e1] at e; cases e
      | true =>
        cases e2 : atI t i with
        | none => rw [e1, e2] at e; cases e
        | some c =>
          rw [e1, e2] at e
          cases e
          exact .inr (.inr ⟨⟨t.toArray⟩, i, c, rfl, rfl, by rw [len_arr, sizeLine_eq]; exact Nat.le_of_ble_eq_true e1, by simpa using e2, q _ (relD_str.mpr rfl)⟩)
    | tup xs => exact other xs rfl e
    | frz xs => exact other xs rfl e
    | loc n =>
      dsimp only [semIx] at e
      cases e1 : itemsOf M (.loc n) with
      | none => rw [e1] at e; cases e
      | some xs => rw [e1] at e; exact other xs e1 e
    | _ => cases e
  | _ => cases e
theorem cut_rel {xs : List D} {vs : List V} (z : RelDs C μ H xs vs) (lo hi : Option Int) : RelDs C μ H (cutD xs lo hi) (cutV vs lo hi) := by
  unfold cutD cutV
  rw [z.length]
  exact (z.drop _).take _
theorem cutS_str (t : List Nat) (lo hi : Option Int) : cutS ⟨t.toArray⟩ lo hi = ⟨(cutD t lo hi).toArray⟩ := by
  unfold cutS cutD
  rw [len_arr]
def rSlE (C : Cn) : V → Option Int → Option Int → Hp → VK → Prop := fun x lo hi H Q => ∃ bs W μ M dx, Rep C bs μ M H ∧ RelD C μ H dx x ∧ VP C bs W μ H (semSl dx lo hi M) Q
theorem whole_cut {α : Type} {xs : List α} {lo hi : Option Int} (h : HT.sIx xs.length 0 lo = 0 ∧ HT.sIx xs.length xs.length hi = xs.length) : cutD xs lo hi = xs := by
  unfold cutD
  rw [h.1, h.2]
  simp
theorem sl_rSlE (hK : X.K = C.K) : SlR X (rSlE C) := by
  intro pins s σ H x v vl vu lo hi sl Q I rx hs pl pu h
  obtain ⟨bs, W, μ, M, dx, R, r1, p⟩ := h
  have lst : ∀ xs, listOf M dx = some xs → VP C bs W μ H (new (cutD xs lo hi) M) Q → ∃ T id, typeLookup (.type T) "__getitem__" = pure (some (.builtin id)) ∧ s.TypeIs v T ∧ wpAny (model X.prog X.w) X.A (getItem v (.ref sl)) (EP X pins σ Q) X.xe s := fun xs e p => by
    obtain ⟨a, vs, rfl, h1, z⟩ := list_inv R e r1
    exact sl_list pins s σ H _ v vl vu lo hi sl Q I rx hs pl pu ⟨a, vs, rfl, hK ▸ h1, fun t ht => p.newL R (cut_rel z lo hi) ht⟩
  cases dx with
  | str t =>
    cases relD_str.mp r1
    dsimp only [semSl] at p
    by_cases hl : t.length ≤ cap
    · rw [if_pos hl] at p
      exact sl_str pins s σ H _ v vl vu lo hi sl Q I rx hs pl pu ⟨⟨t.toArray⟩, rfl, by rw [len_arr, sizeLine_eq]; exact hl, by rw [cutS_str]; exact p.at R (relD_str.mpr rfl)⟩
    · rw [if_neg hl] at p; exact p.elim
  | tup xs =>
    obtain ⟨a, vs, rfl, h1, z⟩ := relD_tup.mp r1
    refine sl_tupA pins s σ H _ v vl vu lo hi sl Q I rx hs pl pu ⟨a, vs, rfl, hK ▸ h1, fun hw => ?_, fun _ t ht => ?_⟩
    · rw [← z.length] at hw
      have p' : VP C bs W μ H (.ok (.tup (cutD xs lo hi)) M) Q := p
      rw [whole_cut hw] at p'
      exact p'.at R (relD_tup.mpr ⟨a, vs, rfl, h1, z⟩)
    · exact VP.newT p R (cut_rel z lo hi) ht
  | frz xs => exact lst xs rfl p
  | loc n =>
    dsimp only [semSl] at p
    cases e : listOf M (.loc n) with
    | none => rw [e] at p; exact p.elim
    | some xs => rw [e] at p; exact lst xs e p
  | _ => exact p.elim
/-- a store at a place -/
def rSetE (C : Cn) : V → V → V → Hp → (Hp → Prop) → Prop := fun o i v H Q => ∃ bs μ M b do_ di dv M', (∀ c ∈ bs, c ≤ b) ∧ Rep C bs μ M H ∧ RelD C μ H do_ o ∧ RelD C μ H di i ∧ RelD C μ H dv v ∧ semSet do_ di dv b M = some M' ∧ ∀ H', Le μ H μ H' → Rep C bs μ M' H' → Q H'
theorem set_rSetE : PSet X (rSetE C) := by
  intro pins s σ H o i v ov iv u Q I ro ri rv h
  obtain ⟨bs, μ, M, b, do_, di, dv, M', hb, R, r1, r2, r3, e, q⟩ := h
  unfold semSet at e
  cases e1 : lstAt M do_ with
  | none => rw [e1] at e; cases e
  | some p =>
    obtain ⟨n, xs⟩ := p
    rw [e1] at e
    obtain ⟨rfl, e2⟩ := lstAt_inv e1
    cases di with
    | int k =>
      dsimp only at e
      cases e3 : ixN xs.length k with
      | none => rw [e3] at e; cases e
      | some j =>
        cases e4 : may b n dv with
        | false => rw [e3, e4] at e; cases e
        | true =>
          rw [e3, e4] at e
          cases e
          obtain ⟨a, vs, rfl, ea, h, z⟩ := R.lst e2 r1
          cases relD_int.mp r2
          refine set_list pins s σ H _ _ v ov iv u Q I ro ri rv ⟨a, vs, k, j, rfl, rfl, h, by rw [← z.length]; exact e3, ?_⟩
          exact q _ (Le.put (List.mem_of_getElem? ea) (mutL h)) (R.putL ea e2 h fun c hc z' => z'.set _ (may_rel e4 hb R hc r3))
    | _ => cases e
/-- truth -/
theorem truth_sound (hK : X.K = C.K) (R : Rep C bs μ M H) {d : D} {k : Bool} (e : truth M d = some k) (r : RelD C μ H d v) : TruV X.K v H k := by
  unfold truth at e
  have em : ∀ {xs : List D} {vs : List V}, RelDs C μ H xs vs → (!xs.isEmpty) = !vs.isEmpty := fun {xs vs} z => by
    cases xs with
    | nil => rw [z.nil_inv]; rfl
    | cons _ _ => obtain ⟨_, _, rfl, _⟩ := z.inv; rfl
  cases d with
  | non => cases e; rw [relD_non.mp r]; rfl
  | bl _ => cases e; rw [relD_bl.mp r]; rfl
  | int _ => cases e; rw [relD_int.mp r]; rfl
  | str s =>
    dsimp only at e
    cases hb : Nat.ble s.length cap with
    | false => rw [hb] at e; cases e
    | true =>
      rw [hb] at e
      cases e
      rw [relD_str.mp r]
      refine ⟨by rw [len_arr, sizeLine_eq]; exact Nat.le_of_ble_eq_true hb, ?_⟩
      rw [len_arr]
      cases s with
      | nil => rfl
      | cons a l => simp; omega
  | tup xs =>
    cases e
    obtain ⟨a, vs, rfl, h1, z⟩ := relD_tup.mp r
    exact .inr (.inl ⟨vs, hK ▸ h1, em z⟩)
  | frz xs =>
    cases e
    obtain ⟨a, vs, rfl, h1, z⟩ := relD_frz.mp r
    exact .inl ⟨vs, hK ▸ h1.sq, em z⟩
  | loc n =>
    dsimp only at e
    cases e2 : M[n]? with
    | none => rw [e2] at e; cases e
    | some o =>
      rw [e2] at e
      cases o with
      | lst xs =>
        cases e
        obtain ⟨a, vs, rfl, _, h1, z⟩ := R.lst e2 r
        exact .inl ⟨vs, .of h1, em z⟩
      | _ => cases e
  | fn _ => cases e
/-! ### isinstance -/
def nmT : Ty → Value
  | .non => .type "NoneType"
  | .bl => .type "bool"
  | .int => .type "int"
  | .str => .type "str"
  | .tup => .type "tuple"
  | .lst => .type "list"
  | .dct => .type "dict"
theorem ty_sound (hK : X.K = C.K) (R : Rep C bs μ M H) {d : D} {t : Ty} (e : tyD M d = some t) (r : RelD C μ H d v) : TyX X.K H v (nmT t) := by
  unfold tyD at e
  cases d with
  | non => cases e; rw [relD_non.mp r]; exact .base .non
  | bl b => cases e; rw [relD_bl.mp r]; exact .base (.bl b)
  | int b => cases e; rw [relD_int.mp r]; exact .base (.int b)
  | str b => cases e; rw [relD_str.mp r]; exact .base (.str _)
  | tup xs =>
    cases e
    obtain ⟨a, vs, rfl, h1, z⟩ := relD_tup.mp r
    rcases h1 with (h1 | ⟨o, h1⟩) | ⟨o, its, n, h1, h2, _⟩
    · exact .base (.tup h1)
    · exact .fTuple h1
    · exact .kTuple (hK ▸ h1) h2
  | frz xs =>
    cases e
    obtain ⟨a, vs, rfl, h1, z⟩ := relD_frz.mp r
    rcases h1 with ⟨o, h1⟩ | ⟨o, its, n, h1, h2, _⟩
    · exact .base (.frz h1)
    · exact .kList (hK ▸ h1) h2
  | loc n =>
    dsimp only at e
    cases e2 : M[n]? with
    | none => rw [e2] at e; cases e
    | some o =>
      rw [e2] at e
      cases o with
      | lst xs =>
        cases e
        obtain ⟨a, vs, rfl, _, h1, z⟩ := R.lst e2 r
        exact .base (.lst h1)
      | dct kvs =>
        cases e
        obtain ⟨a, ea, rfl⟩ := relD_loc.mp r
        obtain ⟨_, h1⟩ := R.at ea e2
        exact .base (.dK h1)
      | _ => cases e
  | fn _ => cases e
def nmC : CL → Option String
  | .int => some "int"
  | .bool => some "bool"
  | .str => some "str"
  | .tup => some "tuple"
  | .lst => some "list"
  | .dct => some "dict"
  | .own _ => none
theorem kit_sound (K : PySem.W.Frag) {t : Ty} {c : CL} {k : Bool} (e : isTy t c = some k) : ∃ n, nmC c = some n ∧ PySem.W.kitOne K (nmT t) (.type n) = some k := by
  cases c with
  | own _ => cases t <;> cases e
  | int => cases t <;> (cases e; exact ⟨_, rfl, by first | rfl | decide +kernel | kernel_rfl⟩)
  | bool => cases t <;> (cases e; exact ⟨_, rfl, by first | rfl | decide +kernel | kernel_rfl⟩)
  | str => cases t <;> (cases e; exact ⟨_, rfl, by first | rfl | decide +kernel | kernel_rfl⟩)
  | tup => cases t <;> (cases e; exact ⟨_, rfl, by first | rfl | decide +kernel | kernel_rfl⟩)
  | lst => cases t <;> (cases e; exact ⟨_, rfl, by first | rfl | decide +kernel | kernel_rfl⟩)
  | dct => cases t <;> (cases e; exact ⟨_, rfl, by first | rfl | decide +kernel | kernel_rfl⟩)
theorem kitAny_sound (K : PySem.W.Frag) {t : Ty} : ∀ {cs : List CL} {k : Bool}, isAny t cs = some k → ∃ ns : List String, cs.map nmC = ns.map some ∧ PySem.W.kitAny K (nmT t) (ns.map Value.type) = some k
  | [], k, e => by cases e; exact ⟨[], rfl, rfl⟩
  | c :: cs, k, e => by
    unfold isAny at e
    cases e1 : isTy t c with
    | none => rw [e1] at e; cases e
    | some a =>
      cases e2 : isAny t cs with
      | none => rw [e1, e2] at e; cases e
      | some b =>
        rw [e1, e2] at e
        cases e
        obtain ⟨n, h1, h2⟩ := kit_sound K e1
        obtain ⟨ns, h3, h4⟩ := kitAny_sound K e2
        refine ⟨n :: ns, by simp [h1, h3], ?_⟩
        show (match PySem.W.kitOne K (nmT t) (.type n) with
          | some true => some true
          | some false => PySem.W.kitAny K (nmT t) (ns.map Value.type)
          | none => none) = _
        rw [h2]
        cases a with
        | true => rfl
        | false => exact h4
end Ev
end

section
/-! EvIt: what loops walk. -/
namespace Ev
open PySem L2
variable {C : Cn} {μ μ' : List Addr} {H H' : Hp} {M M' : Sto} {bs : List Nat} {v : V} {X : Cx} {W : XK} {Q : VK} {b : Nat}
/-- an iterator of the layer walks what a source says -/
structure SrcJ (C : Cn) (μ0 : List Addr) (H0 : Hp) (s : Src) (J : It) : Prop where
  stop : ∀ bs μ M H i, Lo μ0 H0 μ H → Rep C bs μ M H → s.next M i = some none → J.stop i H
  go : ∀ bs μ M H i d, Lo μ0 H0 μ H → Rep C bs μ M H → s.next M i = some (some d) → J.go i H ∧ ∀ x H', J.yld i H x H' → Le μ H μ H' ∧ Rep C bs μ M H' ∧ RelD C μ H' d x
theorem get_none {α β : Type} {xs : List α} {ys : List β} {i : Nat} (h : xs.length = ys.length) (e : xs[i]? = none) : ys.length ≤ i := by
  have := List.getElem?_eq_none_iff.mp e
  omega
theorem lst_next {n i : Nat} {o : Option D} (h : (Src.lst n).next M i = some o) : ∃ xs, M[n]? = some (.lst xs) ∧ xs[i]? = o := by
  unfold Src.next at h
  cases e : M[n]? with
  | none => rw [e] at h; cases h
  | some ob =>
    rw [e] at h
    cases ob with
    | lst xs => cases h; exact ⟨xs, rfl, rfl⟩
    | _ => cases h
/-- a list source: at each turn it lies at a -/
structure LSrc (C : Cn) (μ0 : List Addr) (H0 : Hp) (s : Src) (a : Addr) : Prop where
  at_ : ∀ bs μ M H i o, Lo μ0 H0 μ H → Rep C bs μ M H → s.next M i = some o → ∃ xs vs, SqL C.K H a vs ∧ RelDs C μ H xs vs ∧ xs[i]? = o
theorem lsrc_ok (R : Rep C bs μ M H) {d : D} {s : Src} (e : lsrc M d = some s) (r : RelD C μ H d v) : ∃ a vs, v = .ref a ∧ SqL C.K H a vs ∧ LSrc C μ H s a := by
  unfold lsrc at e
  cases d with
  | frz xs =>
    cases e
    obtain ⟨a, vs, rfl, h1, z⟩ := relD_frz.mp r
    refine ⟨a, vs, rfl, h1.sq, ⟨fun bs' μ' M' H' i o l R' e => ?_⟩⟩
    unfold Src.next at e
    cases e
    exact ⟨xs, vs, (h1.stay l.st).sq, z.lo l, rfl⟩
  | loc n =>
    dsimp only at e
    cases e1 : M[n]? with
    | none => rw [e1] at e; cases e
    | some ob =>
      rw [e1] at e
      cases ob with
      | lst xs =>
        cases e
        obtain ⟨a, vs, rfl, ea, h1, z⟩ := R.lst e1 r
        refine ⟨a, vs, rfl, .of h1, ⟨fun bs' μ' M' H' i o l R' e => ?_⟩⟩
        obtain ⟨ys, e2, e3⟩ := lst_next e
        obtain ⟨ws, h2, z2⟩ := R'.at (pre_get l.pre ea) e2
        exact ⟨ys, ws, .of h2, z2, e3⟩
      | _ => cases e
  | _ => cases e
variable {pins : List (Addr × Obj)} {σ : St} {s : Shared}
/-- two readings of one list agree -/
theorem sqL_inj {K : PySem.W.Frag} {a : Addr} {vs ws : List V} (h : ∀ o, H a = some o → K.lookup a = none) (p : SqL K H a vs) (q : SqL K H a ws) : vs = ws := by
  rcases p with (p | ⟨o, p⟩) | ⟨o, its, n, p, _, _, p2, _, p3⟩
  · rcases q with (q | ⟨o', q⟩) | ⟨o', its', n', q, _⟩
    · rw [p] at q; cases q; rfl
    · rw [p] at q; cases q
    · rw [h _ p] at q; cases q
  · rcases q with (q | ⟨o', q⟩) | ⟨o', its', n', q, _⟩
    · rw [p] at q; cases q
    · rw [p] at q; cases q; rfl
    · rw [h _ p] at q; cases q
  · rcases q with (q | ⟨o', q⟩) | ⟨o', its', n', q, _, _, q2, _, q3⟩
    · rw [h _ q] at p; cases p
    · rw [h _ q] at p; cases p
    · rw [p] at q
      cases q
      rw [p2] at q2
      cases q2
      exact Vals.inj p3 q3
theorem LSrc.list {s : Src} {a : Addr} (L : LSrc C μ H s a) : SrcJ C μ H s (Itl C.K a) where
  stop := fun bs' μ' M' H' i l R' e => by
    obtain ⟨xs, vs, h1, z, e1⟩ := L.at_ _ _ _ _ _ _ l R' e
    exact ⟨vs, h1, get_none z.length e1⟩
  go := fun bs' μ' M' H' i d l R' e => by
    obtain ⟨xs, vs, h1, z, e1⟩ := L.at_ _ _ _ _ _ _ l R' e
    obtain ⟨w, hw, r⟩ := z.get e1
    refine ⟨⟨vs, w, h1, hw⟩, fun x H2 y => ?_⟩
    obtain ⟨e2, y⟩ := y
    subst e2
    have hx := y vs h1
    rw [hw] at hx
    cases hx
    exact ⟨.refl _ _, R', r⟩
theorem its_tup {xs : List D} {a : Addr} {vs : List V} (h : SqT C.K H a vs) (z : RelDs C μ H xs vs) : SrcJ C μ H (.its xs) (Itt C.K a) where
  stop := fun bs' μ' M' H' i l R' e => by
    unfold Src.next at e
    exact ⟨vs, sqT_stay h l.st, get_none z.length (by injection e)⟩
  go := fun bs' μ' M' H' i d l R' e => by
    unfold Src.next at e
    obtain ⟨w, hw, r⟩ := (z.lo l).get (i := i) (d := d) (by injection e)
    refine ⟨⟨vs, w, sqT_stay h l.st, hw⟩, fun x H2 y => ?_⟩
    obtain ⟨e2, y⟩ := y
    subst e2
    have hx := y vs (sqT_stay h l.st)
    rw [hw] at hx
    cases hx
    exact ⟨.refl _ _, R', r⟩
theorem rng_J (lo : Int) (n : Nat) : SrcJ C μ H (.rng lo n) (Itr lo n) where
  stop := fun bs' μ' M' H' i l R' e => by
    unfold Src.next at e
    by_cases hi : i < n
    · rw [if_pos hi] at e; cases e
    · show n ≤ i; omega
  go := fun bs' μ' M' H' i d l R' e => by
    unfold Src.next at e
    by_cases hi : i < n
    · rw [if_pos hi] at e
      cases e
      refine ⟨hi, fun x H2 y => ?_⟩
      obtain ⟨e2, y⟩ := y
      subst e2
      exact ⟨.refl _ _, R', relD_int.mpr y⟩
    · rw [if_neg hi] at e; cases e
theorem str_J (t : List Nat) : SrcJ C μ H (.str t) (Its ⟨t.toArray⟩) where
  stop := fun bs' μ' M' H' i l R' e => by
    unfold Src.next at e
    show t.toArray.size ≤ i
    cases q : t[i]? with
    | none => simpa using List.getElem?_eq_none_iff.mp q
    | some c => rw [q] at e; cases e
  go := fun bs' μ' M' H' i d l R' e => by
    unfold Src.next at e
    cases q : t[i]? with
    | none => rw [q] at e; cases e
    | some c =>
      rw [q] at e
      cases e
      refine ⟨by show i < t.toArray.size; simpa using (List.getElem?_eq_some_iff.mp q).1, fun x H2 y => ?_⟩
      obtain ⟨e2, c', hc, y⟩ := y
      subst e2
      have hc' : t[i]? = some c' := by simpa using hc
      rw [q] at hc'
      cases hc'
      exact ⟨.refl _ _, R', relD_str.mpr y⟩
theorem LSrc.enu {s : Src} {a : Addr} (L : LSrc C μ H s a) : SrcJ C μ H (.enu s) (Ite C.K a) where
  stop := fun bs' μ' M' H' i l R' e => by
    unfold Src.next at e
    cases q : s.next M' i with
    | none => rw [q] at e; cases e
    | some o =>
      rw [q] at e
      cases o with
      | some d => cases e
      | none =>
        obtain ⟨xs, vs, h1, z, e1⟩ := L.at_ _ _ _ _ _ _ l R' q
        exact ⟨vs, h1, get_none z.length e1⟩
  go := fun bs' μ' M' H' i d l R' e => by
    unfold Src.next at e
    cases q : s.next M' i with
    | none => rw [q] at e; cases e
    | some o =>
      rw [q] at e
      cases o with
      | none => cases e
      | some d =>
        cases e
        obtain ⟨xs, vs, h1, z, e1⟩ := L.at_ _ _ _ _ _ _ l R' q
        obtain ⟨w, hw, r⟩ := z.get e1
        refine ⟨⟨vs, w, h1, hw⟩, fun x H2 y => ?_⟩
        obtain ⟨T, w', ex, hT, e2, y⟩ := y
        subst e2 ex
        have hx := y vs h1
        rw [hw] at hx
        cases hx
        exact ⟨.new hT, R'.new hT, relD_tup.mpr ⟨T, _, rfl, .of upd_same, .cons (relD_int.mpr rfl) (.cons (r.le (.new hT)) .nil)⟩⟩
theorem zip_next {s t : Src} {i : Nat} {o : Option D} (h : (Src.zip s t).next M i = some o) : (∃ d e, s.next M i = some (some d) ∧ t.next M i = some (some e) ∧ o = some (.tup [d, e])) ∨
    (o = none ∧ ∃ p q, s.next M i = some p ∧ t.next M i = some q ∧ (p = none ∨ q = none)) := by
  unfold Src.next at h
  cases e1 : s.next M i with
  | none => rw [e1] at h; cases h
  | some p =>
    cases e2 : t.next M i with
    | none => rw [e1, e2] at h; cases p <;> cases h
    | some q =>
      rw [e1, e2] at h
      cases p with
      | none => cases h; exact .inr ⟨rfl, none, q, rfl, rfl, .inl rfl⟩
      | some d =>
        cases q with
        | none => cases h; exact .inr ⟨rfl, some d, none, rfl, rfl, .inr rfl⟩
        | some e => cases h; exact .inl ⟨d, e, rfl, rfl, rfl⟩
theorem LSrc.zip {s t : Src} {a a' : Addr} (L : LSrc C μ H s a) (L' : LSrc C μ H t a') : SrcJ C μ H (.zip s t) (Itz C.K a a') where
  stop := fun bs' μ' M' H' i l R' e => by
    rcases zip_next e with ⟨_, _, _, _, h⟩ | ⟨_, p, q, e1, e2, h⟩
    · cases h
    · obtain ⟨xs, vs, h1, z1, f1⟩ := L.at_ _ _ _ _ _ _ l R' e1
      obtain ⟨ys, ws, h2, z2, f2⟩ := L'.at_ _ _ _ _ _ _ l R' e2
      refine ⟨vs, ws, h1, h2, h.imp (fun z => ?_) fun z => ?_⟩
      · subst z; exact get_none z1.length f1
      · subst z; exact get_none z2.length f2
  go := fun bs' μ' M' H' i d l R' e => by
    rcases zip_next e with ⟨d1, d2, e1, e2, h⟩ | ⟨h, _⟩
    · cases h
      obtain ⟨xs, vs, h1, z1, f1⟩ := L.at_ _ _ _ _ _ _ l R' e1
      obtain ⟨ys, ws, h2, z2, f2⟩ := L'.at_ _ _ _ _ _ _ l R' e2
      obtain ⟨w1, hw1, r1⟩ := z1.get f1
      obtain ⟨w2, hw2, r2⟩ := z2.get f2
      refine ⟨⟨vs, ws, w1, w2, h1, h2, hw1, hw2⟩, fun x H2 y => ?_⟩
      obtain ⟨T, w1', w2', ex, hT, e3, y1, y2⟩ := y
      subst e3 ex
      have hx := y1 vs h1
      have hy := y2 ws h2
      rw [hw1] at hx
      rw [hw2] at hy
      cases hx
      cases hy
      exact ⟨.new hT, R'.new hT, relD_tup.mpr ⟨T, _, rfl, .of upd_same, .cons (r1.le (.new hT)) (.cons (r2.le (.new hT)) .nil)⟩⟩
    · cases h
theorem zip_tup {xs ys : List D} {a a' : Addr} {vs ws : List V} (h1 : SqT C.K H a vs) (z1 : RelDs C μ H xs vs) (h2 : SqT C.K H a' ws) (z2 : RelDs C μ H ys ws) : SrcJ C μ H (.zip (.its xs) (.its ys)) (RZ.ItzT C.K a a') where
  stop := fun bs' μ' M' H' i l R' e => by
    rcases zip_next e with ⟨_, _, _, _, h⟩ | ⟨_, p, q, e1, e2, h⟩
    · cases h
    · unfold Src.next at e1 e2
      refine ⟨vs, ws, sqT_stay h1 l.st, sqT_stay h2 l.st, h.imp (fun z => ?_) fun z => ?_⟩
      · subst z; exact get_none z1.length (by injection e1)
      · subst z; exact get_none z2.length (by injection e2)
  go := fun bs' μ' M' H' i d l R' e => by
    rcases zip_next e with ⟨d1, d2, e1, e2, h⟩ | ⟨h, _⟩
    · cases h
      unfold Src.next at e1 e2
      have h1' := sqT_stay h1 l.st
      have h2' := sqT_stay h2 l.st
      obtain ⟨w1, hw1, r1⟩ := (z1.lo l).get (i := i) (d := d1) (by injection e1)
      obtain ⟨w2, hw2, r2⟩ := (z2.lo l).get (i := i) (d := d2) (by injection e2)
      refine ⟨⟨vs, ws, w1, w2, h1', h2', hw1, hw2⟩, fun x H2 y => ?_⟩
      obtain ⟨T, w1', w2', ex, hT, e3, y1, y2⟩ := y
      subst e3 ex
      have hx := y1 vs h1'
      have hy := y2 ws h2'
      rw [hw1] at hx
      rw [hw2] at hy
      cases hx
      cases hy
      exact ⟨.new hT, R'.new hT, relD_tup.mpr ⟨T, _, rfl, .of upd_same, .cons (r1.le (.new hT)) (.cons (r2.le (.new hT)) .nil)⟩⟩
    · cases h
/-- iter(x) of a list, a tuple, a text -/
theorem iter_seq {tg : Expr} {R : It → Hp → Prop} {u : Value} {E : Value → Shared → Prop} (hK : X.K = C.K) (Rp : Rep C bs μ M H) {d : D} {sr : Src} (e : srcOf M d = some sr) (r : RelD C μ H d v) (I : L2.Inv X pins σ H s) (rv : RelV v u)
    (q : ∀ J, SrcJ C μ H sr J → R J H) : wpAny (model X.prog X.w) X.A (pyIter u) (PIE X pins σ tg R) E s := by
  have lst : ∀ {a : Addr} {vs : List V}, v = .ref a → SqL C.K H a vs → R (Itl C.K a) H → wpAny (model X.prog X.w) X.A (pyIter u) (PIE X pins σ tg R) E s := fun {a vs} ev h hR => by
    subst ev
    cases rv
    rw [← hK] at h hR
    obtain ⟨its, rr, p, _⟩ := I.list h
    exact wpAny_pyIter_list p.isList (pi_one (tk := s.toks) I _ (turn_list a _) ⟨_, Heap.get?_push_size _ rfl, rfl, rfl⟩ hR)
  cases d with
  | tup xs =>
    cases e
    obtain ⟨a, vs, rfl, h, z⟩ := relD_tup.mp r
    have hR := q _ (its_tup h z)
    cases rv
    rw [← hK] at h hR
    obtain ⟨its, rr, p, _⟩ := I.tuple h
    exact wpAny_pyIter_tuple (show s.heap.IsTuple a its.toArray from p) (pi_one (tk := s.toks) I _ (turn_tuple a _) ⟨_, Heap.get?_push_size _ rfl, rfl, rfl⟩ hR)
  | frz xs =>
    obtain ⟨a, vs, ev, h, L⟩ := lsrc_ok Rp (d := .frz xs) (s := sr) e r
    exact lst ev h (q _ L.list)
  | loc n =>
    obtain ⟨a, vs, ev, h, L⟩ := lsrc_ok Rp (d := .loc n) (s := sr) e r
    exact lst ev h (q _ L.list)
  | str t =>
    cases e
    cases relD_str.mp r
    obtain ⟨tk, rfl⟩ := rv
    have hR := q _ (str_J t)
    cases ha : (⟨t.toArray⟩ : Str).cps.all (· < 128)
    · exact wpAny_pyIter_wide ha (pi_one (tk := s.toks) I _ (turn_str _ _ tk "str_iterator" (.inr rfl)) ⟨_, Heap.get?_push_size _ rfl, rfl, rfl⟩ hR)
    · exact wpAny_pyIter_ascii ha (pi_one (tk := s.toks) I _ (turn_str _ _ tk "str_ascii_iterator" (.inl rfl)) ⟨_, Heap.get?_push_size _ rfl, rfl, rfl⟩ hR)
  | _ => cases e
end Ev
end

section
/-! EvRd: the readings: what the evaluator says of a text, as the layer wants it. -/
namespace Ev
open PySem L2
variable {C : Cn} {μ μ' μ1 : List Addr} {H H' H1 : Hp} {M M' M1 : Sto} {bs : List Nat} {v : V} {X : Cx} {W : XK} {b : Nat} {ρ : Enn} {σ : St} {cf : Cf}

structure At (C : Cn) (bs : List Nat) (b : Nat) (μ : List Addr) (ρ : Enn) (M : Sto) (σ : St) (H : Hp) : Prop where
  hb : ∀ c ∈ bs, c ≤ b
  R : Rep C bs μ M H
  re : RelEn C μ H ρ σ
theorem At.le (a : At C bs b μ ρ M σ H) (l : Le μ H μ1 H1) (R : Rep C bs μ1 M1 H1) : At C bs b μ1 ρ M1 σ H1 := ⟨a.hb, R, a.re.le l⟩
def tE (C : Cn) (W : XK) (cf : Cf) (e : E) : TE := fun σ H Q => ∃ bs b μ ρ M, At C bs b μ ρ M σ H ∧ VP C bs W μ H (evE cf b e ρ M) Q
def tL (C : Cn) (W : XK) (cf : Cf) (e : EL) : TA := fun σ H Q => ∃ bs b μ ρ M, At C bs b μ ρ M σ H ∧ Post C bs W μ H (evL cf b e ρ M) (fun ds μ' _ H' => ∀ vs, RelDs C μ' H' ds vs → Q vs H')
def tO (C : Cn) (W : XK) (cf : Cf) (e : EO) : TO := fun σ H Q => ∃ bs b μ ρ M, At C bs b μ ρ M σ H ∧ Post C bs W μ H (evO cf b e ρ M) (fun o _ _ H' => Q o H')
def tT (C : Cn) (W : XK) (cf : Cf) (e : T) : TT := fun σ H Q => ∃ bs b μ ρ M, At C bs b μ ρ M σ H ∧ Post C bs W μ H (evT cf b e ρ M) (fun k _ _ H' => Q k H')
def tI (C : Cn) (W : XK) (cf : Cf) (e : IT) : TI := fun σ H R => ∃ bs b μ ρ M, At C bs b μ ρ M σ H ∧ Post C bs W μ H (evI cf b e ρ M) (fun s μ' _ H' => ∀ J, SrcJ C μ' H' s J → R J H')

theorem E_then {β : Type} {e : E} {f : D → Sto → Out β} {Q0 : β → List Addr → Sto → Hp → Prop} {Q : VK} (a : At C bs b μ ρ M σ H) (h : Post C bs W μ H ((evE cf b e ρ M).bind f) Q0)
    (k : ∀ d v μ1 M1 H1, Le μ H μ1 H1 → At C bs b μ1 ρ M1 σ H1 → RelD C μ1 H1 d v → Post C bs W μ1 H1 (f d M1) Q0 → Q v H1) : tE C W cf e σ H Q :=
  ⟨bs, b, μ, ρ, M, a, (Post.bind h).imp fun d μ1 M1 H1 l R p v r => k d v μ1 M1 H1 l (a.le l R) r p⟩
theorem L_then {β : Type} {e : EL} {f : List D → Sto → Out β} {Q0 : β → List Addr → Sto → Hp → Prop} {Q : List V → Hp → Prop} (a : At C bs b μ ρ M σ H) (h : Post C bs W μ H ((evL cf b e ρ M).bind f) Q0)
    (k : ∀ d v μ1 M1 H1, Le μ H μ1 H1 → At C bs b μ1 ρ M1 σ H1 → RelDs C μ1 H1 d v → Post C bs W μ1 H1 (f d M1) Q0 → Q v H1) : tL C W cf e σ H Q :=
  ⟨bs, b, μ, ρ, M, a, (Post.bind h).imp fun d μ1 M1 H1 l R p v r => k d v μ1 M1 H1 l (a.le l R) r p⟩
theorem T_then {β : Type} {e : T} {f : Bool → Sto → Out β} {Q0 : β → List Addr → Sto → Hp → Prop} {Q : Bool → Hp → Prop} (a : At C bs b μ ρ M σ H) (h : Post C bs W μ H ((evT cf b e ρ M).bind f) Q0)
    (k : ∀ d μ1 M1 H1, Le μ H μ1 H1 → At C bs b μ1 ρ M1 σ H1 → Post C bs W μ1 H1 (f d M1) Q0 → Q d H1) : tT C W cf e σ H Q :=
  ⟨bs, b, μ, ρ, M, a, (Post.bind h).imp fun d μ1 M1 H1 l R p => k d μ1 M1 H1 l (a.le l R) p⟩
theorem O_then {β : Type} {e : EO} {f : Option Int → Sto → Out β} {Q0 : β → List Addr → Sto → Hp → Prop} {Q : Option Int → Hp → Prop} (a : At C bs b μ ρ M σ H) (h : Post C bs W μ H ((evO cf b e ρ M).bind f) Q0)
    (k : ∀ d μ1 M1 H1, Le μ H μ1 H1 → At C bs b μ1 ρ M1 σ H1 → Post C bs W μ1 H1 (f d M1) Q0 → Q d H1) : tO C W cf e σ H Q :=
  ⟨bs, b, μ, ρ, M, a, (Post.bind h).imp fun d μ1 M1 H1 l R p => k d μ1 M1 H1 l (a.le l R) p⟩
theorem I_then {β : Type} {e : IT} {f : Src → Sto → Out β} {Q0 : β → List Addr → Sto → Hp → Prop} {Q : It → Hp → Prop} (a : At C bs b μ ρ M σ H) (h : Post C bs W μ H ((evI cf b e ρ M).bind f) Q0)
    (k : ∀ d J μ1 M1 H1, Le μ H μ1 H1 → At C bs b μ1 ρ M1 σ H1 → SrcJ C μ1 H1 d J → Post C bs W μ1 H1 (f d M1) Q0 → Q J H1) : tI C W cf e σ H Q :=
  ⟨bs, b, μ, ρ, M, a, (Post.bind h).imp fun d μ1 M1 H1 l R p J r => k d J μ1 M1 H1 l (a.le l R) r p⟩
theorem O_of {α β : Type} {o : Option α} {f : α → Sto → Out β} {Q0 : β → List Addr → Sto → Hp → Prop} (h : Post C bs W μ H ((ofOpt o M).bind f) Q0) : ∃ a, o = some a ∧ Post C bs W μ H (f a M) Q0 := by
  cases o with
  | none => exact (show False from h).elim
  | some a => exact ⟨a, rfl, h⟩
theorem O_fin {α : Type} {o : Option α} {Q0 : α → List Addr → Sto → Hp → Prop} (h : Post C bs W μ H (ofOpt o M) Q0) : ∃ a, o = some a ∧ Post C bs W μ H (.ok a M) Q0 := by
  cases o with
  | none => exact (show False from h).elim
  | some a => exact ⟨a, rfl, h⟩

/-! ### expressions -/
variable {a a' a'' : E} {es : EL} {t t' : T} {Q : VK}
theorem var_rd {i : Nat} (h : tE C W cf (.var i) σ H Q) : tVar i σ H Q := by
  obtain ⟨bs, b, μ, ρ, M, z, p⟩ := h
  unfold evE at p
  cases e : ρ[i]? with
  | none => rw [e] at p; exact (show False from p).elim
  | some o =>
    rw [e] at p
    cases o with
    | none => exact (show False from p).elim
    | some d =>
      obtain ⟨v, e1, r⟩ := z.re.2 i d e
      exact ⟨v, e1, VP.at p z.R r⟩
theorem cst_rd {d : D} {v : V} (hr : ∀ μ H, RelD C μ H d v) (h : tE C W cf (.cst d) σ H Q) : tC v σ H Q := by
  obtain ⟨bs, b, μ, ρ, M, z, p⟩ := h
  unfold evE at p
  exact VP.at p z.R (hr _ _)
theorem glb_rd {g : Nat} {d : D} {v : V} (e : cf.gv g = some d) (hr : ∀ μ H, RelD C μ H d v) (h : tE C W cf (.glb g) σ H Q) : tC v σ H Q := by
  obtain ⟨bs, b, μ, ρ, M, z, p⟩ := h
  unfold evE at p
  rw [e] at p
  exact VP.at p z.R (hr _ _)
theorem neg_rd (h : tE C W cf (.un .neg a) σ H Q) : tUn (rU fun i => .int (-i)) (tE C W cf a) σ H Q := by
  obtain ⟨bs, b, μ, ρ, M, z, p⟩ := h
  unfold evE at p
  refine E_then z p fun d v μ1 M1 H1 l a1 r p1 => ?_
  cases d with
  | int i =>
    cases relD_int.mp r
    exact ⟨i, rfl, VP.at p1 a1.R (relD_int.mpr rfl)⟩
  | _ => exact (show False from p1).elim
theorem no_rd (hK : X.K = C.K) (h : tE C W cf (.no a) σ H Q) : tNotT X.K (tE C W cf a) σ H Q := by
  obtain ⟨bs, b, μ, ρ, M, z, p⟩ := h
  unfold evE at p
  refine E_then z p fun d v μ1 M1 H1 l a1 r p1 => ?_
  obtain ⟨k, e, p2⟩ := O_of p1
  exact ⟨k, truth_sound hK a1.R e r, VP.at p2 a1.R (relD_bl.mpr rfl)⟩
theorem bin_rd {o : B2} (h : tE C W cf (.bin o a a') σ H Q) : tOp (rB C o) (tE C W cf a) (tE C W cf a') σ H Q := by
  obtain ⟨bs, b, μ, ρ, M, z, p⟩ := h
  unfold evE at p
  exact E_then z p fun d v μ1 M1 H1 l a1 r p1 => E_then a1 p1 fun d' v' μ2 M2 H2 l2 a2 r2 p2 => ⟨bs, W, μ2, M2, d, d', a2.R, r.le l2, r2, p2⟩
theorem cmp_rd {o : C2} (h : tE C W cf (.cmp o a a') σ H Q) : tOp (rC C o) (tE C W cf a) (tE C W cf a') σ H Q := by
  obtain ⟨bs, b, μ, ρ, M, z, p⟩ := h
  unfold evE at p
  refine E_then z p fun d v μ1 M1 H1 l a1 r p1 => E_then a1 p1 fun d' v' μ2 M2 H2 l2 a2 r2 p2 => ?_
  obtain ⟨k, e, p3⟩ := O_of p2
  exact ⟨bs, μ2, M2, d, d', k, a2.R, r.le l2, r2, e, VP.at p3 a2.R (relD_bl.mpr rfl)⟩
theorem cmpT_rd {o : C2} {Q : Bool → Hp → Prop} (h : tT C W cf (.cmp o a a') σ H Q) : tTest (tOp (rC C o) (tE C W cf a) (tE C W cf a')) σ H Q := by
  obtain ⟨bs, b, μ, ρ, M, z, p⟩ := h
  unfold evT at p
  refine E_then z p fun d v μ1 M1 H1 l a1 r p1 => E_then a1 p1 fun d' v' μ2 M2 H2 l2 a2 r2 p2 => ?_
  obtain ⟨k, e, p3⟩ := O_fin p2
  exact ⟨bs, μ2, M2, d, d', k, a2.R, r.le l2, r2, e, k, rfl, Post.here p3 a2.R⟩
theorem chn_rd {o o' : C2} (h : tE C W cf (.chn o o' a a' a'') σ H Q) : tChain (rC C o) (rC C o') (tE C W cf a) (tE C W cf a') (tE C W cf a'') σ H Q := by
  obtain ⟨bs, b, μ, ρ, M, z, p⟩ := h
  unfold evE at p
  refine E_then z p fun d v μ1 M1 H1 l a1 r p1 => E_then a1 p1 fun d' v' μ2 M2 H2 l2 a2 r2 p2 => ?_
  obtain ⟨k, e, p3⟩ := O_of p2
  refine ⟨bs, μ2, M2, d, d', k, a2.R, r.le l2, r2, e, k, rfl, ?_⟩
  cases k with
  | false => exact VP.at p3 a2.R (relD_bl.mpr rfl)
  | true =>
    refine E_then a2 p3 fun d3 v3 μ3 M3 H3 l3 a3 r3 p4 => ?_
    obtain ⟨k, e', p5⟩ := O_of p4
    exact ⟨bs, μ3, M3, d', d3, k, a3.R, r2.le l3, r3, e', VP.at p5 a3.R (relD_bl.mpr rfl)⟩
theorem chnT_rd {o o' : C2} {Q : Bool → Hp → Prop} (h : tT C W cf (.chn o o' a a' a'') σ H Q) : tTest (tChain (rC C o) (rC C o') (tE C W cf a) (tE C W cf a') (tE C W cf a'')) σ H Q := by
  obtain ⟨bs, b, μ, ρ, M, z, p⟩ := h
  unfold evT at p
  refine E_then z p fun d v μ1 M1 H1 l a1 r p1 => E_then a1 p1 fun d' v' μ2 M2 H2 l2 a2 r2 p2 => ?_
  obtain ⟨k, e, p3⟩ := O_of p2
  refine ⟨bs, μ2, M2, d, d', k, a2.R, r.le l2, r2, e, k, rfl, ?_⟩
  cases k with
  | false => exact ⟨false, rfl, Post.here p3 a2.R⟩
  | true =>
    refine E_then a2 p3 fun d3 v3 μ3 M3 H3 l3 a3 r3 p4 => ?_
    obtain ⟨k, e', p5⟩ := O_fin p4
    exact ⟨bs, μ3, M3, d', d3, k, a3.R, r2.le l3, r3, e', k, rfl, Post.here p5 a3.R⟩
theorem and_rd (hK : X.K = C.K) (h : tE C W cf (.and a a') σ H Q) : tAndT X.K (tE C W cf a) (tE C W cf a') σ H Q := by
  obtain ⟨bs, b, μ, ρ, M, z, p⟩ := h
  unfold evE at p
  refine E_then z p fun d v μ1 M1 H1 l a1 r p1 => ?_
  obtain ⟨k, e, p2⟩ := O_of p1
  refine ⟨k, truth_sound hK a1.R e r, ?_⟩
  cases k with
  | true => exact ⟨bs, b, μ1, ρ, M1, a1, p2⟩
  | false => exact VP.at p2 a1.R r
theorem or_rd (hK : X.K = C.K) (h : tE C W cf (.or a a') σ H Q) : tOrT X.K (tE C W cf a) (tE C W cf a') σ H Q := by
  obtain ⟨bs, b, μ, ρ, M, z, p⟩ := h
  unfold evE at p
  refine E_then z p fun d v μ1 M1 H1 l a1 r p1 => ?_
  obtain ⟨k, e, p2⟩ := O_of p1
  refine ⟨k, truth_sound hK a1.R e r, ?_⟩
  cases k with
  | false => exact ⟨bs, b, μ1, ρ, M1, a1, p2⟩
  | true => exact VP.at p2 a1.R r
theorem ife_rd (h : tE C W cf (.ife t a a') σ H Q) : tIf (tT C W cf t) (tE C W cf a) (tE C W cf a') σ H Q := by
  obtain ⟨bs, b, μ, ρ, M, z, p⟩ := h
  unfold evE at p
  refine T_then z p fun k μ1 M1 H1 l a1 p1 => ?_
  cases k with
  | false => exact ⟨bs, b, μ1, ρ, M1, a1, p1⟩
  | true => exact ⟨bs, b, μ1, ρ, M1, a1, p1⟩
theorem tup_rd (h : tE C W cf (.tup es) σ H Q) : tTup (tL C W cf es) σ H Q := by
  obtain ⟨bs, b, μ, ρ, M, z, p⟩ := h
  unfold evE at p
  refine L_then z p fun d v μ1 M1 H1 l a1 r p1 => ?_
  by_cases hn : d.length ≤ cap
  · rw [if_pos hn] at p1
    exact ⟨by rw [← r.length]; exact hn, fun q hq => VP.newT p1 a1.R r hq⟩
  · rw [if_neg hn] at p1
    exact (show False from p1).elim
theorem lst_rd (h : tE C W cf (.lst es) σ H Q) : tLst (tL C W cf es) σ H Q := by
  obtain ⟨bs, b, μ, ρ, M, z, p⟩ := h
  unfold evE at p
  refine L_then z p fun d v μ1 M1 H1 l a1 r p1 => ?_
  by_cases hn : d.length ≤ cap
  · rw [if_pos hn] at p1
    exact ⟨by rw [← r.length]; exact hn, fun q hq => VP.newL p1 a1.R r hq⟩
  · rw [if_neg hn] at p1
    exact (show False from p1).elim
theorem dic0_rd (h : tE C W cf .dic0 σ H Q) : tDNewK σ H Q := by
  obtain ⟨bs, b, μ, ρ, M, z, p⟩ := h
  unfold evE at p
  intro q hq
  exact p.on (Le.add hq) (z.R.alloc hq ⟨rfl, upd_same⟩) (relD_loc.mpr ⟨q, by rw [← z.R.len]; simp, rfl⟩)
theorem ix_rd (h : tE C W cf (.ix a a') σ H Q) : tOp (rIxE C) (tE C W cf a) (tE C W cf a') σ H Q := by
  obtain ⟨bs, b, μ, ρ, M, z, p⟩ := h
  unfold evE at p
  refine E_then z p fun d v μ1 M1 H1 l a1 r p1 => E_then a1 p1 fun d' v' μ2 M2 H2 l2 a2 r2 p2 => ?_
  obtain ⟨k, e, p3⟩ := O_fin p2
  exact ⟨bs, μ2, M2, d, d', k, a2.R, r.le l2, r2, e, fun w rw' => VP.at p3 a2.R rw'⟩
theorem onone_rd {Q : Option Int → Hp → Prop} (h : tO C W cf .none σ H Q) : tNoPart σ H Q := by
  obtain ⟨bs, b, μ, ρ, M, z, p⟩ := h
  unfold evO at p
  exact Post.here p z.R
theorem osome_rd {Q : Option Int → Hp → Prop} (h : tO C W cf (.some a) σ H Q) : tPart (tE C W cf a) σ H Q := by
  obtain ⟨bs, b, μ, ρ, M, z, p⟩ := h
  unfold evO at p
  refine E_then z p fun d v μ1 M1 H1 l a1 r p1 => ?_
  cases d with
  | int i =>
    cases relD_int.mp r
    exact ⟨i, rfl, Post.here p1 a1.R⟩
  | _ => exact (show False from p1).elim
theorem sl_rd {lo hi : EO} (h : tE C W cf (.sl a lo hi) σ H Q) : tSl (rSlE C) (tE C W cf a) (tO C W cf lo) (tO C W cf hi) σ H Q := by
  obtain ⟨bs, b, μ, ρ, M, z, p⟩ := h
  unfold evE at p
  exact E_then z p fun d v μ1 M1 H1 l a1 r p1 => O_then a1 p1 fun o μ2 M2 H2 l2 a2 p2 => O_then a2 p2 fun o' μ3 M3 H3 l3 a3 p3 => ⟨bs, W, μ3, M3, d, a3.R, (r.le l2).le l3, p3⟩
theorem rev_rd (hK : X.K = C.K) (h : tE C W cf (.rev a) σ H Q) : tRevL X.K (tE C W cf a) σ H Q := by
  obtain ⟨bs, b, μ, ρ, M, z, p⟩ := h
  unfold evE at p
  refine E_then z p fun d v μ1 M1 H1 l a1 r p1 => ?_
  unfold semRev at p1
  cases e : listOf M1 d with
  | none => rw [e] at p1; exact (show False from p1).elim
  | some xs =>
    rw [e] at p1
    obtain ⟨ad, vs, rfl, h1, rs⟩ := list_inv a1.R e r
    exact ⟨ad, vs, rfl, by rw [hK]; exact h1, fun q hq => VP.newL p1 a1.R rs.rev hq⟩
theorem bi_rd {k : BI} (h : tE C W cf (.bi k es) σ H Q) : tCB (rF C k) (tL C W cf es) σ H Q := by
  obtain ⟨bs, b, μ, ρ, M, z, p⟩ := h
  unfold evE at p
  exact L_then z p fun d v μ1 M1 H1 l a1 r p1 => ⟨bs, W, μ1, M1, d, a1.R, r, p1⟩
theorem rcv_ty (hK : X.K = C.K) {m : MT} {d : D} (R : Rep C bs μ M H) (e : rcv m M d = true) (r : RelD C μ H d v) : tyV X.K (tyM m) v H := by
  have lst : (listOf M d).isSome = true → tyV X.K "list" v H := fun e => by
    obtain ⟨xs, e⟩ := Option.isSome_iff_exists.mp e
    obtain ⟨ad, vs, rfl, h1, _⟩ := list_inv R e r
    exact .inl ⟨rfl, vs, by rw [hK]; exact h1⟩
  cases m with
  | join =>
    cases d with
    | str s => cases relD_str.mp r; exact rfl
    | _ => cases e
  | _ => exact lst e
theorem mth_rd (hK : X.K = C.K) {m : MT} (h : tE C W cf (.mth m a es) σ H Q) : tBM X.K (tyM m) (rM C m) (tE C W cf a) (tL C W cf es) σ H Q := by
  obtain ⟨bs, b, μ, ρ, M, z, p⟩ := h
  unfold evE at p
  refine E_then z p fun d v μ1 M1 H1 l a1 r p1 => ?_
  cases e : rcv m M1 d with
  | false => rw [e] at p1; exact (show False from p1).elim
  | true =>
    rw [e] at p1
    exact ⟨rcv_ty hK a1.R e r, L_then a1 p1 fun ds vs μ2 M2 H2 l2 a2 rs p2 => ⟨bs, W, μ2, M2, b, d, ds, a2.hb, a2.R, r.le l2, rs, p2⟩⟩
theorem lnil_rd {Q : List V → Hp → Prop} (h : tL C W cf .nil σ H Q) : tNil σ H Q := by
  obtain ⟨bs, b, μ, ρ, M, z, p⟩ := h
  unfold evL at p
  exact Post.here p z.R _ .nil
theorem lcons_rd {Q : List V → Hp → Prop} (h : tL C W cf (.cons a es) σ H Q) : tCons (tE C W cf a) (tL C W cf es) σ H Q := by
  obtain ⟨bs, b, μ, ρ, M, z, p⟩ := h
  unfold evL at p
  exact E_then z p fun d v μ1 M1 H1 l a1 r p1 => L_then a1 p1 fun ds vs μ2 M2 H2 l2 a2 rs p2 => Post.here p2 a2.R _ (.cons (r.le l2) rs)
/-! ### isinstance -/
theorem isi_rd {cs : List CL} (hK : X.K = C.K) (h : tE C W cf (.isi a cs) σ H Q) : tE C W cf a σ H fun v H1 => ∃ t k, isAny t cs = some k ∧ TyX X.K H1 v (nmT t) ∧ (∀ p o, H1 p = none → TyX X.K (upd H1 p o) v (nmT t) ∧ Q (.bl k) (upd H1 p o)) ∧ Q (.bl k) H1 := by
  obtain ⟨bs, b, μ, ρ, M, z, p⟩ := h
  unfold evE at p
  refine E_then z p fun d v μ1 M1 H1 l a1 r p1 => ?_
  cases e : tyD M1 d with
  | none => rw [e] at p1; exact (show False from p1).elim
  | some t =>
    rw [e] at p1
    obtain ⟨k, e2, p2⟩ := O_of p1
    exact ⟨t, k, e2, ty_sound hK a1.R e r, fun q o hq => ⟨ty_sound hK (a1.R.new hq) e (r.le (.new hq)), VP.on p2 (.new hq) (a1.R.new hq) (relD_bl.mpr rfl)⟩, VP.at p2 a1.R (relD_bl.mpr rfl)⟩
/-! ### list(range(..)) -/
theorem rg_ok {i j : Int} (hi : big i = true) (hj : big j = true) (hn : (j - i).toNat ≤ cap) : RgOk i j := by
  unfold big at hi hj
  rw [Bool.and_eq_true, decide_eq_true_eq, decide_eq_true_eq] at hi hj
  unfold cap at hn
  exact ⟨by omega, by omega, by omega, by omega, by omega⟩
theorem rg_rel {i j : Int} : RelDs C μ H ((List.range (j - i).toNat).map fun k => D.int (i + (k : Nat))) (rgV i j) := by
  unfold rgV
  have z := relDs_int (C := C) (μ := μ) (H := H) ((List.range (j - i).toNat).map fun k => i + ((k : Nat) : Int))
  rw [List.map_map, List.map_map] at z
  exact z
theorem lrng_fin {ds : List D} (R : Rep C bs μ M H) (p : VP C bs W μ H (match rngOf ds with
    | some (.rng lo n) => if n ≤ cap then new ((List.range n).map fun i => D.int (lo + (i : Nat))) M else .no
    | _ => .no) Q) : ∃ i j, (ds = [.int i, .int j] ∨ (i = 0 ∧ ds = [.int j])) ∧ RgOk i j ∧ ∀ q, H q = none → Q (.ref q) (upd H q (.lst (rgV i j))) := by
  have key : ∀ i j : Int, big i = true → big j = true → VP C bs W μ H (if (j - i).toNat ≤ cap then new ((List.range (j - i).toNat).map fun k => D.int (i + (k : Nat))) M else .no) Q → RgOk i j ∧ ∀ q, H q = none → Q (.ref q) (upd H q (.lst (rgV i j))) := fun i j hi hj p => by
    by_cases hn : (j - i).toNat ≤ cap
    · rw [if_pos hn] at p
      exact ⟨rg_ok hi hj hn, fun q hq => VP.newL p R rg_rel hq⟩
    · rw [if_neg hn] at p
      exact (show False from p).elim
  match ds, p with
  | [.int j], p =>
    dsimp only [rngOf] at p
    cases e : big j with
    | false => rw [e] at p; exact (show False from p).elim
    | true =>
      rw [e] at p
      refine ⟨0, j, .inr ⟨rfl, rfl⟩, key 0 j (by decide) e ?_⟩
      have e0 : (j - 0).toNat = j.toNat := by rw [Int.sub_zero]
      rw [e0]
      exact p
  | [.int i, .int j], p =>
    dsimp only [rngOf] at p
    cases e : big i with
    | false => rw [e] at p; exact (show False from p).elim
    | true =>
      cases e' : big j with
      | false => rw [e, e'] at p; exact (show False from p).elim
      | true =>
        rw [e, e'] at p
        exact ⟨i, j, .inl rfl, key i j e e' p⟩
  | [], p => exact (show False from p).elim
  | .non :: _, p => exact (show False from p).elim
  | .bl _ :: _, p => exact (show False from p).elim
  | .str _ :: _, p => exact (show False from p).elim
  | .tup _ :: _, p => exact (show False from p).elim
  | .frz _ :: _, p => exact (show False from p).elim
  | .loc _ :: _, p => exact (show False from p).elim
  | .fn _ :: _, p => exact (show False from p).elim
  | .int _ :: .non :: _, p => exact (show False from p).elim
  | .int _ :: .bl _ :: _, p => exact (show False from p).elim
  | .int _ :: .str _ :: _, p => exact (show False from p).elim
  | .int _ :: .tup _ :: _, p => exact (show False from p).elim
  | .int _ :: .frz _ :: _, p => exact (show False from p).elim
  | .int _ :: .loc _ :: _, p => exact (show False from p).elim
  | .int _ :: .fn _ :: _, p => exact (show False from p).elim
  | .int _ :: .int _ :: _ :: _, p => exact (show False from p).elim
theorem lrng1_rd (h : tE C W cf (.lrng (.cons a .nil)) σ H Q) : tLstRg (tRg1 (tE C W cf a)) σ H Q := by
  obtain ⟨bs, b, μ, ρ, M, z, p⟩ := h
  unfold evE at p
  have p' : Post C bs W μ H ((evE cf b a ρ M).bind fun x M => (evL cf b .nil ρ M).bind fun xs M => (fun xs M => match rngOf xs with
    | some (.rng lo n) => if n ≤ cap then new ((List.range n).map fun i => D.int (lo + (i : Nat))) M else .no
    | _ => .no) (x :: xs) M) (fun d μ' _ H' => ∀ v, RelD C μ' H' d v → Q v H') := by
    unfold evL at p
    cases e : evE cf b a ρ M with
    | no => rw [e] at p; exact p
    | ok x M' =>
      rw [e] at p
      unfold evL at p ⊢
      exact p
    | ex x M' => rw [e] at p; exact p
  refine E_then z p' fun d v μ1 M1 H1 l a1 r p1 => ?_
  unfold evL at p1
  obtain ⟨i, j, hd, ok, q⟩ := lrng_fin (ds := [d]) a1.R p1
  rcases hd with hd | ⟨rfl, hd⟩
  · cases hd
  · cases hd
    cases relD_int.mp r
    exact ⟨j, rfl, ok, q⟩
theorem lrng2_rd (h : tE C W cf (.lrng (.cons a (.cons a' .nil))) σ H Q) : tLstRg (tRg2 (tE C W cf a) (tE C W cf a')) σ H Q := by
  obtain ⟨bs, b, μ, ρ, M, z, p⟩ := h
  unfold evE at p
  have p' : Post C bs W μ H ((evE cf b a ρ M).bind fun x M => (evE cf b a' ρ M).bind fun y M => (fun xs M => match rngOf xs with
    | some (.rng lo n) => if n ≤ cap then new ((List.range n).map fun i => D.int (lo + (i : Nat))) M else .no
    | _ => .no) [x, y] M) (fun d μ' _ H' => ∀ v, RelD C μ' H' d v → Q v H') := by
    unfold evL at p
    cases e : evE cf b a ρ M with
    | no => rw [e] at p; exact p
    | ok x M' =>
      rw [e] at p
      unfold evL at p
      show Post C bs W μ H ((evE cf b a' ρ M').bind _) _
      cases e2 : evE cf b a' ρ M' with
      | no => simp only [bind_ok] at p; rw [e2] at p; exact p
      | ok y M'' => simp only [bind_ok] at p; rw [e2] at p; unfold evL at p; exact p
      | ex x M'' => simp only [bind_ok] at p; rw [e2] at p; exact p
    | ex x M' => rw [e] at p; exact p
  refine E_then z p' fun d v μ1 M1 H1 l a1 r p1 => E_then a1 p1 fun d' v' μ2 M2 H2 l2 a2 r2 p2 => ?_
  obtain ⟨i, j, hd, ok, q⟩ := lrng_fin (ds := [d, d']) a2.R p2
  rcases hd with hd | ⟨rfl, hd⟩
  · cases hd
    cases relD_int.mp r
    cases relD_int.mp r2
    exact ⟨i, j, rfl, rfl, ok, q⟩
  · cases hd
/-! ### tests -/
variable {QB : Bool → Hp → Prop}
theorem val_rd (hK : X.K = C.K) (h : tT C W cf (.val a) σ H QB) : tE C W cf a σ H fun x H' => ∃ k, TruV X.K x H' k ∧ QB k H' := by
  obtain ⟨bs, b, μ, ρ, M, z, p⟩ := h
  unfold evT at p
  refine E_then z p fun d v μ1 M1 H1 l a1 r p1 => ?_
  obtain ⟨k, e, p2⟩ := O_fin p1
  exact ⟨k, truth_sound hK a1.R e r, Post.here p2 a1.R⟩
theorem tnot_rd (h : tT C W cf (.not t) σ H QB) : tNot (tT C W cf t) σ H QB := by
  obtain ⟨bs, b, μ, ρ, M, z, p⟩ := h
  unfold evT at p
  exact T_then z p fun d μ1 M1 H1 l a1 p1 => Post.here p1 a1.R
theorem tand_rd (h : tT C W cf (.and t t') σ H QB) : tAnd (tT C W cf t) (tT C W cf t') σ H QB := by
  obtain ⟨bs, b, μ, ρ, M, z, p⟩ := h
  unfold evT at p
  refine T_then z p fun k μ1 M1 H1 l a1 p1 => ?_
  cases k with
  | true => exact ⟨bs, b, μ1, ρ, M1, a1, p1⟩
  | false => exact Post.here p1 a1.R
theorem tor_rd (h : tT C W cf (.or t t') σ H QB) : tOr (tT C W cf t) (tT C W cf t') σ H QB := by
  obtain ⟨bs, b, μ, ρ, M, z, p⟩ := h
  unfold evT at p
  refine T_then z p fun k μ1 M1 H1 l a1 p1 => ?_
  cases k with
  | false => exact ⟨bs, b, μ1, ρ, M1, a1, p1⟩
  | true => exact Post.here p1 a1.R
theorem yes_rd (h : tT C W cf .yes σ H QB) : tYes σ H QB := by
  obtain ⟨bs, b, μ, ρ, M, z, p⟩ := h
  unfold evT at p
  exact Post.here p z.R
end Ev
end

section
/-! EvRd2: the readings of targets and of comprehensions. -/
namespace Ev
open PySem L2
variable {C : Cn} {μ μ' μ1 : List Addr} {H H' H1 : Hp} {M M' M1 : Sto} {bs : List Nat} {v : V} {X : Cx} {W : XK} {b : Nat} {ρ : Enn} {σ : St} {cf : Cf}

/-! ### targets -/
mutual
def gsl : G → List Nat
  | .nam i => [i]
  | .tup gs => gsls gs
  | .sub _ _ => []
def gsls : GL → List Nat
  | .nil => []
  | .cons g gs => gsl g ++ gsls gs
end
def glen : GL → Nat
  | .nil => 0
  | .cons _ gs => glen gs + 1
/-- only these slots differ -/
def Chg (l : List Nat) (σ σ' : St) : Prop := ∀ vs, (∀ i ∈ l, i ∈ vs) → L2.wipe σ' vs = L2.wipe σ vs
theorem wipe_set (σ : St) (i : Nat) (x : Option V) : ∀ vs : List Nat, L2.wipe (σ.set i x) vs = if i ∈ vs then L2.wipe σ vs else (L2.wipe σ vs).set i x
  | [] => by simp [L2.wipe]
  | w :: vs => by
    unfold L2.wipe
    rw [wipe_set σ i x vs]
    by_cases h : i ∈ vs
    · simp [h]
    · by_cases e : i = w
      · subst e
        rw [if_neg h, if_pos List.mem_cons_self, List.set_set]
      · have n : i ∉ w :: vs := fun z => (List.mem_cons.mp z).elim e h
        rw [if_neg h, if_neg n, List.set_comm _ _ e]
theorem wipe_in {σ : St} {i : Nat} {x : Option V} {vs : List Nat} (h : i ∈ vs) : L2.wipe (σ.set i x) vs = L2.wipe σ vs := by rw [wipe_set, if_pos h]
theorem wipe_wipe (σ : St) (us : List Nat) : ∀ vs : List Nat, (∀ i ∈ us, i ∈ vs) → L2.wipe (L2.wipe σ us) vs = L2.wipe σ vs := by
  induction us with
  | nil => intro vs _; rfl
  | cons u us ih =>
    intro vs h
    show L2.wipe ((L2.wipe σ us).set u none) vs = _
    rw [wipe_in (h u List.mem_cons_self)]
    exact ih vs fun i hi => h i (List.mem_cons_of_mem _ hi)
theorem Chg.refl (l : List Nat) (σ : St) : Chg l σ σ := fun _ _ => rfl
theorem Chg.trans {l l' : List Nat} {σ1 σ2 σ3 : St} (a : Chg l σ1 σ2) (c : Chg l' σ2 σ3) : Chg (l ++ l') σ1 σ3 := fun vs h => (c vs fun i hi => h i (List.mem_append_right _ hi)).trans (a vs fun i hi => h i (List.mem_append_left _ hi))
def tG (C : Cn) (cf : Cf) (g : G) : TG := fun v σ H Q => ∃ bs b μ ρ M d ρ' M', At C bs b μ ρ M σ H ∧ RelD C μ H d v ∧ evG cf b g d ρ M = some (ρ', M') ∧ ∀ μ' H' σ', Le μ H μ' H' → At C bs b μ' ρ' M' σ' H' → Chg (gsl g) σ σ' → Q σ' H'
def tGs (C : Cn) (cf : Cf) (g : GL) : TGs := fun vs σ H Q => ∃ bs b μ ρ M ds ρ' M', At C bs b μ ρ M σ H ∧ RelDs C μ H ds vs ∧ evGs cf b g ds ρ M = some (ρ', M') ∧ ∀ μ' H' σ', Le μ H μ' H' → At C bs b μ' ρ' M' σ' H' → Chg (gsls g) σ σ' → Q σ' H'
variable {Q : St → Hp → Prop} {g : G} {gs : GL}
theorem gnam_rd {i : Nat} (h : tG C cf (.nam i) v σ H Q) : gName i v σ H Q := by
  obtain ⟨bs, b, μ, ρ, M, d, ρ', M', z, r, e, k⟩ := h
  unfold evG at e
  cases e
  exact k μ H _ (.refl _ _) ⟨z.hb, z.R, z.re.set r⟩ fun vs hv => wipe_in (hv i (by unfold gsl; simp))
theorem evGs_len : ∀ {gs : GL} {ds : List D} {ρ : Enn} {M : Sto} {r : Enn × Sto}, evGs cf b gs ds ρ M = some r → ds.length = glen gs
  | .nil, ds, ρ, M, r, h => by
    unfold evGs at h
    cases ds with
    | nil => rfl
    | cons _ _ => cases h
  | .cons g gs, ds, ρ, M, r, h => by
    unfold evGs at h
    cases ds with
    | nil => cases h
    | cons d ds =>
      dsimp only at h
      cases e : evG cf b g d ρ M with
      | none => rw [e] at h; cases h
      | some p =>
        rw [e] at h
        exact congrArg Nat.succ (evGs_len h)
theorem gtup_rd (h : tG C cf (.tup gs) v σ H Q) : gTup C.K (glen gs) (tGs C cf gs) v σ H Q := by
  obtain ⟨bs, b, μ, ρ, M, d, ρ', M', z, r, e, k⟩ := h
  unfold evG at e
  cases d with
  | tup ds =>
    obtain ⟨a, vs, rfl, h1, rs⟩ := relD_tup.mp r
    exact ⟨a, vs, rfl, h1, by rw [← rs.length]; exact evGs_len e, bs, b, μ, ρ, M, ds, ρ', M', z, rs, e, fun μ' H' σ' l a' c => k μ' H' σ' l a' (by unfold gsl; exact c)⟩
  | _ => cases e
theorem gnil_rd {vs : List V} (h : tGs C cf .nil vs σ H Q) : gNil vs σ H Q := by
  obtain ⟨bs, b, μ, ρ, M, ds, ρ', M', z, r, e, k⟩ := h
  unfold evGs at e
  cases ds with
  | nil => cases e; exact ⟨r.nil_inv, k μ H σ (.refl _ _) z (.refl _ _)⟩
  | cons _ _ => cases e
theorem gcons_rd {vs : List V} (h : tGs C cf (.cons g gs) vs σ H Q) : gCons (tG C cf g) (tGs C cf gs) vs σ H Q := by
  obtain ⟨bs, b, μ, ρ, M, ds, ρ', M', z, r, e, k⟩ := h
  unfold evGs at e
  cases ds with
  | nil => cases e
  | cons d ds =>
    dsimp only at e
    obtain ⟨w, wr, rfl, r1, rs⟩ := r.inv
    cases e1 : evG cf b g d ρ M with
    | none => rw [e1] at e; cases e
    | some p =>
      rw [e1] at e
      refine ⟨w, wr, rfl, bs, b, μ, ρ, M, d, p.1, p.2, z, r1, e1, fun μ1 H1 σ1 l1 a1 c1 => ?_⟩
      exact ⟨bs, b, μ1, p.1, p.2, ds, ρ', M', a1, rs.le l1, e, fun μ2 H2 σ2 l2 a2 c2 => k μ2 H2 σ2 (l1.trans l2) a2 (by unfold gsls; exact c1.trans c2)⟩
theorem gsub_rd {o i : E} (h : tG C cf (.sub o i) v σ H Q) : gSub (tE C W cf o) (tE C W cf i) (rSetE C) v σ H Q := by
  obtain ⟨bs, b, μ, ρ, M, d, ρ', M', z, r, e, k⟩ := h
  unfold evG at e
  have p : Post C bs W μ H ((evE cf b o ρ M).bind fun x M => (evE cf b i ρ M).bind fun y M => ofOpt (semSet x y d b M) M) fun M2 _ _ _ => M2 = M' ∧ ρ' = ρ := by
    cases q : ((evE cf b o ρ M).bind fun x M => (evE cf b i ρ M).bind fun y M => ofOpt (semSet x y d b M) M) with
    | no => rw [q] at e; cases e
    | ok M2 _ => rw [q] at e; cases e; exact fun _ _ _ _ => ⟨rfl, rfl⟩
    | ex _ _ => rw [q] at e; cases e
  refine E_then z p fun x vx μ1 M1 H1 l1 a1 r1 p1 => E_then a1 p1 fun y vy μ2 M2 H2 l2 a2 r2 p2 => ?_
  obtain ⟨M3, e3, p3⟩ := O_fin p2
  obtain ⟨rfl, rfl⟩ := Post.here p3 a2.R
  exact ⟨bs, μ2, M2, b, x, y, d, M3, a2.hb, a2.R, r1.le l2, r2, (r.le l1).le l2, e3, fun H3 l3 R3 => k μ2 H3 σ ((l1.trans l2).trans l3) (a2.le l3 R3) (.refl _ _)⟩

/-! ### comprehensions -/
def W0 : XK := fun _ _ _ => False
theorem hush_bind {α β γ : Type} (o : Out α) (g : α → Sto → Out β) (F : β → Sto → Out γ) : (hush (o.bind g)).bind F = (hush o).bind fun a M => (hush (g a M)).bind F := by cases o <;> rfl
section
variable {μs : List Addr} {Hs : Hp} {β : Type} {Q0 : β → List Addr → Sto → Hp → Prop}
theorem Post.anch {α : Type} {o : Out α} {f : α → Sto → Out β} {bs' : List Nat} {W' : XK} {Q : α → List Addr → Sto → Hp → Prop} (h : Post C bs W μs Hs ((hush o).bind f) Q0)
    (k : ∀ a μ' M' H', Le μ H μ' H' → Rep C bs' μ' M' H' → Post C bs W μs Hs (f a M') Q0 → Q a μ' M' H') : Post C bs' W' μ H o Q := by
  cases o with
  | no => exact h
  | ok a M' => exact fun μ' H' l R => k a μ' M' H' l R h
  | ex _ _ => exact (show False from h).elim
theorem turn_step {next : Sto → Nat → Option (Option D)} {turn : D → Sto → Out (List D)} {c i : Nat} {K : List D → Sto → Out β} (h : Post C bs W μs Hs ((hush (turns next turn c i M)).bind K) Q0) :
    (next M i = some none ∧ Post C bs W μs Hs (K [] M) Q0) ∨ ∃ c' d, c = c' + 1 ∧ next M i = some (some d) ∧
      Post C bs W μs Hs ((hush (turn d M)).bind fun xs M' => (hush (turns next turn c' (i + 1) M')).bind fun ys M'' => K (xs ++ ys) M'') Q0 := by
  cases c with
  | zero => exact (show False from h).elim
  | succ c =>
    unfold turns at h
    cases e : next M i with
    | none => rw [e] at h; exact (show False from h).elim
    | some o =>
      rw [e] at h
      cases o with
      | none => exact .inl ⟨rfl, h⟩
      | some d =>
        refine .inr ⟨c, d, rfl, rfl, ?_⟩
        dsimp only at h
        cases e1 : turn d M with
        | no => rw [e1] at h; exact h
        | ex _ _ => rw [e1] at h; exact h
        | ok xs M1 =>
          rw [e1] at h
          simp only [hush_ok, bind_ok] at h ⊢
          cases e2 : turns next turn c (i + 1) M1 with
          | no => rw [e2] at h; exact h
          | ex _ _ => rw [e2] at h; exact h
          | ok ys M2 => rw [e2] at h; exact h
theorem item_step {fg : D → Enn → Sto → Option (Enn × Sto)} {ft : Enn → Sto → Out Bool} {fe : Enn → Sto → Out (List D)} {d : D} {F : List D → Sto → Out β} (h : Post C bs W μs Hs ((hush (itemT fg ft fe ρ d M)).bind F) Q0) :
    ∃ ρ2 M2, fg d ρ M = some (ρ2, M2) ∧ Post C bs W μs Hs ((hush (ft ρ2 M2)).bind fun k M3 => (hush (match k with
      | false => .ok [] M3
      | true => fe ρ2 M3)).bind F) Q0 := by
  unfold itemT at h
  cases e : fg d ρ M with
  | none => rw [e] at h; exact (show False from h).elim
  | some p =>
    rw [e] at h
    rw [hush_bind] at h
    exact ⟨p.1, p.2, rfl, h⟩
/-- the list that is being made -/
structure Acc (C : Cn) (μ : List Addr) (H : Hp) (p : Addr) (ds : List D) (acc : List V) : Prop where
  off : p ∉ μ
  at_ : H p = some (.lst acc)
  rel : RelDs C μ H ds acc
theorem Acc.le {p : Addr} {ds : List D} {acc : List V} (a : Acc C μ H p ds acc) (l : Le μ H μ' H') : Acc C μ' H' p ds acc := by
  have h0 : H p ≠ none := by rw [a.at_]; exact fun z => by cases z
  exact ⟨fun m => h0 (l.fr p m a.off), (l.off p a.off h0).trans a.at_, a.rel.le l⟩
theorem Le.beside {p : Addr} {o : HO} (l : Le μs Hs μ H) (hp : Hs p = none) (hm : Mut (H p)) : Le μs Hs μ (upd H p o) :=
  ⟨⟨l.pre, l.st.trans (.put hm)⟩, l.fr, fun a n q => by
    have e : a ≠ p := fun z => q (z ▸ hp)
    rw [upd_ne e]
    exact l.off a n q⟩
theorem Acc.push {p : Addr} {ds : List D} {acc : List V} {d : D} (a : Acc C μ H p ds acc) (R : Rep C bs μ M H) (r : RelD C μ H d v) : Acc C μ (upd H p (.lst (acc ++ [v]))) p (ds ++ [d]) (acc ++ [v]) ∧ Rep C bs μ M (upd H p (.lst (acc ++ [v]))) := by
  have hm : Mut (H p) := mutL a.at_
  have l : Lo μ H μ (upd H p (.lst (acc ++ [v]))) := ⟨List.prefix_refl _, .put hm⟩
  exact ⟨⟨a.off, upd_same, (a.rel.lo l).app (.cons (r.lo l) .nil)⟩, R.keep (.put hm) fun q m => upd_ne fun z => a.off (z ▸ m)⟩
/-- what bounds the list's length -/
def Bnd (C : Cn) (bs : List Nat) (W : XK) (μs : List Addr) (Hs : Hp) (K : List D → Sto → Out β) (Q0 : β → List Addr → Sto → Hp → Prop) : Prop := ∀ ds M, Post C bs W μs Hs (K ds M) Q0 → ds.length ≤ cap
theorem Bnd.next {K : List D → Sto → Out β} {o : Sto → Out (List D)} (h : Bnd C bs W μs Hs K Q0) : Bnd C bs W μs Hs (fun ds M => (hush (o M)).bind fun ys M' => K (ds ++ ys) M') Q0 := fun ds M p => by
  dsimp only at p
  cases e : o M with
  | no => rw [e] at p; exact (show False from p).elim
  | ex _ _ => rw [e] at p; exact (show False from p).elim
  | ok ys M' =>
    rw [e] at p
    have z := h _ _ p
    rw [List.length_append] at z
    omega
/-- the loop of a comprehension -/
theorem comp_loop {pd : Addr} {n0 : Nat} {K : List D → Sto → Out β} {src : Src} {J : It} {μb : List Addr} {Hb : Hp} {Stop : Hp → Prop} {g : G} {t : T} {fe : Enn → Sto → Out (List D)} {ow : List Nat} {Body : St → Hp → (Hp → Prop) → Prop}
    (hB : Bnd C bs W μs Hs K Q0) (hJ : SrcJ C μb Hb src J) (hn : ∀ c ∈ n0 :: bs, c ≤ n0) (re : RelEn C μb Hb ρ σ) (hs : ∀ i ∈ gsl g, i ∈ ow) (hD : Hs pd = none)
    (hstop : ∀ μ M H ds acc, Le μs Hs μ H → Lo μb Hb μ H → Rep C (n0 :: bs) μ M H → Acc C μ H pd ds acc → Post C bs W μs Hs (K ds M) Q0 → Stop H)
    (hbody : ∀ (K' : List D → Sto → Out β) (Nx : Hp → Prop) σ2 μ H M ρ2 ds acc, Bnd C bs W μs Hs K' Q0 → At C (n0 :: bs) n0 μ ρ2 M σ2 H → Le μs Hs μ H → Lo μb Hb μ H → Acc C μ H pd ds acc → Post C bs W μs Hs ((hush (fe ρ2 M)).bind fun xs M' => K' (ds ++ xs) M') Q0 →
      (∀ μ' M' H' ds' acc', Le μs Hs μ' H' → Lo μb Hb μ' H' → Rep C (n0 :: bs) μ' M' H' → Acc C μ' H' pd ds' acc' → Post C bs W μs Hs (K' ds' M') Q0 → Nx H') → Body σ2 H Nx)
    {m0 : Nat} {ds0 : List D} {acc0 : List V} (l0 : Le μs Hs μ H) (lb0 : Lo μb Hb μ H) (R0 : Rep C (n0 :: bs) μ M H) (A0 : Acc C μ H pd ds0 acc0)
    (p0 : Post C bs W μs Hs ((hush (turns (fun M i => src.next M i) (itemT (evG cf n0 g) (evT cf n0 t) fe (Ev.wipe ρ ow)) m0 0 M)).bind fun ys M' => K (ds0 ++ ys) M') Q0) :
    ∃ Wt : Nat → Nat → Hp → Prop, (∃ m, Wt 0 m H) ∧ ∀ i m H, Wt i m H → (J.stop i H ∧ Stop H) ∨ (J.go i H ∧ ∃ Nx : Hp → Prop, (∀ H', Nx H' → ∃ m', m' < m ∧ Wt (i + 1) m' H') ∧
      ∀ x H', J.yld i H x H' → tG C cf g x (L2.wipe σ ow) H' fun σ2 H2 => L2.wipe σ2 ow = L2.wipe σ ow ∧ tT C W0 cf t σ2 H2 fun b H3 => if b = true then Body σ2 H3 Nx else Nx H3) := by
  refine ⟨fun i m H => ∃ μ M ds acc, Le μs Hs μ H ∧ Lo μb Hb μ H ∧ Rep C (n0 :: bs) μ M H ∧ Acc C μ H pd ds acc ∧
    Post C bs W μs Hs ((hush (turns (fun M i => src.next M i) (itemT (evG cf n0 g) (evT cf n0 t) fe (Ev.wipe ρ ow)) m i M)).bind fun ys M' => K (ds ++ ys) M') Q0, ⟨m0, μ, M, ds0, acc0, l0, lb0, R0, A0, p0⟩, ?_⟩
  rintro i m H ⟨μ, M, ds, acc, l, lb, R, A, p⟩
  rcases turn_step p with ⟨e, q⟩ | ⟨c, d, rfl, e, q⟩
  · exact .inl ⟨hJ.stop _ μ M H i lb R e, hstop μ M H ds acc l lb R A (by rw [List.append_nil] at q; exact q)⟩
  · obtain ⟨h1, h2⟩ := hJ.go _ μ M H i d lb R e
    refine .inr ⟨h1, fun H => ∃ μ M ds acc, Le μs Hs μ H ∧ Lo μb Hb μ H ∧ Rep C (n0 :: bs) μ M H ∧ Acc C μ H pd ds acc ∧
      Post C bs W μs Hs ((hush (turns (fun M i => src.next M i) (itemT (evG cf n0 g) (evT cf n0 t) fe (Ev.wipe ρ ow)) c (i + 1) M)).bind fun ys M' => K (ds ++ ys) M') Q0, fun H' q => ⟨c, Nat.lt_succ_self _, q⟩, fun x H3 y => ?_⟩
    obtain ⟨l3, R3, r3⟩ := h2 x H3 y
    have A3 := A.le l3
    obtain ⟨ρ4, M4, eg, q4⟩ := item_step q
    refine ⟨n0 :: bs, n0, μ, Ev.wipe ρ ow, M, d, ρ4, M4, ⟨hn, R3, (re.lo (lb.trans l3.toLo)).wipe ow⟩, r3, eg, fun μ4 H4 σ4 l4 a4 chg => ⟨?_, n0 :: bs, n0, μ4, ρ4, M4, a4, Post.anch q4 fun k μ5 M5 H5 l5 R5 q5 => ?_⟩⟩
    · rw [chg ow hs]
      exact wipe_wipe σ ow ow fun _ h => h
    · have l35 : Le μ H3 μ5 H5 := l4.trans l5
      have A5 := A3.le l35
      have ls5 := (l.trans l3).trans l35
      have lb5 := (lb.trans l3.toLo).trans l35.toLo
      cases k with
      | false => exact ⟨μ5, M5, ds, acc, ls5, lb5, R5, A5, q5⟩
      | true =>
        have e5 : (fun (xs : List D) M' => (hush (turns (fun M i => src.next M i) (itemT (evG cf n0 g) (evT cf n0 t) fe (Ev.wipe ρ ow)) c (i + 1) M')).bind fun ys M'' => K (ds ++ (xs ++ ys)) M'') =
            fun xs M' => (fun ds' M' => (hush (turns (fun M i => src.next M i) (itemT (evG cf n0 g) (evT cf n0 t) fe (Ev.wipe ρ ow)) c (i + 1) M')).bind fun ys M'' => K (ds' ++ ys) M'') (ds ++ xs) M' := by
          funext xs M'
          simp only [List.append_assoc]
        dsimp only at q5
        rw [e5] at q5
        exact hbody _ _ σ4 μ5 H5 M5 ρ4 ds acc hB.next (a4.le l5 R5) ls5 lb5 A5 q5 fun μ' M' H' ds' acc' l' lb' R' A' p' => ⟨μ', M', ds', acc', l', lb', R', A', p'⟩
end
/-- the end: the new list is laid in the store -/
theorem seal_end {pd : Addr} {n0 : Nat} {ds : List D} {acc : List V} {Q : VK} {μs : List Addr} {Hs : Hp} (hn : ∀ c ∈ n0 :: bs, c ≤ n0) (h0 : μs.length = n0) (hD : Hs pd = none) (l : Le μs Hs μ H) (R : Rep C (n0 :: bs) μ M H) (A : Acc C μ H pd ds acc)
    (p : VP C bs W μs Hs (sealL n0 ds M) Q) : Q (.ref pd) H := by
  unfold sealL at p
  by_cases hl : ds.length ≤ cap
  · rw [if_pos hl] at p
    have hle : n0 ≤ μ.length := R.le n0 List.mem_cons_self
    cases e : flats ds with
    | true =>
      rw [e] at p
      have hp : μ.take n0 = μs := by
        obtain ⟨t, ht⟩ := l.pre
        rw [← ht, ← h0, List.take_left]
      refine p.on (μ' := μ.take n0 ++ [pd]) (H' := H) ⟨⟨?_, l.st⟩, fun a m n => ?_, l.off⟩ ?_ (relD_loc.mpr ⟨pd, ?_, rfl⟩)
      · rw [hp]; exact List.prefix_append _ _
      · rw [hp] at m
        rcases List.mem_append.mp m with m | m
        · exact absurd m n
        · rw [List.mem_singleton.mp m]; exact hD
      · exact (R.cut fun c hc => hn c (List.mem_cons_of_mem _ hc)).add (fun m => A.off (List.mem_of_mem_take m)) ⟨acc, A.at_, RelDs.flat e A.rel⟩
      · rw [List.getElem?_append_right (by rw [List.length_take]; omega), List.length_take, Nat.min_eq_left hle, Nat.sub_self]; rfl
    | false =>
      rw [e] at p
      refine VP.on (μ' := μ ++ [pd]) (H' := H) p ⟨⟨l.pre.trans (List.prefix_append _ _), l.st⟩, fun a m n => ?_, l.off⟩ ?_ (relD_loc.mpr ⟨pd, by rw [← R.len]; simp, rfl⟩)
      · rcases List.mem_append.mp m with m | m
        · exact l.fr a m n
        · rw [List.mem_singleton.mp m]; exact hD
      · exact R.leave.add A.off ⟨acc, A.at_, A.rel.mono (List.prefix_append _ _) (.refl _)⟩
  · rw [if_neg hl] at p
    exact (show False from p).elim
theorem seal_bnd {n0 : Nat} {Q : VK} {μs : List Addr} {Hs : Hp} : Bnd C bs W μs Hs (fun ds M => sealL n0 ds M) (fun d μ' _ H' => ∀ v, RelD C μ' H' d v → Q v H') := fun ds M p => by
  dsimp only at p
  unfold sealL at p
  by_cases hl : ds.length ≤ cap
  · exact hl
  · rw [if_neg hl] at p
    exact (show False from p).elim
/-- the item of a turn, laid behind the others -/
theorem put_item {pd : Addr} {n0 : Nat} {β : Type} {Q0 : β → List Addr → Sto → Hp → Prop} {μs μb : List Addr} {Hs Hb : Hp} {K' : List D → Sto → Out β} {Nx : Hp → Prop} {e : E} {ρ2 : Enn} {σ2 : St} {ds : List D} {acc : List V} (hD : Hs pd = none) (hDb : Hb pd = none ∨ ∃ z, Hb pd = some (.lst z))
    (hB : Bnd C bs W μs Hs K' Q0) (a : At C (n0 :: bs) n0 μ ρ2 M σ2 H) (l : Le μs Hs μ H) (lb : Lo μb Hb μ H) (A : Acc C μ H pd ds acc)
    (p : Post C bs W μs Hs ((hush ((evE cf n0 e ρ2 M).bind fun d M => .ok [d] M)).bind fun xs M' => K' (ds ++ xs) M') Q0)
    (k : ∀ μ' M' H' ds' acc', Le μs Hs μ' H' → Lo μb Hb μ' H' → Rep C (n0 :: bs) μ' M' H' → Acc C μ' H' pd ds' acc' → Post C bs W μs Hs (K' ds' M') Q0 → Nx H') :
    tE C W0 cf e σ2 H fun y H4 => ∃ acc, H4 pd = some (.lst acc) ∧ acc.length < sizeLine ∧ Nx (upd H4 pd (.lst (acc ++ [y]))) := by
  rw [hush_bind] at p
  refine ⟨n0 :: bs, n0, μ, ρ2, M, a, Post.anch p fun d μ6 M6 H6 l6 R6 q6 y ry => ?_⟩
  have A6 := A.le l6
  have hl := hB _ _ q6
  rw [List.length_append] at hl
  obtain ⟨A7, R7⟩ := A6.push R6 ry
  refine ⟨acc, A6.at_, ?_, k μ6 M6 _ _ _ ((l.trans l6).beside hD (mutL A6.at_)) (lb.trans (l6.toLo.trans ⟨List.prefix_refl _, .put (mutL A6.at_)⟩)) R7 A7 q6⟩
  rw [← A6.rel.length]
  have : ([d] : List D).length = 1 := rfl
  have z : sizeLine = cap := rfl
  omega
theorem lc_rd {g : G} {it : IT} {ow : List Nat} {t : T} {e : E} {Q : VK} (hs : ∀ i ∈ gsl g, i ∈ ow) (h : tE C W cf (.lc g it ow t e) σ H Q) : tLc (tI C W cf it) (tG C cf g) (tT C W0 cf t) (tE C W0 cf e) ow σ H Q := by
  obtain ⟨bs, b, μ, ρ, M, z, p⟩ := h
  unfold evE at p
  refine I_then z p fun src J μ1 M1 H1 l1 a1 hJ p1 => ?_
  intro pd hD
  have hn : ∀ c ∈ M1.length :: bs, c ≤ M1.length := fun c hc => by
    rcases List.mem_cons.mp hc with rfl | hc
    · exact Nat.le_refl _
    · rw [← a1.R.len]; exact a1.R.le c hc
  refine comp_loop (μs := μ1) (Hs := H1) (μb := μ1) (Hb := H1) (K := fun ds M => sealL M1.length ds M) (Q0 := fun d μ' _ H' => ∀ v, RelD C μ' H' d v → Q v H') (Stop := fun H => Q (.ref pd) H)
    (Body := fun σ2 H3 Nx => tE C W0 cf e σ2 H3 fun y H4 => ∃ acc, H4 pd = some (.lst acc) ∧ acc.length < sizeLine ∧ Nx (upd H4 pd (.lst (acc ++ [y]))))
    seal_bnd hJ hn a1.re hs hD (fun μ M H ds acc l _ R A p => seal_end hn a1.R.len hD l R A p) (fun K' Nx σ2 μ H M ρ2 ds acc hB a l lb A p k => put_item hD (.inl hD) hB a l lb A p k)
    (Le.new hD) (Le.new hD).toLo (a1.R.enter.new hD) ⟨a1.R.fresh hD, upd_same, .nil⟩ p1
theorem lc2_rd {g g' : G} {it it' : IT} {ow ow' : List Nat} {t t' : T} {e : E} {Q : VK} (hs : ∀ i ∈ gsl g, i ∈ ow) (hs' : ∀ i ∈ gsl g', i ∈ ow') (h : tE C W cf (.lc2 g it t g' it' t' ow ow' e) σ H Q) :
    tLc2 (tI C W cf it) (tG C cf g) (tT C W0 cf t) (tI C W0 cf it') (tG C cf g') (tT C W0 cf t') (tE C W0 cf e) ow ow' σ H Q := by
  obtain ⟨bs, b, μ, ρ, M, z, p⟩ := h
  unfold evE at p
  refine I_then z p fun src J μ1 M1 H1 l1 a1 hJ p1 => ?_
  intro pd hD
  have hn : ∀ c ∈ M1.length :: bs, c ≤ M1.length := fun c hc => by
    rcases List.mem_cons.mp hc with rfl | hc
    · exact Nat.le_refl _
    · rw [← a1.R.len]; exact a1.R.le c hc
  refine comp_loop (μs := μ1) (Hs := H1) (μb := μ1) (Hb := H1) (K := fun ds M => sealL M1.length ds M) (Q0 := fun d μ' _ H' => ∀ v, RelD C μ' H' d v → Q v H') (Stop := fun H => Q (.ref pd) H)
    (Body := fun σ2 H3 Nx => tI C W0 cf it' σ2 H3 fun J1 H4 => ∃ W1 : Nat → Nat → Hp → Prop, (∃ m, W1 0 m H4) ∧ ∀ j k H, W1 j k H →
      (J1.stop j H ∧ Nx H) ∨ (J1.go j H ∧ ∃ Nx1 : Hp → Prop, (∀ H', Nx1 H' → ∃ k', k' < k ∧ W1 (j + 1) k' H') ∧ ∀ x H', J1.yld j H x H' → tG C cf g' x (L2.wipe σ2 ow') H' fun σ3 H5 => L2.wipe σ3 ow' = L2.wipe σ2 ow' ∧ tT C W0 cf t' σ3 H5 fun b H6 =>
        if b = true then tE C W0 cf e σ3 H6 fun y H7 => ∃ acc, H7 pd = some (.lst acc) ∧ acc.length < sizeLine ∧ Nx1 (upd H7 pd (.lst (acc ++ [y]))) else Nx1 H6))
    seal_bnd hJ hn a1.re hs hD (fun μ M H ds acc l _ R A p => seal_end hn a1.R.len hD l R A p) ?_
    (Le.new hD) (Le.new hD).toLo (a1.R.enter.new hD) ⟨a1.R.fresh hD, upd_same, .nil⟩ p1
  intro K' Nx σ2 μ2 H2 M2 ρ2 ds acc hB a2 l2 lb2 A2 p2 k2
  rw [hush_bind] at p2
  refine ⟨M1.length :: bs, M1.length, μ2, ρ2, M2, a2, Post.anch p2 fun s' μ3 M3 H3 l3 R3 q3 J1 hJ1 => ?_⟩
  have A3 := A2.le l3
  exact comp_loop (μs := μ1) (Hs := H1) (μb := μ3) (Hb := H3) (K := K') (Q0 := fun d μ' _ H' => ∀ v, RelD C μ' H' d v → Q v H') (Stop := fun H => Nx H)
    (Body := fun σ2 H3 Nx => tE C W0 cf e σ2 H3 fun y H4 => ∃ acc, H4 pd = some (.lst acc) ∧ acc.length < sizeLine ∧ Nx (upd H4 pd (.lst (acc ++ [y]))))
    hB hJ1 hn (a2.re.le l3) hs' hD (fun μ M H ds acc l lb R A p => k2 μ M H ds acc l (lb2.trans (l3.toLo.trans lb)) R A p) (fun K' Nx σ2 μ H M ρ2 ds acc hB a l lb A p k => put_item hD (.inr ⟨_, A3.at_⟩) hB a l lb A p k)
    (l2.trans l3) ⟨List.prefix_refl _, .refl _⟩ R3 A3 q3
end Ev
end

section
/-! EvRd3: the readings of statements. -/
namespace Ev
open PySem L2
variable {C : Cn} {μ μ' μ1 : List Addr} {H H' H1 : Hp} {M M' M1 : Sto} {bs : List Nat} {v : V} {X : Cx} {W : XK} {b : Nat} {ρ : Enn} {σ : St} {cf : Cf} {D : Ends}

def SPost (C : Cn) (bs : List Nat) (b : Nat) (W : XK) (μ : List Addr) (H : Hp) (o : SO) (D : Ends) : Prop := match o with
  | none => False
  | some (.nx ρ', M') => ∀ μ' H' σ', Le μ H μ' H' → At C bs b μ' ρ' M' σ' H' → D.nx σ' H'
  | some (.bk ρ', M') => ∀ μ' H' σ', Le μ H μ' H' → At C bs b μ' ρ' M' σ' H' → D.bk σ' H'
  | some (.ct ρ', M') => ∀ μ' H' σ', Le μ H μ' H' → At C bs b μ' ρ' M' σ' H' → D.ct σ' H'
  | some (.rt d, M') => ∀ μ' H' v, Le μ H μ' H' → Rep C bs μ' M' H' → RelD C μ' H' d v → D.rt v H'
  | some (.xc x _, M') => ∀ μ' H' cls d, Le μ H μ' H' → Rep C bs μ' M' H' → RelX C μ' H' x cls d → W cls d H'
theorem SPost.le {o : SO} (h : SPost C bs b W μ H o D) (l : Le μ H μ' H') : SPost C bs b W μ' H' o D := by
  unfold SPost at *
  split
  · exact h
  · exact fun μ2 H2 σ2 l2 a => h μ2 H2 σ2 (l.trans l2) a
  · exact fun μ2 H2 σ2 l2 a => h μ2 H2 σ2 (l.trans l2) a
  · exact fun μ2 H2 σ2 l2 a => h μ2 H2 σ2 (l.trans l2) a
  · exact fun μ2 H2 σ2 l2 a r => h μ2 H2 σ2 (l.trans l2) a r
  · exact fun μ2 H2 c d l2 a r => h μ2 H2 c d (l.trans l2) a r
theorem lift_then {α : Type} {o : Out α} {f : α → Sto → SO} (h : SPost C bs b W μ H (lift o ρ f) D) : Post C bs W μ H o (fun a μ1 M1 H1 => SPost C bs b W μ1 H1 (f a M1) D) := by
  cases o with
  | no => exact h
  | ok a M' => exact fun μ1 H1 l R => SPost.le h l
  | ex x M' => exact h
def tS (C : Cn) (W : XK) (cf : Cf) (s : S) : TS := fun D σ H => ∃ bs b μ ρ M, At C bs b μ ρ M σ H ∧ SPost C bs b W μ H (evS cf b s ρ M) D
def tSs (C : Cn) (W : XK) (cf : Cf) (s : SL) : TS := fun D σ H => ∃ bs b μ ρ M, At C bs b μ ρ M σ H ∧ SPost C bs b W μ H (evSs cf b s ρ M) D
theorem E_lift {e : E} {f : Ev.D → Sto → SO} {Q : VK} (a : At C bs b μ ρ M σ H) (h : SPost C bs b W μ H (lift (evE cf b e ρ M) ρ f) D)
    (k : ∀ d v μ1 M1 H1, Le μ H μ1 H1 → At C bs b μ1 ρ M1 σ H1 → RelD C μ1 H1 d v → SPost C bs b W μ1 H1 (f d M1) D → Q v H1) : tE C W cf e σ H Q :=
  ⟨bs, b, μ, ρ, M, a, (lift_then h).imp fun d μ1 M1 H1 l R p v r => k d v μ1 M1 H1 l (a.le l R) r p⟩
theorem nxt_fin (h : SPost C bs b W μ H (some (.nx ρ, M)) D) (a : At C bs b μ ρ M σ H) : D.nx σ H := h μ H σ (.refl _ _) a
variable {e : E} {g : G} {it : IT} {t : T} {s : S} {ss ss' : SL}
theorem expr_rd (h : tS C W cf (.expr e) D σ H) : tDrop (tE C W cf e) D σ H := by
  obtain ⟨bs, b, μ, ρ, M, z, p⟩ := h
  unfold evS at p
  exact E_lift z p fun d v μ1 M1 H1 l a1 r p1 => nxt_fin p1 a1
theorem asg_rd (h : tS C W cf (.asg g e) D σ H) : tAsg (tE C W cf e) (tG C cf g) D σ H := by
  obtain ⟨bs, b, μ, ρ, M, z, p⟩ := h
  unfold evS at p
  refine E_lift z p fun d v μ1 M1 H1 l a1 r p1 => ?_
  cases eg : evG cf b g d ρ M1 with
  | none => rw [eg] at p1; exact (show False from p1).elim
  | some q =>
    rw [eg] at p1
    exact ⟨bs, b, μ1, ρ, M1, d, q.1, q.2, a1, r, eg, fun μ2 H2 σ2 l2 a2 _ => p1 μ2 H2 σ2 l2 a2⟩
theorem setAll_rel2 {i j : Nat} {ds : List Ev.D} {vs : List V} (z : RelEn C μ H ρ σ) (r : RelDs C μ H ds vs) (hl : ds.length = 2) : ∃ v w, vs = [v, w] ∧ RelEn C μ H (setAll [i, j] ds ρ) ((σ.set i (some v)).set j (some w)) := by
  match ds, hl, r with
  | [d1, d2], _, r =>
    obtain ⟨v, _, rfl, r1, r⟩ := r.inv
    obtain ⟨w, _, rfl, r2, r⟩ := r.inv
    cases r.nil_inv
    exact ⟨v, w, rfl, (z.set r1).set r2⟩
theorem par_rd {i j : Nat} {es : EL} (h : tS C W cf (.par [i, j] es) D σ H) : tPar i j (tL C W cf es) D σ H := by
  obtain ⟨bs, b, μ, ρ, M, z, p⟩ := h
  unfold evS at p
  refine ⟨bs, b, μ, ρ, M, z, (lift_then p).imp fun ds μ1 M1 H1 l R p1 vs r => ?_⟩
  by_cases hl : ds.length = ([i, j] : List Nat).length
  · rw [if_pos hl] at p1
    obtain ⟨v, w, rfl, re⟩ := setAll_rel2 (i := i) (j := j) (z.re.le l) r hl
    exact ⟨v, w, rfl, nxt_fin p1 ⟨z.hb, R, re⟩⟩
  · rw [if_neg hl] at p1
    exact (show False from p1).elim
theorem par3_rd {i j k : Nat} {es : EL} (h : tS C W cf (.par [i, j, k] es) D σ H) : tPar3 i j k (tL C W cf es) D σ H := by
  obtain ⟨bs, b, μ, ρ, M, z, p⟩ := h
  unfold evS at p
  refine ⟨bs, b, μ, ρ, M, z, (lift_then p).imp fun ds μ1 M1 H1 l R p1 vs r => ?_⟩
  by_cases hl : ds.length = ([i, j, k] : List Nat).length
  · rw [if_pos hl] at p1
    match ds, hl, r, p1 with
    | [d1, d2, d3], _, r, p1 =>
      obtain ⟨v, _, rfl, r1, r⟩ := r.inv
      obtain ⟨w, _, rfl, r2, r⟩ := r.inv
      obtain ⟨u, _, rfl, r3, r⟩ := r.inv
      cases r.nil_inv
      exact ⟨v, w, u, rfl, nxt_fin p1 ⟨z.hb, R, (((z.re.le l).set r1).set r2).set r3⟩⟩
  · rw [if_neg hl] at p1
    exact (show False from p1).elim
theorem ret_rd (h : tS C W cf (.ret e) D σ H) : tRet (tE C W cf e) D σ H := by
  obtain ⟨bs, b, μ, ρ, M, z, p⟩ := h
  unfold evS at p
  exact E_lift z p fun d v μ1 M1 H1 l a1 r p1 => p1 μ1 H1 v (.refl _ _) a1.R r
theorem retn_rd (h : tS C W cf .retn D σ H) : tRetN D σ H := by
  obtain ⟨bs, b, μ, ρ, M, z, p⟩ := h
  unfold evS at p
  exact p μ H _ (.refl _ _) z.R (relD_non.mpr rfl)
theorem pass_rd (h : tS C W cf .pass D σ H) : tNext D σ H := by
  obtain ⟨bs, b, μ, ρ, M, z, p⟩ := h
  unfold evS at p
  exact nxt_fin p z
theorem brk_rd (h : tS C W cf .brk D σ H) : tBreak D σ H := by
  obtain ⟨bs, b, μ, ρ, M, z, p⟩ := h
  unfold evS at p
  exact p μ H σ (.refl _ _) z
theorem cont_rd (h : tS C W cf .cont D σ H) : tCont D σ H := by
  obtain ⟨bs, b, μ, ρ, M, z, p⟩ := h
  unfold evS at p
  exact p μ H σ (.refl _ _) z
theorem iff_rd (h : tS C W cf (.iff t ss ss') D σ H) : tIfS (tT C W cf t) (tSs C W cf ss) (tSs C W cf ss') D σ H := by
  obtain ⟨bs, b, μ, ρ, M, z, p⟩ := h
  unfold evS at p
  refine ⟨bs, b, μ, ρ, M, z, (lift_then p).imp fun k μ1 M1 H1 l R p1 => ?_⟩
  cases k with
  | true => exact ⟨bs, b, μ1, ρ, M1, z.le l R, p1⟩
  | false => exact ⟨bs, b, μ1, ρ, M1, z.le l R, p1⟩
theorem snil_rd (h : tSs C W cf .nil D σ H) : tNext D σ H := by
  obtain ⟨bs, b, μ, ρ, M, z, p⟩ := h
  unfold evSs at p
  exact nxt_fin p z
theorem scons_rd (h : tSs C W cf (.cons s ss) D σ H) : tSeq (tS C W cf s) (tSs C W cf ss) D σ H := by
  obtain ⟨bs, b, μ, ρ, M, z, p⟩ := h
  unfold evSs at p
  refine ⟨bs, b, μ, ρ, M, z, ?_⟩
  cases eo : evS cf b s ρ M with
  | none => rw [eo] at p; exact p
  | some q =>
    rw [eo] at p
    obtain ⟨f, M'⟩ := q
    cases f with
    | nx ρ' => exact fun μ' H' σ' l a => ⟨bs, b, μ', ρ', M', a, SPost.le p l⟩
    | rt d => exact p
    | bk ρ' => exact p
    | ct ρ' => exact p
    | xc x ρ' => exact p
theorem for_rd (h : tS C W cf (.for_ g it ss) D σ H) : tFor (tI C W cf it) (tG C cf g) (tSs C W cf ss) D σ H := by
  obtain ⟨bs, b, μ, ρ, M, z, p⟩ := h
  unfold evS at p
  refine ⟨bs, b, μ, ρ, M, z, (lift_then p).imp fun src μ1 M1 H1 l R p1 J hJ => ?_⟩
  refine ⟨fun i m σ' H' => ∃ μ' ρ' M', Le μ1 H1 μ' H' ∧ At C bs b μ' ρ' M' σ' H' ∧ SPost C bs b W μ' H' (loop (fun M i => src.next M i) (fun d ρ M => match evG cf b g d ρ M with
    | some (ρ', M') => evSs cf b ss ρ' M'
    | none => none) m i ρ' M') D, ⟨_, μ1, ρ, M1, .refl _ _, z.le l R, p1⟩, ?_⟩
  rintro i m σ' H' ⟨μ', ρ', M', l', a', p'⟩
  cases m with
  | zero => exact (show False from p').elim
  | succ m =>
    unfold loop at p'
    cases eo : src.next M' i with
    | none => rw [eo] at p'; exact (show False from p').elim
    | some o =>
      rw [eo] at p'
      cases o with
      | none => exact .inl ⟨hJ.stop bs μ' M' H' i l'.toLo a'.R eo, nxt_fin p' a'⟩
      | some d =>
        obtain ⟨h1, h2⟩ := hJ.go bs μ' M' H' i d l'.toLo a'.R eo
        refine .inr ⟨h1, fun σ' H' => ∃ μ' ρ' M', Le μ1 H1 μ' H' ∧ At C bs b μ' ρ' M' σ' H' ∧ SPost C bs b W μ' H' (loop (fun M i => src.next M i) (fun d ρ M => match evG cf b g d ρ M with
          | some (ρ', M') => evSs cf b ss ρ' M'
          | none => none) m (i + 1) ρ' M') D, fun σ2 H2 q => ⟨m, Nat.lt_succ_self _, q⟩, fun x H2 y => ?_⟩
        obtain ⟨l2, R2, r2⟩ := h2 x H2 y
        dsimp only at p'
        cases eg : evG cf b g d ρ' M' with
        | none => rw [eg] at p'; exact (show False from p').elim
        | some q =>
          rw [eg] at p'
          refine ⟨bs, b, μ', ρ', M', d, q.1, q.2, a'.le l2 R2, r2, eg, fun μ3 H3 σ3 l3 a3 _ => ⟨bs, b, μ3, q.1, q.2, a3, ?_⟩⟩
          dsimp only at p'
          cases es : evSs cf b ss q.1 q.2 with
          | none => rw [es] at p'; exact p'
          | some w =>
            rw [es] at p'
            obtain ⟨f, M4⟩ := w
            have l13 : Le μ1 H1 μ3 H3 := (l'.trans l2).trans l3
            have go : ∀ {ρ4}, SPost C bs b W μ' H' (loop (fun M i => src.next M i) (fun d ρ M => match evG cf b g d ρ M with
                | some (ρ', M') => evSs cf b ss ρ' M'
                | none => none) m (i + 1) ρ4 M4) D → ∀ μ4 H4 σ4, Le μ3 H3 μ4 H4 → At C bs b μ4 ρ4 M4 σ4 H4 → ∃ μ' ρ' M', Le μ1 H1 μ' H4 ∧ At C bs b μ' ρ' M' σ4 H4 ∧ SPost C bs b W μ' H4 (loop (fun M i => src.next M i) (fun d ρ M => match evG cf b g d ρ M with
                | some (ρ', M') => evSs cf b ss ρ' M'
                | none => none) m (i + 1) ρ' M') D := fun {ρ4} p' μ4 H4 σ4 l4 a4 => ⟨μ4, ρ4, M4, l13.trans l4, a4, SPost.le p' ((l2.trans l3).trans l4)⟩
            cases f with
            | nx ρ4 => exact go p'
            | ct ρ4 => exact go p'
            | bk ρ4 => exact fun μ4 H4 σ4 l4 a4 => p' μ4 H4 σ4 ((l2.trans l3).trans l4) a4
            | rt d => exact SPost.le (D := D) (o := some (.rt d, M4)) p' (l2.trans l3)
            | xc x ρ4 => exact SPost.le (D := D) (o := some (.xc x ρ4, M4)) p' (l2.trans l3)
theorem whl_rd (h : tS C W cf (.whl t ss) D σ H) : tWhile (tT C W cf t) (tSs C W cf ss) D σ H := by
  obtain ⟨bs, b, μ, ρ, M, z, p⟩ := h
  unfold evS at p
  refine ⟨fun m σ' H' => ∃ μ' ρ' M', At C bs b μ' ρ' M' σ' H' ∧ SPost C bs b W μ' H' (wloop (evT cf b t) (evSs cf b ss) m ρ' M') D, ⟨_, μ, ρ, M, z, p⟩, ?_⟩
  rintro m σ' H' ⟨μ', ρ', M', a', p'⟩
  cases m with
  | zero => exact (show False from p').elim
  | succ m =>
    unfold wloop at p'
    refine ⟨bs, b, μ', ρ', M', a', (lift_then p').imp fun k μ1 M1 H1 l R p1 => ?_⟩
    cases k with
    | false => exact nxt_fin p1 (a'.le l R)
    | true =>
      rw [if_pos rfl]
      refine ⟨fun σ' H' => ∃ μ' ρ' M', At C bs b μ' ρ' M' σ' H' ∧ SPost C bs b W μ' H' (wloop (evT cf b t) (evSs cf b ss) m ρ' M') D, fun σ2 H2 q => ⟨m, Nat.lt_succ_self _, q⟩, bs, b, μ1, ρ', M1, a'.le l R, ?_⟩
      dsimp only at p1
      cases es : evSs cf b ss ρ' M1 with
      | none => rw [es] at p1; exact p1
      | some w =>
        rw [es] at p1
        obtain ⟨f, M4⟩ := w
        cases f with
        | nx ρ4 => exact fun μ4 H4 σ4 l4 a4 => ⟨μ4, ρ4, M4, a4, SPost.le p1 l4⟩
        | ct ρ4 => exact fun μ4 H4 σ4 l4 a4 => ⟨μ4, ρ4, M4, a4, SPost.le p1 l4⟩
        | bk ρ4 => exact p1
        | rt d => exact p1
        | xc x ρ4 => exact p1
def ipF : B2 → Int → Int → Int
  | .sub => fun i j => i - j
  | _ => fun i j => i + j
theorem aug_rd {i : Nat} {o : B2} (ho : o = .add ∨ o = .sub) (h : tS C W cf (.aug i o e) D σ H) : tAug i (tE C W cf e) (ipI (ipF o)) D σ H := by
  obtain ⟨bs, b, μ, ρ, M, z, p⟩ := h
  unfold evS at p
  cases ev : ρ[i]? with
  | none => rw [ev] at p; exact (show False from p).elim
  | some q =>
    rw [ev] at p
    cases q with
    | none => exact (show False from p).elim
    | some x =>
      obtain ⟨w, e1, r⟩ := z.re.2 i x ev
      refine ⟨w, e1, E_lift z p fun d v μ1 M1 H1 l a1 rd p1 => ?_⟩
      have r1 := r.le l
      have fin : ∀ i' j : Int, x = .int i' → d = .int j → ∀ n : Int, SPost C bs b W μ1 H1 (some (.nx (ρ.set i (some (.int n))), M1)) D → n = ipF o i' j → ipI (ipF o) w v H1 fun z H2 => D.nx (σ.set i (some z)) H2 := fun i' j hx hd n p1 hn => by
        subst hx hd hn
        cases relD_int.mp r1
        cases relD_int.mp rd
        exact ⟨i', j, rfl, rfl, nxt_fin p1 ⟨a1.hb, a1.R, a1.re.set (relD_int.mpr rfl)⟩⟩
      rcases ho with rfl | rfl
      · cases x with
        | int i' =>
          cases d with
          | int j => exact fin i' j rfl rfl _ p1 rfl
          | _ => exact (show False from p1).elim
        | _ => exact (show False from p1).elim
      · cases x with
        | int i' =>
          cases d with
          | int j => exact fin i' j rfl rfl _ p1 rfl
          | _ => exact (show False from p1).elim
        | _ => exact (show False from p1).elim
end Ev
end

section
/-! EvChk: when a text of the evaluator is the text of the program. -/
namespace Ev
open PySem L2

/-- the defs; the module's constants -/
structure Tb where
  fns : List Fn
  gl : List (Str × D)
  /-- keyword calls: which def, how many by place, which by name -/
  kw : List (Nat × Nat × List Nat) := []
def okN (n : Str) : Bool := !(n == ("__debug__" : Str)) && !(n == ("__classdict__" : Str)) && !(n == ("__name__" : Str))
def visN (sc : Scope) (n : Str) : Bool := match sc.names.lookup n with
  | some .local => true
  | some .cell => true
  | some .free => true
  | _ => false
def glN (sc : Scope) (n : Str) : Bool := match sc.names.lookup n with
  | some .globalImplicit => true
  | _ => false
def locN (cl : Bool) (sc : Scope) (n : Str) : Bool := match sc.names.lookup n with
  | some .local => true
  | some .cell => cl
  | _ => false
def noStar : Expr → Bool
  | .Starred .. => false
  | _ => true
def isComp : Expr → Bool
  | .ListComp .. => true
  | .SetComp .. => true
  | .DictComp .. => true
  | _ => false
def plainT : Expr → Bool
  | .UnaryOp .Not _ _ => false
  | .BoolOp .. => false
  | .IfExp .. => false
  | .Compare .. => false
  | _ => true
def plainIx : Expr → Bool
  | .Slice .. => false
  | _ => true
def noSet : Expr → Bool
  | .Set .. => false
  | _ => true
def baseOk : Expr → Bool
  | .Call (.Name _ _) [] [] _ => false
  | _ => true
def isTupX : Expr → Bool
  | .Tuple .. => true
  | _ => false
/-- and, or of one thing is that thing -/
def one : Expr → Expr
  | .BoolOp op [y] p => y
  | e => e
def cstOk (d : D) (c : Const) : Bool := match d, c with
  | .non, .none => true
  | .bl a, .bool b => a == b
  | .int i, .int j => i == j
  | .str s, .str t => s == t.cps.toList
  | _, _ => false
def nmB : BI → String
  | .len => "len"
  | .max2 => "max"
  | .min2 => "min"
  | .abs => "abs"
  | .int => "int"
  | .str => "str"
  | .repr => "repr"
  | .lst => "list"
  | .tup => "tuple"
  | .srt => "sorted"
  | .all => "all"
  | .any => "any"
  | .sum => "sum"
def nmM : MT → String
  | .append => "append"
  | .extend => "extend"
  | .pop => "pop"
  | .popAt => "pop"
  | .insert => "insert"
  | .count => "count"
  | .index => "index"
  | .clear => "clear"
  | .join => "join"
def nmU : CL → Option String
  | .int => some "int"
  | .bool => some "bool"
  | .str => some "str"
  | .tup => some "tuple"
  | .lst => some "list"
  | .dct => some "dict"
  | .own _ => none
def opBX (o : B2) (x : Operator) : Bool := decide (x = opB o)
def opCX (o : C2) (x : CmpOp) : Bool := decide (x = opC o)
/-- a built-in's name, not hidden -/
def bltX (sc : Scope) (n : String) (x : Str) : Bool := decide (x = Str.ofString n) && glN sc x
def clX (sc : Scope) (c : CL) (x : Expr) : Bool := match x, nmU c with
  | .Name n _, some k => bltX sc k n
  | _, _ => false
def clsX (sc : Scope) : List CL → List Expr → Bool
  | [], [] => true
  | c :: cs, x :: xs => noStar x && clX sc c x && clsX sc cs xs
  | _, _ => false
def isiX (sc : Scope) (cs : List CL) (x : Expr) : Bool := match x with
  | .Tuple xs _ _ => clsX sc cs xs
  | .Name n p => match cs with
    | [c] => clX sc c (.Name n p)
    | _ => false
  | _ => false
def ownOf (N : List Str) (ow : List Nat) : List (Str × Nat) := ow.filterMap fun i => N[i]?.map fun n => (n, i)
def subL (a b : List Nat) : Bool := a.all fun i => b.contains i
def kwsX : List Keyword → List (Option Str × Expr)
  | [] => []
  | k :: ks => (k.arg, k.value) :: kwsX ks
mutual
def chkE (TB : Tb) (N : List Str) (sc : Scope) : E → Expr → Bool
  | .var i, x => match x with
    | .Name n _ => okN n && decide (N[i]? = some n) && visN sc n
    | _ => false
  | .cst d, x => match x with
    | .Constant c _ _ => cstOk d c
    | _ => false
  | .glb g, x => match x with
    | .Name n _ => okN n && glN sc n && (match TB.gl[g]? with
      | some p => decide (p.1 = n)
      | none => false)
    | _ => false
  | .un _ a, x => match x with
    | .UnaryOp .USub y _ => chkE TB N sc a y
    | _ => false
  | .no a, x => match x with
    | .UnaryOp .Not y _ => chkE TB N sc a y
    | _ => false
  | .bin o a a', x => match x with
    | .BinOp y op z _ => opBX o op && chkE TB N sc a y && chkE TB N sc a' z
    | _ => false
  | .cmp o a a', x => match x with
    | .Compare y [op] [z] _ => opCX o op && noSet z && chkE TB N sc a y && chkE TB N sc a' z
    | _ => false
  | .chn o o' a a' a'', x => match x with
    | .Compare y [op, op'] [z, w] _ => opCX o op && opCX o' op' && noSet w && chkE TB N sc a y && chkE TB N sc a' z && chkE TB N sc a'' w
    | _ => false
  | .and a a', x => match x with
    | .BoolOp .And (y :: z :: r) p => chkE TB N sc a y && chkE TB N sc a' (one (.BoolOp .And (z :: r) p))
    | _ => false
  | .or a a', x => match x with
    | .BoolOp .Or (y :: z :: r) p => chkE TB N sc a y && chkE TB N sc a' (one (.BoolOp .Or (z :: r) p))
    | _ => false
  | .ife t a a', x => match x with
    | .IfExp c y z _ => chkT TB N sc t c && chkE TB N sc a y && chkE TB N sc a' z
    | _ => false
  | .tup es, x => match x with
    | .Tuple xs _ _ => chkL TB N sc es xs
    | _ => false
  | .lst es, x => match x with
    | .List xs _ => chkL TB N sc es xs
    | _ => false
  | .dic0, x => match x with
    | .Dict [] [] _ => true
    | _ => false
  | .ix a a', x => match x with
    | .Subscript y z _ => plainIx z && chkE TB N sc a y && chkE TB N sc a' z
    | _ => false
  | .sl a lo hi, x => match x with
    | .Subscript y (.Slice l h none _) _ => chkE TB N sc a y && chkO TB N sc lo l && chkO TB N sc hi h
    | _ => false
  | .rev a, x => match x with
    | .Subscript y (.Slice none none (some (.UnaryOp .USub (.Constant (.int 1) _ _) _)) _) _ => chkE TB N sc a y
    | _ => false
  | .call f es, x => match x with
    | .Call (.Name n _) xs [] _ => okN n && glN sc n && (match TB.fns[f]? with
      | some fn => decide (fn.name = n)
      | none => false) && chkL TB N sc es xs
    | _ => false
  | .callk f es ks kes, x => match x with
    | .Call (.Name n _) xs (kw :: kws) _ => okN n && glN sc n && (match TB.fns[f]? with
      | some fn => decide (fn.name = n) && decide ((kwsX (kw :: kws)).map (·.1) = ks.map fun i => fn.N[i]?) && (ks.all fun i => (fn.N[i]?).isSome) && TB.kw.contains (f, xs.length, ks)
      | none => false) && chkL TB N sc es xs && chkL TB N sc kes ((kwsX (kw :: kws)).map (·.2))
    | _ => false
  | .bi b es, x => match x with
    | .Call (.Name n _) (y :: ys) [] _ => bltX sc (nmB b) n && chkL TB N sc es (y :: ys)
    | _ => false
  | .lrng es, x => match x with
    | .Call (.Name n _) [.Call (.Name m _) (y :: ys) [] _] [] _ => bltX sc "list" n && bltX sc "range" m && Nat.ble ys.length 1 && chkL TB N sc es (y :: ys)
    | _ => false
  | .mth m o es, x => match x with
    | .Call (.Attribute y n apos) xs [] cpos => decide (n = Str.ofString (nmM m)) && baseOk y && (apos.endLine == cpos.line) && Nat.blt xs.length 30 && chkE TB N sc o y && chkL TB N sc es xs
    | _ => false
  | .isi a cs, x => match x with
    | .Call (.Name n _) [y, z] [] _ => bltX sc "isinstance" n && noStar y && noStar z && isiX sc cs z && Nat.ble cs.length 9 && chkE TB N sc a y
    | _ => false
  | .lc g it ow t e, x => match x with
    | .ListComp elt [c] scope _ => decide (c.is_async = 0) && blkC N sc scope (ownOf N ow) && decide ((ownOf N ow).map (·.2) = ow) && subL (gsl g) ow && noSet c.iter &&
      chkI TB N sc it c.target c.iter && chkG TB N (relS scope sc) false g c.target && chkF TB N (relS scope sc) t c.ifs && chkE TB N (relS scope sc) e elt
    | _ => false
  | .lc2 g it t g' it' t' ow ow' e, x => match x with
    | .ListComp elt [c, c'] scope _ => decide (c.is_async = 0) && decide (c'.is_async = 0) && blkC N sc scope (ownOf N ow) && decide ((ownOf N ow).map (·.2) = ow) && subL (gsl g) ow && subL (gsl g') ow' && subL ow' ow && noSet c.iter && noSet c'.iter &&
      chkI TB N sc it c.target c.iter && chkG TB N (relS scope sc) false g c.target && chkF TB N (relS scope sc) t c.ifs && chkI TB N (relS scope sc) it' c'.target c'.iter && chkG TB N (relS scope sc) false g' c'.target && chkF TB N (relS scope sc) t' c'.ifs && chkE TB N (relS scope sc) e elt
    | _ => false
def chkL (TB : Tb) (N : List Str) (sc : Scope) : EL → List Expr → Bool
  | .nil, xs => match xs with
    | [] => true
    | _ :: _ => false
  | .cons e es, xs => match xs with
    | [] => false
    | x :: xs => noStar x && chkE TB N sc e x && chkL TB N sc es xs
def chkO (TB : Tb) (N : List Str) (sc : Scope) : EO → Option Expr → Bool
  | .none, x => x.isNone
  | .some e, x => match x with
    | some x => chkE TB N sc e x
    | none => false
def chkT (TB : Tb) (N : List Str) (sc : Scope) : T → Expr → Bool
  | .yes, _ => false
  | .val a, x => plainT x && chkE TB N sc a x
  | .not t, x => match x with
    | .UnaryOp .Not y _ => chkT TB N sc t y
    | _ => false
  | .and t t', x => match x with
    | .BoolOp .And (y :: z :: r) p => chkT TB N sc t y && chkT TB N sc t' (one (.BoolOp .And (z :: r) p))
    | _ => false
  | .or t t', x => match x with
    | .BoolOp .Or (y :: z :: r) p => chkT TB N sc t y && chkT TB N sc t' (one (.BoolOp .Or (z :: r) p))
    | _ => false
  | .cmp o a a', x => match x with
    | .Compare y [op] [z] _ => opCX o op && noSet z && chkE TB N sc a y && chkE TB N sc a' z
    | _ => false
  | .chn o o' a a' a'', x => match x with
    | .Compare y [op, op'] [z, w] _ => opCX o op && opCX o' op' && noSet w && chkE TB N sc a y && chkE TB N sc a' z && chkE TB N sc a'' w
    | _ => false
  | .ife _ _ _, _ => false
/-- a clause's tests: none or one -/
def chkF (TB : Tb) (N : List Str) (sc : Scope) : T → List Expr → Bool
  | .yes, xs => match xs with
    | [] => true
    | _ :: _ => false
  | .val a, xs => match xs with
    | [x] => plainT x && chkE TB N sc a x
    | _ => false
  | .not t, xs => match xs with
    | [.UnaryOp .Not y _] => chkT TB N sc t y
    | _ => false
  | .and t t', xs => match xs with
    | [.BoolOp .And (y :: z :: r) p] => chkT TB N sc t y && chkT TB N sc t' (one (.BoolOp .And (z :: r) p))
    | _ => false
  | .or t t', xs => match xs with
    | [.BoolOp .Or (y :: z :: r) p] => chkT TB N sc t y && chkT TB N sc t' (one (.BoolOp .Or (z :: r) p))
    | _ => false
  | .cmp o a a', xs => match xs with
    | [.Compare y [op] [z] _] => opCX o op && noSet z && chkE TB N sc a y && chkE TB N sc a' z
    | _ => false
  | .chn o o' a a' a'', xs => match xs with
    | [.Compare y [op, op'] [z, w] _] => opCX o op && opCX o' op' && noSet w && chkE TB N sc a y && chkE TB N sc a' z && chkE TB N sc a'' w
    | _ => false
  | .ife _ _ _, _ => false
def chkI (TB : Tb) (N : List Str) (sc : Scope) : IT → Expr → Expr → Bool
  | .seq a, _, x => chkE TB N sc a x
  | .rng es, _, x => match x with
    | .Call (.Name m _) (y :: ys) [] _ => bltX sc "range" m && Nat.ble ys.length 1 && chkL TB N sc es (y :: ys)
    | _ => false
  | .enu a, tg, x => match x with
    | .Call (.Name m _) [y] [] _ => bltX sc "enumerate" m && isTupX tg && noStar y && chkE TB N sc a y
    | _ => false
  | .zip a a', tg, x => match x with
    | .Call (.Name m _) [y, z] [] _ => bltX sc "zip" m && isTupX tg && noStar y && noStar z && chkE TB N sc a y && chkE TB N sc a' z
    | _ => false
def chkG (TB : Tb) (N : List Str) (sc : Scope) (cl : Bool) : G → Expr → Bool
  | .nam i, x => match x with
    | .Name n _ => decide (N[i]? = some n) && locN cl sc n
    | _ => false
  | .tup gs, x => match x with
    | .Tuple xs _ _ => chkGs TB N sc cl gs xs
    | _ => false
  | .sub o i, x => match x with
    | .Subscript y z _ => plainIx z && chkE TB N sc o y && chkE TB N sc i z
    | _ => false
def chkGs (TB : Tb) (N : List Str) (sc : Scope) (cl : Bool) : GL → List Expr → Bool
  | .nil, xs => match xs with
    | [] => true
    | _ :: _ => false
  | .cons g gs, xs => match xs with
    | [] => false
    | x :: xs => noStar x && chkG TB N sc cl g x && chkGs TB N sc cl gs xs
end
/-- a swap of the stores: the target's name and the comprehension's on one line -/
def swB (sc : Scope) (n : Str) (np : Pos) (x : Expr) : Bool := match x with
  | .ListComp _ _ s p => decide (sc.names.lookup n = some .local) && (np.line == p.line) && !(s.names.any fun (m, k) => m == n && (k == .local || k == .cell))
  | _ => false
/-- no swap of two stores -/
def noPar (tg x : Expr) : Bool := match tg, x with
  | .Tuple ts _ _, .Tuple vs _ _ => !(ts.length == 2 || ts.length == 3) || vs.length != ts.length || ts.any fun
    | .Name .. => false
    | _ => true
  | .List .., .Tuple .. => false
  | _, _ => true
def isLC : Expr → Bool
  | .ListComp .. => true
  | _ => false
def tgOk (tg y : Expr) : Bool := match tg with
  | .Name _ _ => !isComp y || isLC y
  | _ => noStar tg
mutual
def chkS (TB : Tb) (N : List Str) (sc : Scope) : S → Stmt → Bool
  | .expr e, x => match x with
    | .Expr y _ => !isComp y && chkE TB N sc e y
    | _ => false
  | .asg g e, x => match x with
    | .Assign [tg] y _ => noPar tg y && chkG TB N sc true g tg && chkE TB N sc e y && tgOk tg y
    | _ => false
  | .par _ _, _ => false
  | .aug i o e, x => match x with
    | .AugAssign (.Name n _) op y _ => decide (N[i]? = some n) && locN true sc n && (match o with
      | .add => opBX .add op
      | .sub => opBX .sub op
      | _ => false) && chkE TB N sc e y
    | _ => false
  | .augs _ _ _ _, _ => false
  | .ret e, x => match x with
    | .Return (some y) _ => chkE TB N sc e y
    | _ => false
  | .retn, x => match x with
    | .Return none _ => true
    | _ => false
  | .pass, x => match x with
    | .Pass _ => true
    | _ => false
  | .brk, x => match x with
    | .Break _ => true
    | _ => false
  | .cont, x => match x with
    | .Continue _ => true
    | _ => false
  | .iff t s s', x => match x with
    | .If c y z _ => chkT TB N sc t c && chkSs TB N sc s y && chkSs TB N sc s' z
    | _ => false
  | .for_ g it s, x => match x with
    | .For tg iter body [] _ => noSet iter && chkI TB N sc it tg iter && chkG TB N sc true g tg && chkSs TB N sc s body
    | _ => false
  | .whl t s, x => match x with
    | .While c body [] _ => chkT TB N sc t c && chkSs TB N sc s body
    | _ => false
def chkSs (TB : Tb) (N : List Str) (sc : Scope) : SL → List Stmt → Bool
  | .nil, xs => match xs with
    | [] => true
    | _ :: _ => false
  | .cons s ss, xs => match xs with
    | [] => false
    | x :: xs => chkS TB N sc s x && chkSs TB N sc ss xs
end
end Ev
end

section
/-! EvG: calls of the text's defs, with no guard around; what a context gives. -/
namespace Ev
open PySem PySem.Spec PyProof.Rows L2
variable {C : Cn} {μ μ' μ1 : List Addr} {H H' H1 : Hp} {M M' M1 : Sto} {bs : List Nat} {v : V} {X : Cx} {W : XK} {b : Nat} {ρ : Enn} {σ : L2.St} {cf : Cf}

/-- a def keeps its word where no repr stands around -/
structure FnG (P : Program) (w : World) (K : PySem.W.Frag) (mg : Str → Option Value) (base : Heap) (CX : CXT) (k : Nat) (f : Addr) (fd : FuncData) (ps : List Str) (sp : Sp) : Prop where
  len : ∀ vs H Q E, sp vs H Q E → vs.length = ps.length
  go : ∀ (A : Around) (outer : List Env) (s : Shared) (H : Hp) (args : Args) (us : List Value) (vs : List V) (Q : VK) (E : XK), A.guards = some [] → Room k A → Env0 P w K mg base A outer s H → sp vs H Q E → Vals vs us → BindsTo s fd args (ps.zip us) →
    codeAny (model P w) A (.call (.ref f) args) (CR CX outer P w H s Q E) s
theorem guards_deeper {A : Around} {e : Env} (h : A.guards = some []) : (A.deeper e).guards = some [] := by
  first | exact h | (unfold Around.deeper; exact h) | (simpa [Around.deeper] using h)
/-- the def runs, called with values by place and by name -/
theorem go_fnG {CX : CXT} {k : Nat} {f : Addr} {fd : FuncData} {ps : List Str} {sp : Sp} {E : XK} {pins : List (Addr × Obj)} {s : Shared} {Q : VK} {us zs : List Value} {kw : List (Str × Value)} {vs : List V}
    (F : FnG X.prog X.w X.K X.mg X.base CX k f fd ps sp) (hg : X.A.guards = some []) (hr : Room k X.A) (hx : Passes CX X E) (I : L2.Inv X pins σ H s) (r : Vals vs zs) (hb : BindsTo s fd ⟨us, kw⟩ (ps.zip zs)) (h : sp vs H Q E) :
    wpAny (model X.prog X.w) X.A (call (.ref f) us kw) (EP X pins σ Q) X.xe s :=
  wpAny_call (codeAny_mono (F.go X.A X.stack s H ⟨us, kw⟩ zs vs Q E hg hr I.env0 h r hb) fun r s' hq => by
    match r, hq with
    | .error e, hq => exact hx pins σ H s e s' I hq
    | .ok (.ret u), hq => exact I.after hq)
/-- what a def's word is: the evaluator's run -/
def spF (C : Cn) (F : Nat → List D → Nat → Sto → Out D) (f : Nat) : Sp := fun vs H Q E => ∃ bs b μ M ds, (∀ c ∈ bs, c ≤ b) ∧ Rep C bs μ M H ∧ RelDs C μ H ds vs ∧ VP C bs E μ H (F f ds b M) Q
def bltNs : List String := ["len", "max", "min", "abs", "int", "str", "repr", "list", "tuple", "sorted", "all", "any", "sum", "range", "enumerate", "zip", "isinstance", "bool", "dict"]
/-- a def of the text, as the caller sees it -/
structure FnAt (C : Cn) (P : Program) (w : World) (mg : Str → Option Value) (base : Heap) (CX : CXT) (TB : Tb) (k : Nat) (F : Nat → List D → Nat → Sto → Out D) (f : Nat) (fn : Fn) (fd : FuncData) : Prop where
  nm : mg fn.name = some (.ref (C.fa f))
  kp : PySem.W.keepIn C.K (.ref (C.fa f)) = true
  np : fn.np ≤ fn.N.length
  bd : ∀ (s : Shared) (us : List Value), us.length = fn.np → BindsTo s fd ⟨us, []⟩ ((fn.N.take fn.np).zip us)
  bk : ∀ n ks, TB.kw.contains (f, n, ks) = true → ∀ (s : Shared) (us ws zs : List Value), us.length = n → ws.length = ks.length → place fn.np us ks ws = some zs → BindsTo s fd ⟨us, (ks.filterMap fun i => fn.N[i]?).zip ws⟩ ((fn.N.take fn.np).zip zs)
  ok : FnG P w C.K mg base CX k (C.fa f) fd (fn.N.take fn.np) (spF C F f)
/-- what a context gives -/
structure GX (C : Cn) (CX : CXT) (TB : Tb) (k : Nat) (cf : Cf) (N : List Str) (W : XK) (X : Cx) : Prop where
  K : X.K = C.K
  N_ : X.N = N
  nd : N.Nodup
  calm : X.calm = true
  room : Room k X.A
  gd : X.A.guards = some []
  po : PassesOwn (model X.prog X.w) X.A X.env X.xe
  px : Passes CX X W
  px0 : ∀ outer H s e s', ¬ CX outer H s W0 e s'
  blt : ∀ n ∈ bltNs, X.mg (Str.ofString n) = none
  gv : ∀ g n d, TB.gl[g]? = some (n, d) → cf.gv g = some d ∧ ∃ u v, X.mg n = some u ∧ RelV v u ∧ ∀ μ H, RelD C μ H d v
  fns : ∀ f fn, TB.fns[f]? = some fn → ∃ fd, FnAt C X.prog X.w X.mg X.base CX TB k cf.F f fn fd
variable {CX : CXT} {TB : Tb} {k : Nat} {N : List Str}
/-- within a comprehension -/
theorem GX.blk (G : GX C CX TB k cf N W X) (s : Shared) (H : Hp) (scope : Scope) (cenv : Env) (fp : List Addr) : GX C CX TB k cf N W0 (X.blk s H scope cenv fp) where
  K := G.K
  N_ := G.N_
  nd := G.nd
  calm := G.calm
  room := G.room
  gd := G.gd
  po := PassesOwn.never
  px := fun _ _ _ _ _ _ _ h => (G.px0 _ _ _ _ _ h).elim
  px0 := G.px0
  blt := G.blt
  gv := G.gv
  fns := G.fns

/-! ### side conditions -/
theorem star_of {e : Expr} {es : List Expr} {env : Env} (h : noStar e = true) : starEach (e :: es) env = (false, eval e env) :: starEach es env := by
  cases e <;> first | rfl | cases h
theorem any_of {es : List Expr} {env : Env} {pos : Pos} (h : es.all noStar = true) : (backTo pos (starEach es env)).any (·.1) = false := by
  induction es with
  | nil => rfl
  | cons e es ih =>
    rw [List.all_cons, Bool.and_eq_true] at h
    rw [star_of h.1]
    show (false || (backTo pos (starEach es env)).any (·.1)) = false
    rw [ih h.2]
    rfl
theorem base_of {o : Expr} {a : Str} {env : Env} {whole : Sem Value} (h : baseOk o = true) : attributeBase o a env whole = whole := by
  unfold attributeBase
  split
  · cases h
  · rfl
theorem plainT_of {e : Expr} {env : Env} (h : plainT e = true) (whole : Sem Value) : isTrue e env whole = (do let v ← whole; standAt e.pos; holding [v] (truthy v)) := by
  cases e <;> first | rfl | cases h | skip
  rename_i op y p
  cases op <;> first | rfl | cases h
theorem marks_of {op : CmpOp} {e : Expr} (h : noSet e = true) : behindInMarks op e = false := by
  cases e <;> first | rfl | cases h
theorem plainIx_of {e : Expr} (h : plainIx e = true) : PlainIx e := by
  intro o i
  cases e <;> first | rfl | cases h
theorem folded_of {e : Expr} {env : Env} (h : noSet e = true) (x : Value) : foldedSetIterable e env x = pure x := by
  cases e <;> first | rfl | cases h
theorem swaps_of {e : Expr} {t : Option Expr} {n : Nat} {env : Env} (h : isComp e = false) : swapsWith e t n env = pure false := by
  cases e <;> first | rfl | cases h
theorem asg_of {e : Expr} {es : List Expr} {env : Env} (h : noStar e = true) : assignEach (e :: es) env = (false, assign e env) :: assignEach es env := by
  cases e <;> first | rfl | cases h
theorem asgs_len {es : List Expr} {env : Env} : (assignEach es env).length = es.length := by
  induction es with
  | nil => rfl
  | cons e es ih =>
    cases e <;> exact congrArg Nat.succ ih
theorem asgs_find {es : List Expr} {env : Env} (h : es.all noStar = true) : (assignEach es env).findIdx? (·.1) = none := by
  induction es with
  | nil => rfl
  | cons e es ih =>
    rw [List.all_cons, Bool.and_eq_true] at h
    rw [asg_of h.1, List.findIdx?_cons]
    simp [ih h.2]
theorem sub_of {o i : Expr} {pos : Pos} {env : Env} (h : plainIx i = true) (v : Value) : assign (.Subscript o i pos) env v = (do
      let ov ← holding [v] (eval o env)
      let iv ← holding [v, ov] (eval i env)
      standAt pos
      holding [v, ov, iv] (setItem ov iv v)
      release [v, ov, iv] []) := by
  cases i <;> first | rfl | cases h
theorem kw_names (kws : List Keyword) (env : Env) (pos : Pos) : (backToKw pos (keywordEach kws env)).map (·.1) = (kwsX kws).map (·.1) := by
  induction kws with
  | nil => rfl
  | cons k ks ih =>
    cases k
    rename_i nm y p
    show nm :: (backToKw pos (keywordEach ks env)).map (·.1) = nm :: (kwsX ks).map (·.1)
    rw [ih]
theorem blkn_of {sc : Scope} {n : Str} (h : visN sc n = true) : Vis sc n := by
  unfold visN at h
  unfold Vis
  split at h <;> first | (rename_i e; simp only [e]; simp; done) | cases h
theorem gln_of {sc : Scope} {n : Str} (h : glN sc n = true) : sc.names.lookup n = some .globalImplicit := by
  unfold glN at h
  split at h
  · assumption
  · cases h
theorem locn_of {sc : Scope} {n : Str} {cl : Bool} (h : locN cl sc n = true) : sc.names.lookup n = some .local ∨ (sc.names.lookup n = some .cell ∧ cl = true) := by
  unfold locN at h
  split at h
  · exact .inl (by assumption)
  · exact .inr ⟨by assumption, h⟩
  · cases h
theorem okn_of {n : Str} (h : okN n = true) : (n == ("__debug__" : Str)) = false ∧ (n == ("__classdict__" : Str)) = false ∧ n ≠ "__name__" := by
  unfold okN at h
  simp only [Bool.and_eq_true, Bool.not_eq_true'] at h
  exact ⟨h.1.1, h.1.2, fun e => by subst e; exact absurd h.2 (by decide)⟩
end Ev
end

section
/-! EvSnd0: the forms, one by one. -/
namespace Ev
open PySem PySem.Spec PyProof.Rows L2
variable {C : Cn} {μ μ' μ1 : List Addr} {H H' H1 : Hp} {M M' M1 : Sto} {bs : List Nat} {v : V} {X : Cx} {W : XK} {b : Nat} {ρ : Enn} {σ : L2.St} {cf : Cf} {CX : CXT} {TB : Tb} {k : Nat} {N : List Str} {sc : Scope}

theorem PE.imp {e : Expr} {t t' : TE} (h : PE X e t) (i : ∀ σ H Q, t' σ H Q → t σ H Q) : PE X e t' := ⟨fun pins s σ H Q I q => h.run pins s σ H Q I (i σ H Q q)⟩
theorem PT.imp {e : Expr} {t t' : TT} (h : PT X e t) (i : ∀ σ H Q, t' σ H Q → t σ H Q) : PT X e t' := ⟨fun pins s σ H Q I q => h.run pins s σ H Q I (i σ H Q q)⟩
theorem PW.imp {e : Expr} {t t' : TT} (h : PW X e t) (i : ∀ σ H Q, t' σ H Q → t σ H Q) : PW X e t' := ⟨fun w pins s σ H Q I q => h.run w pins s σ H Q I (i σ H Q q)⟩
theorem PA.imp {e : List Expr} {t t' : TA} (h : PA X e t) (i : ∀ σ H Q, t' σ H Q → t σ H Q) : PA X e t' := ⟨fun pos pins s σ H Q I q => h.run pos pins s σ H Q I (i σ H Q q)⟩
theorem PO.imp {e : Option Expr} {t t' : TO} (h : PO X e t) (i : ∀ σ H Q, t' σ H Q → t σ H Q) : PO X e t' := ⟨fun pins s σ H Q I q => h.run pins s σ H Q I (i σ H Q q)⟩
theorem PTs.imp {e : List Expr} {t t' : TT} (h : PTs X e t) (i : ∀ σ H Q, t' σ H Q → t σ H Q) : PTs X e t' := ⟨fun pins s σ H Q I q => h.run pins s σ H Q I (i σ H Q q)⟩
theorem PG.imp {e : Expr} {t t' : TG} (h : PG X e t) (i : ∀ v σ H Q, t' v σ H Q → t v σ H Q) : PG X e t' := ⟨fun pins s σ H v u Q I r q => h.run pins s σ H v u Q I r (i v σ H Q q)⟩
theorem PGs.imp {e : List Expr} {t t' : TGs} (h : PGs X e t) (i : ∀ v σ H Q, t' v σ H Q → t v σ H Q) : PGs X e t' := ⟨fun pins s σ H v u Q I r q => h.run pins s σ H v u Q I r (i v σ H Q q)⟩
theorem PI.imp {tg e : Expr} {t t' : TI} (h : PI X tg e t) (i : ∀ σ H Q, t' σ H Q → t σ H Q) : PI X tg e t' := ⟨fun pins s σ H Q I q => h.run pins s σ H Q I (i σ H Q q)⟩
theorem PS.imp {e : Stmt} {t t' : TS} (h : PS X e t) (i : ∀ D σ H, t' D σ H → t D σ H) : PS X e t' := ⟨fun pins s σ H D I q => h.run pins s σ H D I (i D σ H q)⟩
theorem PSs.imp {e : List Stmt} {t t' : TS} (h : PSs X e t) (i : ∀ D σ H, t' D σ H → t D σ H) : PSs X e t' := ⟨fun pins s σ H D I q => h.run pins s σ H D I (i D σ H q)⟩
theorem pw_of_one {op : BoolOp} {z : Expr} {r : List Expr} {p : Pos} {t : TT} (h : PT X (one (.BoolOp op (z :: r) p)) t) : PW X (.BoolOp op (z :: r) p) t := by
  cases r with
  | nil =>
    cases op with
    | And => exact pw_and1 h
    | Or => exact pw_or1 h
  | cons z' r => exact ⟨fun _ => h.run⟩
theorem pe_of_one {op : BoolOp} {z : Expr} {r : List Expr} {p : Pos} {t : TE} (h : PE X (one (.BoolOp op (z :: r) p)) t) : PE X (.BoolOp op (z :: r) p) t := by
  cases r with
  | nil => exact pe_one h
  | cons z' r => exact h
theorem GX.un (G : GX C CX TB k cf N W X) : X.A.units + 80 < cLine := by have := G.room.un; omega
theorem gl_of {n : Str} (hs : X.env.scope = sc) (h : glN sc n = true) : Gl X n := by
  show X.env.scope.names.lookup n = _
  rw [hs]
  exact gln_of h
theorem blt_of {n : String} {x : Str} (G : GX C CX TB k cf N W X) (hs : X.env.scope = sc) (hm : n ∈ bltNs) (h : bltX sc n x = true) : x = Str.ofString n ∧ Gl X x ∧ X.mg x = none := by
  unfold bltX at h
  rw [Bool.and_eq_true, decide_eq_true_eq] at h
  exact ⟨h.1, gl_of hs h.2, by rw [h.1]; exact G.blt n hm⟩

/-! ### calls of the text's defs -/
variable {es kes : EL}
def elen : EL → Nat
  | .nil => 0
  | .cons _ es => elen es + 1
theorem evL_len {cf : Cf} {b : Nat} {ρ : Enn} : ∀ {es : EL} {M M' : Sto} {ds : List D}, evL cf b es ρ M = .ok ds M' → ds.length = elen es
  | .nil, M, M', ds, h => by
    unfold evL at h
    cases h
    rfl
  | .cons e es, M, M', ds, h => by
    unfold evL at h
    cases e1 : evE cf b e ρ M with
    | no => rw [e1] at h; cases h
    | ex _ _ => rw [e1] at h; cases h
    | ok d M1 =>
      rw [e1, bind_ok] at h
      cases e2 : evL cf b es ρ M1 with
      | no => rw [e2] at h; cases h
      | ex _ _ => rw [e2] at h; cases h
      | ok ds2 M2 =>
        rw [e2, bind_ok] at h
        cases h
        exact congrArg Nat.succ (evL_len e2)
theorem tL_len {Q : List V → Hp → Prop} (h : tL C W cf es σ H Q) : tL C W cf es σ H fun vs H1 => vs.length = elen es ∧ Q vs H1 := by
  obtain ⟨bs, b, μ, ρ, M, z, p⟩ := h
  refine ⟨bs, b, μ, ρ, M, z, ?_⟩
  cases e : evL cf b es ρ M with
  | no => rw [e] at p; exact p
  | ex _ _ => rw [e] at p; exact p
  | ok ds M' =>
    rw [e] at p
    exact fun μ' H' l R vs r => ⟨r.length.symm.trans (evL_len e), p μ' H' l R vs r⟩
theorem call_rd {f : Nat} {Q : VK} (h : tE C W cf (.call f es) σ H Q) : tL C W cf es σ H fun vs H1 => spF C cf.F f vs H1 Q W := by
  obtain ⟨bs, b, μ, ρ, M, z, p⟩ := h
  unfold evE at p
  exact L_then z p fun d v μ1 M1 H1 l a1 r p1 => ⟨bs, b, μ1, M1, d, a1.hb, a1.R, r, p1⟩
theorem RelDs.paired : ∀ {ds : List D} {vs : List V}, RelDs C μ H ds vs → Paired (RelD C μ H) ds vs
  | [], _, h => by rw [h.nil_inv]; exact .nil
  | d :: ds, _, h => by
    obtain ⟨v, vr, rfl, r, q⟩ := h.inv
    exact .cons r q.paired
theorem relDs_of : ∀ {ds : List D} {vs : List V}, Paired (RelD C μ H) ds vs → RelDs C μ H ds vs
  | _, _, .nil => .nil
  | _, _, .cons r t => .cons r (relDs_of t)
section
variable {α β : Type} {R : α → β → Prop}
theorem paired_get : ∀ {xs : List α} {ys : List β} {i : Nat} {x : α}, Paired R xs ys → xs[i]? = some x → ∃ y, ys[i]? = some y ∧ R x y
  | _, _, _, _, .nil, e => by simp at e
  | _, _, 0, _, .cons r _, e => by simp at e; subst e; exact ⟨_, rfl, r⟩
  | _, _, i + 1, x, .cons _ t, e => by
    obtain ⟨u, h1, h2⟩ := paired_get (i := i) (x := x) t (by simpa using e)
    exact ⟨u, by simpa using h1, h2⟩
theorem paired_lookup : ∀ {ks : List Nat} {xs : List α} {ys : List β} {i : Nat} {x : α}, Paired R xs ys → (ks.zip xs).lookup i = some x → ∃ y, (ks.zip ys).lookup i = some y ∧ R x y
  | [], _, _, _, _, _, e => by simp at e
  | _ :: _, _, _, _, _, .nil, e => by simp at e
  | k :: ks, _, _, i, x, .cons (b := y) r t, e => by
    simp only [List.zip_cons_cons, List.lookup_cons] at e ⊢
    cases hk : i == k with
    | true => rw [hk] at e; cases e; exact ⟨_, rfl, r⟩
    | false => rw [hk] at e; exact paired_lookup t e
theorem allS_rel {f : Nat → Option α} {g : Nat → Option β} (h : ∀ i a, f i = some a → ∃ b, g i = some b ∧ R a b) : ∀ {l : List Nat} {zs : List α}, allS (l.map f) = some zs → ∃ ys, allS (l.map g) = some ys ∧ Paired R zs ys
  | [], zs, e => by
    unfold allS at e
    cases e
    exact ⟨[], rfl, .nil⟩
  | i :: l, zs, e => by
    obtain ⟨y, ws, e1, e2, rfl⟩ := allS_cons e
    obtain ⟨u, h1, h2⟩ := h i y e1
    obtain ⟨us, h3, h4⟩ := allS_rel h e2
    refine ⟨u :: us, ?_, .cons h2 h4⟩
    rw [List.map_cons, h1]
    unfold allS
    rw [h3]
theorem paired_len : ∀ {xs : List α} {ys : List β}, Paired R xs ys → xs.length = ys.length
  | _, _, .nil => rfl
  | _, _, .cons _ t => congrArg Nat.succ (paired_len t)
theorem place_rel {n : Nat} {xs : List α} {us : List β} {ks : List Nat} {ys : List α} {ws : List β} {zs : List α} (h1 : Paired R xs us) (h2 : Paired R ys ws) (e : place n xs ks ys = some zs) : ∃ zu, place n us ks ws = some zu ∧ Paired R zs zu := by
  unfold place at e ⊢
  have l1 := paired_len h1
  have l2 := paired_len h2
  rw [← l1, ← l2]
  split at e
  · rename_i hc
    rw [if_pos hc]
    refine allS_rel (fun i a ha => ?_) e
    cases q : xs[i]? with
    | some d =>
      rw [q] at ha
      cases ha
      obtain ⟨u, h3, h4⟩ := paired_get h1 q
      rw [h3]
      exact ⟨u, rfl, h4⟩
    | none =>
      rw [q] at ha
      have : us[i]? = none := by rw [List.getElem?_eq_none_iff] at q ⊢; omega
      rw [this]
      exact paired_lookup h2 ha
  · cases e
theorem allS_len : ∀ {xs : List (Option α)} {ys : List α}, allS xs = some ys → ys.length = xs.length
  | [], ys, e => by unfold allS at e; cases e; rfl
  | x :: xs, ys, e => by
    obtain ⟨y, zs, _, e2, rfl⟩ := allS_cons e
    exact congrArg Nat.succ (allS_len e2)
theorem place_len {n : Nat} {xs ys zs : List α} {ks : List Nat} (e : place n xs ks ys = some zs) : zs.length = n ∧ xs.length + ys.length = n ∧ ks.length = ys.length := by
  unfold place at e
  split at e
  · rename_i hc
    have := allS_len e
    simp at this
    exact ⟨this, hc⟩
  · cases e
end
theorem vals_paired {vs : List V} {us : List Value} (h : Vals vs us) : Paired RelV vs us := h
theorem callk_rd {f : Nat} {ks : List Nat} {Q : VK} (h : tE C W cf (.callk f es ks kes) σ H Q) :
    tL C W cf es σ H fun vs H1 => tL C W cf kes σ H1 fun ws H2 => ∃ zs, place (vs.length + ws.length) vs ks ws = some zs ∧ spF C cf.F f zs H2 Q W := by
  obtain ⟨bs, b, μ, ρ, M, z, p⟩ := h
  unfold evE at p
  refine L_then z p fun d v μ1 M1 H1 l a1 r p1 => L_then a1 p1 fun d' v' μ2 M2 H2 l2 a2 r2 p2 => ?_
  obtain ⟨zs, e, p3⟩ := O_of p2
  have ra := r.le l2
  obtain ⟨zv, e2, rz⟩ := place_rel ra.paired r2.paired e
  rw [ra.length, r2.length] at e2
  exact ⟨zv, e2, bs, b, μ2, M2, zs, a2.hb, a2.R, relDs_of rz, p3⟩
theorem FnAt.len {F : Nat → List D → Nat → Sto → Out D} {P : Program} {w : World} {mg : Str → Option Value} {base : Heap} {f : Nat} {fn : Fn} {fd : FuncData} (A : FnAt C P w mg base CX TB k F f fn fd) {vs : List V} {H : Hp} {Q : VK} {E : XK} (h : spF C F f vs H Q E) : vs.length = fn.np := by
  have z := A.ok.len vs H Q E h
  rw [List.length_take] at z
  have := A.np
  omega
theorem pe_callG0 (G : GX C CX TB k cf N W X) (hs : X.env.scope = sc) {f : Nat} {fn : Fn} (hf : TB.fns[f]? = some fn) (hg : glN sc fn.name = true) (ok : okN fn.name = true) {p pos : Pos} : PE X (.Call (.Name fn.name p) [] [] pos) (tE C W cf (.call f .nil)) := by
  obtain ⟨fd, A⟩ := G.fns f fn hf
  refine ⟨fun pins s σ H Q I h => ?_⟩
  have h1 := lnil_rd (call_rd h)
  have hl := A.len h1
  refine wpAny_Call_Name_kw (ld_glob I (gl_of hs hg) A.nm ?_ (okn_of ok).1)
  exact PySem.W.callWith_K0 (K := X.K) I.kIn (by rw [G.K]; exact A.kp) (go_fnG (us := []) (kw := []) (by rw [G.K]; exact A.ok) G.gd G.room G.px I .nil (A.bd s [] hl) h1)
theorem pe_callG (G : GX C CX TB k cf N W X) (hs : X.env.scope = sc) {f : Nat} {fn : Fn} (hf : TB.fns[f]? = some fn) (hg : glN sc fn.name = true) (ok : okN fn.name = true) {p pos : Pos} {x : Expr} {xs : List Expr} (ha : PA X (x :: xs) (tL C W cf es)) (hst : (x :: xs).all noStar = true) :
    PE X (.Call (.Name fn.name p) (x :: xs) [] pos) (tE C W cf (.call f es)) := by
  obtain ⟨fd, A⟩ := G.fns f fn hf
  rw [List.all_cons, Bool.and_eq_true] at hst
  refine ⟨fun pins s σ H Q I h => ?_⟩
  refine wpAny_Call_Name_kw (ld_glob I (gl_of hs hg) A.nm ?_ (okn_of ok).1)
  refine PySem.W.callWith_K (K := X.K) (h₀ := X.base) I.ok.mod.kin (by rw [G.K]; exact A.kp) (thn (ha.run pos pins s σ H _ I (call_rd h)) fun us s1 ⟨vs, H1, I1, r, q⟩ => ⟨I1.kIn, ?_⟩) (star_of hst.1) (any_of hst.2)
  exact go_fnG (us := us) (kw := []) (by rw [G.K]; exact A.ok) G.gd G.room G.px I1 r (A.bd s1 us (r.length.symm.trans (A.len q))) q
theorem any_none {l : List (Option Str × Sem Value)} {ns : List Str} (h : l.map (·.1) = ns.map some) : l.any (·.1.isNone) = false ∧ l.all (·.1.isSome) = true ∧ l.filterMap (·.1) = ns := by
  induction l generalizing ns with
  | nil =>
    cases ns with
    | nil => exact ⟨rfl, rfl, rfl⟩
    | cons _ _ => cases h
  | cons a l ih =>
    cases ns with
    | nil => cases h
    | cons n ns =>
      simp only [List.map_cons, List.cons.injEq] at h
      obtain ⟨h1, h2⟩ := h
      obtain ⟨i1, i2, i3⟩ := ih h2
      refine ⟨?_, ?_, ?_⟩
      · rw [List.any_cons, h1, i1]; rfl
      · rw [List.all_cons, h1, i2]; rfl
      · rw [List.filterMap_cons, h1]; simp [i3]
theorem some_all {fn : Fn} : ∀ {ks : List Nat}, ks.all (fun i => (fn.N[i]?).isSome) = true → ks.map (fun i => fn.N[i]?) = (ks.filterMap fun i => fn.N[i]?).map some
  | [], _ => rfl
  | i :: ks, h => by
    rw [List.all_cons, Bool.and_eq_true] at h
    obtain ⟨n, e⟩ := Option.isSome_iff_exists.mp h.1
    rw [List.map_cons, List.filterMap_cons, e, some_all h.2]
    rfl
theorem pe_callGK (G : GX C CX TB k cf N W X) (hs : X.env.scope = sc) {f : Nat} {fn : Fn} (hf : TB.fns[f]? = some fn) (hg : glN sc fn.name = true) (ok : okN fn.name = true) {p pos : Pos} {xs : List Expr} {kws : List Keyword} {ks : List Nat}
    (ha : PA X xs (tL C W cf es)) (hst : xs.all noStar = true) (hnil : xs = [] → es = .nil) (hk : PK X kws (tL C W cf kes)) (hn : (kwsX kws).map (·.1) = ks.map fun i => fn.N[i]?) (hi : ks.all (fun i => (fn.N[i]?).isSome) = true)
    (hc : TB.kw.contains (f, xs.length, ks) = true) (hlen : elen es = xs.length) : PE X (.Call (.Name fn.name p) xs kws pos) (tE C W cf (.callk f es ks kes)) := by
  obtain ⟨fd, A⟩ := G.fns f fn hf
  obtain ⟨n1, n2, n3⟩ := any_none ((kw_names kws X.env pos).trans (hn.trans (some_all hi)))
  refine ⟨fun pins s σ H Q I h => ?_⟩
  have h1 := callk_rd h
  have fin : ∀ {s1 s2 : Shared} {H1 H2 : Hp} {vs ws : List V} {us uw : List Value}, us.length = xs.length → L2.Inv X pins σ H2 s2 → Vals vs us → Vals ws uw → (∃ zs, place (vs.length + ws.length) vs ks ws = some zs ∧ spF C cf.F f zs H2 Q W) →
      wpAny (model X.prog X.w) X.A (call (.ref (C.fa f)) us ((ks.filterMap fun i => fn.N[i]?).zip uw)) (EP X pins σ Q) X.xe s2 := fun {s1 s2 H1 H2 vs ws us uw} hl I2 r1 r2 ⟨zs, e, q⟩ => by
    have hl2 := A.len q
    obtain ⟨p1, p2, p3⟩ := place_len e
    obtain ⟨zu, e3, rz⟩ := place_rel (vals_paired r1) (vals_paired r2) e
    have hnp : vs.length + ws.length = fn.np := by omega
    rw [hnp] at e3
    exact go_fnG (by rw [G.K]; exact A.ok) G.gd G.room G.px I2 rz (A.bk xs.length ks hc s2 us uw zu hl (by rw [p3]; exact r2.length.symm) e3) q
  refine wpAny_Call_Name_kw (ld_glob I (gl_of hs hg) A.nm ?_ (okn_of ok).1)
  cases xs with
  | nil =>
    cases hnil rfl
    refine PySem.W.callWith_KW0 (K := X.K) (h₀ := X.base) I.ok.mod.kin (by rw [G.K]; exact A.kp) n2 (thn (hk.run pos pins s σ H _ I (lnil_rd h1)) fun ws s2 ⟨zs, H2, I2, rz, q2⟩ => ⟨I2.kIn, ?_⟩) (by show (false || _) = false; rw [n1]; rfl)
    rw [n3]
    exact fin (s1 := s2) (H1 := H2) (us := []) rfl I2 .nil rz q2
  | cons x xs =>
    rw [List.all_cons, Bool.and_eq_true] at hst
    refine PySem.W.callWith_KW (K := X.K) (h₀ := X.base) I.ok.mod.kin (by rw [G.K]; exact A.kp) n2 (thn (ha.run pos pins s σ H _ I (tL_len h1)) fun us s1 ⟨vs, H1, I1, r, ql, q⟩ => ?_) ?_ (star_of hst.1)
    · refine thn (hk.run pos pins s1 σ H1 _ I1 q) fun ws s2 ⟨zs, H2, I2, rz, q2⟩ => ⟨I2.kIn, ?_⟩
      rw [n3]
      exact fin (s1 := s1) (H1 := H1) (us := us) (r.length.symm.trans (ql.trans hlen)) I2 r rz q2
    · rw [star_of hst.1, n1]
      show ((false || (backTo pos (starEach xs X.env)).any (·.1)) || false) = false
      rw [any_of hst.2]
      rfl
end Ev
end

section
/-! EvSnd1: built-ins, methods, isinstance, what loops walk. -/
namespace Ev
open PySem PySem.Spec PyProof.Rows L2
variable {C : Cn} {μ μ' μ1 : List Addr} {H H' H1 : Hp} {M M' M1 : Sto} {bs : List Nat} {v : V} {X : Cx} {W : XK} {b : Nat} {ρ : Enn} {σ : L2.St} {cf : Cf} {CX : CXT} {TB : Tb} {k : Nat} {N : List Str} {sc : Scope}

theorem nmB_in (o : BI) : nmB o ∈ bltNs := by cases o <;> decide
theorem boot_B (o : BI) : bootBuiltins (Str.ofString (nmB o)) = some (fvB o) := by cases o <;> decide +kernel
theorem nm_ne (o : BI) : (Str.ofString (nmB o)) ≠ "__name__" := by cases o <;> decide
theorem nm_db (o : BI) : (Str.ofString (nmB o) == ("__debug__" : Str)) = false := by cases o <;> decide
theorem pe_bi (G : GX C CX TB k cf N W X) (hs : X.env.scope = sc) (o : BI) {n : Str} {p pos : Pos} {x : Expr} {xs : List Expr} {es : EL} (hb : bltX sc (nmB o) n = true) (ha : PA X (x :: xs) (tL C W cf es)) (hst : (x :: xs).all noStar = true) :
    PE X (.Call (.Name n p) (x :: xs) [] pos) (tE C W cf (.bi o es)) := by
  obtain ⟨rfl, hg, hm⟩ := blt_of G hs (nmB_in o) hb
  have hst' := hst
  rw [List.all_cons, Bool.and_eq_true] at hst
  have hc := call_rF (X := X) (C := C) G.K G.calm G.un G.gd o
  have hv := boot_B o
  refine PE.imp (t := tCB (rF C o) (tL C W cf es)) ?_ fun σ H Q q => bi_rd q
  have hB : ∀ id, fvB o = .builtin id → PE X (.Call (.Name (Str.ofString (nmB o)) p) (x :: xs) [] pos) (tCB (rF C o) (tL C W cf es)) := fun id e => by
    rw [e] at hc hv
    exact pe_callB hc hg hm hv ha (nm_ne o) (nm_db o) (star_of hst.1) (any_of hst.2)
  have hT : ∀ T, fvB o = .type T → PE X (.Call (.Name (Str.ofString (nmB o)) p) (x :: xs) [] pos) (tCB (rF C o) (tL C W cf es)) := fun T e => by
    rw [e] at hc hv
    exact pe_callTy hc hg hm hv ha (nm_ne o) (nm_db o) (star_of hst.1) (any_of hst.2)
  cases o <;> first | exact hB _ rfl | exact hT _ rfl
theorem plaM : ∀ m : MT, PlainAttrs (tyM m)
  | .append => PySem.F.plainAttrs_list
  | .extend => PySem.F.plainAttrs_list
  | .pop => PySem.F.plainAttrs_list
  | .popAt => PySem.F.plainAttrs_list
  | .insert => PySem.F.plainAttrs_list
  | .count => PySem.F.plainAttrs_list
  | .index => PySem.F.plainAttrs_list
  | .clear => PySem.F.plainAttrs_list
  | .join => PySem.F.plainAttrs_str
theorem slotM : ∀ m : MT, Slot (tyM m) (Str.ofString (nmM m)) (idM m)
  | .append => PySem.F.slot_list_append
  | .extend => PySem.F.slot_list_extend
  | .pop => PySem.F.slot_list_pop
  | .popAt => PySem.F.slot_list_pop
  | .insert => PySem.F.slot_list_insert
  | .count => PySem.F.slot_list_count
  | .index => PySem.F.slot_list_index
  | .clear => PySem.F.slot_list_clear
  | .join => PySem.F.slot_str_join
theorem typM : ∀ m : MT, typeOf (.builtin (idM m)) = pure (.type "method_descriptor")
  | .append => PySem.F.type_list_append
  | .extend => PySem.F.type_list_extend
  | .pop => PySem.F.type_list_pop
  | .popAt => PySem.F.type_list_pop
  | .insert => PySem.F.type_list_insert
  | .count => PySem.F.type_list_count
  | .index => PySem.F.type_list_index
  | .clear => PySem.F.type_list_clear
  | .join => PySem.F.type_str_join
theorem all_few {cpos : Pos} {env : Env} {xs : List Expr} (h : xs.all noStar = true) (hn : Nat.blt xs.length 30 = true) :
    ((backTo cpos (starEach xs env)).all (fun x => !x.1) && (backToKw cpos (keywordEach [] env)).all (fun x => x.1.isSome) && decide (xs.length + ([] : List Keyword).length + (if ([] : List Keyword).isEmpty then 0 else 1) < 30)) = true := by
  have e : (backTo cpos (starEach xs env)).all (fun x => !x.1) = true := by
    have z := any_of (env := env) (pos := cpos) h
    rw [List.all_eq_not_any_not]
    simp only [Bool.not_not]
    rw [z]; rfl
  rw [e]
  have := Nat.blt_eq.mp hn
  simpa [backToKw, keywordEach] using this
theorem pe_mt (G : GX C CX TB k cf N W X) (m : MT) {o : E} {es : EL} {y : Expr} {xs : List Expr} {apos cpos : Pos} (ho : PE X y (tE C W cf o)) (hb : baseOk y = true) (hl : (apos.endLine == cpos.line) = true) (hn : Nat.blt xs.length 30 = true)
    (ha : PA X xs (tL C W cf es)) (hst : xs.all noStar = true) (hnil : xs = [] → es = .nil) : PE X (.Call (.Attribute y (Str.ofString (nmM m)) apos) xs [] cpos) (tE C W cf (.mth m o es)) := by
  cases xs with
  | nil =>
    cases hnil rfl
    refine PE.imp (pe_bm0 (plaM m) (slotM m) (typM m) (mt_rM (X := X) (C := C) G.K m) ho (base_of hb) hl) fun σ H Q q => ?_
    obtain ⟨bs, b, μ, ρ, M, z, p⟩ := mth_rd G.K q
    exact ⟨bs, b, μ, ρ, M, z, p.imp fun d μ' M' H' l R p v r => ⟨(p v r).1, lnil_rd (p v r).2⟩⟩
  | cons x xs =>
    have hst' := hst
    rw [List.all_cons, Bool.and_eq_true] at hst
    exact PE.imp (pe_bm (plaM m) (slotM m) (typM m) (mt_rM (X := X) (C := C) G.K m) ho ha (base_of hb) (all_few hst' hn) hl (star_of hst.1) (any_of hst.2)) fun σ H Q q => mth_rd G.K q

/-! ### isinstance -/
theorem nmU_in {c : CL} {s : String} (h : nmU c = some s) : s ∈ bltNs ∧ bootBuiltins (Str.ofString s) = some (.type s) ∧ (Str.ofString s) ≠ "__name__" ∧ (Str.ofString s == ("__debug__" : Str)) = false ∧ nmC c = some s := by
  cases c <;> first
    | (cases h; exact ⟨by decide, by decide +kernel, by decide, by decide, rfl⟩)
    | cases h
theorem pe_cl (G : GX C CX TB k cf N W X) (hs : X.env.scope = sc) {c : CL} {x : Expr} (h : clX sc c x = true) : ∃ s, nmC c = some s ∧ PE X x (tC (.ty s)) ∧ noStar x = true := by
  unfold clX at h
  split at h
  · rename_i n p s e
    obtain ⟨h1, h2, h3, h4, h5⟩ := nmU_in e
    obtain ⟨rfl, hg, hm⟩ := blt_of G hs h1 h
    exact ⟨s, h5, pe_bltn hg hm h2 rfl h3 h4, rfl⟩
  · cases h
/-- a row of known values -/
def tVs (vs : List V) : TA := fun _ H Q => Q vs H
theorem pa_cls (G : GX C CX TB k cf N W X) (hs : X.env.scope = sc) : ∀ {cs : List CL} {xs : List Expr}, clsX sc cs xs = true → ∃ ns : List String, cs.map nmC = ns.map some ∧ PA X xs (tVs (ns.map V.ty))
  | [], [], _ => ⟨[], rfl, PA.imp pa_nil fun _ _ _ q => q⟩
  | c :: cs, x :: xs, h => by
    unfold clsX at h
    rw [Bool.and_eq_true, Bool.and_eq_true] at h
    obtain ⟨⟨h1, h2⟩, h3⟩ := h
    obtain ⟨s, e, p, _⟩ := pe_cl G hs h2
    obtain ⟨ns, e2, q⟩ := pa_cls G hs h3
    exact ⟨s :: ns, by rw [List.map_cons, List.map_cons, e, e2], PA.imp (pa_cons p q (star_of h1)) fun _ _ _ q => q⟩
  | [], _ :: _, h => by cases h
  | _ :: _, [], h => by cases h
theorem clsV_all : ∀ ns : List String, Paired ClsV (ns.map V.ty) (ns.map Value.type)
  | [] => .nil
  | n :: ns => .cons (.ty n) (clsV_all ns)
theorem cls_few {t : Ty} {cs : List CL} {k : Bool} (h : isAny t cs = some k) (hl : Nat.ble cs.length 9 = true) : cs.length ≤ sizeLine := by
  have := Nat.ble_eq.mp hl
  have z : sizeLine = cap := rfl
  unfold cap at z
  omega
theorem pe_isi (G : GX C CX TB k cf N W X) (hs : X.env.scope = sc) {a : E} {cs : List CL} {n : Str} {p pos : Pos} {y z : Expr} (hb : bltX sc "isinstance" n = true) (hy : noStar y = true) (hz : noStar z = true) (hc : isiX sc cs z = true) (hf : Nat.ble cs.length 9 = true) (ha : PE X y (tE C W cf a)) :
    PE X (.Call (.Name n p) [y, z] [] pos) (tE C W cf (.isi a cs)) := by
  obtain ⟨rfl, hg, hm⟩ := blt_of G hs (by decide) hb
  have bt : bootBuiltins (Str.ofString "isinstance") = some (.builtin "isinstance") := by decide +kernel
  unfold isiX at hc
  split at hc
  · rename_i xs kk pp
    obtain ⟨ns, e, q⟩ := pa_cls G hs hc
    refine PE.imp (pe_callB (call_isiT (X := X)) hg hm bt (pa_cons ha (pa_cons (pe_tup q) pa_nil rfl) (star_of hy)) (by decide) (by decide) (star_of hy) (by rfl)) fun σ H Q h => ?_
    obtain ⟨bs, b, μ, ρ, M, zz, pp⟩ := isi_rd G.K h
    refine ⟨bs, b, μ, ρ, M, zz, pp.imp fun d μ' M' H' l R p v r => ?_⟩
    obtain ⟨t, k, e1, _, e3, _⟩ := p v r
    obtain ⟨ns', e4, e5⟩ := kitAny_sound X.K e1
    have en : ns' = ns := by
      have z : ns'.map some = ns.map some := e4.symm.trans e
      have inj : ∀ (a b : List String), a.map some = b.map some → a = b := fun a => by
        induction a with
        | nil => intro b h; cases b with
          | nil => rfl
          | cons _ _ => cases h
        | cons x a ih => intro b h; cases b with
          | nil => cases h
          | cons y b =>
            simp only [List.map_cons, List.cons.injEq, Option.some.injEq] at h
            rw [h.1, ih b h.2]
      exact inj _ _ z
    subst en
    refine ⟨?_, fun q hq => ?_⟩
    · rw [List.length_map]
      have : ns'.length = cs.length := by
        have z := congrArg List.length e4
        simpa using z.symm
      rw [this]; exact cls_few e1 hf
    · obtain ⟨ty, qk⟩ := e3 q (.tup (ns'.map V.ty)) hq
      exact ⟨v, q, ns'.map V.ty, _, ns'.map Value.type, k, rfl, upd_same, clsV_all ns', ty, e5, qk⟩
  · split at hc
    · rename_i c
      obtain ⟨s, e, q, _⟩ := pe_cl G hs hc
      refine PE.imp (pe_callB (call_isi (X := X)) hg hm bt (pa_cons ha (pa_cons q pa_nil rfl) (star_of hy)) (by decide) (by decide) (star_of hy) (by rfl)) fun σ H Q h => ?_
      obtain ⟨bs, b, μ, ρ, M, zz, pp⟩ := isi_rd G.K h
      refine ⟨bs, b, μ, ρ, M, zz, pp.imp fun d μ' M' H' l R p v r => ?_⟩
      obtain ⟨t, k, e1, ty, _, qk⟩ := p v r
      unfold isAny at e1
      cases ek : isTy t c with
      | none => rw [ek] at e1; cases e1
      | some k0 =>
        rw [ek] at e1
        unfold isAny at e1
        simp only [Bool.or_false, Option.some.injEq] at e1
        subst e1
        obtain ⟨s', e4, e5⟩ := kit_sound X.K ek
        rw [e] at e4
        cases e4
        exact ⟨v, .ty s, _, .type s, k0, rfl, .ty s, ty, e5, qk⟩
    · cases hc
  · cases hc
end Ev
end

section
/-! EvSnd: what the evaluator says of an expression is so. -/
namespace Ev
open PySem PySem.Spec PyProof.Rows L2
variable {C : Cn} {cf : Cf} {CX : CXT} {TB : Tb} {k : Nat} {N : List Str}

/-- iter(e) for what loops walk -/
theorem pi_seq {X : Cx} {W : XK} {tg x : Expr} {a : E} (hK : X.K = C.K) (ha : PE X x (tE C W cf a)) : PI X tg x (tI C W cf (.seq a)) := by
  refine ⟨fun pins s σ H R I h => ?_⟩
  obtain ⟨bs, b, μ, ρ, M, z, p⟩ := h
  unfold evI at p
  have h2 : tE C W cf a σ H fun v H1 => ∃ bs μ M d sr, Rep C bs μ M H1 ∧ srcOf M d = some sr ∧ RelD C μ H1 d v ∧ ∀ J, SrcJ C μ H1 sr J → R J H1 :=
    E_then z p fun d v μ1 M1 H1 l a1 r p1 => by
      obtain ⟨sr, e, p2⟩ := O_fin p1
      exact ⟨bs, μ1, M1, d, sr, a1.R, e, r, fun J hJ => Post.here p2 a1.R J hJ⟩
  refine thn (ha.run pins s σ H _ I h2) fun u s1 ⟨v, H1, I1, rv, bs', μ', M', d, sr, R', e, r, q⟩ => iter_seq hK R' e r I1 rv q
theorem two_int {ds : List D} {lo : Int} {n : Nat} (h : rngOf ds = some (.rng lo n)) : (∃ j, ds = [.int j] ∧ big j = true ∧ lo = 0 ∧ n = j.toNat) ∨ ∃ i j, ds = [.int i, .int j] ∧ big i = true ∧ big j = true ∧ lo = i ∧ n = (j - i).toNat := by
  unfold rngOf at h
  split at h
  · rename_i j
    split at h
    · cases h; exact .inl ⟨_, rfl, by assumption, rfl, rfl⟩
    · cases h
  · rename_i i j
    split at h
    · rename_i hc
      rw [Bool.and_eq_true] at hc
      cases h
      exact .inr ⟨_, _, rfl, hc.1, hc.2, rfl, rfl⟩
    · cases h
  · cases h
theorem rng_shape {ds : List D} {s : Src} (h : rngOf ds = some s) : ∃ lo n, s = .rng lo n := by
  unfold rngOf at h
  split at h
  · split at h
    · cases h; exact ⟨_, _, rfl⟩
    · cases h
  · split at h
    · cases h; exact ⟨_, _, rfl⟩
    · cases h
  · cases h
theorem big_ok {i : Int} (h : big i = true) : -(2 ^ 62) ≤ i ∧ i < 2 ^ 62 := by
  unfold big at h
  rw [Bool.and_eq_true, decide_eq_true_eq, decide_eq_true_eq] at h
  omega
theorem rng1_rd {W : XK} {es : EL} {σ : L2.St} {H : Hp} {R : It → Hp → Prop} (h : tI C W cf (.rng es) σ H R) (hl : elen es = 1) : iRng1 (tL C W cf es) σ H R := by
  obtain ⟨bs, b, μ, ρ, M, z, p⟩ := h
  unfold evI at p
  have h2 := tL_len (L_then z p fun d v μ1 M1 H1 l a1 r p1 => (by
    obtain ⟨s, e, p2⟩ := O_fin p1
    exact ⟨d, s, r.length, e, ⟨μ1, r⟩, fun J hJ => Post.here p2 a1.R J (hJ μ1)⟩ : ∃ d s, d.length = v.length ∧ rngOf d = some s ∧ (∃ μ1, RelDs C μ1 H1 d v) ∧ ∀ J, (∀ μ1, SrcJ C μ1 H1 s J) → R J H1))
  obtain ⟨bs, b, μ, ρ, M, z, p⟩ := h2
  refine ⟨bs, b, μ, ρ, M, z, p.imp fun ds μ' M' H' l R p v r => ?_⟩
  obtain ⟨hv, d, s, hd, e, ⟨μ1, r1⟩, q⟩ := p v r
  obtain ⟨lo, n, rfl⟩ := rng_shape e
  rcases two_int e with ⟨j, rfl, hb, rfl, rfl⟩ | ⟨i, j, rfl, _⟩
  · obtain ⟨w, _, rfl, r2, r3⟩ := r1.inv
    cases r3.nil_inv
    cases relD_int.mp r2
    exact ⟨j, rfl, (big_ok hb).1, (big_ok hb).2, q _ fun μ1 => rng_J 0 j.toNat⟩
  · rw [hv, hl] at hd
    cases hd
theorem rng2_rd {W : XK} {es : EL} {σ : L2.St} {H : Hp} {R : It → Hp → Prop} (h : tI C W cf (.rng es) σ H R) (hl : elen es = 2) : iRng2 (tL C W cf es) σ H R := by
  obtain ⟨bs, b, μ, ρ, M, z, p⟩ := h
  unfold evI at p
  have h2 := tL_len (L_then z p fun d v μ1 M1 H1 l a1 r p1 => (by
    obtain ⟨s, e, p2⟩ := O_fin p1
    exact ⟨d, s, r.length, e, ⟨μ1, r⟩, fun J hJ => Post.here p2 a1.R J (hJ μ1)⟩ : ∃ d s, d.length = v.length ∧ rngOf d = some s ∧ (∃ μ1, RelDs C μ1 H1 d v) ∧ ∀ J, (∀ μ1, SrcJ C μ1 H1 s J) → R J H1))
  obtain ⟨bs, b, μ, ρ, M, z, p⟩ := h2
  refine ⟨bs, b, μ, ρ, M, z, p.imp fun ds μ' M' H' l R p v r => ?_⟩
  obtain ⟨hv, d, s, hd, e, ⟨μ1, r1⟩, q⟩ := p v r
  obtain ⟨lo, n, rfl⟩ := rng_shape e
  rcases two_int e with ⟨j, rfl, _⟩ | ⟨i, j, rfl, hb, hb', rfl, rfl⟩
  · rw [hv, hl] at hd
    cases hd
  · obtain ⟨w, _, rfl, r2, r3⟩ := r1.inv
    obtain ⟨w', _, rfl, r4, r5⟩ := r3.inv
    cases r5.nil_inv
    cases relD_int.mp r2
    cases relD_int.mp r4
    exact ⟨lo, j, rfl, ⟨(big_ok hb).1, (big_ok hb).2, (big_ok hb').1, (big_ok hb').2⟩, q _ fun μ1 => rng_J lo (j - lo).toNat⟩
theorem enu_rd {X : Cx} {W : XK} {a : E} {σ : L2.St} {H : Hp} {R : It → Hp → Prop} (hK : X.K = C.K) (h : tI C W cf (.enu a) σ H R) : iEnum X.K (tCons (tE C W cf a) tNil) σ H R := by
  obtain ⟨bs, b, μ, ρ, M, z, p⟩ := h
  unfold evI at p
  refine E_then z p fun d v μ1 M1 H1 l a1 r p1 => ?_
  obtain ⟨s, e, p2⟩ := O_fin p1
  unfold enuOf at e
  cases e1 : lsrc M1 d with
  | none => rw [e1] at e; cases e
  | some s1 =>
    rw [e1] at e
    cases e
    obtain ⟨ad, vs, rfl, h1, L⟩ := lsrc_ok a1.R e1 r
    rw [hK]
    exact ⟨ad, vs, rfl, h1, Post.here p2 a1.R _ L.enu⟩
theorem zip_rd {X : Cx} {W : XK} {a a' : E} {σ : L2.St} {H : Hp} {R : It → Hp → Prop} (hK : X.K = C.K) (h : tI C W cf (.zip a a') σ H R) : RZ.iZipA X.K (tCons (tE C W cf a) (tCons (tE C W cf a') tNil)) σ H R := by
  obtain ⟨bs, b, μ, ρ, M, z, p⟩ := h
  unfold evI at p
  refine E_then z p fun d v μ1 M1 H1 l a1 r p1 => E_then a1 p1 fun d' v' μ2 M2 H2 l2 a2 r2 p2 => ?_
  obtain ⟨s, e, p3⟩ := O_fin p2
  have r1 := r.le l2
  rw [hK]
  unfold zipOf at e
  split at e
  · rename_i s1 s2 e1 e2
    cases e
    obtain ⟨ad, vs, rfl, h1, L1⟩ := lsrc_ok a2.R e1 r1
    obtain ⟨ad', vs', rfl, h2, L2⟩ := lsrc_ok a2.R e2 r2
    exact ⟨ad, ad', vs, vs', rfl, .inl ⟨h1, h2, Post.here p3 a2.R _ (L1.zip L2)⟩⟩
  · split at e
    · rename_i xs ys _
      cases e
      obtain ⟨ad, vs, rfl, h1, z1⟩ := relD_tup.mp r1
      obtain ⟨ad', vs', rfl, h2, z2⟩ := relD_tup.mp r2
      exact ⟨ad, ad', vs, vs', rfl, .inr ⟨h1, h2, Post.here p3 a2.R _ (zip_tup h1 z1 h2 z2)⟩⟩
    · cases e
theorem mk_str (t : Str) : (⟨t.cps.toList.toArray⟩ : Str) = t := by
  cases t
  simp
theorem cst_pe {X : Cx} {W : XK} {d : D} {c : Const} {j : Nat} {pos : Pos} (h : cstOk d c = true) : PE X (.Constant c j pos) (tE C W cf (.cst d)) := by
  unfold cstOk at h
  split at h
  · exact PE.imp pe_non fun σ H Q q => cst_rd (fun _ _ => relD_non.mpr rfl) q
  · rename_i a b
    have e := beq_iff_eq.mp h
    subst e
    exact PE.imp pe_bl fun σ H Q q => cst_rd (fun _ _ => relD_bl.mpr rfl) q
  · have e := beq_iff_eq.mp h
    subst e
    exact PE.imp pe_int fun σ H Q q => cst_rd (fun _ _ => relD_int.mpr rfl) q
  · have e := beq_iff_eq.mp h
    subst e
    exact PE.imp pe_str fun σ H Q q => cst_rd (fun _ _ => relD_str.mpr (congrArg V.str (mk_str _).symm)) q
  · cases h
theorem opB_of {o : B2} {op : Operator} (h : opBX o op = true) : op = opB o := decide_eq_true_eq.mp h
theorem opC_of {o : C2} {op : CmpOp} (h : opCX o op = true) : op = opC o := decide_eq_true_eq.mp h
theorem sub_of' {a b : List Nat} (h : subL a b = true) : ∀ i ∈ a, i ∈ b := fun i hi => by
  have z := List.all_eq_true.mp h i hi
  simpa using z
theorem chkL_star {sc : Scope} : ∀ {es : EL} {xs : List Expr}, chkL TB N sc es xs = true → xs.all noStar = true ∧ elen es = xs.length ∧ (xs = [] → es = .nil)
  | .nil, xs, h => by
    unfold chkL at h
    cases xs with
    | nil => exact ⟨rfl, rfl, fun _ => rfl⟩
    | cons _ _ => cases h
  | .cons e es, xs, h => by
    unfold chkL at h
    cases xs with
    | nil => cases h
    | cons x xs =>
      dsimp only at h
      rw [Bool.and_eq_true, Bool.and_eq_true] at h
      obtain ⟨i1, i2, _⟩ := chkL_star h.2
      exact ⟨by rw [List.all_cons, h.1.1, i1]; rfl, congrArg Nat.succ i2, fun z => by cases z⟩
theorem chkGs_star {sc : Scope} {cl : Bool} : ∀ {es : GL} {xs : List Expr}, chkGs TB N sc cl es xs = true → xs.all noStar = true ∧ glen es = xs.length
  | .nil, xs, h => by
    unfold chkGs at h
    cases xs with
    | nil => exact ⟨rfl, rfl⟩
    | cons _ _ => cases h
  | .cons e es, xs, h => by
    unfold chkGs at h
    cases xs with
    | nil => cases h
    | cons x xs =>
      dsimp only at h
      rw [Bool.and_eq_true, Bool.and_eq_true] at h
      obtain ⟨i1, i2⟩ := chkGs_star h.2
      exact ⟨by rw [List.all_cons, h.1.1, i1]; rfl, congrArg Nat.succ i2⟩
theorem chkF_inv {sc : Scope} {t : T} {xs : List Expr} (h : chkF TB N sc t xs = true) : (t = .yes ∧ xs = []) ∨ ∃ x, xs = [x] ∧ chkT TB N sc t x = true := by
  unfold chkF at h
  split at h
  · split at h
    · exact .inl ⟨rfl, rfl⟩
    · cases h
  all_goals first
    | cases h
    | (split at h
       · exact .inr ⟨_, rfl, by unfold chkT; exact h⟩
       · cases h)
theorem lc_own {sc scope : Scope} {ow : List Nat} {X : Cx} (hN : X.N = N) (hs : X.env.scope = sc) (h : blkC N sc scope (ownOf N ow) = true) : BlkOk X.N X.env.scope scope (ownOf N ow) := by
  rw [hN, hs]
  exact blkOk_by h
theorem blk_scope {X : Cx} {sc scope : Scope} (hs : X.env.scope = sc) (s : Shared) (H : Hp) (A : Addr) (cl : List (Str × Addr)) (fp : List Addr) : (X.blk s H scope (compEnvC scope cl A X.env) fp).env.scope = relS scope sc := by
  subst hs
  rfl
mutual
theorem sE : ∀ (e : E) {X : Cx} {W : XK} {sc : Scope} {x : Expr}, GX C CX TB k cf N W X → X.env.scope = sc → chkE TB N sc e x = true → PE X x (tE C W cf e)
  | .var i, X, W, sc, x, G, hs, h => by
    unfold chkE at h
    split at h
    · simp only [Bool.and_eq_true, decide_eq_true_eq] at h
      obtain ⟨k1, k2, _⟩ := okn_of h.1.1
      exact PE.imp (pe_var (by rw [G.N_]; exact h.1.2) (by rw [hs]; exact blkn_of h.2) k1 k2) fun σ H Q q => var_rd q
    · cases h
  | .cst d, X, W, sc, x, G, hs, h => by
    unfold chkE at h
    split at h
    · exact cst_pe h
    · cases h
  | .glb g, X, W, sc, x, G, hs, h => by
    unfold chkE at h
    split at h
    · rename_i n p
      simp only [Bool.and_eq_true] at h
      obtain ⟨⟨h1, h2⟩, h3⟩ := h
      split at h3
      · rename_i q e
        have e2 : q.1 = n := decide_eq_true_eq.mp h3
        obtain ⟨hg, u, v, hm, r, rd⟩ := G.gv g q.1 q.2 e
        subst e2
        exact PE.imp (pe_glob (gl_of hs h2) hm r (okn_of h1).1) fun σ H Q q => glb_rd hg rd q
      · cases h3
    · cases h
  | .un o a, X, W, sc, x, G, hs, h => by
    cases o
    unfold chkE at h
    split at h
    · exact PE.imp (pe_un (un_neg (X := X)) (sE a G hs h)) fun σ H Q q => neg_rd q
    · cases h
  | .no a, X, W, sc, x, G, hs, h => by
    unfold chkE at h
    split at h
    · exact PE.imp (pe_notT (sE a G hs h)) fun σ H Q q => no_rd G.K q
    · cases h
  | .bin o a a', X, W, sc, x, G, hs, h => by
    unfold chkE at h
    split at h
    · simp only [Bool.and_eq_true] at h
      rw [opB_of h.1.1]
      exact PE.imp (pe_op (op_rB G.K o) (sE a G hs h.1.2) (sE a' G hs h.2)) fun σ H Q q => bin_rd q
    · cases h
  | .cmp o a a', X, W, sc, x, G, hs, h => by
    unfold chkE at h
    split at h
    · simp only [Bool.and_eq_true] at h
      rw [opC_of h.1.1.1]
      exact PE.imp (pe_cmpR (op_rC G.K (by have := G.un; omega) o) (sE a G hs h.1.2) (sE a' G hs h.2) (marks_of h.1.1.2)) fun σ H Q q => cmp_rd q
    · cases h
  | .chn o o' a a' a'', X, W, sc, x, G, hs, h => by
    unfold chkE at h
    split at h
    · simp only [Bool.and_eq_true] at h
      rw [opC_of h.1.1.1.1.1, opC_of h.1.1.1.1.2]
      exact PE.imp (pe_chain (op_rC G.K (by have := G.un; omega) o) (op_rC G.K (by have := G.un; omega) o') (sE a G hs h.1.1.2) (sE a' G hs h.1.2) (sE a'' G hs h.2) (marks_of h.1.1.1.2)) fun σ H Q q => chn_rd q
    · cases h
  | .and a a', X, W, sc, x, G, hs, h => by
    unfold chkE at h
    split at h
    · simp only [Bool.and_eq_true] at h
      exact PE.imp (pe_andT (sE a G hs h.1) (pe_of_one (sE a' G hs h.2))) fun σ H Q q => and_rd G.K q
    · cases h
  | .or a a', X, W, sc, x, G, hs, h => by
    unfold chkE at h
    split at h
    · simp only [Bool.and_eq_true] at h
      exact PE.imp (pe_orT (sE a G hs h.1) (pe_of_one (sE a' G hs h.2))) fun σ H Q q => or_rd G.K q
    · cases h
  | .ife t a a', X, W, sc, x, G, hs, h => by
    unfold chkE at h
    split at h
    · simp only [Bool.and_eq_true] at h
      exact PE.imp (pe_ifExp (sT t G hs h.1.1) (sE a G hs h.1.2) (sE a' G hs h.2)) fun σ H Q q => ife_rd q
    · cases h
  | .tup es, X, W, sc, x, G, hs, h => by
    unfold chkE at h
    split at h
    · exact PE.imp (pe_tup (sL es G hs h)) fun σ H Q q => tup_rd q
    · cases h
  | .lst es, X, W, sc, x, G, hs, h => by
    unfold chkE at h
    split at h
    · exact PE.imp (pe_lst (sL es G hs h)) fun σ H Q q => lst_rd q
    · cases h
  | .dic0, X, W, sc, x, G, hs, h => by
    unfold chkE at h
    split at h
    · exact PE.imp pe_dnewK fun σ H Q q => dic0_rd q
    · cases h
  | .ix a a', X, W, sc, x, G, hs, h => by
    unfold chkE at h
    split at h
    · simp only [Bool.and_eq_true] at h
      exact PE.imp (pe_ix (ix_rIxE G.K) (sE a G hs h.1.2) (sE a' G hs h.2) (plainIx_of h.1.1)) fun σ H Q q => ix_rd q
    · cases h
  | .sl a lo hi, X, W, sc, x, G, hs, h => by
    unfold chkE at h
    split at h
    · simp only [Bool.and_eq_true] at h
      exact PE.imp (pe_slice (sl_rSlE G.K) (sE a G hs h.1.1) (sO lo G hs h.1.2) (sO hi G hs h.2)) fun σ H Q q => sl_rd q
    · cases h
  | .rev a, X, W, sc, x, G, hs, h => by
    unfold chkE at h
    split at h
    · exact PE.imp (pe_revL (sE a G hs h)) fun σ H Q q => rev_rd G.K q
    · cases h
  | .call f es, X, W, sc, x, G, hs, h => by
    unfold chkE at h
    split at h
    · rename_i n p xs pos
      simp only [Bool.and_eq_true] at h
      obtain ⟨⟨⟨h1, h2⟩, h3⟩, h4⟩ := h
      split at h3
      · rename_i fn e
        have e2 : fn.name = n := decide_eq_true_eq.mp h3
        subst e2
        have hL := sL es G hs h4
        obtain ⟨c1, c2, c3⟩ := chkL_star h4
        cases xs with
        | nil => cases c3 rfl; exact pe_callG0 G hs e h2 h1
        | cons y ys => exact pe_callG G hs e h2 h1 hL c1
      · cases h3
    · cases h
  | .callk f es ks kes, X, W, sc, x, G, hs, h => by
    unfold chkE at h
    split at h
    · rename_i n p xs kw kws pos
      simp only [Bool.and_eq_true] at h
      obtain ⟨⟨⟨⟨h1, h2⟩, h3⟩, h4⟩, h5⟩ := h
      split at h3
      · rename_i fn e
        simp only [Bool.and_eq_true, decide_eq_true_eq] at h3
        obtain ⟨⟨⟨e2, h6⟩, h7⟩, h8⟩ := h3
        subst e2
        obtain ⟨c1, c2, c3⟩ := chkL_star h4
        exact pe_callGK G hs e h2 h1 (sL es G hs h4) c1 c3 (sK kes G hs h5) h6 h7 h8 c2
      · cases h3
    · cases h
  | .bi o es, X, W, sc, x, G, hs, h => by
    unfold chkE at h
    split at h
    · simp only [Bool.and_eq_true] at h
      exact pe_bi G hs o h.1 (sL es G hs h.2) (chkL_star h.2).1
    · cases h
  | .lrng es, X, W, sc, x, G, hs, h => by
    unfold chkE at h
    split at h
    · rename_i n p m q y ys pos pos'
      simp only [Bool.and_eq_true] at h
      obtain ⟨⟨⟨h1, h2⟩, h3⟩, h4⟩ := h
      obtain ⟨rfl, hg1, hm1⟩ := blt_of G hs (by decide) h1
      obtain ⟨rfl, hg2, hm2⟩ := blt_of G hs (by decide) h2
      have c := chkL_star h4
      unfold chkL at h4
      cases es with
      | nil => cases h4
      | cons a es =>
        simp only [Bool.and_eq_true] at h4
        obtain ⟨⟨n1, h5⟩, h6⟩ := h4
        have ha := sE a G hs h5
        cases ys with
        | nil =>
          have z := (chkL_star h6).2.2 rfl
          cases z
          exact PE.imp (pe_listRg G.calm hg1 hm1 (prg_1 hg2 hm2 ha (star_of n1)) rfl) fun σ H Q q => lrng1_rd q
        | cons w ws =>
          cases ws with
          | cons _ _ => cases h3
          | nil =>
            unfold chkL at h6
            cases es with
            | nil => cases h6
            | cons a' es =>
              simp only [Bool.and_eq_true] at h6
              obtain ⟨⟨n2, h7⟩, h8⟩ := h6
              have z := (chkL_star h8).2.2 rfl
              cases z
              have ha' := sE a' G hs h7
              exact PE.imp (pe_listRg G.calm hg1 hm1 (prg_2 hg2 hm2 ha ha' (star_of n1) (star_of n2) (any_of (by rw [List.all_cons, n2]; rfl))) rfl) fun σ H Q q => lrng2_rd q
    · cases h
  | .mth m o es, X, W, sc, x, G, hs, h => by
    unfold chkE at h
    split at h
    · simp only [Bool.and_eq_true, decide_eq_true_eq] at h
      obtain ⟨⟨⟨⟨⟨h1, h2⟩, h3⟩, h4⟩, h5⟩, h6⟩ := h
      subst h1
      have c := chkL_star h6
      exact pe_mt G m (sE o G hs h5) h2 h3 h4 (sL es G hs h6) c.1 c.2.2
    · cases h
  | .isi a cs, X, W, sc, x, G, hs, h => by
    unfold chkE at h
    split at h
    · simp only [Bool.and_eq_true] at h
      obtain ⟨⟨⟨⟨⟨h1, h2⟩, h3⟩, h4⟩, h5⟩, h6⟩ := h
      exact pe_isi G hs h1 h2 h3 h4 h5 (sE a G hs h6)
    · cases h
  | .lc g it ow t e, X, W, sc, x, G, hs, h => by
    unfold chkE at h
    split at h
    · rename_i elt c scope pos
      simp only [Bool.and_eq_true, decide_eq_true_eq] at h
      obtain ⟨⟨⟨⟨⟨⟨⟨⟨h1, h2⟩, h3⟩, h4⟩, h5⟩, h6⟩, h7⟩, h8⟩, h9⟩ := h
      obtain ⟨tg, iter, ifs, asy⟩ := c
      subst h1
      have hF : ∀ (s : Shared) (H : Hp) (A : Addr) (cl : List (Str × Addr)) (fp : List Addr), PTs (X.blk s H scope (compEnvC scope cl A X.env) fp) ifs (tT C W0 cf t) := fun s H A cl fp => by
        rcases chkF_inv h8 with ⟨e1, e2⟩ | ⟨x, e1, h10⟩
        · dsimp only at e2
          subst e1 e2
          exact PTs.imp pts_nil fun σ H Q q => yes_rd q
        · dsimp only at e1
          subst e1
          exact pts_one (sT t (G.blk s H scope _ fp) (blk_scope hs s H A cl fp) h10)
      have := pe_lc (elt := elt) (pos := pos) G.calm (by rw [G.N_]; exact G.nd) (sI it G hs h6) (lc_own G.N_ hs h2)
        (fun s H A cl fp => sG g (G.blk s H scope _ fp) (blk_scope hs s H A cl fp) (fun z => by cases z) h7) hF
        (fun s H A cl fp => sE e (G.blk s H scope _ fp) (blk_scope hs s H A cl fp) h9) (folded_of h5)
      rw [h3] at this
      exact PE.imp this fun σ H Q q => lc_rd (sub_of' h4) q
    · cases h
  | .lc2 g it t g' it' t' ow ow' e, X, W, sc, x, G, hs, h => by
    unfold chkE at h
    split at h
    · rename_i elt c c' scope pos
      simp only [Bool.and_eq_true, decide_eq_true_eq] at h
      obtain ⟨⟨⟨⟨⟨⟨⟨⟨⟨⟨⟨⟨⟨⟨⟨h1, h1'⟩, h2⟩, h3⟩, h4⟩, h4'⟩, h4''⟩, h5⟩, h5'⟩, h6⟩, h7⟩, h8⟩, h6'⟩, h7'⟩, h8'⟩, h9⟩ := h
      obtain ⟨tg, iter, ifs, asy⟩ := c
      obtain ⟨tg', iter', ifs', asy'⟩ := c'
      subst h1 h1'
      have hF : ∀ (s : Shared) (H : Hp) (A : Addr) (cl : List (Str × Addr)) (fp : List Addr), PTs (X.blk s H scope (compEnvC scope cl A X.env) fp) ifs (tT C W0 cf t) := fun s H A cl fp => by
        rcases chkF_inv h8 with ⟨e1, e2⟩ | ⟨x, e1, h10⟩
        · dsimp only at e2
          subst e1 e2
          exact PTs.imp pts_nil fun σ H Q q => yes_rd q
        · dsimp only at e1
          subst e1
          exact pts_one (sT t (G.blk s H scope _ fp) (blk_scope hs s H A cl fp) h10)
      have hF' : ∀ (s : Shared) (H : Hp) (A : Addr) (cl : List (Str × Addr)) (fp : List Addr), PTs (X.blk s H scope (compEnvC scope cl A X.env) fp) ifs' (tT C W0 cf t') := fun s H A cl fp => by
        rcases chkF_inv h8' with ⟨e1, e2⟩ | ⟨x, e1, h10⟩
        · dsimp only at e2
          subst e1 e2
          exact PTs.imp pts_nil fun σ H Q q => yes_rd q
        · dsimp only at e1
          subst e1
          exact pts_one (sT t' (G.blk s H scope _ fp) (blk_scope hs s H A cl fp) h10)
      have := pe_lc2 (elt := elt) (pos := pos) (vs1 := ow') G.calm (by rw [G.N_]; exact G.nd) (sI it G hs h6) (lc_own G.N_ hs h2) (by rw [h3]; exact sub_of' h4'')
        (fun s H A cl fp => sG g (G.blk s H scope _ fp) (blk_scope hs s H A cl fp) (fun z => by cases z) h7) hF
        (fun s H A cl fp => sI it' (G.blk s H scope _ fp) (blk_scope hs s H A cl fp) h6')
        (fun s H A cl fp => sG g' (G.blk s H scope _ fp) (blk_scope hs s H A cl fp) (fun z => by cases z) h7') hF'
        (fun s H A cl fp => sE e (G.blk s H scope _ fp) (blk_scope hs s H A cl fp) h9) (folded_of h5) (fun _ => folded_of h5')
      rw [h3] at this
      exact PE.imp this fun σ H Q q => lc2_rd (sub_of' h4) (sub_of' h4') q
    · cases h
theorem sL : ∀ (es : EL) {X : Cx} {W : XK} {sc : Scope} {xs : List Expr}, GX C CX TB k cf N W X → X.env.scope = sc → chkL TB N sc es xs = true → PA X xs (tL C W cf es)
  | .nil, X, W, sc, xs, G, hs, h => by
    unfold chkL at h
    cases xs with
    | nil => exact PA.imp pa_nil fun σ H Q q => lnil_rd q
    | cons _ _ => cases h
  | .cons e es, X, W, sc, xs, G, hs, h => by
    unfold chkL at h
    cases xs with
    | nil => cases h
    | cons x xs =>
      simp only [Bool.and_eq_true] at h
      exact PA.imp (pa_cons (sE e G hs h.1.2) (sL es G hs h.2) (star_of h.1.1)) fun σ H Q q => lcons_rd q
theorem sK : ∀ (es : EL) {X : Cx} {W : XK} {sc : Scope} {kws : List Keyword}, GX C CX TB k cf N W X → X.env.scope = sc → chkL TB N sc es ((kwsX kws).map (·.2)) = true → PK X kws (tL C W cf es)
  | .nil, X, W, sc, kws, G, hs, h => by
    unfold chkL at h
    cases kws with
    | nil => exact ⟨fun pos pins s σ H Q I h => pk_nil.run pos pins s σ H Q I (lnil_rd h)⟩
    | cons _ _ => cases h
  | .cons e es, X, W, sc, kws, G, hs, h => by
    unfold chkL at h
    cases kws with
    | nil => cases h
    | cons kw kws =>
      obtain ⟨nm, x, p⟩ := kw
      have h' : (noStar x && chkE TB N sc e x && chkL TB N sc es ((kwsX kws).map (·.2))) = true := h
      rw [Bool.and_eq_true, Bool.and_eq_true] at h'
      have h1 := sE e G hs h'.1.2
      have h2 := sK es G hs h'.2
      exact ⟨fun pos pins s σ H Q I h => (pk_cons h1 h2).run pos pins s σ H Q I (lcons_rd h)⟩
theorem sO : ∀ (e : EO) {X : Cx} {W : XK} {sc : Scope} {x : Option Expr}, GX C CX TB k cf N W X → X.env.scope = sc → chkO TB N sc e x = true → PO X x (tO C W cf e)
  | .none, X, W, sc, x, G, hs, h => by
    unfold chkO at h
    cases x with
    | none => exact PO.imp po_none fun σ H Q q => onone_rd q
    | some _ => cases h
  | .some e, X, W, sc, x, G, hs, h => by
    unfold chkO at h
    cases x with
    | none => cases h
    | some x => exact PO.imp (po_some (sE e G hs h)) fun σ H Q q => osome_rd q
theorem sT : ∀ (t : T) {X : Cx} {W : XK} {sc : Scope} {x : Expr}, GX C CX TB k cf N W X → X.env.scope = sc → chkT TB N sc t x = true → PT X x (tT C W cf t)
  | .yes, X, W, sc, x, G, hs, h => by unfold chkT at h; cases h
  | .val a, X, W, sc, x, G, hs, h => by
    unfold chkT at h
    simp only [Bool.and_eq_true] at h
    exact PT.imp (pt_truth (sE a G hs h.2) (plainT_of h.1)) fun σ H Q q => val_rd G.K q
  | .not t, X, W, sc, x, G, hs, h => by
    unfold chkT at h
    split at h
    · exact PT.imp (pt_not (sT t G hs h)) fun σ H Q q => tnot_rd q
    · cases h
  | .and t t', X, W, sc, x, G, hs, h => by
    unfold chkT at h
    split at h
    · simp only [Bool.and_eq_true] at h
      exact PT.imp (pw_and (sT t G hs h.1) (pw_of_one (sT t' G hs h.2))).pt fun σ H Q q => tand_rd q
    · cases h
  | .or t t', X, W, sc, x, G, hs, h => by
    unfold chkT at h
    split at h
    · simp only [Bool.and_eq_true] at h
      exact PT.imp (pw_or (sT t G hs h.1) (pw_of_one (sT t' G hs h.2))).pt fun σ H Q q => tor_rd q
    · cases h
  | .cmp o a a', X, W, sc, x, G, hs, h => by
    unfold chkT at h
    split at h
    · simp only [Bool.and_eq_true] at h
      rw [opC_of h.1.1.1]
      exact PT.imp (pt_cmpR (op_rC G.K (by have := G.un; omega) o) (sE a G hs h.1.2) (sE a' G hs h.2) (marks_of h.1.1.2)) fun σ H Q q => cmpT_rd q
    · cases h
  | .chn o o' a a' a'', X, W, sc, x, G, hs, h => by
    unfold chkT at h
    split at h
    · simp only [Bool.and_eq_true] at h
      rw [opC_of h.1.1.1.1.1, opC_of h.1.1.1.1.2]
      exact PT.imp (pt_chain (op_rC G.K (by have := G.un; omega) o) (op_rC G.K (by have := G.un; omega) o') (sE a G hs h.1.1.2) (sE a' G hs h.1.2) (sE a'' G hs h.2) (marks_of h.1.1.1.2)) fun σ H Q q => chnT_rd q
    · cases h
  | .ife _ _ _, X, W, sc, x, G, hs, h => by unfold chkT at h; cases h
theorem sI : ∀ (it : IT) {X : Cx} {W : XK} {sc : Scope} {tg x : Expr}, GX C CX TB k cf N W X → X.env.scope = sc → chkI TB N sc it tg x = true → PI X tg x (tI C W cf it)
  | .seq a, X, W, sc, tg, x, G, hs, h => by
    unfold chkI at h
    exact pi_seq G.K (sE a G hs h)
  | .rng es, X, W, sc, tg, x, G, hs, h => by
    unfold chkI at h
    split at h
    · rename_i m q y ys pos
      simp only [Bool.and_eq_true] at h
      obtain ⟨⟨h1, h2⟩, h3⟩ := h
      obtain ⟨rfl, hg, hm⟩ := blt_of G hs (by decide) h1
      obtain ⟨c1, c2, c3⟩ := chkL_star h3
      have hL := sL es G hs h3
      rw [List.all_cons, Bool.and_eq_true] at c1
      cases ys with
      | nil => exact PI.imp (pi_range1 hg hm hL (star_of c1.1)) fun σ H Q q => rng1_rd q c2
      | cons w ws =>
        cases ws with
        | cons _ _ => cases h2
        | nil =>
          have c4 := c1.2
          rw [List.all_cons, Bool.and_eq_true] at c4
          exact PI.imp (pi_range2 hg hm hL (by rw [star_of c1.1, star_of c4.1]; rfl) (star_of c4.1)) fun σ H Q q => rng2_rd q c2
    · cases h
  | .enu a, X, W, sc, tg, x, G, hs, h => by
    unfold chkI at h
    split at h
    · simp only [Bool.and_eq_true] at h
      obtain ⟨⟨⟨h1, h2⟩, h3⟩, h4⟩ := h
      obtain ⟨rfl, hg, hm⟩ := blt_of G hs (by decide) h1
      cases tg <;> first
        | cases h2; done
        | exact PI.imp (pi_enum hg hm (pa_cons (sE a G hs h4) pa_nil (star_of h3)) (star_of h3)) fun σ H Q q => enu_rd G.K q
    · cases h
  | .zip a a', X, W, sc, tg, x, G, hs, h => by
    unfold chkI at h
    split at h
    · simp only [Bool.and_eq_true] at h
      obtain ⟨⟨⟨⟨⟨h1, h2⟩, h3⟩, h4⟩, h5⟩, h6⟩ := h
      obtain ⟨rfl, hg, hm⟩ := blt_of G hs (by decide) h1
      cases tg <;> first
        | cases h2; done
        | exact PI.imp (RZ.pi_zipA hg hm (pa_cons (sE a G hs h5) (pa_cons (sE a' G hs h6) pa_nil (star_of h4)) (star_of h3)) (star_of h3) (any_of (by rw [List.all_cons, h4]; rfl))) fun σ H Q q => zip_rd G.K q
    · cases h
theorem sG : ∀ (g : G) {X : Cx} {W : XK} {sc : Scope} {cl : Bool} {x : Expr}, GX C CX TB k cf N W X → X.env.scope = sc → (cl = true → ∀ n, X.fn n = true) → chkG TB N sc cl g x = true → PG X x (tG C cf g)
  | .nam i, X, W, sc, cl, x, G, hs, hf, h => by
    unfold chkG at h
    split at h
    · simp only [Bool.and_eq_true, decide_eq_true_eq] at h
      refine PG.imp (pg_name (by rw [G.N_]; exact G.nd) (by rw [G.N_]; exact h.1) ?_ ?_) fun v σ H Q q => gnam_rd q
      · rcases locn_of h.2 with e | ⟨e, _⟩
        · exact .inl (by rw [hs]; exact e)
        · exact .inr (by rw [hs]; exact e)
      · rcases locn_of h.2 with e | ⟨_, e⟩
        · exact .inr (by rw [hs]; exact e)
        · exact .inl (hf e _)
    · cases h
  | .tup gs, X, W, sc, cl, x, G, hs, hf, h => by
    unfold chkG at h
    split at h
    · obtain ⟨c1, c2⟩ := chkGs_star h
      refine PG.imp (pg_tup G.calm (sGs gs G hs hf h) (n := glen gs) (asgs_len.trans c2.symm) (asgs_find c1)) fun v σ H Q q => ?_
      rw [G.K]
      exact gtup_rd q
    · cases h
  | .sub o i, X, W, sc, cl, x, G, hs, hf, h => by
    unfold chkG at h
    split at h
    · simp only [Bool.and_eq_true] at h
      exact PG.imp (pg_sub (sE o G hs h.1.2) (sE i G hs h.2) set_rSetE (sub_of h.1.1)) fun v σ H Q q => gsub_rd q
    · cases h
theorem sGs : ∀ (gs : GL) {X : Cx} {W : XK} {sc : Scope} {cl : Bool} {xs : List Expr}, GX C CX TB k cf N W X → X.env.scope = sc → (cl = true → ∀ n, X.fn n = true) → chkGs TB N sc cl gs xs = true → PGs X xs (tGs C cf gs)
  | .nil, X, W, sc, cl, xs, G, hs, hf, h => by
    unfold chkGs at h
    cases xs with
    | nil => exact PGs.imp pgs_nil fun v σ H Q q => gnil_rd q
    | cons _ _ => cases h
  | .cons g gs, X, W, sc, cl, xs, G, hs, hf, h => by
    unfold chkGs at h
    cases xs with
    | nil => cases h
    | cons x xs =>
      simp only [Bool.and_eq_true] at h
      exact PGs.imp (pgs_cons (sG g G hs hf h.1.2) (sGs gs G hs hf h.2) (by rw [asg_of h.1.1]; rfl)) fun v σ H Q q => gcons_rd q
end
end Ev
end

section
/-! EvSndS: what the evaluator says of a statement is so. -/
namespace Ev
open PySem PySem.Spec PyProof.Rows L2
variable {C : Cn} {cf : Cf} {CX : CXT} {TB : Tb} {k : Nat} {N : List Str}

theorem tE_mono {W : XK} {e : E} {σ : L2.St} {H : Hp} {Q Q' : VK} (h : tE C W cf e σ H Q) (i : ∀ v H, Q v H → Q' v H) : tE C W cf e σ H Q' := by
  obtain ⟨bs, b, μ, ρ, M, z, p⟩ := h
  exact ⟨bs, b, μ, ρ, M, z, p.imp fun d μ' M' H' l R q v r => i v H' (q v r)⟩
theorem filter_short {f : Expr → Option Str} : ∀ {ts : List Expr}, (ts.any fun t => (f t).isNone) = true → (ts.filterMap f).length ≠ ts.length := by
  have le : ∀ ts : List Expr, (ts.filterMap f).length ≤ ts.length := fun ts => List.length_filterMap_le _ _
  intro ts h
  induction ts with
  | nil => cases h
  | cons t ts ih =>
    rw [List.any_cons, Bool.or_eq_true] at h
    rw [List.filterMap_cons]
    cases e : f t with
    | none =>
      have := le ts
      simp only [List.length_cons]
      omega
    | some n =>
      have h2 : (ts.any fun t => (f t).isNone) = true := by
        rcases h with h | h
        · rw [e] at h; cases h
        · exact h
      have := ih h2
      simp only [List.length_cons]
      omega
theorem noPar_of {tg y : Expr} {env : Env} (h : noPar tg y = true) : swappedStores [tg] y env = pure none := by
  have other : ∀ tg y : Expr, (∀ ts k p, tg ≠ .Tuple ts k p) → (∀ ts p, tg ≠ .List ts p) → swappedStores [tg] y env = pure none := fun tg y h1 h2 => by
    cases tg <;> first
      | rfl
      | exact absurd rfl (h1 _ _ _)
      | exact absurd rfl (h2 _ _)
  by_cases ht : ∃ ts k p, tg = .Tuple ts k p
  · obtain ⟨ts, kk, p, rfl⟩ := ht
    by_cases hy : ∃ vs k p, y = .Tuple vs k p
    · obtain ⟨vs, k2, p2, rfl⟩ := hy
      unfold noPar at h
      dsimp only at h
      unfold swappedStores
      dsimp only
      split
      · rfl
      · rename_i hn
        have hn2 : (!(ts.length == 2 || ts.length == 3) || vs.length != ts.length) = false := by
          cases q : (!(ts.length == 2 || ts.length == 3) || vs.length != ts.length) with
          | false => rfl
          | true => exact absurd (by rw [q]; rfl) hn
        rw [hn2, Bool.false_or] at h
        split
        · rfl
        · have short := filter_short (f := fun
            | .Name id pos => if env.kindOf id == some .local && pos.line == (ts.head?.map (·.pos.line)).getD 0 then some id else none
            | _ => none) (ts := ts) (by
              rw [List.any_eq_true] at h ⊢
              obtain ⟨t, m, e⟩ := h
              refine ⟨t, m, ?_⟩
              cases t <;> first | rfl | cases e)
          split
          · rfl
          · rename_i hq
            refine absurd ?_ hq
            rw [Bool.or_eq_true]
            left
            exact bne_iff_ne.mpr short
    · cases y <;> first | rfl | exact absurd ⟨_, _, _, rfl⟩ hy
  · by_cases hl : ∃ ts p, tg = .List ts p
    · obtain ⟨ts, p, rfl⟩ := hl
      cases y <;> first | rfl | cases h
    · exact other tg y (fun ts k p e => ht ⟨ts, k, p, e⟩) fun ts p e => hl ⟨ts, p, e⟩
theorem swaps_name {elt : Expr} {gs : List Comprehension} {s : Scope} {p np : Pos} {t : Str} {n : Nat} {env : Env} : swapsWith (.ListComp elt gs s p) (some (.Name t np)) n env =
    pure (env.blockKind == .function && env.kindOf t == some .local && np.line == p.line && !(s.names.any fun (n, k) => n == t && (k == .local || k == .cell))) := rfl
theorem swaps_else {y tg : Expr} {n : Nat} {env : Env} (h : ∀ t p, tg ≠ .Name t p) : swapsWith y (some tg) n env = pure false := by
  cases y <;> first
    | rfl
    | (cases tg <;> first | rfl | exact absurd rfl (h _ _))
theorem lc_set {X : Cx} {W : XK} {sc : Scope} (G : GX C CX TB k cf N W X) (hs : X.env.scope = sc) {i : Nat} {e : E} {n : Str} {np p pos : Pos} {elt : Expr} {cs : List Comprehension} {scope : Scope} (hi : N[i]? = some n) (hl : sc.names.lookup n = some .local)
    (hsw : swapsWith (.ListComp elt cs scope p) (some (.Name n np)) pos.line X.env = pure true) (h : chkE TB N sc e (.ListComp elt cs scope p) = true) : PS X (.Assign [.Name n np] (.ListComp elt cs scope p) pos) (tS C W cf (.asg (.nam i) e)) := by
  have fin : ∀ {t : TE}, (∀ σ H Q, tE C W cf e σ H Q → t σ H Q) → ∀ D σ H, tS C W cf (.asg (.nam i) e) D σ H → tAsg t (gName i) D σ H := fun f D σ H q => f _ _ _ (tE_mono (asg_rd q) fun v H r => gnam_rd r)
  have lcC : ∀ g it ow t e, (∀ σ H Q, tE C W cf (.lc g it ow t e) σ H Q → tE C W cf (.lc g it ow t e) σ H Q) → (∀ {tt : TE}, (∀ σ H Q, tE C W cf (.lc g it ow t e) σ H Q → tt σ H Q) → ∀ D σ H, tS C W cf (.asg (.nam i) (.lc g it ow t e)) D σ H → tAsg tt (gName i) D σ H) → ∀ c, chkE TB N sc (.lc g it ow t e) (.ListComp elt [c] scope p) = true →
      swapsWith (.ListComp elt [c] scope p) (some (.Name n np)) pos.line X.env = pure true → PS X (.Assign [.Name n np] (.ListComp elt [c] scope p) pos) (tS C W cf (.asg (.nam i) (.lc g it ow t e))) := fun g it ow t e _ fin c h hsw => by
    unfold chkE at h
    simp only [Bool.and_eq_true, decide_eq_true_eq] at h
    obtain ⟨⟨⟨⟨⟨⟨⟨⟨h1, h2⟩, h3⟩, h4⟩, h5⟩, h6⟩, h7⟩, h8⟩, h9⟩ := h
    obtain ⟨tg, iter, ifs, asy⟩ := c
    subst h1
    have hF : ∀ (s : Shared) (H : Hp) (A : Addr) (cl : List (Str × Addr)) (fp : List Addr), PTs (X.blk s H scope (compEnvC scope cl A X.env) fp) ifs (tT C W0 cf t) := fun s H A cl fp => by
      rcases chkF_inv h8 with ⟨e1, e2⟩ | ⟨x, e1, h10⟩
      · dsimp only at e2
        subst e1 e2
        exact PTs.imp pts_nil fun σ H Q q => yes_rd q
      · dsimp only at e1
        subst e1
        exact pts_one (sT t (G.blk s H scope _ fp) (blk_scope hs s H A cl fp) h10)
    have := ps_setLc (spos := pos) (py := np) G.calm (by rw [G.N_]; exact G.nd) (by rw [G.N_]; exact hi) (by rw [hs]; exact hl) hsw (sI it G hs h6) (lc_own G.N_ hs h2)
      (fun s H A cl fp => sG g (G.blk s H scope _ fp) (blk_scope hs s H A cl fp) (fun z => by cases z) h7) hF
      (fun s H A cl fp => sE e (G.blk s H scope _ fp) (blk_scope hs s H A cl fp) h9) (folded_of h5)
    rw [h3] at this
    exact PS.imp this (fin fun σ H Q q => lc_rd (sub_of' h4) q)
  have lc2C : ∀ g it t g' it' t' ow ow' e, (∀ {tt : TE}, (∀ σ H Q, tE C W cf (.lc2 g it t g' it' t' ow ow' e) σ H Q → tt σ H Q) → ∀ D σ H, tS C W cf (.asg (.nam i) (.lc2 g it t g' it' t' ow ow' e)) D σ H → tAsg tt (gName i) D σ H) → ∀ c c', chkE TB N sc (.lc2 g it t g' it' t' ow ow' e) (.ListComp elt [c, c'] scope p) = true →
      swapsWith (.ListComp elt [c, c'] scope p) (some (.Name n np)) pos.line X.env = pure true → PS X (.Assign [.Name n np] (.ListComp elt [c, c'] scope p) pos) (tS C W cf (.asg (.nam i) (.lc2 g it t g' it' t' ow ow' e))) := fun g it t g' it' t' ow ow' e fin c c' h hsw => by
    unfold chkE at h
    simp only [Bool.and_eq_true, decide_eq_true_eq] at h
    obtain ⟨⟨⟨⟨⟨⟨⟨⟨⟨⟨⟨⟨⟨⟨⟨h1, h1'⟩, h2⟩, h3⟩, h4⟩, h4'⟩, h4''⟩, h5⟩, h5'⟩, h6⟩, h7⟩, h8⟩, h6'⟩, h7'⟩, h8'⟩, h9⟩ := h
    obtain ⟨tg, iter, ifs, asy⟩ := c
    obtain ⟨tg', iter', ifs', asy'⟩ := c'
    subst h1 h1'
    have hF : ∀ (s : Shared) (H : Hp) (A : Addr) (cl : List (Str × Addr)) (fp : List Addr), PTs (X.blk s H scope (compEnvC scope cl A X.env) fp) ifs (tT C W0 cf t) := fun s H A cl fp => by
      rcases chkF_inv h8 with ⟨e1, e2⟩ | ⟨x, e1, h10⟩
      · dsimp only at e2
        subst e1 e2
        exact PTs.imp pts_nil fun σ H Q q => yes_rd q
      · dsimp only at e1
        subst e1
        exact pts_one (sT t (G.blk s H scope _ fp) (blk_scope hs s H A cl fp) h10)
    have hF' : ∀ (s : Shared) (H : Hp) (A : Addr) (cl : List (Str × Addr)) (fp : List Addr), PTs (X.blk s H scope (compEnvC scope cl A X.env) fp) ifs' (tT C W0 cf t') := fun s H A cl fp => by
      rcases chkF_inv h8' with ⟨e1, e2⟩ | ⟨x, e1, h10⟩
      · dsimp only at e2
        subst e1 e2
        exact PTs.imp pts_nil fun σ H Q q => yes_rd q
      · dsimp only at e1
        subst e1
        exact pts_one (sT t' (G.blk s H scope _ fp) (blk_scope hs s H A cl fp) h10)
    have := ps_setLc2 (spos := pos) (py := np) (vs1 := ow') G.calm (by rw [G.N_]; exact G.nd) (by rw [G.N_]; exact hi) (by rw [hs]; exact hl) hsw (sI it G hs h6) (lc_own G.N_ hs h2) (by rw [h3]; exact sub_of' h4'')
      (fun s H A cl fp => sG g (G.blk s H scope _ fp) (blk_scope hs s H A cl fp) (fun z => by cases z) h7) hF
      (fun s H A cl fp => sI it' (G.blk s H scope _ fp) (blk_scope hs s H A cl fp) h6')
      (fun s H A cl fp => sG g' (G.blk s H scope _ fp) (blk_scope hs s H A cl fp) (fun z => by cases z) h7') hF'
      (fun s H A cl fp => sE e (G.blk s H scope _ fp) (blk_scope hs s H A cl fp) h9) (folded_of h5) (fun _ => folded_of h5')
    rw [h3] at this
    exact PS.imp this (fin fun σ H Q q => lc2_rd (sub_of' h4) (sub_of' h4') q)
  cases e with
  | lc g it ow t e =>
    match cs, h, hsw with
    | [c], h, hsw => exact lcC g it ow t e (fun _ _ _ q => q) fin c h hsw
    | [], h, _ => unfold chkE at h; cases h
    | _ :: _ :: _, h, _ => unfold chkE at h; cases h
  | lc2 g it t g' it' t' ow ow' e =>
    match cs, h, hsw with
    | [c, c'], h, hsw => exact lc2C g it t g' it' t' ow ow' e fin c c' h hsw
    | [], h, _ => unfold chkE at h; cases h
    | [_], h, _ => unfold chkE at h; cases h
    | _ :: _ :: _ :: _, h, _ => unfold chkE at h; cases h
  | _ => unfold chkE at h; cases h
theorem asg_snd {X : Cx} {W : XK} {sc : Scope} (G : GX C CX TB k cf N W X) (hs : X.env.scope = sc) (hf : ∀ n, X.fn n = true) {g : Ev.G} {e : E} {tg y : Expr} {pos : Pos} (h1 : noPar tg y = true) (h2 : chkG TB N sc true g tg = true) (h3 : chkE TB N sc e y = true)
    (h4 : tgOk tg y = true) : PS X (.Assign [tg] y pos) (tS C W cf (.asg g e)) := by
  have hg := sG g G hs (fun _ => hf) h2
  have he := sE e G hs h3
  have plain : swapsWith y (some tg) pos.line X.env = pure false → noStar tg = true → PS X (.Assign [tg] y pos) (tS C W cf (.asg g e)) := fun q ns =>
    PS.imp (ps_asg he hg q (noPar_of h1) (by rw [asg_of ns]; rfl)) fun D σ H q => asg_rd q
  by_cases hn : ∃ n p, tg = .Name n p
  · obtain ⟨n, p, rfl⟩ := hn
    replace h4 : (!isComp y || isLC y) = true := h4
    cases hc : isComp y with
    | false => exact plain (swaps_of hc) rfl
    | true =>
      rw [hc] at h4
      cases y <;> first | (cases h4; done) | skip
      rename_i elt cs scope p2
      cases hb : (X.env.blockKind == .function && X.env.kindOf n == some .local && p.line == p2.line && !(scope.names.any fun (m, k) => m == n && (k == .local || k == .cell))) with
      | false => exact plain (swaps_name.trans (by rw [hb])) rfl
      | true =>
        cases g with
        | nam i =>
          unfold chkG at h2
          simp only [Bool.and_eq_true, decide_eq_true_eq] at h2
          have hl : sc.names.lookup n = some .local := by
            simp only [Bool.and_eq_true] at hb
            have z : X.env.kindOf n = some .local := beq_iff_eq.mp hb.1.1.2
            rw [← hs]
            exact z
          exact lc_set G hs h2.1 hl (swaps_name.trans (by rw [hb])) h3
        | tup _ => unfold chkG at h2; cases h2
        | sub _ _ => unfold chkG at h2; cases h2
  · have ns : noStar tg = true := by
      cases tg <;> first | rfl | (cases h4; done)
    exact plain (swaps_else fun t p e => hn ⟨t, p, e⟩) ns
mutual
theorem sS : ∀ (s : S) {X : Cx} {W : XK} {sc : Scope} {x : Stmt}, GX C CX TB k cf N W X → X.env.scope = sc → (∀ n, X.fn n = true) → chkS TB N sc s x = true → PS X x (tS C W cf s)
  | .expr e, X, W, sc, x, G, hs, hf, h => by
    unfold chkS at h
    split at h
    · simp only [Bool.and_eq_true, Bool.not_eq_true'] at h
      exact PS.imp (ps_expr (sE e G hs h.2) (swaps_of h.1)) fun D σ H q => expr_rd q
    · cases h
  | .asg g e, X, W, sc, x, G, hs, hf, h => by
    unfold chkS at h
    split at h
    · rw [Bool.and_eq_true, Bool.and_eq_true, Bool.and_eq_true] at h
      exact asg_snd G hs hf h.1.1.1 h.1.1.2 h.1.2 h.2
    · cases h
  | .par _ _, X, W, sc, x, G, hs, hf, h => by unfold chkS at h; cases h
  | .aug i o e, X, W, sc, x, G, hs, hf, h => by
    unfold chkS at h
    split at h
    · rename_i n p op y pos
      simp only [Bool.and_eq_true, decide_eq_true_eq] at h
      obtain ⟨⟨⟨h1, h2⟩, h3⟩, h4⟩ := h
      have hL : Loc X.env.scope n := by
        rw [hs]
        rcases locn_of h2 with e | ⟨e, _⟩
        · exact .inl e
        · exact .inr e
      have go : ∀ o', (o' = .add ∨ o' = .sub) → o = o' → PIp X (opB o') (ipI (ipF o')) → op = opB o' → PS X (.AugAssign (.Name n p) op y pos) (tS C W cf (.aug i o e)) := fun o' ho e1 hp e2 => by
        subst e1 e2
        exact PS.imp (ps_aug (by rw [G.N_]; exact G.nd) (by rw [G.N_]; exact h1) hL (sE e G hs h4) hp (.inl (hf n))) fun D σ H q => aug_rd ho q
      split at h3
      · exact go .add (.inl rfl) rfl ip_add (opB_of h3)
      · exact go .sub (.inr rfl) rfl ip_sub (opB_of h3)
      · cases h3
    · cases h
  | .augs _ _ _ _, X, W, sc, x, G, hs, hf, h => by unfold chkS at h; cases h
  | .ret e, X, W, sc, x, G, hs, hf, h => by
    unfold chkS at h
    split at h
    · exact PS.imp (ps_ret (sE e G hs h)) fun D σ H q => ret_rd q
    · cases h
  | .retn, X, W, sc, x, G, hs, hf, h => by
    unfold chkS at h
    split at h
    · exact PS.imp ps_retN fun D σ H q => retn_rd q
    · cases h
  | .pass, X, W, sc, x, G, hs, hf, h => by
    unfold chkS at h
    split at h
    · exact PS.imp ps_pass fun D σ H q => pass_rd q
    · cases h
  | .brk, X, W, sc, x, G, hs, hf, h => by
    unfold chkS at h
    split at h
    · exact PS.imp ps_break fun D σ H q => brk_rd q
    · cases h
  | .cont, X, W, sc, x, G, hs, hf, h => by
    unfold chkS at h
    split at h
    · exact PS.imp ps_continue fun D σ H q => cont_rd q
    · cases h
  | .iff t s s', X, W, sc, x, G, hs, hf, h => by
    unfold chkS at h
    split at h
    · simp only [Bool.and_eq_true] at h
      exact PS.imp (ps_if (sT t G hs h.1.1) (sSs s G hs hf h.1.2) (sSs s' G hs hf h.2)) fun D σ H q => iff_rd q
    · cases h
  | .for_ g it s, X, W, sc, x, G, hs, hf, h => by
    unfold chkS at h
    split at h
    · simp only [Bool.and_eq_true] at h
      exact PS.imp (ps_for G.po G.calm (sI it G hs h.1.1.2) (sG g G hs (fun _ => hf) h.1.2) (sSs s G hs hf h.2) (folded_of h.1.1.1)) fun D σ H q => for_rd q
    · cases h
  | .whl t s, X, W, sc, x, G, hs, hf, h => by
    unfold chkS at h
    split at h
    · simp only [Bool.and_eq_true] at h
      exact PS.imp (ps_while G.po (sT t G hs h.1) (sSs s G hs hf h.2)) fun D σ H q => whl_rd q
    · cases h
theorem sSs : ∀ (s : SL) {X : Cx} {W : XK} {sc : Scope} {xs : List Stmt}, GX C CX TB k cf N W X → X.env.scope = sc → (∀ n, X.fn n = true) → chkSs TB N sc s xs = true → PSs X xs (tSs C W cf s)
  | .nil, X, W, sc, xs, G, hs, hf, h => by
    unfold chkSs at h
    cases xs with
    | nil => exact PSs.imp pss_nil fun D σ H q => snil_rd q
    | cons _ _ => cases h
  | .cons s ss, X, W, sc, xs, G, hs, hf, h => by
    unfold chkSs at h
    cases xs with
    | nil => cases h
    | cons x xs =>
      simp only [Bool.and_eq_true] at h
      exact PSs.imp (pss_cons (sS s G hs hf h.1) (sSs ss G hs hf h.2)) fun D σ H q => scons_rd q
end
end Ev
end

section
/-! EvFn: every def of the text keeps the word that the evaluator gives of it. -/
namespace Ev
open PySem PySem.Spec PyProof.Rows L2
variable {C : Cn} {μ μ' : List Addr} {H H' : Hp} {M M' : Sto} {bs : List Nat} {v : V} {W : XK} {b : Nat} {ρ : Enn} {CX : CXT} {TB : Tb} {k : Nat} {N : List Str} {Q : VK}

/-! ### a def's end -/
theorem flatX_fs {x : Xn} (h : flatX x = true) : flats (x.fs.map (·.2)) = true := by
  unfold flatX at h
  revert h
  generalize x.fs = l
  induction l with
  | nil => intro _; rfl
  | cons p l ih =>
    intro h
    rw [List.all_cons, Bool.and_eq_true] at h
    show (p.2.flat && flats (l.map (·.2))) = true
    rw [h.1, ih h.2]
    rfl
theorem RelX.cutX {x : Xn} {cls : Value} {d : Option Addr} (h : RelX C μ' H' x cls d) (f : flatX x = true) : RelX C μ H' x cls d := by
  refine ⟨h.1, h.2.imp id ?_⟩
  rintro ⟨a, fs, e1, e2, e3, r⟩
  exact ⟨a, fs, e1, e2, e3, RelDs.flat (flatX_fs f) r⟩
theorem end_keep {o : SO} (h : VP C bs W μ H (endD o) Q) : SPost C bs b W μ H o { nx := fun _ H' => Q .non H', rt := Q } := by
  match o, h with
  | none, h => exact h
  | some (.nx ρ', M'), h => exact fun μ' H' σ' l a => h μ' H' l a.R _ (relD_non.mpr rfl)
  | some (.rt d, M'), h => exact fun μ' H' v l R r => h μ' H' l R v r
  | some (.bk _, _), h => exact (show False from h).elim
  | some (.ct _, _), h => exact (show False from h).elim
  | some (.xc x _, M'), h => exact h
theorem cut_pre {n0 : Nat} (l : Le μ H μ' H') (hn : μ.length = n0) : μ'.take n0 = μ := by
  obtain ⟨t, rfl⟩ := l.pre
  subst hn
  rw [List.take_left]
theorem cut_val {n0 : Nat} {d : D} (hb : ∀ c ∈ bs, c ≤ n0) (hn : μ.length = n0) (h : VP C bs W μ H (cutE n0 (.ok d M')) Q) (l : Le μ H μ' H') (R : Rep C (n0 :: bs) μ' M' H') (r : RelD C μ' H' d v) : Q v H' := by
  have lc := l.cut n0 hn
  have Rc := R.cut hb
  have plain : VP C bs W μ H (.ok d M') Q → Q v H' := fun h => h μ' H' l R.leave v r
  dsimp only [cutE] at h
  split at h
  · rename_i f
    exact h _ _ lc Rc v (r.flat f)
  · rename_i f
    split at h
    · rename_i n
      obtain ⟨a, ea, rfl⟩ := relD_loc.mp r
      split at h
      · rename_i hle
        split at h
        · rename_i xs em
          split at h
          · rename_i fx
            obtain ⟨vs, eh, rs⟩ : ∃ vs, H' a = some (.lst vs) ∧ RelDs C μ' H' xs vs := R.at ea em
            have na : a ∉ μ'.take n0 := fun m => by
              obtain ⟨j, ej⟩ := List.getElem?_of_mem m
              have hj : j < n0 := by
                have z := (List.getElem?_eq_some_iff.mp ej).1
                rw [List.length_take] at z
                omega
              rw [List.getElem?_take_of_lt hj] at ej
              have := nodup_get R.nd ej ea
              have := Nat.le_of_ble_eq_true hle
              omega
            have hlen : (μ'.take n0).length = n0 := by rw [cut_pre l hn, hn]
            refine h (μ'.take n0 ++ [a]) H' ⟨⟨by rw [cut_pre l hn]; exact List.prefix_append _ _, l.st⟩, fun x m nx => ?_, l.off⟩ (Rc.add na ⟨vs, eh, RelDs.flat fx rs⟩) _ ?_
            · rcases List.mem_append.mp m with m | m
              · exact l.fr x (List.mem_of_mem_take m) nx
              · rw [List.mem_singleton.mp m] at nx ⊢
                exact l.fr a (List.mem_of_getElem? ea) nx
            · unfold RelD
              exact ⟨a, by rw [List.getElem?_append_right (by omega), hlen, Nat.sub_self]; rfl, rfl⟩
          · exact plain h
        · exact plain h
      · rename_i hle
        have hlt : n < n0 := by
          rcases Nat.lt_or_ge n n0 with z | z
          · exact z
          · rw [Nat.ble_eq_true_of_le z] at hle; cases hle
        refine h _ _ lc Rc _ ?_
        unfold RelD
        exact ⟨a, by rw [List.getElem?_take_of_lt hlt]; exact ea, rfl⟩
    · exact plain h
theorem end_cut {n0 : Nat} {o : SO} (hb : ∀ c ∈ bs, c ≤ n0) (hn : μ.length = n0) (h : VP C bs W μ H (cutE n0 (endD o)) Q) : SPost C (n0 :: bs) b W μ H o { nx := fun _ H' => Q .non H', rt := Q } := by
  match o, h with
  | none, h => exact h
  | some (.nx ρ', M'), h => exact fun μ' H' σ' l a => cut_val hb hn h l a.R (relD_non.mpr rfl)
  | some (.rt d, M'), h => exact fun μ' H' v l R r => cut_val hb hn h l R r
  | some (.bk _, _), h => exact (show False from h).elim
  | some (.ct _, _), h => exact (show False from h).elim
  | some (.xc x _, M'), h =>
    intro μ' H' cls d l R rx
    dsimp only [endD, cutE] at h
    split at h
    · rename_i f
      exact h _ _ cls d (l.cut n0 hn) (R.cut hb) (rx.cutX f)
    · exact h μ' H' cls d l R.leave rx

/-! ### a def's beginning -/
theorem start_rel {fn : Fn} {ds : List D} {vs : List V} (r : RelDs C μ H ds vs) (hl : ds.length = fn.np) : RelEn C μ H (startE fn ds) (L2.start fn.N vs) := by
  have hv : vs.length = fn.np := by rw [← r.length]; exact hl
  unfold startE L2.start
  refine ⟨by simp [hl, hv], fun i d e => ?_⟩
  by_cases hi : i < ds.length
  · rw [List.getElem?_append_left (by simpa using hi), List.getElem?_map] at e
    cases q : ds[i]? with
    | none => rw [q] at e; cases e
    | some d' =>
      rw [q] at e
      cases e
      obtain ⟨u, e1, r1⟩ := r.get q
      exact ⟨u, by rw [List.getElem?_append_left (by simpa [hv, ← hl] using hi), List.getElem?_map, e1]; rfl, r1⟩
  · rw [List.getElem?_append_right (by simpa using hi), List.getElem?_replicate] at e
    split at e <;> cases e

/-! ### the rule -/
theorem fnG_of {P : Program} {w : World} {K : PySem.W.Frag} {mg : Str → Option Value} {base : Heap} {j : Nat} {fa : Addr} {nm qn : Str} {pm : Arguments} {sts : List Stmt} {sc : Scope} {v1 v2 v3 v4 cdv v5 oc : Value} {an od : Option Addr}
    {osl : Array (Option Value)} {pars : List Str} {word : Sp} (lk : K.lookup fa = some ⟨oc, od, .func (PySem.W.fnOf nm qn pm sts sc v1 v2 v3 v4 an cdv v5), osl⟩) (hc : PySem.W.codeIn K cdv qn = true) (S : FnScope N pars sc)
    (hl : ∀ vs H Q E, word vs H Q E → vs.length = pars.length)
    (bd : ∀ (A : Around) (ou : List Env) (s : Shared) (H : Hp) (vs : List V) (Q : VK) (E : XK), A.guards = some [] → Room j (A.deeper (envOfC qn sc s.heap.objs.size fa cdv)) → word vs H Q E →
      ∃ t, PSs (cxOf CX P w K mg base N qn sc fa cdv A ou s H E) sts t ∧ t { nx := fun _ H' => Q .non H', rt := Q } (L2.start N vs) H) :
    FnG P w K mg base CX (j + 1) fa (PySem.W.fnOf nm qn pm sts sc v1 v2 v3 v4 an cdv v5) pars word := by
  refine ⟨hl, fun A ou s H args us vs Q E gu rm ev wd rel hb => ?_⟩
  have inn : K.In s.heap := ev.mod.kin.keeps fun a o e => (ev.bs a o e).left
  have nol : s.heap.NoLimit := ev.mod.nolimit.keeps fun a o e => (ev.bs a o e).left
  refine codeAny_call_function rm.depth (inn _ _ lk) rfl S.co S.gen rfl (PySem.W.codeRec_of inn hc) (hb _ _ _ _ ?_)
  refine wpAny_newFunctionEnv_cells S.kind (fun ⟨n, u⟩ hy => (S.par n (List.of_mem_zip hy).1).imp id fun q => ⟨q, PySem.W.cellsFrom_some _ _ _ (.inl q)⟩) fun env he s1 x => ?_
  subst he
  refine ⟨nol.keeps x.toInCall.keep, codeAny_func ?_⟩
  obtain ⟨t, ht, hq⟩ := bd A ou s H vs Q E gu (rm.deeper _) wd
  refine wpAny_mono (ht.run [] s1 (L2.start N vs) H _ (inv_start S rm.hd ev (hl _ _ _ _ wd) rel x) hq) (fun fl s' hs => ?_) fun e s' hs => hs
  match fl, hs with
  | .ret u, ⟨v, σ', H', J, rv, q⟩ => exact ⟨v, H', J.os, J.bare, J.base, J.hok, rv, q⟩
  | .next, ⟨σ', H', J, q⟩ => exact ⟨.non, H', J.os, J.bare, J.base, J.hok, rfl, q⟩
  | .brk, ⟨_, _, _, q⟩ => exact (show False from q).elim
  | .cont, ⟨_, _, _, q⟩ => exact (show False from q).elim

/-- a def of the text, as the module's heap holds it -/
structure DefAt (C : Cn) (mg : Str → Option Value) (TB : Tb) (f : Nat) (fn : Fn) (fd : FuncData) : Prop where
  nm : mg fn.name = some (.ref (C.fa f))
  np : fn.np ≤ fn.N.length
  bd : ∀ (s : Shared) (us : List Value), us.length = fn.np → BindsTo s fd ⟨us, []⟩ ((fn.N.take fn.np).zip us)
  bk : ∀ n ks, TB.kw.contains (f, n, ks) = true → ∀ (s : Shared) (us ws zs : List Value), us.length = n → ws.length = ks.length → place fn.np us ks ws = some zs → BindsTo s fd ⟨us, (ks.filterMap fun i => fn.N[i]?).zip ws⟩ ((fn.N.take fn.np).zip zs)
  ex : ∃ qual params body scope, FunD C.K fn.name qual params body scope [] [] (C.fa f) fd ∧ FnScope fn.N (fn.N.take fn.np) scope ∧ chkSs TB fn.N scope fn.body body = true
/-- what the module gives -/
structure PX (C : Cn) (mg : Str → Option Value) (TB : Tb) (gv : Nat → Option D) : Prop where
  blt : ∀ n ∈ bltNs, mg (Str.ofString n) = none
  gv : ∀ g n d, TB.gl[g]? = some (n, d) → gv g = some d ∧ ∃ u v, mg n = some u ∧ RelV v u ∧ ∀ μ H, RelD C μ H d v
  defs : ∀ f fn, TB.fns[f]? = some fn → ∃ fd, DefAt C mg TB f fn fd
theorem px_none {P : Program} {w : World} (outer : List Env) (H : Hp) (s : Shared) (e : Value) (s' : Shared) : ¬ L2.CX P w outer H s W0 e s' := by
  rintro ⟨a, B, H', cls, d, _, _, _, _, _, _, _, q⟩
  exact q
theorem PX.fns {P : Program} {w : World} {mg : Str → Option Value} {base : Heap} {gv : Nat → Option D} {wf : Nat} (px : PX C mg TB gv) : ∀ (k f : Nat) (fn : Fn), TB.fns[f]? = some fn → ∃ fd, FnAt C P w mg base (L2.CX P w) TB k (run TB.fns gv wf k) f fn fd
  | 0, f, fn, hf => by
    obtain ⟨fd, d⟩ := px.defs f fn hf
    have no : ∀ vs H Q E, ¬ spF C (run TB.fns gv wf 0) f vs H Q E := by
      rintro vs H Q E ⟨bs, b, μ, M, ds, _, _, _, p⟩
      unfold run at p
      exact p
    obtain ⟨q, pm, body, sc, F, _⟩ := d.ex
    exact ⟨fd, d.nm, F.kp, d.np, d.bd, d.bk, ⟨fun vs H Q E z => (no _ _ _ _ z).elim, fun A outer s H args us vs Q E _ _ _ z => (no _ _ _ _ z).elim⟩⟩
  | k + 1, f, fn, hf => by
    obtain ⟨fd, d⟩ := px.defs f fn hf
    obtain ⟨q, pm, body, sc, F, S, chk⟩ := d.ex
    have F0 := F
    obtain ⟨oc, od, dV, kV, doc, pmod, an, cdv, ct, osl, rfl, lk, hcd, _, _⟩ := F.ex
    have len : ∀ vs H Q E, spF C (run TB.fns gv wf (k + 1)) f vs H Q E → vs.length = fn.np ∧ vs.length = (fn.N.take fn.np).length := by
      rintro vs H Q E ⟨bs, b, μ, M, ds, _, _, r, p⟩
      unfold run at p
      rw [hf] at p
      dsimp only [callFn] at p
      split at p
      · rename_i e
        rw [List.length_take, Nat.min_eq_left d.np, ← r.length]
        exact ⟨e, e⟩
      · exact (show False from p).elim
    refine ⟨_, d.nm, F0.kp, d.np, d.bd, d.bk, fnG_of lk hcd S (fun vs H Q E z => (len _ _ _ _ z).2) fun A ou s H vs Q E gu rm wd => ?_⟩
    obtain ⟨bs, b, μ, M, ds, hb, R, r, p⟩ := wd
    unfold run at p
    rw [hf] at p
    dsimp only [callFn] at p
    split at p
    · rename_i el
      have GG : GX C (L2.CX P w) TB k ⟨run TB.fns gv wf k, gv, wf⟩ fn.N E (cxOf (L2.CX P w) P w C.K mg base fn.N q sc (C.fa f) cdv A ou s H E) :=
        { K := rfl, N_ := rfl, nd := S.nd, calm := rfl, room := rm, gd := guards_deeper gu, po := passes_of rfl,
          px := passes_call (takes_of rfl rfl rfl rfl) (fun _ _ _ _ h => h), px0 := px_none, blt := px.blt, gv := px.gv, fns := PX.fns px k }
      refine ⟨tSs C E ⟨run TB.fns gv wf k, gv, wf⟩ fn.body, sSs fn.body GG rfl (fun _ => rfl) chk, ?_⟩
      cases ek : fn.keep with
      | true =>
        rw [ek] at p
        exact ⟨bs, b, μ, _, M, ⟨hb, R, start_rel r el⟩, end_keep p⟩
      | false =>
        rw [ek] at p
        refine ⟨M.length :: bs, M.length, μ, _, M, ⟨fun c hc => ?_, R.enter, start_rel r el⟩, end_cut (fun c hc => by rw [← R.len]; exact R.le c hc) R.len p⟩
        rcases List.mem_cons.mp hc with rfl | hc
        · exact Nat.le_refl _
        · rw [← R.len]; exact R.le c hc
    · exact (show False from p).elim
end Ev
end

section
/-! EvHead: from the module behind the top to the law's promise. -/
namespace Ev
open PySem PySem.Spec PyProof.Rows L2

/-! ### the script at the top -/
theorem top_call {P : Program} {w : World} {K : PySem.W.Frag} {mg mb : Str → Option Value} {k : Nat} {fa a : Addr} {x : Str} {word : Sp} {s1 : Shared} {us : List Value} {is : List Int}
    (inn : K.In s1.heap) (gl : s1.heap.Ns mainGlobals mg) (bl : s1.heap.Ns builtinsNs mb) (bo : ∀ x : Str, x ≠ "__name__" → mb x = bootBuiltins x) (nol : s1.heap.NoLimit) (ge : s1.gens = #[])
    (ha : s1.heap.get? a = some { cls := .type "list", data := .seq us.toArray }) (hi : IntsAre us is) (hl : is.length ≤ sizeLine) (rm : Room k callerA)
    (F : ∀ base : Heap, ∃ fd : FuncData, FnG P w K mg base (L2.CX P w) k fa fd [x] word ∧ ∀ (s : Shared) (u : Value), BindsTo s fd ⟨[u], []⟩ [(x, u)])
    (hw : ∀ H : Hp, FzL K H a (is.map V.int) → word [.ref a] H (fun v _ => v = .bl true) W0) :
    codeAny (model P w) callerA (.call (.ref fa) ⟨[.ref a], []⟩) (fun r s' => r = .ok (.ret (.bool true)) ∧ OldK s1.heap s'.heap ∧ s'.os = s1.os ∧ AllBare s'.gens) s1 := by
  have rv : Vals (is.map V.int) us := vals_ints hi
  -- what is tracked: the script alone, and not where the module knows it
  obtain ⟨H, hF, hO, hok⟩ : ∃ H : Hp, FzL K H a (is.map V.int) ∧ (∀ b u, H b = some u → b = a ∧ K.lookup a = none ∧ u = .frz { cls := .type "list", data := .seq us.toArray } (.lst (is.map V.int))) ∧ HOk P w H s1.heap := by
    cases hk : K.lookup a with
    | some o =>
      have eo := inn a o hk
      rw [ha] at eo
      cases eo
      exact ⟨fun _ => none, .inr ⟨_, us.toArray, _, hk, rfl, rfl, rfl, by rw [List.size_toArray, hi.length]; exact hl, by simpa using rv⟩, fun b u z => (by cases z), fun b u z => (by cases z)⟩
    | none =>
      refine ⟨fun b => if b = a then some (.frz { cls := .type "list", data := .seq us.toArray } (.lst (is.map V.int))) else none, .inl ⟨_, if_pos rfl⟩, fun b u z => ?_, fun b u z => ?_⟩ <;> dsimp only at z <;> split at z <;> cases z
      · rename_i e
        exact ⟨e, rfl, rfl⟩
      · rename_i e
        subst e
        exact ⟨ha, by rw [List.length_map]; exact hl, us, _, rv, ha⟩
  have keep : ∀ {b : Addr} {o : Obj}, s1.heap.get? b = some o → (b = a → K.lookup a = none → False) → (hidT s1.heap H).get? b = some o := fun {b o} e n => hidT_get e (by
    cases q : H b with
    | none => rfl
    | some u => exact (n (hO b u q).1 (hO b u q).2.1).elim)
  have ns : ∀ {b : Addr} {m : Str → Option Value}, s1.heap.Ns b m → (hidT s1.heap H).Ns b m := by
    rintro b m ⟨o, es, ep, e, d, r⟩
    refine ⟨o, es, ep, keep e fun z _ => ?_, d, r⟩
    subst z
    rw [ha] at e
    cases e
    cases (show Data.seq us.toArray _ = Data.dict es ep from d)
  have hKb : K.In (hidT s1.heap H) := fun b o e => keep (inn b o e) fun z n => by
    subst z
    rw [n] at e
    cases e
  have e0 : Env0 P w K mg (hidT s1.heap H) callerA [] s1 H :=
    { frames := rfl, mod := ⟨hKb, ns gl, ⟨mb, ns bl, bo⟩, nol.elim fun mc z => ⟨mc, ns z.1, z.2⟩⟩, bs := fun b o e => of_hidT e, bsz := Nat.le_of_eq (hidT_size _ _), funs := trivial, frf := fun b z => (by cases z), hok := hok, bare := .of_eq ge }
  obtain ⟨fd, FG, hb⟩ := F (hidT s1.heap H)
  refine codeAny_mono (FG.go callerA [] s1 H ⟨[.ref a], []⟩ [.ref a] [.ref a] _ _ rfl rm e0 (hw H hF) (.cons rfl .nil) (hb s1 (.ref a))) fun r s' h => ?_
  match r, h with
  | .error e, h => exact (px_none _ _ _ _ _ h).elim
  | .ok (.ret u), ⟨v, H', os, bare, un, hok', r', q⟩ =>
    cases (show v = .bl true from q)
    cases (show u = Value.bool true from r')
    refine ⟨rfl, OldK.of_keep fun b o e => ?_, os, bare⟩
    cases q : H b with
    | none => exact un.keep b o e q (fun z => by cases z) (by simp)
    | some u =>
      have z2 := un.frzs b _ _ (q.trans (by rw [(hO b u q).2.2]))
      have e1 := (hok b u q)
      rw [(hO b u q).2.2] at e1
      rw [(hO b u q).1, ha] at e
      cases e
      exact (hok' b _ z2).1

/-! ### constants of the module -/
mutual
def cstB (K : PySem.W.Frag) : D → Value → Bool
  | .non, u => match u with
    | .none => true
    | _ => false
  | .bl b, u => match u with
    | .bool c => b == c
    | _ => false
  | .int i, u => match u with
    | .int j _ => decide (i = j)
    | _ => false
  | .str s, u => match u with
    | .str z _ => decide (z = ⟨s.toArray⟩)
    | _ => false
  | .tup ds, u => match u with
    | .ref a => match K.lookup a with
      | some ⟨.type c, _, .seq its _, _⟩ => decide (c = "tuple") && Nat.ble its.size sizeLine && cstsB K ds its.toList
      | _ => false
    | _ => false
  | .frz ds, u => match u with
    | .ref a => match K.lookup a with
      | some ⟨.type c, none, .seq its _, _⟩ => decide (c = "list") && Nat.ble its.size sizeLine && cstsB K ds its.toList
      | _ => false
    | _ => false
  | .loc _, _ => false
  | .fn _, _ => false
def cstsB (K : PySem.W.Frag) : List D → List Value → Bool
  | [], us => us.isEmpty
  | d :: ds, us => match us with
    | [] => false
    | u :: us => cstB K d u && cstsB K ds us
end
mutual
theorem cst_ok {C : Cn} : ∀ {d : D} {u : Value}, cstB C.K d u = true → ∃ v, RelV v u ∧ ∀ μ H, RelD C μ H d v
  | .non, u, h => by
    unfold cstB at h
    split at h
    · exact ⟨.non, rfl, fun μ H => by unfold RelD; rfl⟩
    · cases h
  | .bl b, u, h => by
    unfold cstB at h
    split at h
    · cases beq_iff_eq.mp h
      exact ⟨.bl b, rfl, fun μ H => by unfold RelD; rfl⟩
    · cases h
  | .int i, u, h => by
    unfold cstB at h
    split at h
    · cases of_decide_eq_true h
      exact ⟨.int i, ⟨_, rfl⟩, fun μ H => by unfold RelD; rfl⟩
    · cases h
  | .str s, u, h => by
    unfold cstB at h
    split at h
    · cases of_decide_eq_true h
      exact ⟨.str ⟨s.toArray⟩, ⟨_, rfl⟩, fun μ H => by unfold RelD; rfl⟩
    · cases h
  | .tup ds, u, h => by
    unfold cstB at h
    split at h
    · rename_i a
      split at h
      · rename_i c od its n osl e
        simp only [Bool.and_eq_true, decide_eq_true_eq] at h
        obtain ⟨⟨h1, h2⟩, h3⟩ := h
        obtain ⟨vs, r, q⟩ := csts_ok (C := C) h3
        refine ⟨.ref a, rfl, fun μ H => ?_⟩
        unfold RelD
        exact ⟨a, vs, rfl, .inr ⟨_, its, n, e, congrArg Value.type h1, rfl, Nat.le_of_ble_eq_true h2, r⟩, q μ H⟩
      · cases h
    · cases h
  | .frz ds, u, h => by
    unfold cstB at h
    split at h
    · rename_i a
      split at h
      · rename_i c its n osl e
        simp only [Bool.and_eq_true, decide_eq_true_eq] at h
        obtain ⟨⟨h1, h2⟩, h3⟩ := h
        obtain ⟨vs, r, q⟩ := csts_ok (C := C) h3
        refine ⟨.ref a, rfl, fun μ H => ?_⟩
        unfold RelD
        exact ⟨a, vs, rfl, .inr ⟨_, its, n, e, congrArg Value.type h1, rfl, rfl, Nat.le_of_ble_eq_true h2, r⟩, q μ H⟩
      · cases h
    · cases h
  | .loc _, u, h => by unfold cstB at h; cases h
  | .fn _, u, h => by unfold cstB at h; cases h
theorem csts_ok {C : Cn} : ∀ {ds : List D} {us : List Value}, cstsB C.K ds us = true → ∃ vs, Vals vs us ∧ ∀ μ H, RelDs C μ H ds vs
  | [], us, h => by
    unfold cstsB at h
    cases us with
    | nil => exact ⟨[], .nil, fun μ H => .nil⟩
    | cons _ _ => cases h
  | d :: ds, us, h => by
    unfold cstsB at h
    cases us with
    | nil => cases h
    | cons u us =>
      dsimp only at h
      rw [Bool.and_eq_true] at h
      obtain ⟨v, r, q⟩ := cst_ok (C := C) h.1
      obtain ⟨vs, rs, qs⟩ := csts_ok (C := C) h.2
      exact ⟨v :: vs, .cons r rs, fun μ H => .cons (q μ H) (qs μ H)⟩
end

/-! ### what is looked at behind the top -/
def glsB (K : PySem.W.Frag) (gl : List (Str × D)) : Bool := gl.all fun p => match PySem.W.nsIn K mainGlobals p.1 with
  | some (some u) => cstB K p.2 u
  | _ => false
def faOf (TB : Tb) : List He.Fa := TB.fns.map (fun fn => He.Fa.glo fn.name) ++ bltNs.map fun n => He.Fa.free (Str.ofString n)
def obsE (TB : Tb) (ds : List He.DefD) (K : PySem.W.Frag) : He.AlD := (glsB K TB.gl && (He.obsD (faOf TB) ds K).1, (He.obsD (faOf TB) ds K).2)
def obsEG (n : Nat) (TB : Tb) (ds : List He.DefD) (g : Addr → Option Obj) : He.AlD := obsE TB ds (He.frG g (He.asD g n))
def SaysE (TB : Tb) (ds : List He.DefD) (K : PySem.W.Frag) : Prop := obsE TB ds K = He.valD ds
def hookE (n : Nat) (TB : Tb) (ds : List He.DefD) : PySem.W.Hook where
  α := He.AlD
  obs := fun s => obsEG n TB ds s.heap.get?
  val := fun _ => He.valD ds
  says := fun _ h => ∃ K : PySem.W.Frag, K.In h ∧ SaysE TB ds K
  of := fun _ _ e => ⟨_, He.frG_in, e⟩
  keeps := fun _ _ _ ⟨K, hK, c⟩ k => ⟨K, PySem.W.Frag.In.keeps hK k, c⟩
theorem obsEG_eq {n : Nat} {TB : Tb} {ds : List He.DefD} {g : Addr → Option Obj} {s : Shared} (h : ∀ a, g a = s.heap.get? a) : obsEG n TB ds g = (hookE n TB ds).obs s := by
  obtain rfl : g = s.heap.get? := funext h
  rfl
theorem SaysE.gls {TB : Tb} {ds : List He.DefD} {K : PySem.W.Frag} (c : SaysE TB ds K) : glsB K TB.gl = true ∧ He.SaysD (faOf TB) ds K := by
  have c1 : (glsB K TB.gl && (He.obsD (faOf TB) ds K).1) = true := congrArg (fun z : He.AlD => z.1) c
  have c2 : (He.obsD (faOf TB) ds K).2 = ds.map He.DefD.val := congrArg (fun z : He.AlD => z.2) c
  rw [Bool.and_eq_true] at c1
  exact ⟨c1.1, Prod.ext c1.2 c2⟩

/-! ### the defs -/
def defB (TB : Tb) (fn : Fn) (d : He.DefD) : Bool :=
  decide (d.at_ = (fn.name, none)) && decide (d.name = fn.name) && d.dfl.isEmpty && d.kwd.isEmpty && Nat.ble fn.np fn.N.length && C8.scC fn.N (fn.N.take fn.np) d.scope && chkSs TB fn.N d.scope fn.body d.body
def BdP (fn : Fn) (d : He.DefD) : Prop := ∀ (kV doc pm : Value) (an : Option Addr) (cdv ct : Value) (us : List Value), us.length = fn.np → bindArgs (PySem.W.fnOf d.name d.qual d.params d.body d.scope .none kV doc pm an cdv ct) ⟨us, []⟩ = pure ((fn.N.take fn.np).zip us)
def BkP (TB : Tb) (f : Nat) (fn : Fn) (d : He.DefD) : Prop := ∀ n ks, TB.kw.contains (f, n, ks) = true → ∀ (kV doc pm : Value) (an : Option Addr) (cdv ct : Value) (us ws zs : List Value), us.length = n → ws.length = ks.length → place fn.np us ks ws = some zs →
  bindArgs (PySem.W.fnOf d.name d.qual d.params d.body d.scope .none kV doc pm an cdv ct) ⟨us, (ks.filterMap fun i => fn.N[i]?).zip ws⟩ = pure ((fn.N.take fn.np).zip zs)
theorem bk_none {TB : Tb} {f n : Nat} {ks : List Nat} (e : (TB.kw.all fun t => !(t.1 == f)) = true) (h : TB.kw.contains (f, n, ks) = true) : False := by
  have m := List.contains_iff_mem.mp h
  have z := List.all_eq_true.mp e _ m
  simp at z
theorem kw_one {TB : Tb} {f n n0 : Nat} {ks k0 : List Nat} (e : (TB.kw.all fun t => !(t.1 == f) || (t.2.1 == n0 && t.2.2 == k0)) = true) (h : TB.kw.contains (f, n, ks) = true) : n = n0 ∧ ks = k0 := by
  have m := List.contains_iff_mem.mp h
  have z := List.all_eq_true.mp e _ m
  simpa using z
structure DefOk (TB : Tb) (f : Nat) (fn : Fn) (d : He.DefD) : Prop where
  b : defB TB fn d = true
  bd : BdP fn d
  bk : BkP TB f fn d
def DefsOk (TB : Tb) : Nat → List Fn → List He.DefD → Prop
  | _, [], [] => True
  | i, fn :: fns, d :: ds => DefOk TB i fn d ∧ DefsOk TB (i + 1) fns ds
  | _, _, _ => False
theorem DefsOk.get {TB : Tb} : ∀ {i : Nat} {fns : List Fn} {ds : List He.DefD} {j : Nat} {fn : Fn}, DefsOk TB i fns ds → fns[j]? = some fn → ∃ d, ds[j]? = some d ∧ DefOk TB (i + j) fn d
  | _, [], [], _, _, _, e => by cases e
  | _, [], _ :: _, _, _, h, _ => h.elim
  | _, _ :: _, [], _, _, h, _ => h.elim
  | i, f :: fns, d :: ds, 0, fn, h, e => by
    cases e
    exact ⟨d, rfl, h.1⟩
  | i, f :: fns, d :: ds, j + 1, fn, h, e => by
    obtain ⟨d', e1, q⟩ := DefsOk.get (j := j) h.2 e
    exact ⟨d', e1, by rw [show i + (j + 1) = i + 1 + j by omega]; exact q⟩
def cnOf (TB : Tb) (K : PySem.W.Frag) : Cn := ⟨K, fun f => match TB.fns[f]? with
  | some fn => He.ga K fn.name
  | none => 0, fun _ => 0, fun _ => Str.empty⟩
def gvOf (TB : Tb) (g : Nat) : Option D := (TB.gl[g]?).map (·.2)
theorem px_of {TB : Tb} {ds : List He.DefD} {K : PySem.W.Frag} {h : Heap} {mg : Str → Option Value} (X : K.In h) (G : h.Ns mainGlobals mg) (c : SaysE TB ds K) (ok : DefsOk TB 0 TB.fns ds) : PX (cnOf TB K) mg TB (gvOf TB) := by
  obtain ⟨c1, c2⟩ := c.gls
  have fact : ∀ f ∈ faOf TB, f.ok K = true := fun f hf => by
    obtain ⟨i, e⟩ := List.getElem?_of_mem hf
    exact c2.fact i e
  refine ⟨fun n hn => ?_, fun g n d e => ?_, fun f fn e => ?_⟩
  · exact He.free_ok X G (fact (.free (Str.ofString n)) (List.mem_append.mpr (.inr (List.mem_map.mpr ⟨n, hn, rfl⟩))))
  · refine ⟨by unfold gvOf; rw [e]; rfl, ?_⟩
    have z := List.all_eq_true.mp c1 _ (List.mem_of_getElem? e)
    dsimp only at z
    split at z
    · rename_i u eu
      obtain ⟨v, r, q⟩ := cst_ok (C := cnOf TB K) z
      exact ⟨u, v, PySem.W.mg_of X G eu, r, q⟩
    · cases z
  · obtain ⟨d, ed, D⟩ := ok.get e
    rw [Nat.zero_add] at D
    have hg := He.glo_ok X G (fact (.glo fn.name) (List.mem_append.mpr (.inl (List.mem_map.mpr ⟨fn, List.mem_of_getElem? e, rfl⟩))))
    obtain ⟨fd, F⟩ := c2.def_ f ed
    have B := D.b
    unfold defB at B
    simp only [Bool.and_eq_true, decide_eq_true_eq] at B
    obtain ⟨⟨⟨⟨⟨⟨b1, b2⟩, b3⟩, b4⟩, b5⟩, b6⟩, b7⟩ := B
    have efa : (cnOf TB K).fa f = He.ga K fn.name := by
      show (match TB.fns[f]? with
        | some fn => He.ga K fn.name
        | none => 0) = _
      rw [e]
    have bd := D.bd
    have bk := D.bk
    obtain ⟨dat, dnm, dq, dp, db, dsc, ddf, dkw⟩ := d
    dsimp only at b1 b2 b3 b4 b6 b7
    subst b1 b2
    cases ddf with
    | cons _ _ => cases b3
    | nil =>
    cases dkw with
    | cons _ _ => cases b4
    | nil =>
    have F2 : FunD (cnOf TB K).K fn.name dq dp db dsc [] [] ((cnOf TB K).fa f) fd := by
      rw [efa]
      exact F
    have np := Nat.le_of_ble_eq_true b5
    have lk : ∀ us : List Value, us.length = fn.np → us.length = (fn.N.take fn.np).length := fun us h => by rw [List.length_take, Nat.min_eq_left np]; exact h
    refine ⟨fd, by rw [efa]; exact hg, np, fun s us hl => ?_, fun n ks hk s us ws zs h1 h2 h3 => ?_, ⟨dq, dp, db, dsc, F2, C8.fnScope_by b6, b7⟩⟩
    · obtain ⟨oc, od, dV, kV, doc, pm, an, cdv, ct, osl, rfl, _, _, hD, _⟩ := F2.ex
      rcases hD with ⟨_, rfl⟩ | ⟨e, _⟩
      · exact .of_eq (bd kV doc pm an cdv ct us hl)
      · exact absurd rfl e
    · obtain ⟨oc, od, dV, kV, doc, pm, an, cdv, ct, osl, rfl, _, _, hD, _⟩ := F2.ex
      rcases hD with ⟨_, rfl⟩ | ⟨e, _⟩
      · exact .of_eq (bk n ks hk kV doc pm an cdv ct us ws zs h1 h2 h3)
      · exact absurd rfl e

/-- THE HEAD'S END: the law's def answers True by the evaluator -/
theorem walk_ev {l : PySem.W.OpenLaw} {n k wf f0 : Nat} {q : Program} {loose : List Str} {XP : (Str → Option Value) → Heap → Prop} {YP : World → Heap → Prop} {d : DefRec} {TB : Tb} {ds : List He.DefD} {fn0 : Fn} {x : Str}
    (hn : l.most = some n) (hn2 : n ≤ sizeLine) (hdf : d.params.defaults = []) (hr : Room k callerA) (ok : DefsOk TB 0 TB.fns ds) (e0 : TB.fns[f0]? = some fn0) (ex : fn0.N.take fn0.np = [x]) (hd : d.name = fn0.name)
    (hY : ∀ (w : World) (h : Heap), YP w h → ∃ K : PySem.W.Frag, K.In h ∧ SaysE TB ds K)
    (law : ∀ is : List Int, is.length ≤ n → ∃ M, run TB.fns (gvOf TB) wf k f0 [.frz (is.map D.int)] 0 [] = .ok (.bl true) M) :
    PySem.W.WalkO q loose XP YP l.row.toRowW d [] (fun f vs => PySem.call f vs) := by
  refine Att.attach_call hn hdf fun w s0 s1 mg mb fa o pm cd doc a vs is G Y ho hd' hcd hmg hobj hints hlen hg => ?_
  obtain ⟨K, KX, c⟩ := hY w _ Y
  have px := px_of KX G.T.g c ok
  obtain ⟨fd0, D0⟩ := px.defs f0 fn0 e0
  rw [hd, D0.nm] at hmg
  cases hmg
  have ex1 : fn0.np = 1 := by
    have z := congrArg List.length ex
    rw [List.length_take, Nat.min_eq_left D0.np] at z
    exact z
  refine top_call (x := x) (word := spF (cnOf TB K) (run TB.fns (gvOf TB) wf k) f0) KX G.T.g G.T.b G.T.builtins G.T.nolimit hg hobj hints (Nat.le_trans hlen hn2) hr (fun base => ?_) fun H hF => ?_
  · obtain ⟨fd, D⟩ := px.fns (w := w) (P := l.prog) (base := base) (wf := wf) k f0 fn0 e0
    refine ⟨fd, ?_, fun s u => ?_⟩
    · have z := D.ok
      rw [ex] at z
      exact z
    · have z := D.bd s [u] (by rw [ex1]; rfl)
      rw [ex] at z
      exact z
  · obtain ⟨M, e⟩ := law is hlen
    refine ⟨[], 0, [], [], [.frz (is.map D.int)], fun c z => (by cases z), ⟨rfl, List.nodup_nil, fun c z => (by cases z), fun n a o e => by simp at e⟩, .cons ?_ .nil, ?_⟩
    · unfold RelD
      exact ⟨a, is.map V.int, rfl, hF, relDs_int is⟩
    · rw [e]
      intro μ' H' _ _ v r
      exact relD_bl.mp r
end Ev
end

section
/-! EvQ: the evaluator's equations, each an explicit step. -/
namespace Ev
variable {c : Cf} {b : Nat} {ρ : Enn} {M : Sto} {α β : Type}
/-! ### ways on -/
def atV (o : Option (Option D)) (M : Sto) : Out D := match o with
  | some (some d) => .ok d M
  | _ => .no
@[simp] theorem atV_some (d : D) : atV (some (some d)) M = .ok d M := id rfl
def negV (x : D) (M : Sto) : Out D := match x with
  | .int i => .ok (.int (-i)) M
  | _ => .no
@[simp] theorem negV_int (i : Int) : negV (.int i) M = .ok (.int (-i)) M := id rfl
def ifO {α : Type} (k : Bool) (a b : Out α) : Out α := match k with
  | true => a
  | false => b
@[simp] theorem ifO_t (x y : Out α) : ifO true x y = x := id rfl
@[simp] theorem ifO_f (x y : Out α) : ifO false x y = y := id rfl
def ifS (k : Bool) (a b : SO) : SO := match k with
  | true => a
  | false => b
@[simp] theorem ifS_t (x y : SO) : ifS true x y = x := id rfl
@[simp] theorem ifS_f (x y : SO) : ifS false x y = y := id rfl
def seqS (o : SO) (f : Enn → Sto → SO) : SO := match o with
  | some (.nx ρ', M') => f ρ' M'
  | r => r
@[simp] theorem seq_nx {f : Enn → Sto → SO} : seqS (some (.nx ρ, M)) f = f ρ M := id rfl
@[simp] theorem seq_rt {f : Enn → Sto → SO} (d : D) : seqS (some (.rt d, M)) f = some (.rt d, M) := id rfl
@[simp] theorem seq_bk {f : Enn → Sto → SO} : seqS (some (.bk ρ, M)) f = some (.bk ρ, M) := id rfl
@[simp] theorem seq_ct {f : Enn → Sto → SO} : seqS (some (.ct ρ, M)) f = some (.ct ρ, M) := id rfl
@[simp] theorem seq_xc {f : Enn → Sto → SO} (x : Xn) : seqS (some (.xc x ρ, M)) f = some (.xc x ρ, M) := id rfl
def asgS (o : Option (Enn × Sto)) : SO := match o with
  | some (ρ', M') => some (.nx ρ', M')
  | none => none
@[simp] theorem asg_some : asgS (some (ρ, M)) = some (.nx ρ, M) := id rfl
def setG (o : Out Sto) (ρ : Enn) : Option (Enn × Sto) := match o with
  | .ok M2 _ => some (ρ, M2)
  | _ => none
@[simp] theorem setG_ok (M2 : Sto) : setG (.ok M2 M) ρ = some (ρ, M2) := id rfl
def thenG (o : Option (Enn × Sto)) (f : Enn → Sto → Option (Enn × Sto)) : Option (Enn × Sto) := match o with
  | some (ρ', M') => f ρ' M'
  | none => none
@[simp] theorem thenG_some {f : Enn → Sto → Option (Enn × Sto)} : thenG (some (ρ, M)) f = f ρ M := id rfl
def intO (x : D) (M : Sto) : Out (Option Int) := match x with
  | .int i => .ok (some i) M
  | _ => .no
@[simp] theorem intO_int (i : Int) : intO (.int i) M = .ok (some i) M := id rfl
def augI (i : Nat) (o : B2) (x : D) (ρ : Enn) (y : D) (M : Sto) : SO := match o, x, y with
  | .add, .int i', .int j => some (.nx (ρ.set i (some (.int (i' + j)))), M)
  | .sub, .int i', .int j => some (.nx (ρ.set i (some (.int (i' - j)))), M)
  | _, _, _ => none
@[simp] theorem augI_add (i : Nat) (x y : Int) : augI i .add (.int x) ρ (.int y) M = some (.nx (ρ.set i (some (.int (x + y)))), M) := id rfl
@[simp] theorem augI_sub (i : Nat) (x y : Int) : augI i .sub (.int x) ρ (.int y) M = some (.nx (ρ.set i (some (.int (x - y)))), M) := id rfl
def augV (o : Option (Option D)) (f : D → SO) : SO := match o with
  | some (some x) => f x
  | _ => none
@[simp] theorem augV_some (d : D) (f : D → SO) : augV (some (some d)) f = f d := id rfl
def isiV (o : Option Ty) (cs : List CL) (M : Sto) : Out D := match o with
  | some t => (ofOpt (isAny t cs) M).bind fun k M => .ok (.bl k) M
  | none => .no
@[simp] theorem isiV_some (t : Ty) (cs : List CL) : isiV (some t) cs M = (ofOpt (isAny t cs) M).bind fun k M => .ok (.bl k) M := id rfl
def lrngV (o : Option Src) (M : Sto) : Out D := match o with
  | some (.rng lo n) => if n ≤ cap then new ((List.range n).map fun i => D.int (lo + (i : Nat))) M else .no
  | _ => .no
@[simp] theorem lrngV_rng (lo : Int) (n : Nat) : lrngV (some (.rng lo n)) M = if n ≤ cap then new ((List.range n).map fun i => D.int (lo + (i : Nat))) M else .no := id rfl
@[simp] theorem bok (a : α) (f : α → Sto → Out β) : (Out.ok a M).bind f = f a M := id rfl
@[simp] theorem lok (a : α) (f : α → Sto → SO) : lift (.ok a M) ρ f = f a M := id rfl
@[simp] theorem oso (a : α) : ofOpt (some a) M = .ok a M := id rfl
@[simp] theorem endD_nx : endD (some (.nx ρ, M)) = .ok .non M := id rfl
@[simp] theorem endD_rt (d : D) : endD (some (.rt d, M)) = .ok d M := id rfl

def bodyS (o : Option (Enn × Sto)) (f : Enn → Sto → SO) : SO := match o with
  | some (ρ', M') => f ρ' M'
  | none => none
@[simp] theorem bodyS_some {f : Enn → Sto → SO} : bodyS (some (ρ, M)) f = f ρ M := id rfl

/-! ### equations -/
theorem q_var (i : Nat) : evE c b (.var i) ρ M = atV ρ[i]? M := by rw [evE] <;> (rfl)
theorem q_cst (d : D) : evE c b (.cst d) ρ M = .ok d M := by rw [evE]
theorem q_glb (g : Nat) : evE c b (.glb g) ρ M = ofOpt (c.gv g) M := by rw [evE]
theorem q_neg (a : E) : evE c b (.un .neg a) ρ M = (evE c b a ρ M).bind negV := by rw [evE] <;> (rfl)
theorem q_no (a : E) : evE c b (.no a) ρ M = (evE c b a ρ M).bind fun x M => (ofOpt (truth M x) M).bind fun k M => .ok (.bl (!k)) M := by rw [evE]
theorem q_bin (o : B2) (a a' : E) : evE c b (.bin o a a') ρ M = (evE c b a ρ M).bind fun x M => (evE c b a' ρ M).bind fun y M => semB o x y M := by rw [evE]
theorem q_cmp (o : C2) (a a' : E) : evE c b (.cmp o a a') ρ M = (evE c b a ρ M).bind fun x M => (evE c b a' ρ M).bind fun y M => (ofOpt (semC o M x y) M).bind fun k M => .ok (.bl k) M := by rw [evE]
theorem q_chn (o o' : C2) (a a' a'' : E) : evE c b (.chn o o' a a' a'') ρ M = (evE c b a ρ M).bind fun x M => (evE c b a' ρ M).bind fun y M => (ofOpt (semC o M x y) M).bind fun k M => ifO k ((evE c b a'' ρ M).bind fun z M => (ofOpt (semC o' M y z) M).bind fun k M => .ok (.bl k) M) (.ok (.bl false) M) := by
  rw [evE] <;> (congr <;> (funext x M; congr <;> (funext y M; congr <;> (funext k M; cases k <;> rfl))))
theorem q_and (a a' : E) : evE c b (.and a a') ρ M = (evE c b a ρ M).bind fun x M => (ofOpt (truth M x) M).bind fun k M => ifO k (evE c b a' ρ M) (.ok x M) := by
  rw [evE] <;> (congr <;> (funext x M; congr <;> (funext k M; cases k <;> rfl)))
theorem q_or (a a' : E) : evE c b (.or a a') ρ M = (evE c b a ρ M).bind fun x M => (ofOpt (truth M x) M).bind fun k M => ifO k (.ok x M) (evE c b a' ρ M) := by
  rw [evE] <;> (congr <;> (funext x M; congr <;> (funext k M; cases k <;> rfl)))
theorem q_ife (t : T) (a a' : E) : evE c b (.ife t a a') ρ M = (evT c b t ρ M).bind fun k M => ifO k (evE c b a ρ M) (evE c b a' ρ M) := by
  rw [evE] <;> (congr <;> (funext k M; cases k <;> rfl))
theorem q_tup (es : EL) : evE c b (.tup es) ρ M = (evL c b es ρ M).bind fun xs M => if xs.length ≤ cap then .ok (.tup xs) M else .no := by rw [evE]
theorem q_lst (es : EL) : evE c b (.lst es) ρ M = (evL c b es ρ M).bind fun xs M => if xs.length ≤ cap then new xs M else .no := by rw [evE]
theorem q_dic : evE c b .dic0 ρ M = .ok (.loc M.length) (M ++ [.dct []]) := by rw [evE]
theorem q_ix (a a' : E) : evE c b (.ix a a') ρ M = (evE c b a ρ M).bind fun x M => (evE c b a' ρ M).bind fun y M => ofOpt (semIx M x y) M := by rw [evE]
theorem q_sl (a : E) (lo hi : EO) : evE c b (.sl a lo hi) ρ M = (evE c b a ρ M).bind fun x M => (evO c b lo ρ M).bind fun l M => (evO c b hi ρ M).bind fun h M => semSl x l h M := by rw [evE]
theorem q_rev (a : E) : evE c b (.rev a) ρ M = (evE c b a ρ M).bind fun x M => semRev x M := by rw [evE]
theorem q_call (f : Nat) (es : EL) : evE c b (.call f es) ρ M = (evL c b es ρ M).bind fun xs M => c.F f xs b M := by rw [evE]
theorem q_callk (f : Nat) (es kes : EL) (ks : List Nat) : evE c b (.callk f es ks kes) ρ M = (evL c b es ρ M).bind fun xs M => (evL c b kes ρ M).bind fun ys M => (ofOpt (place (xs.length + ys.length) xs ks ys) M).bind fun zs M => c.F f zs b M := by rw [evE]
theorem q_bi (k : BI) (es : EL) : evE c b (.bi k es) ρ M = (evL c b es ρ M).bind fun xs M => semBI k xs M := by rw [evE]
theorem q_lrng (es : EL) : evE c b (.lrng es) ρ M = (evL c b es ρ M).bind fun xs M => lrngV (rngOf xs) M := by
  rw [evE] <;> (rfl)
theorem q_mth (m : MT) (o : E) (es : EL) : evE c b (.mth m o es) ρ M = (evE c b o ρ M).bind fun x M => ifO (rcv m M x) ((evL c b es ρ M).bind fun xs M => semM m x xs b M) .no := by
  rw [evE] <;> (congr <;> (funext x M; cases rcv m M x <;> rfl))
theorem q_isi (a : E) (cs : List CL) : evE c b (.isi a cs) ρ M = (evE c b a ρ M).bind fun x M => isiV (tyD M x) cs M := by
  rw [evE] <;> (rfl)
theorem q_nil : evL c b .nil ρ M = .ok [] M := by rw [evL]
theorem q_cons (e : E) (es : EL) : evL c b (.cons e es) ρ M = (evE c b e ρ M).bind fun x M => (evL c b es ρ M).bind fun xs M => .ok (x :: xs) M := by rw [evL]
theorem q_on : evO c b .none ρ M = .ok none M := by rw [evO]
theorem q_os (e : E) : evO c b (.some e) ρ M = (evE c b e ρ M).bind intO := by rw [evO] <;> (rfl)
theorem q_tyes : evT c b .yes ρ M = .ok true M := by rw [evT]
theorem q_tval (a : E) : evT c b (.val a) ρ M = (evE c b a ρ M).bind fun x M => ofOpt (truth M x) M := by rw [evT]
theorem q_tnot (t : T) : evT c b (.not t) ρ M = (evT c b t ρ M).bind fun k M => .ok (!k) M := by rw [evT]
theorem q_tand (t t' : T) : evT c b (.and t t') ρ M = (evT c b t ρ M).bind fun k M => ifO k (evT c b t' ρ M) (.ok false M) := by
  rw [evT] <;> (congr <;> (funext k M; cases k <;> rfl))
theorem q_tor (t t' : T) : evT c b (.or t t') ρ M = (evT c b t ρ M).bind fun k M => ifO k (.ok true M) (evT c b t' ρ M) := by
  rw [evT] <;> (congr <;> (funext k M; cases k <;> rfl))
theorem q_tcmp (o : C2) (a a' : E) : evT c b (.cmp o a a') ρ M = (evE c b a ρ M).bind fun x M => (evE c b a' ρ M).bind fun y M => ofOpt (semC o M x y) M := by rw [evT]
theorem q_tchn (o o' : C2) (a a' a'' : E) : evT c b (.chn o o' a a' a'') ρ M = (evE c b a ρ M).bind fun x M => (evE c b a' ρ M).bind fun y M => (ofOpt (semC o M x y) M).bind fun k M => ifO k ((evE c b a'' ρ M).bind fun z M => ofOpt (semC o' M y z) M) (.ok false M) := by
  rw [evT] <;> (congr <;> (funext x M; congr <;> (funext y M; congr <;> (funext k M; cases k <;> rfl))))
theorem q_tife (t a a' : T) : evT c b (.ife t a a') ρ M = (evT c b t ρ M).bind fun k M => ifO k (evT c b a ρ M) (evT c b a' ρ M) := by
  rw [evT] <;> (congr <;> (funext k M; cases k <;> rfl))
theorem q_iseq (a : E) : evI c b (.seq a) ρ M = (evE c b a ρ M).bind fun x M => ofOpt (srcOf M x) M := by rw [evI]
theorem q_irng (es : EL) : evI c b (.rng es) ρ M = (evL c b es ρ M).bind fun xs M => ofOpt (rngOf xs) M := by rw [evI]
theorem q_ienu (a : E) : evI c b (.enu a) ρ M = (evE c b a ρ M).bind fun x M => ofOpt (enuOf M x) M := by rw [evI]
theorem q_izip (a a' : E) : evI c b (.zip a a') ρ M = (evE c b a ρ M).bind fun x M => (evE c b a' ρ M).bind fun y M => ofOpt (zipOf M x y) M := by rw [evI]
theorem q_gnam (i : Nat) (d : D) : evG c b (.nam i) d ρ M = some (ρ.set i (some d), M) := by rw [evG]
theorem q_gtup (gs : GL) (ds : List D) : evG c b (.tup gs) (.tup ds) ρ M = evGs c b gs ds ρ M := by rw [evG]
theorem q_gsub (o i : E) (d : D) : evG c b (.sub o i) d ρ M = setG ((evE c b o ρ M).bind fun x M => (evE c b i ρ M).bind fun y M => ofOpt (semSet x y d b M) M) ρ := by rw [evG] <;> (rfl)
theorem q_gnil : evGs c b .nil [] ρ M = some (ρ, M) := by rw [evGs]
theorem q_gcons (g : G) (gs : GL) (d : D) (ds : List D) : evGs c b (.cons g gs) (d :: ds) ρ M = thenG (evG c b g d ρ M) (evGs c b gs ds) := by rw [evGs] <;> (rfl)
theorem q_expr (e : E) : evS c b (.expr e) ρ M = lift (evE c b e ρ M) ρ fun _ M => some (.nx ρ, M) := by rw [evS]
theorem q_asg (g : G) (e : E) : evS c b (.asg g e) ρ M = lift (evE c b e ρ M) ρ fun d M => asgS (evG c b g d ρ M) := by rw [evS] <;> (rfl)
theorem q_par (is : List Nat) (es : EL) : evS c b (.par is es) ρ M = lift (evL c b es ρ M) ρ fun ds M => if ds.length = is.length then some (.nx (setAll is ds ρ), M) else none := by rw [evS]
theorem q_aug (i : Nat) (o : B2) (e : E) : evS c b (.aug i o e) ρ M = augV ρ[i]? fun x => lift (evE c b e ρ M) ρ (augI i o x ρ) := by
  rw [evS] <;> (rfl)
theorem q_ret (e : E) : evS c b (.ret e) ρ M = lift (evE c b e ρ M) ρ fun d M => some (.rt d, M) := by rw [evS]
theorem q_retn : evS c b .retn ρ M = some (.rt .non, M) := by rw [evS]
theorem q_pass : evS c b .pass ρ M = some (.nx ρ, M) := by rw [evS]
theorem q_brk : evS c b .brk ρ M = some (.bk ρ, M) := by rw [evS]
theorem q_cont : evS c b .cont ρ M = some (.ct ρ, M) := by rw [evS]
theorem q_iff (t : T) (s s' : SL) : evS c b (.iff t s s') ρ M = lift (evT c b t ρ M) ρ fun k M => ifS k (evSs c b s ρ M) (evSs c b s' ρ M) := by
  rw [evS] <;> (congr <;> (funext k M; cases k <;> rfl))
theorem q_snil : evSs c b .nil ρ M = some (.nx ρ, M) := by rw [evSs]
theorem q_scons (s : S) (ss : SL) : evSs c b (.cons s ss) ρ M = seqS (evS c b s ρ M) (evSs c b ss) := by rw [evSs] <;> (rfl)
theorem q_start (fn : Fn) (xs : List D) : startE fn xs = xs.map some ++ List.replicate (fn.N.length - fn.np) none := id rfl
theorem q_srcT (xs : List D) : srcOf M (.tup xs) = some (.its xs) := id rfl
theorem q_srcF (xs : List D) : srcOf M (.frz xs) = some (.its xs) := id rfl
theorem q_srcS (xs : List Nat) : srcOf M (.str xs) = some (.str xs) := id rfl
def srcL (o : Option O) (n : Nat) : Option Src := match o with
  | some (.lst _) => some (.lst n)
  | _ => none
theorem q_srcL (n : Nat) : srcOf M (.loc n) = srcL M[n]? n := id rfl
@[simp] theorem srcL_lst (xs : List D) (n : Nat) : srcL (some (.lst xs)) n = some (.lst n) := id rfl
end Ev
end

section
/-! EvPl: plain facts of the evaluator, one by one. -/
namespace Ev
open L2
variable {M M' : Sto} {α β : Type} {b : Nat}
theorem lt_of_get {n : Nat} {o : O} (h : M[n]? = some o) : n < M.length := (List.getElem?_eq_some_iff.mp h).1

/-! ### operators -/
@[simp] theorem sB_add (i j : Int) : semB .add (.int i) (.int j) M = .ok (.int (i + j)) M := id rfl
@[simp] theorem sB_sub (i j : Int) : semB .sub (.int i) (.int j) M = .ok (.int (i - j)) M := id rfl
@[simp] theorem sB_mul (i j : Int) (h : (small i || small j) = true) : semB .mul (.int i) (.int j) M = .ok (.int (i * j)) M := by
  dsimp only [semB]; rw [h]
theorem small_of {i : Int} (h1 : -18446744073709551616 < i) (h2 : i < 18446744073709551616) : small i = true := by
  unfold small
  rw [decide_eq_true h1, decide_eq_true h2]
  rfl
theorem big_of {i : Int} (h1 : -4611686018427387904 ≤ i) (h2 : i < 4611686018427387904) : big i = true := by
  unfold big
  rw [decide_eq_true h1, decide_eq_true h2]
  rfl
@[simp] theorem sm_0 : small 0 = true := id rfl
@[simp] theorem sm_1 : small 1 = true := id rfl
@[simp] theorem sm_2 : small 2 = true := id rfl
@[simp] theorem sm_3 : small 3 = true := id rfl
@[simp] theorem sm_7919 : small 7919 = true := id rfl
@[simp] theorem sm_48271 : small 48271 = true := id rfl
@[simp] theorem bg_0 : big 0 = true := id rfl
@[simp] theorem bg_1 : big 1 = true := id rfl
@[simp] theorem bg_2 : big 2 = true := id rfl
@[simp] theorem bg_8 : big 8 = true := id rfl
@[simp] theorem rngOf1 (j : Int) (h : big j = true) : rngOf [.int j] = some (.rng 0 j.toNat) := by
  show (if big j then some (Src.rng 0 j.toNat) else none) = _
  rw [h]
  rfl
@[simp] theorem rngOf2 (i j : Int) (h : big i = true) (h' : big j = true) : rngOf [.int i, .int j] = some (.rng i (j - i).toNat) := by
  show (if big i && big j then some (Src.rng i (j - i).toNat) else none) = _
  rw [h, h']
  rfl
@[simp] theorem sB_mod (i j : Int) (h : 0 < j) : semB .mod (.int i) (.int j) M = .ok (.int (i % j)) M := by
  dsimp only [semB]; rw [if_pos h]
@[simp] theorem sB_div (i j : Int) (h : 0 < j ∧ j < 1073741824) : semB .div (.int i) (.int j) M = .ok (.int (i / j)) M := by
  dsimp only [semB]; rw [if_pos h]
@[simp] theorem sB_pow (i j : Int) (h : 0 ≤ j ∧ j ≤ 1000000 ∧ i.natAbs < 18446744073709551616) : semB .pow (.int i) (.int j) M = .ok (.int (i ^ j.toNat)) M := by
  dsimp only [semB]; rw [if_pos h]
@[simp] theorem sB_addL (n m : Nat) : semB .add (.loc n) (.loc m) M = (match M[n]?, M[m]? with
    | some (.lst xs), some (.lst ys) => if xs.length + ys.length ≤ cap then new (xs ++ ys) M else .no
    | _, _ => .no) := id rfl
@[simp] theorem sB_addT (xs ys : List D) : semB .add (.tup xs) (.tup ys) M = if xs.length + ys.length ≤ cap then .ok (.tup (xs ++ ys)) M else .no := id rfl
@[simp] theorem sB_addS (xs ys : List Nat) : semB .add (.str xs) (.str ys) M = if xs.length + ys.length ≤ cap then .ok (.str (xs ++ ys)) M else .no := id rfl
@[simp] theorem sB_mulL (n : Nat) (k : Int) : semB .mul (.loc n) (.int k) M = (match M[n]? with
    | some (.lst xs) => if -9223372036854775808 ≤ k ∧ k < 9223372036854775808 ∧ xs.length * k.toNat ≤ cap then new (List.replicate k.toNat xs).flatten M else .no
    | _ => .no) := id rfl
@[simp] theorem sC_eq (x y : D) : semC .eq M x y = eqD M x y := id rfl
@[simp] theorem sC_ne (x y : D) : semC .ne M x y = (eqD M x y).map not := id rfl
@[simp] theorem sC_lt (i j : Int) : semC .lt M (.int i) (.int j) = some (decide (i < j)) := id rfl
@[simp] theorem sC_le (i j : Int) : semC .le M (.int i) (.int j) = some (decide (i ≤ j)) := id rfl
@[simp] theorem sC_gt (i j : Int) : semC .gt M (.int i) (.int j) = some (decide (j < i)) := id rfl
@[simp] theorem sC_ge (i j : Int) : semC .ge M (.int i) (.int j) = some (decide (j ≤ i)) := id rfl
@[simp] theorem sC_in (x y : D) : semC .isin M x y = inD M x y := id rfl
@[simp] theorem sC_nin (x y : D) : semC .nin M x y = (inD M x y).map not := id rfl
@[simp] theorem sC_is (x y : D) : semC .is M x y = isD x y := id rfl
@[simp] theorem sC_isn (x y : D) : semC .isn M x y = (isD x y).map not := id rfl
@[simp] theorem eqI (i j : Int) : eqD M (.int i) (.int j) = some (decide (i = j)) := by
  simp [eqD, py, MX, PySem.PyData.eqv]
  rfl
theorem allS_map {α β : Type} {f : α → Option β} {g : α → β} : ∀ {xs : List α}, (∀ x ∈ xs, f x = some (g x)) → allS (xs.map f) = some (xs.map g)
  | [], _ => rfl
  | x :: xs, h => by
    rw [List.map_cons, h x (List.mem_cons_self ..)]
    show (match allS (xs.map f) with
      | some ys => some (g x :: ys)
      | none => none) = _
    rw [allS_map fun y m => h y (List.mem_cons_of_mem _ m)]
    rfl
theorem py_list {n k : Nat} {xs : List D} {g : D → PySem.PyData} (h : M[n]? = some (.lst xs)) (hg : ∀ x ∈ xs, py M k x = some (g x)) : py M (k + 1) (.loc n) = some (.list (xs.map g)) := by
  unfold py
  dsimp only
  rw [h]
  dsimp only
  rw [allS_map hg]
  rfl
theorem py_int {k : Nat} (i : Int) : py M (k + 1) (.int i) = some (.int i) := id rfl
def gI : D → PySem.PyData
  | .int i => .int i
  | _ => .none
theorem py_ints {n k : Nat} {is : List Int} (h : M[n]? = some (.lst (is.map D.int))) : py M (k + 2) (.loc n) = some (.list (is.map PySem.PyData.int)) := by
  rw [py_list (g := gI) h fun x m => by
    obtain ⟨i, _, rfl⟩ := List.mem_map.mp m
    rfl]
  congr 2
  rw [List.map_map]
  rfl
theorem eqv_ints : ∀ is js : List Int, PySem.PyData.eqvAll (is.map PySem.PyData.int) (js.map PySem.PyData.int) = decide (is = js)
  | [], [] => by simp [PySem.PyData.eqvAll]
  | [], _ :: _ => by simp [PySem.PyData.eqvAll]
  | _ :: _, [] => by simp [PySem.PyData.eqvAll]
  | i :: is, j :: js => by
    rw [List.map_cons, List.map_cons, PySem.PyData.eqvAll, eqv_ints is js, PySem.PyData.eqv]
    by_cases h : i = j
    · subst h; simp
    · simp [h]
theorem eqLL {n m : Nat} {is js : List Int} (h : M[n]? = some (.lst (is.map D.int))) (h' : M[m]? = some (.lst (js.map D.int))) : eqD M (.loc n) (.loc m) = some (decide (is = js)) := by
  unfold eqD
  rw [show MX = 10 + 2 from rfl, py_ints h, py_ints h']
  dsimp only
  rw [PySem.PyData.eqv, eqv_ints]
theorem intsD_inv : ∀ {xs : List D} {is : List Int}, intsD xs = some is → xs = is.map D.int
  | [], is, h => by cases h; rfl
  | x :: xs, is, h => by
    cases x with
    | int i =>
      have h2 : (match intsD xs with
        | some is => some (i :: is)
        | none => none) = some is := h
      cases e : intsD xs with
      | none => rw [e] at h2; cases h2
      | some js =>
        rw [e] at h2
        cases h2
        rw [intsD_inv e]
        rfl
    | _ => cases h
def eqD0 (M : Sto) (x y : D) : Option Bool := eqD M x y
@[simp] theorem eqLoc (n m : Nat) : eqD M (.loc n) (.loc m) = (match M[n]?, M[m]? with
    | some (.lst xs), some (.lst ys) => (match intsD xs, intsD ys with
      | some is, some js => some (decide (is = js))
      | _, _ => eqD0 M (.loc n) (.loc m))
    | _, _ => eqD0 M (.loc n) (.loc m)) := by
  split
  · rename_i xs ys h1 h2
    split
    · rename_i is js e1 e2
      rw [intsD_inv e1] at h1
      rw [intsD_inv e2] at h2
      exact eqLL h1 h2
    · rfl
  · rfl
@[simp] theorem eqS (s t : List Nat) (h1 : codes s = true) (h2 : codes t = true) : eqD M (.str s) (.str t) = some (decide (s = t)) := by
  unfold eqD
  have p : ∀ s : List Nat, codes s = true → py M MX (.str s) = some (.str ⟨s.toArray⟩) := fun s h => by
    rw [show MX = 11 + 1 from rfl]
    unfold py
    dsimp only
    rw [h]
  rw [p s h1, p t h2]
  dsimp only
  rw [PySem.PyData.eqv]
  congr 1
  by_cases e : s = t
  · subst e; simp
  · simp [e]
@[simp] theorem intsD_nil : intsD [] = some [] := id rfl
@[simp] theorem intsD_int (i : Int) (xs : List D) : intsD (.int i :: xs) = (match intsD xs with
    | some is => some (i :: is)
    | none => none) := id rfl
@[simp] theorem get_ap0 {A B : Sto} : (A ++ B)[A.length]? = B[0]? := by simp [List.getElem?_append_right]
@[simp] theorem get_ap1 {A B : Sto} (j : Nat) : (A ++ B)[A.length + j]? = B[j]? := by simp [List.getElem?_append_right]
@[simp] theorem isD_bl (a c : Bool) : isD (.bl a) (.bl c) = some (a == c) := id rfl
@[simp] theorem isD_int_non (i : Int) : isD (.int i) .non = some false := id rfl
@[simp] theorem isD_non : isD .non .non = some true := id rfl
@[simp] theorem isD_loc_non (n : Nat) : isD (.loc n) .non = some false := id rfl
@[simp] theorem isD_str_non (n : List Nat) : isD (.str n) .non = some false := id rfl
@[simp] theorem isD_bl_non (n : Bool) : isD (.bl n) .non = some false := id rfl
@[simp] theorem isD_tup_non (n : List D) : isD (.tup n) .non = some false := id rfl
@[simp] theorem tr_bl (k : Bool) : truth M (.bl k) = some k := id rfl
@[simp] theorem tr_non : truth M .non = some false := id rfl
@[simp] theorem tr_int (i : Int) : truth M (.int i) = some (i != 0) := id rfl
@[simp] theorem tr_tup (xs : List D) : truth M (.tup xs) = some (!xs.isEmpty) := id rfl
@[simp] theorem tr_loc (n : Nat) : truth M (.loc n) = (match M[n]? with
    | some (.lst xs) => some (!xs.isEmpty)
    | _ => none) := id rfl
@[simp] theorem it_tup (xs : List D) : itemsOf M (.tup xs) = some xs := id rfl
@[simp] theorem it_frz (xs : List D) : itemsOf M (.frz xs) = some xs := id rfl
@[simp] theorem it_loc (n : Nat) : itemsOf M (.loc n) = (match M[n]? with
    | some (.lst xs) => some xs
    | _ => none) := id rfl
@[simp] theorem lo_frz (xs : List D) : listOf M (.frz xs) = some xs := id rfl
@[simp] theorem lo_loc (n : Nat) : listOf M (.loc n) = (match M[n]? with
    | some (.lst xs) => some xs
    | _ => none) := id rfl
@[simp] theorem ty_non : tyD M .non = some .non := id rfl
@[simp] theorem ty_bl (k : Bool) : tyD M (.bl k) = some .bl := id rfl
@[simp] theorem ty_int (k : Int) : tyD M (.int k) = some .int := id rfl
@[simp] theorem ty_str (k : List Nat) : tyD M (.str k) = some .str := id rfl
@[simp] theorem ty_tup (k : List D) : tyD M (.tup k) = some .tup := id rfl
@[simp] theorem ty_frz (k : List D) : tyD M (.frz k) = some .lst := id rfl
@[simp] theorem ty_loc (n : Nat) : tyD M (.loc n) = (match M[n]? with
    | some (.lst _) => some .lst
    | some (.dct _) => some .dct
    | _ => none) := id rfl
@[simp] theorem ix_loc (n : Nat) (i : Int) : semIx M (.loc n) (.int i) = (match M[n]? with
    | some (.lst xs) => L2.atI xs i
    | _ => none) := by
  show (match itemsOf M (.loc n) with
    | some xs => L2.atI xs i
    | none => none) = _
  rw [it_loc]
  split <;> (rename_i h; revert h; split <;> simp_all)
@[simp] theorem ix_tup (xs : List D) (i : Int) : semIx M (.tup xs) (.int i) = L2.atI xs i := id rfl
@[simp] theorem ix_frz (xs : List D) (i : Int) : semIx M (.frz xs) (.int i) = L2.atI xs i := id rfl
@[simp] theorem on_loc {f : Nat → List D → Out α} (n : Nat) : onL M (.loc n) f = (match M[n]? with
    | some (.lst xs) => f n xs
    | _ => .no) := by
  unfold onL lstAt
  dsimp only
  cases M[n]? with
  | none => rfl
  | some o => cases o <;> rfl
@[simp] theorem la_loc (n : Nat) : lstAt M (.loc n) = (match M[n]? with
    | some (.lst xs) => some (n, xs)
    | _ => none) := id rfl
@[simp] theorem set_loc (n : Nat) (i : Int) (v : D) : semSet (.loc n) (.int i) v b M = (match M[n]? with
    | some (.lst xs) => (match L2.ixN xs.length i, may b n v with
      | some k, true => some (M.set n (.lst (xs.set k v)))
      | _, _ => none)
    | _ => none) := by
  show (match lstAt M (.loc n), D.int i with
    | some (n, xs), .int i => match L2.ixN xs.length i, may b n v with
      | some k, true => some (M.set n (.lst (xs.set k v)))
      | _, _ => none
    | _, _ => none) = _
  rw [la_loc]
  cases M[n]? with
  | none => rfl
  | some o => cases o <;> rfl
@[simp] theorem may_flat (n : Nat) (v : D) (h : v.flat = true) : may b n v = true := by unfold may; rw [h, Bool.or_true]
@[simp] theorem may_own (n : Nat) (v : D) (h : b ≤ n) : may b n v = true := by unfold may; rw [Nat.ble_eq_true_of_le h, Bool.true_or]
@[simp] theorem fl_non : D.flat .non = true := by simp [D.flat]
@[simp] theorem fl_bl (k : Bool) : D.flat (.bl k) = true := by simp [D.flat]
@[simp] theorem fl_int (k : Int) : D.flat (.int k) = true := by simp [D.flat]
@[simp] theorem fl_str (k : List Nat) : D.flat (.str k) = true := by simp [D.flat]
@[simp] theorem fl_tup (k : List D) : D.flat (.tup k) = flats k := by simp [D.flat]
@[simp] theorem fl_loc (k : Nat) : D.flat (.loc k) = false := by simp [D.flat]
@[simp] theorem fl_nil : flats [] = true := by simp [flats]
@[simp] theorem fl_cons (d : D) (ds : List D) : flats (d :: ds) = (d.flat && flats ds) := by simp [flats]
theorem flats_all : ∀ {ds : List D}, (∀ d ∈ ds, d.flat = true) → flats ds = true
  | [], _ => by simp
  | d :: ds, h => by rw [fl_cons, h d (List.mem_cons_self ..), flats_all fun x m => h x (List.mem_cons_of_mem _ m)]; rfl
@[simp] theorem flats_int (is : List Int) : flats (is.map D.int) = true := flats_all fun d m => by
  obtain ⟨i, _, rfl⟩ := List.mem_map.mp m
  simp
@[simp] theorem flats_bl (is : List Bool) : flats (is.map D.bl) = true := flats_all fun d m => by
  obtain ⟨i, _, rfl⟩ := List.mem_map.mp m
  simp

@[simp] theorem sl_loc (n : Nat) (lo hi : Option Int) : semSl (.loc n) lo hi M = (match M[n]? with
    | some (.lst xs) => new (cutD xs lo hi) M
    | _ => .no) := by
  show (match listOf M (.loc n) with
    | some xs => new (cutD xs lo hi) M
    | none => .no) = _
  rw [lo_loc]
  cases M[n]? with
  | none => rfl
  | some o => cases o <;> rfl
@[simp] theorem rev_loc (n : Nat) : semRev (.loc n) M = (match M[n]? with
    | some (.lst xs) => new xs.reverse M
    | _ => .no) := by
  show (match listOf M (.loc n) with
    | some xs => new xs.reverse M
    | none => .no) = _
  rw [lo_loc]
  cases M[n]? with
  | none => rfl
  | some o => cases o <;> rfl
@[simp] theorem set_ap0 {A B : Sto} {x y : O} : (A ++ x :: B).set A.length y = A ++ y :: B := by
  rw [List.set_append_right _ _ (Nat.le_refl _), Nat.sub_self]
  rfl
/-! ### built-ins -/
@[simp] theorem bi1 (k : BI) (x : D) : semBI k [x] M = semB1 k x M := id rfl
@[simp] theorem bi2 (k : BI) (x y : D) : semBI k [x, y] M = semB2 k x y M := id rfl
@[simp] theorem b2_max (i j : Int) : semB2 .max2 (.int i) (.int j) M = .ok (.int (if j > i then j else i)) M := id rfl
@[simp] theorem b2_min (i j : Int) : semB2 .min2 (.int i) (.int j) M = .ok (.int (if j < i then j else i)) M := id rfl
@[simp] theorem b1_len_loc (n : Nat) : semB1 .len (.loc n) M = (match M[n]? with
    | some (.lst xs) => .ok (.int (xs.length : Nat)) M
    | _ => .no) := by
  dsimp only [semB1, lenD]
  rw [it_loc]
  cases M[n]? with
  | none => rfl
  | some o => cases o <;> rfl
@[simp] theorem b1_len_tup (xs : List D) : semB1 .len (.tup xs) M = .ok (.int (xs.length : Nat)) M := id rfl
@[simp] theorem b1_len_frz (xs : List D) : semB1 .len (.frz xs) M = .ok (.int (xs.length : Nat)) M := id rfl
theorem b1_len_str (s : List Nat) (h : s.length ≤ cap) : semB1 .len (.str s) M = .ok (.int (s.length : Nat)) M := by
  dsimp only [semB1, lenD]
  rw [if_pos h]
theorem next_str (s : List Nat) (i : Nat) : (Src.str s).next M i = some (s.map fun c => D.str [c])[i]? := by
  unfold Src.next
  rw [List.getElem?_map]
theorem in_sign (c : Nat) (t : List Nat) : inD M (.str [c]) (.str t) = some (t.contains c) := rfl
@[simp] theorem b1_abs (i : Int) : semB1 .abs (.int i) M = .ok (.int (if i < 0 then -i else i)) M := id rfl
@[simp] theorem b1_int (i : Int) : semB1 .int (.int i) M = .ok (.int i) M := id rfl
@[simp] theorem b1_intb (k : Bool) : semB1 .int (.bl k) M = .ok (.int (if k then 1 else 0)) M := id rfl
@[simp] theorem b1_repr (x : D) : semB1 .repr x M = (match reprD M x with
    | some s => .ok (.str s) M
    | none => .no) := id rfl
@[simp] theorem b1_lst (x : D) : semB1 .lst x M = (match itemsOf M x with
    | some ys => new ys M
    | none => .no) := id rfl
@[simp] theorem b1_tup (x : D) : semB1 .tup x M = (match itemsOf M x with
    | some ys => .ok (.tup ys) M
    | none => .no) := id rfl
@[simp] theorem b1_srt (x : D) : semB1 .srt x M = onInts (listOf M x) fun is => new ((isort is).map D.int) M := id rfl
@[simp] theorem b1_all (x : D) : semB1 .all x M = onBools (listOf M x) fun is => .ok (.bl (is.all id)) M := id rfl
@[simp] theorem b1_any (x : D) : semB1 .any x M = onBools (listOf M x) fun is => .ok (.bl (is.any id)) M := id rfl
@[simp] theorem intsD_map : ∀ is : List Int, intsD (is.map D.int) = some is
  | [] => rfl
  | i :: is => by
    show (match intsD (is.map D.int) with
      | some is => some (i :: is)
      | none => none) = _
    rw [intsD_map is]
@[simp] theorem boolsD_map : ∀ is : List Bool, boolsD (is.map D.bl) = some is
  | [] => rfl
  | i :: is => by
    show (match boolsD (is.map D.bl) with
      | some is => some (i :: is)
      | none => none) = _
    rw [boolsD_map is]
@[simp] theorem onInts_map (is : List Int) (f : List Int → Out D) : onInts (some (is.map D.int)) f = f is := by simp only [onInts, intsD_map]
@[simp] theorem onBools_map (is : List Bool) (f : List Bool → Out D) : onBools (some (is.map D.bl)) f = f is := by simp only [onBools, boolsD_map]
@[simp] theorem new_eq (xs : List D) : new xs M = .ok (.loc M.length) (M ++ [.lst xs]) := id rfl

/-! ### methods -/
@[simp] theorem m0 (m : MT) (o : D) : semM m o [] b M = semM0 m o M := id rfl
@[simp] theorem m1 (m : MT) (o x : D) : semM m o [x] b M = semM1 m o x b M := id rfl
@[simp] theorem m1_count (o : D) (k : Int) : semM1 .count o (.int k) b M = onInts (listOf M o) fun is => .ok (.int (is.count k : Nat)) M := id rfl
@[simp] theorem m1_append (o y : D) : semM1 .append o y b M = onL M o fun n xs => if xs.length < cap then match may b n y with
      | true => .ok .non (M.set n (.lst (xs ++ [y])))
      | false => .no
      else .no := id rfl
@[simp] theorem m1_popAt (o : D) (i : Int) : semM1 .popAt o (.int i) b M = onL M o fun n xs => popAt xs i fun k y => .ok y (M.set n (.lst (xs.eraseIdx k))) := id rfl
theorem firstAt_ge (p : D → Bool) : ∀ (xs : List D) (n j : Nat), firstAt p xs n = some j → n ≤ j
  | [], n, j, h => by cases h
  | x :: xs, n, j, h => by
    unfold firstAt at h
    split at h
    · cases h; exact Nat.le_refl _
    · have := firstAt_ge p xs (n + 1) j h; omega
/-- where k stands first -/
def fi (k : Int) : List Int → Nat
  | [] => 0
  | i :: is => if i = k then 0 else fi k is + 1
theorem firstAt_fi (k : Int) : ∀ (is : List Int) (n : Nat), k ∈ is → firstAt (fun z => eqA z (.int k)) (is.map D.int) n = some (n + fi k is)
  | [], n, h => by cases h
  | i :: is, n, h => by
    rw [List.map_cons]
    unfold firstAt fi
    by_cases e : i = k
    · subst e
      simp [eqA]
    · have h2 : k ∈ is := by
        rcases List.mem_cons.mp h with z | z
        · exact absurd z.symm e
        · exact z
      have z : eqA (.int i) (.int k) = false := by simp [eqA, e]
      rw [z]
      dsimp only
      rw [firstAt_fi k is (n + 1) h2, if_neg e]
      congr 1
      omega
theorem atoms_int (is : List Int) : (is.map D.int).all atom = true := by
  rw [List.all_eq_true]
  intro d m
  obtain ⟨i, _, rfl⟩ := List.mem_map.mp m
  rfl
theorem m1_index (o : D) (k : Int) {is : List Int} (h : listOf M o = some (is.map D.int)) (hk : k ∈ is) : semM1 .index o (.int k) b M = .ok (.int (fi k is : Nat)) M := by
  dsimp only [semM1]
  rw [h]
  dsimp only
  rw [atoms_int, show atom (.int k) = true from rfl]
  show (match firstAt (fun z => eqA z (.int k)) (is.map D.int) 0 with
    | some j => Out.ok (D.int (j : Nat)) M
    | none => .no) = _
  rw [firstAt_fi k is 0 hk]
  simp
@[simp] theorem rcv_a (x : D) : rcv .append M x = (listOf M x).isSome := id rfl
@[simp] theorem rcv_e (x : D) : rcv .extend M x = (listOf M x).isSome := id rfl
@[simp] theorem rcv_p (x : D) : rcv .pop M x = (listOf M x).isSome := id rfl
@[simp] theorem rcv_pa (x : D) : rcv .popAt M x = (listOf M x).isSome := id rfl
@[simp] theorem rcv_i (x : D) : rcv .insert M x = (listOf M x).isSome := id rfl
@[simp] theorem rcv_c (x : D) : rcv .count M x = (listOf M x).isSome := id rfl
@[simp] theorem rcv_ix (x : D) : rcv .index M x = (listOf M x).isSome := id rfl

/-! ### comprehensions -/
theorem lc_ev {c : Cf} {g : G} {it : IT} {ow : List Nat} {t : T} {e : E} {ρ : Enn} {src : Src} {M1 M2 : Sto} {xs : List D} (h1 : evI c b it ρ M = .ok src M1)
    (h2 : turns (fun M i => src.next M i) (itemT (evG c M1.length g) (evT c M1.length t) (fun ρ2 M3 => (evE c M1.length e ρ2 M3).bind fun d M4 => .ok [d] M4) (wipe ρ ow)) (src.len M1 + 1) 0 M1 = .ok xs M2) : evE c b (.lc g it ow t e) ρ M = sealL M1.length xs M2 := by
  rw [evE, h1, bind_ok, h2, hush_ok, bind_ok]
theorem seal_flat {n0 : Nat} {xs : List D} (h : xs.length ≤ cap) (f : flats xs = true) : sealL n0 xs M = .ok (.loc n0) (M.take n0 ++ [.lst xs]) := by
  unfold sealL
  rw [if_pos h, f]
theorem seal_new {n0 : Nat} {xs : List D} (h : xs.length ≤ cap) (f : flats xs = false) : sealL n0 xs M = .ok (.loc M.length) (M ++ [.lst xs]) := by
  unfold sealL
  rw [if_pos h, f]
  rfl
theorem turns_pure {next : Sto → Nat → Option (Option D)} {turn : D → Sto → Out (List D)} {g : D → List D} {xs : List D} (hn : ∀ i, next M i = some xs[i]?) (ht : ∀ d ∈ xs, turn d M = .ok (g d) M) :
    ∀ j i, i + j = xs.length → turns next turn (j + 1) i M = .ok ((xs.drop i).flatMap g) M
  | 0, i, h => by
    unfold turns
    rw [hn, List.getElem?_eq_none (by omega), List.drop_eq_nil_of_le (by omega)]
    rfl
  | j + 1, i, h => by
    have hi : i < xs.length := by omega
    unfold turns
    rw [hn, List.getElem?_eq_getElem hi]
    dsimp only
    rw [ht _ (List.getElem_mem hi), hush_ok, bind_ok, turns_pure hn ht j (i + 1) (by omega), hush_ok, bind_ok, List.drop_eq_getElem_cons hi, List.flatMap_cons]
theorem turns_map {next : Sto → Nat → Option (Option D)} {turn : D → Sto → Out (List D)} {g : D → D} {xs : List D} (hn : ∀ i, next M i = some xs[i]?) (ht : ∀ d ∈ xs, turn d M = .ok [g d] M) : turns next turn (xs.length + 1) 0 M = .ok (xs.map g) M := by
  rw [turns_pure (g := fun d => [g d]) hn ht xs.length 0 (by omega), List.drop_zero]
  congr 1
  induction xs with
  | nil => rfl
  | cons x xs ih =>
    rw [List.flatMap_cons, List.map_cons]
    have z : xs.flatMap (fun d => [g d]) = xs.map g := by
      clear ih hn ht
      induction xs with
      | nil => rfl
      | cons y ys ih => rw [List.flatMap_cons, ih]; rfl
    rw [z]; rfl
theorem flatMap_if (p : D → Bool) : ∀ xs : List D, xs.flatMap (fun d => if p d then [d] else []) = xs.filter p
  | [] => rfl
  | x :: xs => by
    rw [List.flatMap_cons, flatMap_if p xs]
    cases h : p x <;> simp [List.filter_cons, h]
theorem turns_filter {next : Sto → Nat → Option (Option D)} {turn : D → Sto → Out (List D)} {p : D → Bool} {xs : List D} (hn : ∀ i, next M i = some xs[i]?) (ht : ∀ d ∈ xs, turn d M = .ok (if p d then [d] else []) M) : turns next turn (xs.length + 1) 0 M = .ok (xs.filter p) M := by
  rw [turns_pure (g := fun d => if p d then [d] else []) hn ht xs.length 0 (by omega), List.drop_zero, flatMap_if]
theorem next_lst {n : Nat} {xs : List D} (h : M[n]? = some (.lst xs)) (i : Nat) : (Src.lst n).next M i = some xs[i]? := by
  unfold Src.next
  rw [h]
theorem len_lst {n : Nat} {xs : List D} (h : M[n]? = some (.lst xs)) : (Src.lst n).len M = xs.length := by
  unfold Src.len
  rw [h]

/-- the numbers from lo on -/
def rngD (lo : Int) (n : Nat) : List D := (List.range n).map fun i => D.int (lo + (i : Nat))
theorem rng_len (lo : Int) (n : Nat) : (rngD lo n).length = n := by simp [rngD]
theorem next_rng (lo : Int) (n i : Nat) : (Src.rng lo n).next M i = some (rngD lo n)[i]? := by
  unfold Src.next rngD
  rw [List.getElem?_map]
  by_cases h : i < n
  · rw [if_pos h, List.getElem?_range h]; rfl
  · rw [if_neg h, List.getElem?_eq_none (by simp; omega)]; rfl
theorem len_rng (lo : Int) (n : Nat) : (Src.rng lo n).len M = (rngD lo n).length := by rw [rng_len]; rfl
theorem rng_mem {lo : Int} {n : Nat} {d : D} (h : d ∈ rngD lo n) : ∃ i : Nat, i < n ∧ d = .int (lo + i) := by
  obtain ⟨i, m, rfl⟩ := List.mem_map.mp h
  exact ⟨i, List.mem_range.mp m, rfl⟩
theorem for_ev {c : Cf} {g : G} {it : IT} {s : SL} {ρ : Enn} {src : Src} {M1 : Sto} (h1 : evI c b it ρ M = .ok src M1) : evS c b (.for_ g it s) ρ M = loop (fun M i => src.next M i) (fun d ρ M => bodyS (evG c b g d ρ M) (evSs c b s)) (src.len M1 + 1) 0 ρ M1 := by
  rw [evS, h1, lift_ok]
  rfl
/-- a loop that looks at each thing, and ends by r at the first bad one -/
theorem loop_chk {next : Sto → Nat → Option (Option D)} {body : D → Enn → Sto → SO} {I : Enn → Prop} {bad : D → Bool} {r : D} {xs : List D} (hn : ∀ i, next M i = some xs[i]?)
    (hb : ∀ d ∈ xs, ∀ ρ, I ρ → (bad d = true ∧ body d ρ M = some (.rt r, M)) ∨ (bad d = false ∧ ∃ ρ', I ρ' ∧ body d ρ M = some (.nx ρ', M))) :
    ∀ j i, i + j = xs.length → ∀ ρ, I ρ → ((xs.drop i).any bad = true ∧ loop next body (j + 1) i ρ M = some (.rt r, M)) ∨ ((xs.drop i).any bad = false ∧ ∃ ρ', I ρ' ∧ loop next body (j + 1) i ρ M = some (.nx ρ', M))
  | 0, i, h, ρ, hI => by
    refine .inr ⟨by rw [List.drop_eq_nil_of_le (by omega)]; rfl, ρ, hI, ?_⟩
    unfold loop
    rw [hn, List.getElem?_eq_none (by omega)]
  | j + 1, i, h, ρ, hI => by
    have hi : i < xs.length := by omega
    rw [List.drop_eq_getElem_cons hi, List.any_cons]
    unfold loop
    rw [hn, List.getElem?_eq_getElem hi]
    dsimp only
    rcases hb _ (List.getElem_mem hi) ρ hI with ⟨e1, e2⟩ | ⟨e1, ρ', I', e2⟩
    · rw [e1, e2]
      exact .inl ⟨rfl, rfl⟩
    · rw [e1, e2, Bool.false_or]
      exact loop_chk hn hb j (i + 1) (by omega) ρ' I'

/-! ### atoms -/
def oka : D → Bool
  | .non => true
  | .bl _ => true
  | .int _ => true
  | .str s => codes s
  | _ => false
def gA : D → PySem.PyData
  | .bl b => .bool b
  | .int i => .int i
  | .str s => .str ⟨s.toArray⟩
  | _ => .none
theorem oka_atom {d : D} (h : oka d = true) : atom d = true := by cases d <;> first | rfl | (cases h; done)
theorem oka_flat {d : D} (h : oka d = true) : d.flat = true := by cases d <;> first | (cases h; done) | simp
theorem py_oka {k : Nat} {d : D} (h : oka d = true) : py M (k + 1) d = some (gA d) := by
  cases d with
  | str s =>
    unfold py
    dsimp only
    rw [show codes s = true from h]
    rfl
  | non => rfl
  | bl _ => rfl
  | int _ => rfl
  | _ => cases h
theorem py_okas {n k : Nat} {xs : List D} (h : M[n]? = some (.lst xs)) (hx : ∀ x ∈ xs, oka x = true) : py M (k + 2) (.loc n) = some (.list (xs.map gA)) := py_list h fun x m => py_oka (hx x m)
theorem py_okaT {k : Nat} {xs : List D} (hx : ∀ x ∈ xs, oka x = true) : py M (k + 2) (.tup xs) = some (.tuple (xs.map gA)) := by
  unfold py
  dsimp only
  rw [allS_map (g := gA) fun x m => py_oka (hx x m)]
  rfl
/-- a list of atoms beside the empty one -/
theorem eq_nil {n m : Nat} {xs : List D} (h : M[n]? = some (.lst xs)) (hx : ∀ x ∈ xs, oka x = true) (h' : M[m]? = some (.lst [])) : eqD M (.loc n) (.loc m) = some xs.isEmpty := by
  unfold eqD
  rw [show MX = 10 + 2 from rfl, py_okas h hx, py_okas h' fun x m => by cases m]
  cases xs with
  | nil => simp [PySem.PyData.eqv, PySem.PyData.eqvAll]
  | cons x xs => simp [PySem.PyData.eqv, PySem.PyData.eqvAll]

/-! ### sorted -/
theorem ins1_mem {i : Int} : ∀ {js : List Int} {x : Int}, x ∈ ins1 i js → x = i ∨ x ∈ js
  | [], x, h => .inl (List.mem_singleton.mp h)
  | j :: js, x, h => by
    unfold ins1 at h
    split at h
    · rcases List.mem_cons.mp h with z | z
      · exact .inl z
      · exact .inr z
    · rcases List.mem_cons.mp h with z | z
      · exact .inr (z ▸ List.mem_cons_self ..)
      · exact (ins1_mem z).imp id fun z => List.mem_cons_of_mem _ z
theorem ins1_sorted {i : Int} : ∀ {js : List Int}, js.Pairwise (· ≤ ·) → (ins1 i js).Pairwise (· ≤ ·)
  | [], _ => by simp [ins1]
  | j :: js, h => by
    unfold ins1
    have ⟨h1, h2⟩ := List.pairwise_cons.mp h
    split
    · rename_i e
      refine List.pairwise_cons.mpr ⟨fun x m => ?_, h⟩
      rcases List.mem_cons.mp m with z | z
      · omega
      · have := h1 x z; omega
    · rename_i e
      refine List.pairwise_cons.mpr ⟨fun x m => ?_, ins1_sorted h2⟩
      rcases ins1_mem m with z | z
      · omega
      · exact h1 x z
theorem isort_sorted : ∀ is : List Int, (isort is).Pairwise (· ≤ ·)
  | [] => List.Pairwise.nil
  | i :: is => ins1_sorted (isort_sorted is)

/-! ### calls -/
theorem call_at {fns : List Fn} {gv : Nat → Option D} {wf k f : Nat} {fn : Fn} {xs : List D} (hf : fns[f]? = some fn) : run fns gv wf (k + 1) f xs b M = callFn (run fns gv wf k) gv wf fn xs b M := by
  show (match fns[f]? with
    | some fn => callFn (run fns gv wf k) gv wf fn xs b M
    | none => .no) = _
  rw [hf]
/-- a def that ends by a flat value -/
theorem call_flat {fns : List Fn} {gv : Nat → Option D} {wf k f : Nat} {fn : Fn} {xs : List D} {d : D} (hf : fns[f]? = some fn) (hk : fn.keep = false) (hn : xs.length = fn.np)
    (h : endD (evSs ⟨run fns gv wf k, gv, wf⟩ M.length fn.body (startE fn xs) M) = .ok d M') (hd : d.flat = true) : run fns gv wf (k + 1) f xs b M = .ok d (M'.take M.length) := by
  rw [call_at hf]
  unfold callFn
  rw [if_pos hn, hk]
  dsimp only
  rw [h]
  simp only [cutE, hd]
/-- .. by a new list of flat values -/
theorem call_list {fns : List Fn} {gv : Nat → Option D} {wf k f : Nat} {fn : Fn} {xs : List D} {n : Nat} {ys : List D} (hf : fns[f]? = some fn) (hk : fn.keep = false) (hn : xs.length = fn.np)
    (h : endD (evSs ⟨run fns gv wf k, gv, wf⟩ M.length fn.body (startE fn xs) M) = .ok (.loc n) M') (hl : M.length ≤ n) (hq : M'[n]? = some (.lst ys)) (hd : flats ys = true) : run fns gv wf (k + 1) f xs b M = .ok (.loc M.length) (M'.take M.length ++ [.lst ys]) := by
  rw [call_at hf]
  unfold callFn
  rw [if_pos hn, hk]
  dsimp only
  rw [h]
  simp [cutE, D.flat, Nat.ble_eq_true_of_le hl, hq, hd]
/-- only the pool at p is another one, and new things stand behind -/
structure Nx (p : Nat) (M M' : Sto) : Prop where
  le : M.length ≤ M'.length
  at_ : ∀ n, n < M.length → n ≠ p → M'[n]? = M[n]?
theorem Nx.refl (p : Nat) (M : Sto) : Nx p M M := ⟨Nat.le_refl _, fun _ _ _ => rfl⟩
theorem Nx.trans {p : Nat} {M1 M2 M3 : Sto} (a : Nx p M1 M2) (b : Nx p M2 M3) : Nx p M1 M3 :=
  ⟨Nat.le_trans a.le b.le, fun n h ne => (b.at_ n (Nat.lt_of_lt_of_le h a.le) ne).trans (a.at_ n h ne)⟩
theorem Nx.app (p : Nat) (M N : Sto) : Nx p M (M ++ N) := ⟨by simp, fun n h _ => List.getElem?_append_left h⟩
theorem Nx.get {p n : Nat} {o : O} (a : Nx p M M') (h : M[n]? = some o) (ne : n ≠ p) : M'[n]? = some o := (a.at_ n (lt_of_get h) ne).trans h
theorem Nx.cut {p : Nat} (a : Nx p M M') : Nx p M (M'.take M.length) := ⟨by rw [List.length_take]; have := a.le; omega, fun n h ne => by rw [List.getElem?_take_of_lt h]; exact a.at_ n h ne⟩
theorem Nx.cutG {p n0 : Nat} (a : Nx p M M') (h : M.length ≤ n0) : Nx p M (M'.take n0) := ⟨by rw [List.length_take]; have := a.le; omega, fun n h2 ne => by rw [List.getElem?_take_of_lt (by omega)]; exact a.at_ n h2 ne⟩
def PoolAt (p : Nat) (M : Sto) : Prop := ∃ a s, M[p]? = some (.lst [.int a, .int s]) ∧ 0 ≤ s ∧ s < 2147483647
theorem PoolAt.lt {p : Nat} (h : PoolAt p M) : p < M.length := by
  obtain ⟨a, s, e, _⟩ := h
  exact lt_of_get e
theorem PoolAt.cut {p n0 : Nat} (h : PoolAt p M) (l : p < n0) : PoolAt p (M.take n0) := by
  obtain ⟨a, s, e, r⟩ := h
  exact ⟨a, s, by rw [List.getElem?_take_of_lt l]; exact e, r⟩
theorem PoolAt.app {p : Nat} {N : Sto} (h : PoolAt p M) : PoolAt p (M ++ N) := by
  obtain ⟨a, s, e, r⟩ := h
  exact ⟨a, s, by rw [List.getElem?_append_left (lt_of_get e)]; exact e, r⟩
theorem cut_flat {n0 : Nat} {d : D} (h : d.flat = true) : cutE n0 (.ok d M) = .ok d (M.take n0) := by simp only [cutE, h]
theorem cut_old {n0 n : Nat} (h : n < n0) : cutE n0 (.ok (.loc n) M) = .ok (.loc n) (M.take n0) := by
  have z : Nat.ble n0 n = false := by
    cases e : Nat.ble n0 n with
    | false => rfl
    | true => have := Nat.le_of_ble_eq_true e; omega
  simp only [cutE, fl_loc, z]
theorem cut_list {n0 n : Nat} {ys : List D} (h : n0 ≤ n) (q : M[n]? = some (.lst ys)) (f : flats ys = true) : cutE n0 (.ok (.loc n) M) = .ok (.loc n0) (M.take n0 ++ [.lst ys]) := by
  simp only [cutE, fl_loc, Nat.ble_eq_true_of_le h, q, f]
theorem cut_deep {n0 n : Nat} {ys : List D} (h : n0 ≤ n) (q : M[n]? = some (.lst ys)) (f : flats ys = false) : cutE n0 (.ok (.loc n) M) = .ok (.loc n) M := by
  simp only [cutE, fl_loc, Nat.ble_eq_true_of_le h, q, f]
/-- a call by its body -/
theorem call_of {fns : List Fn} {gv : Nat → Option D} {wf k f : Nat} {fn : Fn} {xs : List D} {o : Out D} (hf : fns[f]? = some fn) (hk : fn.keep = false) (hn : xs.length = fn.np)
    (h : endD (evSs ⟨run fns gv wf k, gv, wf⟩ M.length fn.body (startE fn xs) M) = o) : run fns gv wf (k + 1) f xs b M = cutE M.length o := by
  rw [call_at hf]
  unfold callFn
  rw [if_pos hn, hk]
  dsimp only
  rw [h]
@[simp] theorem take_set {A : Sto} {p : Nat} {o : O} : (A.set p o).take A.length = A.set p o := List.take_of_length_le (by simp)
@[simp] theorem take_ap {A B : Sto} : (A ++ B).take A.length = A := List.take_left
theorem wl_end {test : Enn → Sto → Out Bool} {body : Enn → Sto → SO} {c : Nat} {ρ : Enn} (h : test ρ M = .ok false M') : wloop test body (c + 1) ρ M = some (.nx ρ, M') := by
  unfold wloop
  rw [h, lok]
theorem wl_nx {test : Enn → Sto → Out Bool} {body : Enn → Sto → SO} {c : Nat} {ρ ρ' : Enn} {M2 : Sto} (h : test ρ M = .ok true M') (h2 : body ρ M' = some (.nx ρ', M2)) : wloop test body (c + 1) ρ M = wloop test body c ρ' M2 := by
  conv => lhs; unfold wloop
  rw [h, lok]
  dsimp only
  rw [h2]
theorem whl_at {c : Cf} {t : T} {s : SL} {ρ : Enn} : evS c b (.whl t s) ρ M = wloop (evT c b t) (evSs c b s) c.wf ρ M := by rw [evS]
/-- draws: each turn gives one thing, and only the pool is another one -/
theorem turns_nx {next : Sto → Nat → Option (Option D)} {turn : D → Sto → Out (List D)} {p n : Nat} {P : D → Sto → Prop} {M0 : Sto} (st : ∀ x M M', Nx p M M' → P x M → P x M') (hn : ∀ M i, i < n → ∃ d, next M i = some (some d)) (he : ∀ M, next M n = some none)
    (ht : ∀ d M, PoolAt p M → Nx p M0 M → ∃ x M', turn d M = .ok [x] M' ∧ P x M' ∧ PoolAt p M' ∧ Nx p M M') :
    ∀ j i, i + j = n → ∀ M, PoolAt p M → Nx p M0 M → ∃ xs M', turns next turn (j + 1) i M = .ok xs M' ∧ xs.length = j ∧ (∀ x ∈ xs, P x M') ∧ PoolAt p M' ∧ Nx p M M'
  | 0, i, h, M, hp, h0 => by
    obtain rfl : i = n := by omega
    refine ⟨[], M, ?_, rfl, fun x m => (by cases m), hp, .refl _ _⟩
    unfold turns
    rw [he]
  | j + 1, i, h, M, hp, h0 => by
    obtain ⟨d, ed⟩ := hn M i (by omega)
    obtain ⟨x, M1, e1, p1, q1, n1⟩ := ht d M hp h0
    obtain ⟨xs, M2, e2, l2, p2, q2, n2⟩ := turns_nx st hn he ht j (i + 1) (by omega) M1 q1 (h0.trans n1)
    refine ⟨x :: xs, M2, ?_, by rw [List.length_cons, l2], fun y m => ?_, q2, n1.trans n2⟩
    · unfold turns
      rw [ed]
      dsimp only
      rw [e1, hush_ok, bind_ok, e2, hush_ok, bind_ok]
      rfl
    · rcases List.mem_cons.mp m with rfl | m
      · exact st _ _ _ n2 p1
      · exact p2 y m
theorem lc_draw {c : Cf} {g : G} {it : IT} {ow : List Nat} {t : T} {e : E} {ρ : Enn} {lo : Int} {M1 : Sto} {p n : Nat} {P : D → Sto → Prop} (h1 : evI c b it ρ M = .ok (.rng lo n) M1) (hp : PoolAt p M1) (hc : n ≤ cap)
    (st : ∀ x M M', Nx p M M' → P x M → P x M') (fl : ∀ x M M', x.flat = true → P x M → P x M')
    (ht : ∀ d M, PoolAt p M → Nx p M1 M → ∃ x M', itemT (evG c M1.length g) (evT c M1.length t) (fun ρ2 M3 => (evE c M1.length e ρ2 M3).bind fun d M4 => .ok [d] M4) (wipe ρ ow) d M = .ok [x] M' ∧ P x M' ∧ PoolAt p M' ∧ Nx p M M') :
    ∃ q xs M', evE c b (.lc g it ow t e) ρ M = .ok (.loc q) M' ∧ M'[q]? = some (.lst xs) ∧ M1.length ≤ q ∧ PoolAt p M' ∧ Nx p M1 M' ∧ xs.length = n ∧ ∀ x ∈ xs, P x M' := by
  obtain ⟨xs, M2, e2, l2, p2, q2, n2⟩ := turns_nx (n := n) (M0 := M1) (next := fun M i => (Src.rng lo n).next M i) st (fun M i hi => ⟨.int (lo + i), by simp [Src.next, hi]⟩) (fun M => by simp [Src.next]) ht n 0 (by omega) M1 hp (.refl _ _)
  have e3 := lc_ev h1 (M2 := M2) (xs := xs) e2
  cases hf : flats xs with
  | true =>
    rw [seal_flat (by omega) hf] at e3
    have lt : (M2.take M1.length).length = M1.length := by rw [List.length_take]; have := n2.le; omega
    refine ⟨M1.length, xs, _, e3, ?_, Nat.le_refl _, (q2.cut hp.lt).app, n2.cut.trans (.app _ _ _), l2, fun x m => ?_⟩
    · have z : (M2.take M1.length ++ [O.lst xs])[(M2.take M1.length).length]? = some (.lst xs) := by rw [get_ap0]; rfl
      rwa [lt] at z
    · have fx : x.flat = true := by
        clear e3 e2 l2 p2
        induction xs with
        | nil => cases m
        | cons y ys ih =>
          rw [fl_cons, Bool.and_eq_true] at hf
          rcases List.mem_cons.mp m with rfl | m
          · exact hf.1
          · exact ih hf.2 m
      exact fl x _ _ fx (p2 x m)
  | false =>
    rw [seal_new (by omega) hf] at e3
    exact ⟨M2.length, xs, _, e3, by rw [get_ap0]; rfl, n2.le, q2.app, n2.trans (.app _ _ _), l2, fun x m => st _ _ _ (.app _ _ _) (p2 x m)⟩
/-- a loop that goes through, keeping I -/
theorem loop_go {next : Sto → Nat → Option (Option D)} {body : D → Enn → Sto → SO} {I : Enn → Sto → Prop} {xs : List D} (hn : ∀ ρ M i, I ρ M → next M i = some xs[i]?) (hb : ∀ d ∈ xs, ∀ ρ M, I ρ M → ∃ ρ' M', body d ρ M = some (.nx ρ', M') ∧ I ρ' M') :
    ∀ j i, i + j = xs.length → ∀ ρ M, I ρ M → ∃ ρ' M', loop next body (j + 1) i ρ M = some (.nx ρ', M') ∧ I ρ' M'
  | 0, i, h, ρ, M, hI => by
    refine ⟨ρ, M, ?_, hI⟩
    unfold loop
    rw [hn ρ M i hI, List.getElem?_eq_none (by omega)]
  | j + 1, i, h, ρ, M, hI => by
    have hi : i < xs.length := by omega
    obtain ⟨ρ1, M1, e1, I1⟩ := hb _ (List.getElem_mem hi) ρ M hI
    obtain ⟨ρ2, M2, e2, I2⟩ := loop_go hn hb j (i + 1) (by omega) ρ1 M1 I1
    refine ⟨ρ2, M2, ?_, I2⟩
    unfold loop
    rw [hn ρ M i hI, List.getElem?_eq_getElem hi]
    dsimp only
    rw [e1]
    exact e2
end Ev
end

section
/-! EvRp: what repr shows of lists and tuples of small things. -/
namespace Ev
open PySem
variable {M : Sto}
def cpsOk (t : Str) : Bool := codes t.cps.toList
theorem codes_app {a b : List Nat} (h : codes a = true) (h' : codes b = true) : codes (a ++ b) = true := by
  unfold codes at *
  rw [List.all_append, h, h']
  rfl
theorem cps_app (a b : Str) : (a ++ b).cps.toList = a.cps.toList ++ b.cps.toList := by
  rw [Str.cps_append, Array.toList_append]
theorem cpsOk_app {a b : Str} (h : cpsOk a = true) (h' : cpsOk b = true) : cpsOk (a ++ b) = true := by
  unfold cpsOk at *
  rw [cps_app]
  exact codes_app h h'
theorem text_ok : ∀ {ts : List Str} {k : Nat} {acc : Str}, cpsOk acc = true → (∀ t ∈ ts, cpsOk t = true) → cpsOk (textFrom k acc ts) = true
  | [], k, acc, h, _ => h
  | t :: ts, k, acc, h, ht => by
    unfold textFrom
    refine text_ok (cpsOk_app (cpsOk_app h ?_) (ht t (List.mem_cons_self ..))) fun x m => ht x (List.mem_cons_of_mem _ m)
    split <;> rfl
theorem join_ok {sep : Str} (hs : cpsOk sep = true) : ∀ {ts : List Str}, (∀ t ∈ ts, cpsOk t = true) → cpsOk (Str.join sep ts) = true
  | [], _ => rfl
  | [t], h => h t (List.mem_cons_self ..)
  | t :: u :: ts, h => by
    have ih := join_ok hs (ts := u :: ts) fun x m => h x (List.mem_cons_of_mem _ m)
    exact cpsOk_app (cpsOk_app (h t (List.mem_cons_self ..)) hs) ih
theorem piled_le {c : Nat} : ∀ {ts : List Str}, (∀ t ∈ ts, t.length ≤ c) → piled ts ≤ ts.length * (c + 2)
  | [], _ => by simp [piled]
  | t :: ts, h => by
    have ih := piled_le (c := c) (ts := ts) fun x m => h x (List.mem_cons_of_mem _ m)
    have := h t (List.mem_cons_self ..)
    rw [piled_cons, List.length_cons, Nat.add_mul]
    omega
theorem listText_le : ∀ ts : List Str, (listText ts).length ≤ piled ts + 2
  | [] => by decide
  | t :: ts => by
    have e : (listText (t :: ts)).length = (textFrom 1 ("[" ++ (if 0 > 0 then ", " else "" : String) ++ t) ts).length + 1 := by
      unfold listText
      rw [strLen_append]
      rfl
    rw [e, textFrom_length_pos _ _ _ (by omega), strLen_append, strLen_append, piled_cons]
    have a : ("[" : Str).length = 1 := rfl
    have b : (((if 0 > 0 then ", " else "" : String) : Str)).length = 0 := rfl
    omega
theorem tupText_le (ts : List Str) : (tupleText ts).length ≤ piled ts + 3 := by
  unfold tupleText
  rw [strLen_append, strLen_append]
  have a : ("(" : Str).length = 1 := rfl
  have c : (((if ts.length == 1 then ",)" else ")" : String) : Str)).length ≤ 2 := by split <;> decide
  cases ts with
  | nil =>
    have z : (Str.join ", " []).length = 0 := rfl
    rw [z]
    omega
  | cons t ts =>
    have := join_length_add (t :: ts) (by simp)
    omega
theorem shownAll_map : ∀ xs : List PyData, PyData.shownAll xs = xs.map PyData.shown
  | [] => rfl
  | x :: xs => by rw [PyData.shownAll, shownAll_map xs]; rfl
theorem showableAll_of : ∀ {xs : List PyData}, (∀ x ∈ xs, x.showable = true) → PyData.showableAll xs = true
  | [], _ => rfl
  | x :: xs, h => by
    rw [PyData.showableAll, h x (List.mem_cons_self ..), showableAll_of fun y m => h y (List.mem_cons_of_mem _ m)]
    rfl
def itemOk (d : PyData) : Bool := d.showable && Nat.ble d.shown.length 40 && cpsOk d.shown
theorem repr_of {d : PyData} {x : D} (h : py M MX x = some d) (h1 : d.showable = true) (h2 : d.shown.length + 64 ≤ cap) (h3 : cpsOk d.shown = true) : ∃ s, reprD M x = some s ∧ codes s = true := by
  refine ⟨d.shown.cps.toList, ?_, h3⟩
  unfold reprD
  rw [h]
  dsimp only
  rw [h1, Nat.ble_eq_true_of_le h2]
  rfl
theorem items_ok {ds : List PyData} (hd : ∀ d ∈ ds, itemOk d = true) (hl : ds.length ≤ 1000) : PyData.showableAll ds = true ∧ piled (PyData.shownAll ds) + 3 + 64 ≤ cap ∧ ∀ t ∈ PyData.shownAll ds, cpsOk t = true := by
  have z : ∀ d ∈ ds, d.showable = true ∧ d.shown.length ≤ 40 ∧ cpsOk d.shown = true := fun d m => by
    have q := hd d m
    unfold itemOk at q
    rw [Bool.and_eq_true, Bool.and_eq_true] at q
    exact ⟨q.1.1, Nat.le_of_ble_eq_true q.1.2, q.2⟩
  rw [shownAll_map]
  refine ⟨showableAll_of fun d m => (z d m).1, ?_, fun t m => ?_⟩
  · have := piled_le (c := 40) (ts := ds.map PyData.shown) fun t m => by
      obtain ⟨d, md, rfl⟩ := List.mem_map.mp m
      exact (z d md).2.1
    rw [List.length_map] at this
    simp only [cap]
    omega
  · obtain ⟨d, md, rfl⟩ := List.mem_map.mp m
    exact (z d md).2.2
theorem repr_list {n : Nat} {ys : List D} (h : M[n]? = some (.lst ys)) (ho : ∀ y ∈ ys, oka y = true) (hi : ∀ y ∈ ys, itemOk (gA y) = true) (hl : ys.length ≤ 1000) : ∃ s, reprD M (.loc n) = some s ∧ codes s = true := by
  obtain ⟨a, b, c⟩ := items_ok (ds := ys.map gA) (fun d m => by
    obtain ⟨y, my, rfl⟩ := List.mem_map.mp m
    exact hi y my) (by simpa using hl)
  have e := listText_le (PyData.shownAll (ys.map gA))
  refine repr_of (py_okas h ho) (by rw [PyData.showable]; exact a) (by rw [PyData.shown]; omega) (by
    rw [PyData.shown]
    exact cpsOk_app (text_ok rfl c) rfl)
theorem repr_tup {ys : List D} (ho : ∀ y ∈ ys, oka y = true) (hi : ∀ y ∈ ys, itemOk (gA y) = true) (hl : ys.length ≤ 1000) : ∃ s, reprD M (.tup ys) = some s ∧ codes s = true := by
  obtain ⟨a, b, c⟩ := items_ok (ds := ys.map gA) (fun d m => by
    obtain ⟨y, my, rfl⟩ := List.mem_map.mp m
    exact hi y my) (by simpa using hl)
  have e := tupText_le (PyData.shownAll (ys.map gA))
  refine repr_of (py_okaT ho) (by rw [PyData.showable]; exact a) (by rw [PyData.shown]; omega) (by
    rw [PyData.shown]
    exact cpsOk_app (cpsOk_app rfl (join_ok rfl c)) (by split <;> rfl))
theorem repr_oka {y : D} (ho : oka y = true) (hi : itemOk (gA y) = true) : ∃ s, reprD M y = some s ∧ codes s = true := by
  unfold itemOk at hi
  rw [Bool.and_eq_true, Bool.and_eq_true] at hi
  have := Nat.le_of_ble_eq_true hi.1.2
  exact repr_of (py_oka ho) hi.1.1 (by simp only [cap]; omega) hi.2
end Ev
end

section
/-! K01Tx: the law's text for the evaluator. -/
namespace K01
open PySem Ev
def b_is_whole : SL := (.cons (.ret (.and (.isi (.var 0) [.int]) (.no (.isi (.var 0) [.bool])))) .nil)
def f_is_whole : Fn := ⟨"is_whole", 1, ["thing"], b_is_whole, false⟩
def b_is_from : SL := (.cons (.ret (.and (.call 0 (.cons (.var 0) .nil)) (.chn .le .le (.var 1) (.var 0) (.var 2)))) .nil)
def f_is_from : Fn := ⟨"is_from", 3, ["thing", "low", "high"], b_is_from, false⟩
def c1_is_word : E := .lc (.nam 1) (.seq (.var 0)) [1] .yes (.cmp .isin (.var 1) (.glb 3))
def b_is_word : SL := (.cons (.ret (.and (.isi (.var 0) [.str]) (.and (.chn .le .le (.cst (.int 1)) (.bi .len (.cons (.var 0) .nil)) (.glb 1)) (.bi .all (.cons c1_is_word .nil))))) .nil)
def f_is_word : Fn := ⟨"is_word", 1, ["thing", "sign"], b_is_word, false⟩
def b_is_written : SL := (.cons (.ret (.or (.isi (.var 0) [.bool]) (.call 1 (.cons (.var 0) (.cons (.un .neg (.glb 0)) (.cons (.glb 0) .nil)))))) .nil)
def f_is_written : Fn := ⟨"is_written", 1, ["thing"], b_is_written, false⟩
def b_is_tuple_of : SL := (.cons (.ret (.and (.isi (.var 0) [.tup]) (.chn .le .le (.var 1) (.bi .len (.cons (.var 0) .nil)) (.var 2)))) .nil)
def f_is_tuple_of : Fn := ⟨"is_tuple_of", 3, ["thing", "low", "high"], b_is_tuple_of, false⟩
def b_begins : SL := (.cons (.ret (.and (.call 4 (.cons (.var 0) (.cons (.var 1) (.cons (.var 1) .nil)))) (.and (.isi (.ix (.var 0) (.cst (.int 0))) [.str]) (.cmp .eq (.ix (.var 0) (.cst (.int 0))) (.var 2))))) .nil)
def f_begins : Fn := ⟨"begins", 3, ["thing", "many", "word"], b_begins, false⟩
def i1_is_worth : SL := (.cons (.ret (.call 1 (.cons (.ix (.var 0) (.cst (.int 1))) (.cons (.cst (.int 0)) (.cons (.glb 2) .nil))))) .nil)
def b_is_worth : SL := (.cons (.iff (.val (.call 3 (.cons (.var 0) .nil))) (.cons (.ret (.cst (.bl true))) .nil) .nil) (.cons (.iff (.val (.call 5 (.cons (.var 0) (.cons (.cst (.int 2)) (.cons (.cst (.str [108, 111, 116])) .nil))))) i1_is_worth .nil) (.cons (.ret (.and (.call 5 (.cons (.var 0) (.cons (.cst (.int 3)) (.cons (.cst (.str [112, 108, 97, 99, 101])) .nil)))) (.and (.call 1 (.cons (.ix (.var 0) (.cst (.int 1))) (.cons (.cst (.int 0)) (.cons (.glb 2) .nil)))) (.call 2 (.cons (.ix (.var 0) (.cst (.int 2))) .nil))))) .nil)))
def f_is_worth : Fn := ⟨"is_worth", 1, ["thing"], b_is_worth, false⟩
def b_alike : SL := (.cons (.ret (.and (.cmp .eq (.isi (.var 0) [.bool]) (.isi (.var 1) [.bool])) (.cmp .eq (.var 0) (.var 1)))) .nil)
def f_alike : Fn := ⟨"alike", 2, ["one", "other"], b_alike, false⟩
def b_reckoned : SL := (.cons (.iff (.cmp .eq (.var 0) (.cst (.str [98, 101, 108, 111, 119]))) (.cons (.ret (.cmp .lt (.var 1) (.var 2))) .nil) .nil) (.cons (.iff (.cmp .eq (.var 0) (.cst (.str [112, 108, 117, 115]))) (.cons (.ret (.bin .add (.var 1) (.var 2))) .nil) .nil) (.cons (.ret (.ife (.cmp .eq (.var 0) (.cst (.str [109, 105, 110, 117, 115]))) (.bin .sub (.var 1) (.var 2)) (.bin .mul (.var 1) (.var 2)))) .nil)))
def f_reckoned : Fn := ⟨"reckoned", 3, ["word", "one", "other"], b_reckoned, false⟩
def i1_done : SL := (.cons (.ret (.tup (.cons (.cst (.str [102, 97, 117, 108, 116])) (.cons (.cst (.str [107, 105, 110, 100])) .nil)))) .nil)
def i2_done : SL := (.cons (.ret (.tup (.cons (.cst (.str [119, 111, 114, 116, 104])) (.cons (.call 7 (.cons (.var 1) (.cons (.var 2) .nil))) .nil)))) .nil)
def b_done : SL := (.cons (.iff (.cmp .eq (.var 0) (.cst (.str [115, 97, 109, 101]))) i2_done .nil) (.cons (.iff (.or (.not (.val (.call 0 (.cons (.var 1) .nil)))) (.not (.val (.call 0 (.cons (.var 2) .nil))))) i1_done .nil) (.cons (.asg (.nam 3) (.call 8 (.cons (.var 0) (.cons (.var 1) (.cons (.var 2) .nil))))) (.cons (.ret (.ife (.val (.call 3 (.cons (.var 3) .nil))) (.tup (.cons (.cst (.str [119, 111, 114, 116, 104])) (.cons (.var 3) .nil))) (.tup (.cons (.cst (.str [102, 97, 117, 108, 116])) (.cons (.cst (.str [103, 114, 101, 97, 116])) .nil))))) .nil))))
def f_done : Fn := ⟨"done", 3, ["word", "one", "other", "found"], b_done, false⟩
def b_l_pool : SL := (.cons (.asg (.nam 2) (.ix (.bin .add (.sl (.var 0) (.some (.var 1)) (.some (.bin .add (.var 1) (.cst (.int 1))))) (.lst (.cons (.cst (.int 0)) .nil))) (.cst (.int 0)))) (.cons (.asg (.nam 3) (.bin .mod (.bin .mul (.bin .add (.bin .add (.bin .mod (.var 2) (.cst (.int 2147483629))) (.bin .mul (.cst (.int 7919)) (.var 1))) (.cst (.int 104729))) (.cst (.int 48271))) (.cst (.int 2147483647)))) (.cons (.ret (.lst (.cons (.bin .mul (.var 2) (.bi .int (.cons (.cmp .ge (.var 2) (.bin .pow (.cst (.int 10)) (.cst (.int 18)))) .nil))) (.cons (.var 3) .nil)))) .nil)))
def f_l_pool : Fn := ⟨"_law_pool", 2, ["_law_script", "_law_k", "_law_cell", "_law_seed"], b_l_pool, false⟩
def i1_l_take : SL := (.cons (.asg (.nam 2) (.bin .mod (.ix (.var 0) (.cst (.int 0))) (.var 1))) (.cons (.asg (.sub (.var 0) (.cst (.int 0))) (.bin .div (.ix (.var 0) (.cst (.int 0))) (.var 1))) (.cons (.ret (.var 2)) .nil)))
def b_l_take : SL := (.cons (.iff (.cmp .gt (.ix (.var 0) (.cst (.int 0))) (.cst (.int 0))) i1_l_take .nil) (.cons (.asg (.sub (.var 0) (.cst (.int 1))) (.bin .mod (.bin .add (.bin .mul (.ix (.var 0) (.cst (.int 1))) (.cst (.int 48271))) (.cst (.int 11))) (.cst (.int 2147483647)))) (.cons (.ret (.bin .mod (.bin .div (.bin .mod (.bin .mul (.ix (.var 0) (.cst (.int 1))) (.ix (.var 0) (.cst (.int 1)))) (.cst (.int 2147483629))) (.cst (.int 64))) (.var 1))) .nil)))
def f_l_take : Fn := ⟨"_law_take", 2, ["_law_pool_here", "_law_size", "_law_found"], b_l_take, false⟩
def b_l_same : SL := (.cons (.ret (.cmp .eq (.bi .repr (.cons (.var 0) .nil)) (.bi .repr (.cons (.var 1) .nil)))) .nil)
def f_l_same : Fn := ⟨"_law_same", 2, ["_law_one_now", "_law_other_now"], b_l_same, false⟩
def i1_l_two : SL := (.cons (.ret (.tup (.cons (.cst (.str [119, 111, 114, 116, 104])) (.cons (.cmp .lt (.var 1) (.var 2)) .nil)))) .nil)
def i2_l_two : SL := (.cons (.ret (.tup (.cons (.cst (.str [102, 97, 117, 108, 116])) (.cons (.cst (.str [107, 105, 110, 100])) .nil)))) .nil)
def s1_l_two : SL := (.cons (.iff (.val (.isi (.var 3) [.bool, .tup])) i2_l_two .nil) .nil)
def l1_l_two : S := .for_ (.nam 3) (.seq (.lst (.cons (.var 1) (.cons (.var 2) .nil)))) s1_l_two
def i3_l_two : SL := (.cons (.ret (.tup (.cons (.cst (.str [119, 111, 114, 116, 104])) (.cons (.call 12 (.cons (.var 1) (.cons (.var 2) .nil))) .nil)))) .nil)
def b_l_two : SL := (.cons (.iff (.cmp .eq (.var 0) (.cst (.str [115, 97, 109, 101]))) i3_l_two .nil) (.cons l1_l_two (.cons (.iff (.cmp .eq (.var 0) (.cst (.str [98, 101, 108, 111, 119]))) i1_l_two .nil) (.cons (.asg (.nam 4) (.ix (.lst (.cons (.bin .add (.var 1) (.var 2)) (.cons (.bin .sub (.var 1) (.var 2)) (.cons (.bin .mul (.var 1) (.var 2)) .nil)))) (.mth .index (.lst (.cons (.cst (.str [112, 108, 117, 115])) (.cons (.cst (.str [109, 105, 110, 117, 115])) (.cons (.cst (.str [116, 105, 109, 101, 115])) .nil)))) (.cons (.var 0) .nil)))) (.cons (.ret (.ife (.chn .le .le (.un .neg (.bin .pow (.cst (.int 10)) (.cst (.int 9)))) (.var 4) (.bin .pow (.cst (.int 10)) (.cst (.int 9)))) (.tup (.cons (.cst (.str [119, 111, 114, 116, 104])) (.cons (.var 4) .nil))) (.tup (.cons (.cst (.str [102, 97, 117, 108, 116])) (.cons (.cst (.str [103, 114, 101, 97, 116])) .nil))))) .nil)))))
def f_l_two : Fn := ⟨"_law_two", 3, ["_law_word_now", "_law_one_now", "_law_other_now", "_law_worth", "_law_found"], b_l_two, false⟩
def c1_l_own_word : E := .lc (.nam 1) (.seq (.var 0)) [1] (.cmp .nin (.var 1) (.cst (.str [97, 98, 99, 100, 101, 102, 103, 104, 105, 106, 107, 108, 109, 110, 111, 112, 113, 114, 115, 116, 117, 118, 119, 120, 121, 122]))) (.var 1)
def b_l_own_word : SL := (.cons (.iff (.or (.not (.val (.isi (.var 0) [.str]))) (.not (.chn .le .le (.cst (.int 1)) (.bi .len (.cons (.var 0) .nil)) (.cst (.int 6))))) (.cons (.ret (.cst (.bl false))) .nil) .nil) (.cons (.ret (.cmp .eq c1_l_own_word (.lst .nil))) .nil))
def f_l_own_word : Fn := ⟨"_law_own_word", 1, ["_law_odd_one", "_law_sign"], b_l_own_word, false⟩
def b_l_own_number : SL := (.cons (.ret (.and (.isi (.var 0) [.int]) (.and (.no (.isi (.var 0) [.bool])) (.cmp .ge (.var 0) (.var 1))))) .nil)
def f_l_own_number : Fn := ⟨"_law_own_number", 2, ["_law_odd_one", "_law_low"], b_l_own_number, false⟩
def i1_l_own_worth : SL := (.cons (.ret (.cmp .eq (.bi .repr (.cons (.ix (.var 0) (.cst (.int 0))) .nil)) (.bi .repr (.cons (.cst (.str [108, 111, 116])) .nil)))) .nil)
def i2_l_own_worth : SL := (.cons (.ret (.chn .le .le (.un .neg (.bin .pow (.cst (.int 10)) (.cst (.int 9)))) (.var 0) (.bin .pow (.cst (.int 10)) (.cst (.int 9))))) .nil)
def b_l_own_worth : SL := (.cons (.iff (.val (.isi (.var 0) [.bool])) (.cons (.ret (.cst (.bl true))) .nil) .nil) (.cons (.iff (.val (.isi (.var 0) [.int])) i2_l_own_worth .nil) (.cons (.iff (.or (.not (.val (.isi (.var 0) [.tup]))) (.or (.cmp .nin (.bi .len (.cons (.var 0) .nil)) (.tup (.cons (.cst (.int 2)) (.cons (.cst (.int 3)) .nil)))) (.not (.val (.call 15 (.cons (.ix (.var 0) (.cst (.int 1))) (.cons (.cst (.int 0)) .nil))))))) (.cons (.ret (.cst (.bl false))) .nil) .nil) (.cons (.iff (.cmp .eq (.bi .len (.cons (.var 0) .nil)) (.cst (.int 2))) i1_l_own_worth .nil) (.cons (.ret (.and (.cmp .eq (.bi .repr (.cons (.ix (.var 0) (.cst (.int 0))) .nil)) (.bi .repr (.cons (.cst (.str [112, 108, 97, 99, 101])) .nil))) (.call 14 (.cons (.ix (.var 0) (.cst (.int 2))) .nil)))) .nil)))))
def f_l_own_worth : Fn := ⟨"_law_own_worth", 1, ["_law_odd_one"], b_l_own_worth, false⟩
def b_l_drawn : SL := (.cons (.asg (.nam 1) (.lst (.cons (.cst (.int 0)) (.cons (.cst (.int 1)) (.cons (.cst (.int 2)) (.cons (.un .neg (.cst (.int 1))) (.cons (.cst (.int 31623)) (.cons (.bin .pow (.cst (.int 10)) (.cst (.int 9))) (.cons (.un .neg (.bin .pow (.cst (.int 10)) (.cst (.int 9)))) (.cons (.cst (.bl true)) (.cons (.cst (.bl false)) (.cons (.tup (.cons (.cst (.str [108, 111, 116])) (.cons (.call 11 (.cons (.var 0) (.cons (.cst (.int 3)) .nil))) .nil))) (.cons (.tup (.cons (.cst (.str [108, 111, 116])) (.cons (.bin .pow (.cst (.int 10)) (.cst (.int 20))) .nil))) .nil))))))))))))) (.cons (.asg (.nam 1) (.bin .add (.var 1) (.lst (.cons (.tup (.cons (.cst (.str [112, 108, 97, 99, 101])) (.cons (.call 11 (.cons (.var 0) (.cons (.cst (.int 3)) .nil))) (.cons (.cst (.str [97])) .nil)))) (.cons (.tup (.cons (.cst (.str [112, 108, 97, 99, 101])) (.cons (.cst (.int 0)) (.cons (.cst (.str [97, 98, 99, 100, 101, 102])) .nil)))) (.cons (.call 11 (.cons (.var 0) (.cons (.bin .pow (.cst (.int 10)) (.cst (.int 9))) .nil))) .nil)))))) (.cons (.ret (.ix (.var 1) (.call 11 (.cons (.var 0) (.cons (.cst (.int 14)) .nil))))) .nil)))
def f_l_drawn : Fn := ⟨"_law_drawn", 1, ["_law_pool_here", "_law_some"], b_l_drawn, false⟩
def i1_l_bent : SL := (.cons (.ret (.ix (.var 2) (.call 11 (.cons (.var 0) (.cons (.cst (.int 23)) .nil))))) .nil)
def b_l_bent : SL := (.cons (.asg (.nam 2) (.lst (.cons (.cst .non) (.cons (.cst (.str [])) (.cons (.cst (.str [108, 111, 116])) (.cons (.bin .add (.bin .pow (.cst (.int 10)) (.cst (.int 9))) (.cst (.int 1))) (.cons (.bin .sub (.un .neg (.bin .pow (.cst (.int 10)) (.cst (.int 9)))) (.cst (.int 1))) (.cons (.tup .nil) (.cons (.lst .nil) (.cons (.tup (.cons (.cst (.str [108, 111, 116])) .nil)) (.cons (.tup (.cons (.cst (.str [108, 111, 116])) (.cons (.un .neg (.cst (.int 1))) .nil))) (.cons (.tup (.cons (.cst (.str [108, 111, 116])) (.cons (.cst (.bl true)) .nil))) (.cons (.tup (.cons (.cst (.str [108, 111, 116])) (.cons (.cst (.str [49])) .nil))) .nil))))))))))))) (.cons (.asg (.nam 2) (.bin .add (.var 2) (.lst (.cons (.tup (.cons (.cst (.str [76, 111, 116])) (.cons (.cst (.int 1)) .nil))) (.cons (.lst (.cons (.cst (.str [108, 111, 116])) (.cons (.cst (.int 1)) .nil))) (.cons (.tup (.cons (.cst (.str [112, 108, 97, 99, 101])) (.cons (.cst (.int 1)) .nil))) (.cons (.tup (.cons (.cst (.str [112, 108, 97, 99, 101])) (.cons (.cst (.int 1)) (.cons (.cst (.str [65])) .nil)))) (.cons (.tup (.cons (.cst (.str [112, 108, 97, 99, 101])) (.cons (.un .neg (.cst (.int 1))) (.cons (.cst (.str [97])) .nil)))) (.cons (.tup (.cons (.cst (.str [112, 108, 97, 99, 101])) (.cons (.cst (.bl true)) (.cons (.cst (.str [97])) .nil)))) .nil))))))))) (.cons (.asg (.nam 2) (.bin .add (.var 2) (.lst (.cons (.tup (.cons (.cst (.str [112, 108, 97, 99, 101])) (.cons (.cst (.int 1)) (.cons (.cst (.str [97, 98, 99, 100, 101, 102, 103])) .nil)))) (.cons (.tup (.cons (.cst (.str [112, 108, 97, 99, 101])) (.cons (.cst (.int 1)) (.cons (.cst (.str [])) .nil)))) (.cons (.tup (.cons (.cst (.str [108, 111, 116])) (.cons (.cst (.int 1)) (.cons (.cst (.str [97])) .nil)))) (.cons (.tup (.cons (.cst (.str [112, 108, 97, 99, 101])) (.cons (.cst (.int 1)) (.cons (.cst (.str [97])) (.cons (.cst (.int 2)) .nil))))) (.cons (.tup (.cons (.cst (.int 1)) (.cons (.cst (.int 1)) .nil))) (.cons (.tup (.cons (.cst (.str [112, 108, 97, 99, 101])) .nil)) .nil))))))))) (.cons (.iff (.or (.not (.val (.isi (.var 1) [.tup]))) (.cmp .eq (.call 11 (.cons (.var 0) (.cons (.cst (.int 2)) .nil))) (.cst (.int 0)))) i1_l_bent .nil) (.cons (.asg (.nam 3) (.call 11 (.cons (.var 0) (.cons (.bi .len (.cons (.var 1) .nil)) .nil)))) (.cons (.ret (.bin .add (.bin .add (.sl (.var 1) .none (.some (.var 3))) (.tup (.cons (.ix (.var 2) (.call 11 (.cons (.var 0) (.cons (.cst (.int 23)) .nil)))) .nil))) (.sl (.var 1) (.some (.bin .add (.var 3) (.cst (.int 1)))) .none))) .nil))))))
def f_l_bent : Fn := ⟨"_law_bent", 2, ["_law_pool_here", "_law_worth_now", "_law_odd", "_law_at"], b_l_bent, false⟩
def b_l_looks_right : SL := (.cons (.asg (.nam 1) (.bi .repr (.cons (.var 0) .nil))) (.cons (.iff (.or (.cmp .ne (.bi .repr (.cons (.call 6 (.cons (.var 0) .nil)) .nil)) (.bi .repr (.cons (.call 16 (.cons (.var 0) .nil)) .nil))) (.cmp .ne (.callk 6 .nil [0] (.cons (.var 0) .nil)) (.call 16 (.cons (.var 0) .nil)))) (.cons (.ret (.cst (.bl false))) .nil) .nil) (.cons (.ret (.and (.cmp .eq (.bi .repr (.cons (.call 2 (.cons (.var 0) .nil)) .nil)) (.bi .repr (.cons (.call 14 (.cons (.var 0) .nil)) .nil))) (.cmp .eq (.bi .repr (.cons (.var 0) .nil)) (.var 1)))) .nil)))
def f_l_looks_right : Fn := ⟨"_law_looks_right", 1, ["_law_odd_one", "_law_kept"], b_l_looks_right, false⟩
def s1_l_two_right : SL := (.cons (.asg (.nam 3) (.bi .repr (.cons (.call 13 (.cons (.var 2) (.cons (.var 0) (.cons (.var 1) .nil)))) .nil))) (.cons (.iff (.or (.cmp .ne (.bi .repr (.cons (.call 9 (.cons (.var 2) (.cons (.var 0) (.cons (.var 1) .nil)))) .nil)) (.var 3)) (.cmp .ne (.bi .repr (.cons (.callk 9 .nil [2, 1, 0] (.cons (.var 1) (.cons (.var 0) (.cons (.var 2) .nil)))) .nil)) (.var 3))) (.cons (.ret (.cst (.bl false))) .nil) .nil) .nil))
def l1_l_two_right : S := .for_ (.nam 2) (.seq (.glb 4)) s1_l_two_right
def b_l_two_right : SL := (.cons (.iff (.cmp .ne (.bi .repr (.cons (.call 7 (.cons (.var 0) (.cons (.var 1) .nil))) .nil)) (.bi .repr (.cons (.call 12 (.cons (.var 0) (.cons (.var 1) .nil))) .nil))) (.cons (.ret (.cst (.bl false))) .nil) .nil) (.cons (.iff (.cmp .ne (.bi .repr (.cons (.callk 7 .nil [1, 0] (.cons (.var 1) (.cons (.var 0) .nil))) .nil)) (.bi .repr (.cons (.call 12 (.cons (.var 0) (.cons (.var 1) .nil))) .nil))) (.cons (.ret (.cst (.bl false))) .nil) .nil) (.cons l1_l_two_right (.cons (.ret (.cst (.bl true))) .nil))))
def f_l_two_right : Fn := ⟨"_law_two_right", 2, ["_law_left", "_law_right", "_law_deed", "_law_due"], b_l_two_right, false⟩
def c1_law : E := .lc (.nam 4) (.seq (.var 7)) [4] (.not (.val (.call 20 (.cons (.var 3) (.cons (.var 4) .nil))))) (.var 4)
def s1_law : SL := (.cons (.iff (.or (.not (.val (.call 19 (.cons (.var 3) .nil)))) (.not (.val (.call 19 (.cons (.call 18 (.cons (.var 6) (.cons (.var 3) .nil))) .nil))))) (.cons (.ret (.cst (.bl false))) .nil) .nil) (.cons (.iff (.cmp .ne c1_law (.lst .nil)) (.cons (.ret (.cst (.bl false))) .nil) .nil) .nil))
def l1_law : S := .for_ (.nam 3) (.seq (.var 7)) s1_law
def c2_law : E := .lc (.nam 9) (.rng (.cons (.cst (.int 3)) .nil)) [9] .yes (.call 17 (.cons (.var 6) .nil))
def s2_law : SL := (.cons (.asg (.nam 6) (.call 10 (.cons (.var 0) (.cons (.var 5) .nil)))) (.cons (.asg (.nam 7) (.bin .add c2_law (.lst (.cons (.cst (.int 1)) (.cons (.cst (.bl true)) (.cons (.tup (.cons (.cst (.str [108, 111, 116])) (.cons (.cst (.int 0)) .nil))) .nil)))))) (.cons l1_law .nil)))
def l2_law : S := .for_ (.nam 5) (.rng (.cons (.bi .max2 (.cons (.cst (.int 1)) (.cons (.bi .min2 (.cons (.cst (.int 20)) (.cons (.bi .len (.cons (.var 0) .nil)) .nil))) .nil))) .nil)) s2_law
def s3_law : SL := (.cons (.iff (.not (.val (.call 20 (.cons (.var 3) (.cons (.var 4) .nil))))) (.cons (.ret (.cst (.bl false))) .nil) .nil) .nil)
def l3_law : S := .for_ (.tup (.cons (.nam 3) (.cons (.nam 4) .nil))) (.seq (.lst (.cons (.tup (.cons (.var 2) (.cons (.cst (.int 1)) .nil))) (.cons (.tup (.cons (.bin .sub (.cst (.int 1)) (.var 2)) (.cons (.cst (.int 2)) .nil))) (.cons (.tup (.cons (.cst (.int 31623)) (.cons (.cst (.int 31623)) .nil))) (.cons (.tup (.cons (.var 2) (.cons (.un .neg (.cst (.int 1))) .nil))) (.cons (.tup (.cons (.un .neg (.var 2)) (.cons (.un .neg (.var 2)) .nil))) (.cons (.tup (.cons (.cst (.bl true)) (.cons (.cst (.int 1)) .nil))) (.cons (.tup (.cons (.cst (.int 2)) (.cons (.cst (.bl false)) .nil))) .nil))))))))) s3_law
def c3_law : E := .lc (.nam 8) (.seq (.var 1)) [8] (.not (.val (.call 19 (.cons (.var 8) .nil)))) (.var 8)
def b_law : SL := (.cons (.iff (.or (.cmp .ne (.glb 0) (.bin .pow (.cst (.int 10)) (.cst (.int 9)))) (.cmp .ne (.bi .repr (.cons (.glb 4) .nil)) (.bi .repr (.cons (.tup (.cons (.cst (.str [112, 108, 117, 115])) (.cons (.cst (.str [109, 105, 110, 117, 115])) (.cons (.cst (.str [116, 105, 109, 101, 115])) (.cons (.cst (.str [98, 101, 108, 111, 119])) (.cons (.cst (.str [115, 97, 109, 101])) .nil)))))) .nil)))) (.cons (.ret (.cst (.bl false))) .nil) .nil) (.cons (.asg (.nam 1) (.lst (.cons (.cst .non) (.cons (.cst (.str [])) (.cons (.cst (.str [97])) (.cons (.cst (.str [122, 122, 122, 122, 122, 122])) (.cons (.cst (.str [97, 98, 99, 100, 101, 102, 103])) (.cons (.cst (.str [65])) (.cons (.cst (.str [97, 49])) (.cons (.cst (.str [97, 32, 98])) (.cons (.cst (.int 5)) (.cons (.cst (.bl true)) (.cons (.lst (.cons (.cst (.str [97])) .nil)) (.cons .dic0 (.cons (.cst (.str [97, 10])) (.cons (.tup (.cons (.cst (.str [97])) .nil)) (.cons (.bin .add (.bin .pow (.cst (.int 10)) (.cst (.int 9))) (.cst (.int 1))) .nil))))))))))))))))) (.cons (.asg (.nam 1) (.bin .add (.var 1) (.lst (.cons (.tup (.cons (.cst (.str [112, 108, 97, 99, 101])) (.cons (.cst (.int 1)) (.cons (.cst (.str [65])) .nil)))) (.cons (.tup (.cons (.cst (.str [112, 108, 97, 99, 101])) (.cons (.cst (.int 1)) (.cons (.cst (.str [])) .nil)))) (.cons (.tup (.cons (.cst (.str [112, 108, 97, 99, 101])) (.cons (.cst (.bl true)) (.cons (.cst (.str [97])) .nil)))) (.cons (.tup (.cons (.cst (.str [108, 111, 116])) (.cons (.cst (.bl true)) .nil))) (.cons (.tup (.cons (.cst (.str [108, 111, 116])) (.cons (.un .neg (.cst (.int 1))) .nil))) .nil)))))))) (.cons (.expr (.mth .append (.var 1) (.cons (.tup (.cons (.cst (.str [112, 108, 97, 99, 101])) (.cons (.cst (.int 1)) (.cons (.cst (.str [98])) .nil)))) .nil))) (.cons (.iff (.cmp .ne c3_law (.lst .nil)) (.cons (.ret (.cst (.bl false))) .nil) .nil) (.cons (.asg (.nam 2) (.bin .pow (.cst (.int 10)) (.cst (.int 9)))) (.cons l3_law (.cons l2_law (.cons (.ret (.cst (.bl true))) .nil)))))))))
def f_law : Fn := ⟨"law", 1, ["_law_script", "_law_odd", "_law_most", "_law_left", "_law_right", "_law_k", "_law_pool_here", "_law_some", "_law_odd_one", "_law_turn"], b_law, false⟩
def TB : Tb := ⟨[f_is_whole, f_is_from, f_is_word, f_is_written, f_is_tuple_of, f_begins, f_is_worth, f_alike, f_reckoned, f_done, f_l_pool, f_l_take, f_l_same, f_l_two, f_l_own_word, f_l_own_number, f_l_own_worth, f_l_drawn, f_l_bent, f_l_looks_right, f_l_two_right, f_law],
  [("MOST", (.int 1000000000)), ("MOST_LETTERS", (.int 6)), ("FAR", (.int 1000000000000000000000000000000000000000000000000000000000000)), ("SIGNS", (.str [97, 98, 99, 100, 101, 102, 103, 104, 105, 106, 107, 108, 109, 110, 111, 112, 113, 114, 115, 116, 117, 118, 119, 120, 121, 122])), ("WORDS", (.tup [(.str [112, 108, 117, 115]), (.str [109, 105, 110, 117, 115]), (.str [116, 105, 109, 101, 115]), (.str [98, 101, 108, 111, 119]), (.str [115, 97, 109, 101])]))],
  [(6, 0, [0]), (9, 0, [2, 1, 0]), (7, 0, [1, 0])]⟩
def top (i : Nat) : Stmt := PySem.Challenge.pw_waitedmeets_k01_worths_of_all_sorts.main.body.getD i (.Pass ⟨0, 0, 0, 0⟩)
def dd (x : Str) (i : Nat) : He.DefD := ⟨(x, none), x, x, C8.fnArgs (top i), C8.fnBody (top i), C8.fnScope (top i), [], []⟩
def ds : List He.DefD := [dd "is_whole" 6, dd "is_from" 7, dd "is_word" 8, dd "is_written" 9, dd "is_tuple_of" 10, dd "begins" 11, dd "is_worth" 12, dd "alike" 13, dd "reckoned" 14, dd "done" 15, dd "_law_pool" 17, dd "_law_take" 18, dd "_law_same" 19, dd "_law_two" 20, dd "_law_own_word" 21, dd "_law_own_number" 22, dd "_law_own_worth" 23, dd "_law_drawn" 24, dd "_law_bent" 25, dd "_law_looks_right" 26, dd "_law_two_right" 27, dd "law" 28]
theorem k_is_whole : DefOk TB 0 f_is_whole (dd "is_whole" 6) := by
  refine ⟨by kernel_rfl, fun _ _ _ _ _ _ us hl => match us, hl with | [_], _ => rfl, ?_⟩
  exact fun n ks h => (bk_none (by decide +kernel) h).elim
theorem k_is_from : DefOk TB 1 f_is_from (dd "is_from" 7) := by
  refine ⟨by kernel_rfl, fun _ _ _ _ _ _ us hl => match us, hl with | [_, _, _], _ => rfl, ?_⟩
  exact fun n ks h => (bk_none (by decide +kernel) h).elim
theorem k_is_word : DefOk TB 2 f_is_word (dd "is_word" 8) := by
  refine ⟨by kernel_rfl, fun _ _ _ _ _ _ us hl => match us, hl with | [_], _ => rfl, ?_⟩
  exact fun n ks h => (bk_none (by decide +kernel) h).elim
theorem k_is_written : DefOk TB 3 f_is_written (dd "is_written" 9) := by
  refine ⟨by kernel_rfl, fun _ _ _ _ _ _ us hl => match us, hl with | [_], _ => rfl, ?_⟩
  exact fun n ks h => (bk_none (by decide +kernel) h).elim
theorem k_is_tuple_of : DefOk TB 4 f_is_tuple_of (dd "is_tuple_of" 10) := by
  refine ⟨by kernel_rfl, fun _ _ _ _ _ _ us hl => match us, hl with | [_, _, _], _ => rfl, ?_⟩
  exact fun n ks h => (bk_none (by decide +kernel) h).elim
theorem k_begins : DefOk TB 5 f_begins (dd "begins" 11) := by
  refine ⟨by kernel_rfl, fun _ _ _ _ _ _ us hl => match us, hl with | [_, _, _], _ => rfl, ?_⟩
  exact fun n ks h => (bk_none (by decide +kernel) h).elim
theorem k_is_worth : DefOk TB 6 f_is_worth (dd "is_worth" 12) := by
  refine ⟨by kernel_rfl, fun _ _ _ _ _ _ us hl => match us, hl with | [_], _ => rfl, ?_⟩
  intro n ks h kV doc pm an cdv ct us ws zs h1 h2 h3
  obtain ⟨rfl, rfl⟩ := kw_one (n0 := 0) (k0 := [0]) (by decide +kernel) h
  match us, ws, h1, h2 with
  | [], [w0], _, _ =>
    cases (show some [w0] = some zs from h3)
    rfl
theorem k_alike : DefOk TB 7 f_alike (dd "alike" 13) := by
  refine ⟨by kernel_rfl, fun _ _ _ _ _ _ us hl => match us, hl with | [_, _], _ => rfl, ?_⟩
  intro n ks h kV doc pm an cdv ct us ws zs h1 h2 h3
  obtain ⟨rfl, rfl⟩ := kw_one (n0 := 0) (k0 := [1, 0]) (by decide +kernel) h
  match us, ws, h1, h2 with
  | [], [w0, w1], _, _ =>
    cases (show some [w1, w0] = some zs from h3)
    rfl
theorem k_reckoned : DefOk TB 8 f_reckoned (dd "reckoned" 14) := by
  refine ⟨by kernel_rfl, fun _ _ _ _ _ _ us hl => match us, hl with | [_, _, _], _ => rfl, ?_⟩
  exact fun n ks h => (bk_none (by decide +kernel) h).elim
theorem k_done : DefOk TB 9 f_done (dd "done" 15) := by
  refine ⟨by kernel_rfl, fun _ _ _ _ _ _ us hl => match us, hl with | [_, _, _], _ => rfl, ?_⟩
  intro n ks h kV doc pm an cdv ct us ws zs h1 h2 h3
  obtain ⟨rfl, rfl⟩ := kw_one (n0 := 0) (k0 := [2, 1, 0]) (by decide +kernel) h
  match us, ws, h1, h2 with
  | [], [w0, w1, w2], _, _ =>
    cases (show some [w2, w1, w0] = some zs from h3)
    rfl
theorem k_l_pool : DefOk TB 10 f_l_pool (dd "_law_pool" 17) := by
  refine ⟨by kernel_rfl, fun _ _ _ _ _ _ us hl => match us, hl with | [_, _], _ => rfl, ?_⟩
  exact fun n ks h => (bk_none (by decide +kernel) h).elim
theorem k_l_take : DefOk TB 11 f_l_take (dd "_law_take" 18) := by
  refine ⟨by kernel_rfl, fun _ _ _ _ _ _ us hl => match us, hl with | [_, _], _ => rfl, ?_⟩
  exact fun n ks h => (bk_none (by decide +kernel) h).elim
theorem k_l_same : DefOk TB 12 f_l_same (dd "_law_same" 19) := by
  refine ⟨by kernel_rfl, fun _ _ _ _ _ _ us hl => match us, hl with | [_, _], _ => rfl, ?_⟩
  exact fun n ks h => (bk_none (by decide +kernel) h).elim
theorem k_l_two : DefOk TB 13 f_l_two (dd "_law_two" 20) := by
  refine ⟨by kernel_rfl, fun _ _ _ _ _ _ us hl => match us, hl with | [_, _, _], _ => rfl, ?_⟩
  exact fun n ks h => (bk_none (by decide +kernel) h).elim
theorem k_l_own_word : DefOk TB 14 f_l_own_word (dd "_law_own_word" 21) := by
  refine ⟨by kernel_rfl, fun _ _ _ _ _ _ us hl => match us, hl with | [_], _ => rfl, ?_⟩
  exact fun n ks h => (bk_none (by decide +kernel) h).elim
theorem k_l_own_number : DefOk TB 15 f_l_own_number (dd "_law_own_number" 22) := by
  refine ⟨by kernel_rfl, fun _ _ _ _ _ _ us hl => match us, hl with | [_, _], _ => rfl, ?_⟩
  exact fun n ks h => (bk_none (by decide +kernel) h).elim
theorem k_l_own_worth : DefOk TB 16 f_l_own_worth (dd "_law_own_worth" 23) := by
  refine ⟨by kernel_rfl, fun _ _ _ _ _ _ us hl => match us, hl with | [_], _ => rfl, ?_⟩
  exact fun n ks h => (bk_none (by decide +kernel) h).elim
theorem k_l_drawn : DefOk TB 17 f_l_drawn (dd "_law_drawn" 24) := by
  refine ⟨by kernel_rfl, fun _ _ _ _ _ _ us hl => match us, hl with | [_], _ => rfl, ?_⟩
  exact fun n ks h => (bk_none (by decide +kernel) h).elim
theorem k_l_bent : DefOk TB 18 f_l_bent (dd "_law_bent" 25) := by
  refine ⟨by kernel_rfl, fun _ _ _ _ _ _ us hl => match us, hl with | [_, _], _ => rfl, ?_⟩
  exact fun n ks h => (bk_none (by decide +kernel) h).elim
theorem k_l_looks_right : DefOk TB 19 f_l_looks_right (dd "_law_looks_right" 26) := by
  refine ⟨by kernel_rfl, fun _ _ _ _ _ _ us hl => match us, hl with | [_], _ => rfl, ?_⟩
  exact fun n ks h => (bk_none (by decide +kernel) h).elim
theorem k_l_two_right : DefOk TB 20 f_l_two_right (dd "_law_two_right" 27) := by
  refine ⟨by kernel_rfl, fun _ _ _ _ _ _ us hl => match us, hl with | [_, _], _ => rfl, ?_⟩
  exact fun n ks h => (bk_none (by decide +kernel) h).elim
theorem k_law : DefOk TB 21 f_law (dd "law" 28) := by
  refine ⟨by kernel_rfl, fun _ _ _ _ _ _ us hl => match us, hl with | [_], _ => rfl, ?_⟩
  exact fun n ks h => (bk_none (by decide +kernel) h).elim
theorem oks : DefsOk TB 0 TB.fns ds := ⟨k_is_whole, k_is_from, k_is_word, k_is_written, k_is_tuple_of, k_begins, k_is_worth, k_alike, k_reckoned, k_done, k_l_pool, k_l_take, k_l_same, k_l_two, k_l_own_word, k_l_own_number, k_l_own_worth, k_l_drawn, k_l_bent, k_l_looks_right, k_l_two_right, k_law, trivial⟩
-- law: def 21, row 28; names: 0 is_whole, 1 is_from, 2 is_word, 3 is_written, 4 is_tuple_of, 5 begins, 6 is_worth, 7 alike, 8 reckoned, 9 done, 10 _law_pool, 11 _law_take, 12 _law_same, 13 _law_two, 14 _law_own_word, 15 _law_own_number, 16 _law_own_worth, 17 _law_drawn, 18 _law_bent, 19 _law_looks_right, 20 _law_two_right, 21 law
end K01
end

section
set_option maxHeartbeats 0
namespace K01
open PySem PySem.Spec PyProof.Rows L2 Ev
abbrev R : PySem.W.OpenRow := PySem.W.OpenLaw.row PySem.Challenge.rw_waitedmeets_k01_worths_of_all_sorts
abbrev hk : PySem.W.Hook := hookE 4 TB ds
def ob (s : PySem.W.SharedT) : He.AlD := obsEG 4 TB ds (HandSHeadRun.getT s)
theorem ob_eq (s : PySem.W.SharedT) : ob s = hk.obs s.abs := obsEG_eq (HandSHeadRun.getT_eq s)
def loose : List Str := ((TB.fns.map (·.name)).filter fun n => !(n == ("law" : Str))) ++ TB.gl.map (·.1)
theorem run_ (w : World) : HandSHeadRun.RunEq R (PySem.W.view R.prog [28]) hk ob 4000 loose w := by
  intro os
  kernel_rfl
end K01
open PySem PySem.W PySem.Calls PyProof.Rows
theorem k01_of (law : ∀ is : List Int, is.length ≤ 63 → ∃ M, Ev.run K01.TB.fns (Ev.gvOf K01.TB) 64 8 21 [.frz (is.map Ev.D.int)] 0 [] = .ok (.bl true) M) : PySem.Challenge.rw_waitedmeets_k01_worths_of_all_sorts.Holds := by
  w_on; o_law
  refine HandSHeadRun.head_any (r := OpenLaw.row PySem.Challenge.rw_waitedmeets_k01_worths_of_all_sorts) (q := view (OpenLaw.row PySem.Challenge.rw_waitedmeets_k01_worths_of_all_sorts).prog [28]) (H := K01.hk) (ob := K01.ob) (M := 4000) (loose := K01.loose) (d := HandSHeadRun.topDef (OpenLaw.row PySem.Challenge.rw_waitedmeets_k01_worths_of_all_sorts).prog 28) (kwd := []) K01.ob_eq
    (by kernel_rfl) (fun s => by kernel_rfl) K01.run_ (by kernel_rfl) (by kernel_rfl) (by kernel_rfl) (by rfl) (by first | assumption | decide +kernel) (by decide +kernel) ⟨rfl, rfl, rfl, rfl, rfl, by decide +kernel⟩ ?hw ?hc
  case hw => w_witness2
  case hc =>
    exact Ev.walk_ev (l := PySem.Challenge.rw_waitedmeets_k01_worths_of_all_sorts) (n := 63) (k := 8) (wf := 64) (f0 := 21) (TB := K01.TB) (ds := K01.ds) (fn0 := K01.f_law) (x := "_law_script") rfl (by decide) (by kernel_rfl) ⟨rfl, by decide, by decide⟩ K01.oks rfl rfl (by kernel_rfl) (fun w h z => z) law
end

section
namespace K01
open PySem Ev
variable {k b n m p : Nat} {M : Sto}
abbrev cf (k : Nat) : Cf := ⟨run TB.fns (gvOf TB) 64 k, gvOf TB, 64⟩
theorem take1 {m : Int} (P : PoolAt p M) (hm : 0 < m ∧ m < 1073741824) :
    ∃ r M', run TB.fns (gvOf TB) 64 (k + 1) 11 [.loc p, .int m] b M = .ok (.int r) M' ∧ 0 ≤ r ∧ r < m ∧ PoolAt p M' ∧ M'.length = M.length ∧ Nx p M M' := by
  obtain ⟨a, s, h, hs⟩ := P
  have hp := lt_of_get h
  suffices z : ∃ r a' s', run TB.fns (gvOf TB) 64 (k + 1) 11 [.loc p, .int m] b M = .ok (.int r) (M.set p (.lst [.int a', .int s'])) ∧ 0 ≤ r ∧ r < m ∧ 0 ≤ s' ∧ s' < 2147483647 by
    obtain ⟨r, a', s', e, r1, r2, r3⟩ := z
    exact ⟨r, _, e, r1, r2, ⟨a', s', List.getElem?_set_self hp, r3⟩, by simp, by simp, fun n _ ne => List.getElem?_set_ne (Ne.symm ne)⟩
  by_cases ha : 0 < a
  · refine ⟨a % m, a / m, s, ?_, Int.emod_nonneg _ (by omega), Int.emod_lt_of_pos _ hm.1, hs.1, hs.2⟩
    rw [call_flat (fn := f_l_take) rfl rfl rfl (d := .int (a % m)) (M' := M.set p (.lst [.int (a / m), .int s])) (by
      simp -implicitDefEqProofs [q_var, q_cst, q_glb, q_neg, q_no, q_bin, q_cmp, q_chn, q_and, q_or, q_ife, q_tup, q_lst, q_dic, q_ix, q_sl, q_rev, q_call, q_callk, q_bi, q_lrng, q_mth, q_isi, q_nil, q_cons, q_on, q_os, q_tyes, q_tval, q_tnot, q_tand, q_tor, q_tcmp, q_tchn, q_tife, q_iseq, q_irng, q_ienu, q_izip, q_gnam, q_gtup, q_gsub, q_gnil, q_gcons, q_expr, q_asg, q_par, q_aug, q_ret, q_retn, q_pass, q_brk, q_cont, q_iff, q_snil, q_scons, q_start, q_srcT, q_srcF, q_srcS, q_srcL, cap, Nat.add_assoc, f_l_take, b_l_take, i1_l_take, h, ha, hm, L2.atI, L2.ixN]
      done) rfl]
    simp
  · have e1 : 0 ≤ (s * 48271 + 11) % 2147483647 := Int.emod_nonneg _ (by omega)
    have e2 : (s * 48271 + 11) % 2147483647 < 2147483647 := Int.emod_lt_of_pos _ (by omega)
    refine ⟨((s * 48271 + 11) % 2147483647) * ((s * 48271 + 11) % 2147483647) % 2147483629 / 64 % m, a, (s * 48271 + 11) % 2147483647, ?_, Int.emod_nonneg _ (by omega), Int.emod_lt_of_pos _ hm.1, e1, e2⟩
    generalize eq : (s * 48271 + 11) % 2147483647 = s2 at e1 e2
    have sm1 : small s2 = true := small_of (by omega) (by omega)
    have h2 : (M.set p (.lst [.int a, .int s2]))[p]? = some (.lst [.int a, .int s2]) := List.getElem?_set_self hp
    rw [call_flat (fn := f_l_take) rfl rfl rfl (d := .int (s2 * s2 % 2147483629 / 64 % m)) (M' := M.set p (.lst [.int a, .int s2])) (by
      simp -implicitDefEqProofs [q_var, q_cst, q_glb, q_neg, q_no, q_bin, q_cmp, q_chn, q_and, q_or, q_ife, q_tup, q_lst, q_dic, q_ix, q_sl, q_rev, q_call, q_callk, q_bi, q_lrng, q_mth, q_isi, q_nil, q_cons, q_on, q_os, q_tyes, q_tval, q_tnot, q_tand, q_tor, q_tcmp, q_tchn, q_tife, q_iseq, q_irng, q_ienu, q_izip, q_gnam, q_gtup, q_gsub, q_gnil, q_gcons, q_expr, q_asg, q_par, q_aug, q_ret, q_retn, q_pass, q_brk, q_cont, q_iff, q_snil, q_scons, q_start, q_srcT, q_srcF, q_srcS, q_srcL, cap, Nat.add_assoc, f_l_take, b_l_take, i1_l_take, h, h2, ha, hm, L2.atI, L2.ixN, eq, sm1]
      done) rfl]
    simp
theorem atI_nat {α : Type} {xs : List α} {r : Int} (h0 : 0 ≤ r) (h1 : r < xs.length) : L2.atI xs r = xs[r.toNat]? := by
  unfold L2.atI L2.ixN
  rw [if_pos h0, if_pos h1]
  rfl
theorem look {n : Nat} {o : O} (h : M[n]? = some o) (X : Sto) : (M ++ X)[n]? = some o := by rw [List.getElem?_append_left (lt_of_get h)]; exact h
theorem cutD_map {lo hi : Option Int} (is : List Int) : cutD (is.map D.int) lo hi = (cutD is lo hi).map D.int := by
  unfold cutD
  rw [List.length_map, List.map_take, List.map_drop]
theorem cutD_le {α : Type} {lo hi : Option Int} (is : List α) : (cutD is lo hi).length ≤ is.length := by
  unfold cutD
  rw [List.length_take, List.length_drop]
  omega
theorem pool1 {is : List Int} (hl : is.length ≤ 63) (i : Nat) (hi : i ≤ 100) : ∃ a s, run TB.fns (gvOf TB) 64 (k + 1) 10 [.frz (is.map D.int), .int i] b M = .ok (.loc M.length) (M ++ [.lst [.int a, .int s]]) ∧ 0 ≤ s ∧ s < 2147483647 := by
  have cl : (cutD is (some (i : Int)) (some ((i : Int) + 1))).length ≤ 63 := Nat.le_trans (cutD_le is) hl
  have e0 : semSl (.frz (is.map D.int)) (some (i : Int)) (some ((i : Int) + 1)) M = .ok (.loc M.length) (M ++ [.lst ((cutD is (some (i : Int)) (some ((i : Int) + 1))).map D.int)]) := by
    rw [← cutD_map]; rfl
  generalize cutD is (some (i : Int)) (some ((i : Int) + 1)) = cs at cl e0
  obtain ⟨c, ec⟩ : ∃ c : Int, L2.atI (cs.map D.int ++ [.int 0]) 0 = some (.int c) := by
    cases cs with
    | nil => exact ⟨0, rfl⟩
    | cons c cs =>
      refine ⟨c, ?_⟩
      unfold L2.atI L2.ixN
      simp
      rw [if_pos (by omega)]
      rfl
  have hle : cs.length + 1 ≤ 16777216 := by omega
  have s1 : small (7919 * (i : Int)) = true := small_of (by omega) (by omega)
  have s2 : small (if c ≥ 1000000000000000000 then 1 else 0) = true := by split <;> rfl
  refine ⟨c * (if c ≥ 1000000000000000000 then 1 else 0), (c % 2147483629 + 7919 * (i : Int) + 104729) * 48271 % 2147483647, ?_, Int.emod_nonneg _ (by omega), Int.emod_lt_of_pos _ (by omega)⟩
  rw [call_list (fn := f_l_pool) (n := M.length + 3) (M' := M ++ [.lst (cs.map D.int), .lst [.int 0], .lst (cs.map D.int ++ [.int 0]), .lst [.int (c * (if c ≥ 1000000000000000000 then 1 else 0)), .int ((c % 2147483629 + 7919 * (i : Int) + 104729) * 48271 % 2147483647)]]) (ys := [.int (c * (if c ≥ 1000000000000000000 then 1 else 0)), .int ((c % 2147483629 + 7919 * (i : Int) + 104729) * 48271 % 2147483647)]) rfl rfl rfl ?_ (by omega) (by simp) (by simp)]
  · rw [take_ap]
  · simp -implicitDefEqProofs [q_var, q_cst, q_glb, q_neg, q_no, q_bin, q_cmp, q_chn, q_and, q_or, q_ife, q_tup, q_lst, q_dic, q_ix, q_sl, q_rev, q_call, q_callk, q_bi, q_lrng, q_mth, q_isi, q_nil, q_cons, q_on, q_os, q_tyes, q_tval, q_tnot, q_tand, q_tor, q_tcmp, q_tchn, q_tife, q_iseq, q_irng, q_ienu, q_izip, q_gnam, q_gtup, q_gsub, q_gnil, q_gcons, q_expr, q_asg, q_par, q_aug, q_ret, q_retn, q_pass, q_brk, q_cont, q_iff, q_snil, q_scons, q_start, q_srcT, q_srcF, q_srcS, q_srcL, cap, Nat.add_assoc, f_l_pool, b_l_pool, e0, ec, hle, s1, s2]
/-! ### things as data -/
def At (M : Sto) (x : D) (d : PyData) : Prop := py M MX x = some d
theorem allS_mono {α β : Type} {f g : α → Option β} (h : ∀ x y, f x = some y → g x = some y) : ∀ {xs : List α} {ys : List β}, allS (xs.map f) = some ys → allS (xs.map g) = some ys
  | [], ys, e => e
  | x :: xs, ys, e => by
    rw [List.map_cons] at e ⊢
    cases ef : f x with
    | none => rw [ef] at e; cases e
    | some y =>
      rw [ef] at e
      cases er : allS (xs.map f) with
      | none =>
        have e2 : (match allS (xs.map f) with
          | some ys => some (y :: ys)
          | none => none) = some ys := e
        rw [er] at e2; cases e2
      | some zs =>
        have e2 : (match allS (xs.map f) with
          | some ys => some (y :: ys)
          | none => none) = some ys := e
        rw [er] at e2
        rw [h x y ef]
        show (match allS (xs.map g) with
          | some ys => some (y :: ys)
          | none => none) = some ys
        rw [allS_mono h er]
        exact e2
theorem py_mono : ∀ {k : Nat} {x : D} {d : PyData}, py M k x = some d → py M (k + 1) x = some d
  | 0, x, d, h => by cases h
  | k + 1, x, d, h => by
    cases x with
    | tup xs =>
      have h2 : (allS (xs.map (py M k))).map PyData.tuple = some d := h
      cases e : allS (xs.map (py M k)) with
      | none => rw [e] at h2; cases h2
      | some ys =>
        rw [e] at h2
        show (allS (xs.map (py M (k + 1)))).map PyData.tuple = some d
        rw [allS_mono (fun x y q => py_mono q) e]
        exact h2
    | frz xs =>
      have h2 : (allS (xs.map (py M k))).map PyData.list = some d := h
      cases e : allS (xs.map (py M k)) with
      | none => rw [e] at h2; cases h2
      | some ys =>
        rw [e] at h2
        show (allS (xs.map (py M (k + 1)))).map PyData.list = some d
        rw [allS_mono (fun x y q => py_mono q) e]
        exact h2
    | loc n =>
      unfold py at h ⊢
      dsimp only at h ⊢
      split at h
      · rename_i xs em
        cases e : allS (xs.map (py M k)) with
        | none => rw [e] at h; cases h
        | some ys =>
          rw [e] at h
          try rw [em]
          try dsimp only
          rw [allS_mono (fun x y q => py_mono q) e]
          exact h
      · cases h
    | non => exact h
    | bl _ => exact h
    | int _ => exact h
    | str _ => exact h
    | fn _ => cases h
theorem at_inv {x : D} {d : PyData} (h : At M x d) : match d with
    | .none => x = .non
    | .bool b => x = .bl b
    | .int i => x = .int i
    | .str s => x = .str s.cps.toList ∧ codes s.cps.toList = true
    | .tuple ds => ∃ xs, x = .tup xs ∧ allS (xs.map (py M 11)) = some ds
    | .list ds => (∃ xs, x = .frz xs) ∨ ∃ n xs, x = .loc n ∧ M[n]? = some (.lst xs)
    | .dict _ => False := by
  unfold At at h
  rw [show MX = 11 + 1 from rfl] at h
  cases x with
  | non => cases h; rfl
  | bl _ => cases h; rfl
  | int _ => cases h; rfl
  | str s =>
    have h2 : (match codes s with
      | true => some (PyData.str ⟨s.toArray⟩)
      | false => none) = some d := h
    cases e : codes s with
    | false => rw [e] at h2; cases h2
    | true =>
      rw [e] at h2
      cases h2
      exact ⟨by simp, by simpa using e⟩
  | tup xs =>
    have h2 : (allS (xs.map (py M 11))).map PyData.tuple = some d := h
    cases e : allS (xs.map (py M 11)) with
    | none => rw [e] at h2; cases h2
    | some ys =>
      rw [e] at h2
      cases h2
      exact ⟨xs, rfl, e⟩
  | frz xs =>
    have h2 : (allS (xs.map (py M 11))).map PyData.list = some d := h
    cases e : allS (xs.map (py M 11)) with
    | none => rw [e] at h2; cases h2
    | some ys =>
      rw [e] at h2
      cases h2
      exact .inl ⟨xs, rfl⟩
  | loc n =>
    unfold py at h
    dsimp only at h
    split at h
    · rename_i xs em
      cases e : allS (xs.map (py M 11)) with
      | none => rw [e] at h; cases h
      | some ys =>
        rw [e] at h
        cases h
        exact .inr ⟨n, xs, rfl, em⟩
    · cases h
  | fn _ => cases h
theorem allS_two {α β : Type} {f : α → Option β} {a b : β} {xs : List α} (h : allS (xs.map f) = some [a, b]) : ∃ x y, xs = [x, y] ∧ f x = some a ∧ f y = some b := by
  have l : ∀ {xs : List α} {ys : List β}, allS (xs.map f) = some ys → xs.length = ys.length := by
    intro xs
    induction xs with
    | nil => intro ys e; cases e; rfl
    | cons x xs ih =>
      intro ys e
      rw [List.map_cons] at e
      cases ef : f x with
      | none => rw [ef] at e; cases e
      | some y =>
        rw [ef] at e
        cases er : allS (xs.map f) with
        | none =>
          have e2 : (match allS (xs.map f) with
            | some ys => some (y :: ys)
            | none => none) = some ys := e
          rw [er] at e2; cases e2
        | some zs =>
          have e2 : (match allS (xs.map f) with
            | some ys => some (y :: ys)
            | none => none) = some ys := e
          rw [er] at e2
          cases e2
          rw [List.length_cons, List.length_cons, ih er]
  have z := l h
  match xs, z with
  | [x, y], _ =>
    cases ex : f x with
    | none => simp [allS, ex] at h
    | some a' =>
      cases ey : f y with
      | none => simp [allS, ex, ey] at h
      | some b' =>
        simp [allS, ex, ey] at h
        exact ⟨x, y, rfl, by rw [← h.1]; exact ex, by rw [← h.2]; exact ey⟩
theorem allS_three {α β : Type} {f : α → Option β} {a b c : β} {xs : List α} (h : allS (xs.map f) = some [a, b, c]) : ∃ x y z, xs = [x, y, z] ∧ f x = some a ∧ f y = some b ∧ f z = some c := by
  match xs with
  | [] => simp [allS] at h
  | x :: xs =>
    rw [List.map_cons] at h
    cases ex : f x with
    | none => rw [ex] at h; cases h
    | some a' =>
      rw [ex] at h
      have e2 : (match allS (xs.map f) with
        | some ys => some (a' :: ys)
        | none => none) = some [a, b, c] := h
      cases er : allS (xs.map f) with
      | none => rw [er] at e2; cases e2
      | some zs =>
        rw [er] at e2
        cases e2
        obtain ⟨y, z, rfl, h1, h2⟩ := allS_two er
        exact ⟨x, y, z, rfl, ex, h1, h2⟩
theorem allS_len {α β : Type} {f : α → Option β} : ∀ {xs : List α} {ys : List β}, allS (xs.map f) = some ys → xs.length = ys.length
  | [], ys, e => by cases e; rfl
  | x :: xs, ys, e => by
    rw [List.map_cons] at e
    cases ef : f x with
    | none => rw [ef] at e; cases e
    | some y =>
      rw [ef] at e
      have e2 : (match allS (xs.map f) with
        | some ys => some (y :: ys)
        | none => none) = some ys := e
      cases er : allS (xs.map f) with
      | none => rw [er] at e2; cases e2
      | some zs =>
        rw [er] at e2
        cases e2
        rw [List.length_cons, List.length_cons, allS_len er]
end K01
end

section
namespace K01
open PySem Ev
variable {k b n m p : Nat} {M : Sto} {x : D} {d : PyData}
def tyOf : PyData → Option Ty
  | .none => some .non
  | .bool _ => some .bl
  | .int _ => some .int
  | .str _ => some .str
  | .tuple _ => some .tup
  | .list _ => some .lst
  | .dict _ => none
theorem ty_at (h : At M x d) : tyD M x = tyOf d := by
  have z := at_inv h
  cases d with
  | list ds =>
    rcases z with ⟨xs, rfl⟩ | ⟨n, xs, rfl, e⟩
    · rfl
    · rw [ty_loc, e]; rfl
  | dict _ => exact z.elim
  | tuple ds => obtain ⟨xs, rfl, _⟩ := z; rfl
  | str s => rw [z.1]; rfl
  | none => rw [z]; rfl
  | bool _ => rw [z]; rfl
  | int _ => rw [z]; rfl
theorem g0 : gvOf TB 0 = some (.int 1000000000) := id rfl
theorem g1 : gvOf TB 1 = some (.int 6) := id rfl
theorem g2 : gvOf TB 2 = some (.int 1000000000000000000000000000000000000000000000000000000000000) := id rfl
def SG : List Nat := [97, 98, 99, 100, 101, 102, 103, 104, 105, 106, 107, 108, 109, 110, 111, 112, 113, 114, 115, 116, 117, 118, 119, 120, 121, 122]
theorem g3 : gvOf TB 3 = some (.str SG) := id rfl
def wholeP : PyData → Bool
  | .int _ => true
  | _ => false
theorem w0 (h : At M x d) : run TB.fns (gvOf TB) 64 (k + 1) 0 [x] b M = .ok (.bl (wholeP d)) M := by
  have t := ty_at h
  rw [call_flat (fn := f_is_whole) (d := .bl (wholeP d)) (M' := M) rfl rfl rfl ?_ (by simp)]
  · rw [List.take_length]
  · cases d <;> first | (exact (at_inv h).elim) | simp -implicitDefEqProofs [q_var, q_cst, q_glb, q_neg, q_no, q_bin, q_cmp, q_chn, q_and, q_or, q_ife, q_tup, q_lst, q_dic, q_ix, q_sl, q_rev, q_call, q_callk, q_bi, q_lrng, q_mth, q_isi, q_nil, q_cons, q_on, q_os, q_tyes, q_tval, q_tnot, q_tand, q_tor, q_tcmp, q_tchn, q_tife, q_iseq, q_irng, q_ienu, q_izip, q_gnam, q_gtup, q_gsub, q_gnil, q_gcons, q_expr, q_asg, q_par, q_aug, q_ret, q_retn, q_pass, q_brk, q_cont, q_iff, q_snil, q_scons, q_start, q_srcT, q_srcF, q_srcS, q_srcL, cap, Nat.add_assoc, f_is_whole, b_is_whole, t, tyOf, isAny, isTy, wholeP]
def fromP (d : PyData) (lo hi : Int) : Bool := match d with
  | .int i => decide (lo ≤ i) && decide (i ≤ hi)
  | _ => false
theorem w1 (h : At M x d) (lo hi : Int) : run TB.fns (gvOf TB) 64 (k + 2) 1 [x, .int lo, .int hi] b M = .ok (.bl (fromP d lo hi)) M := by
  have e := w0 (k := k) (b := M.length) h
  rw [call_flat (fn := f_is_from) (d := .bl (fromP d lo hi)) (M' := M) rfl rfl rfl ?_ (by simp)]
  · rw [List.take_length]
  · cases d with
    | int i =>
      have z := at_inv h
      dsimp only at z
      subst z
      by_cases h1 : lo ≤ i
      · simp -implicitDefEqProofs [q_var, q_cst, q_glb, q_neg, q_no, q_bin, q_cmp, q_chn, q_and, q_or, q_ife, q_tup, q_lst, q_dic, q_ix, q_sl, q_rev, q_call, q_callk, q_bi, q_lrng, q_mth, q_isi, q_nil, q_cons, q_on, q_os, q_tyes, q_tval, q_tnot, q_tand, q_tor, q_tcmp, q_tchn, q_tife, q_iseq, q_irng, q_ienu, q_izip, q_gnam, q_gtup, q_gsub, q_gnil, q_gcons, q_expr, q_asg, q_par, q_aug, q_ret, q_retn, q_pass, q_brk, q_cont, q_iff, q_snil, q_scons, q_start, q_srcT, q_srcF, q_srcS, q_srcL, cap, Nat.add_assoc, f_is_from, b_is_from, e, wholeP, fromP, h1]
      · simp -implicitDefEqProofs [q_var, q_cst, q_glb, q_neg, q_no, q_bin, q_cmp, q_chn, q_and, q_or, q_ife, q_tup, q_lst, q_dic, q_ix, q_sl, q_rev, q_call, q_callk, q_bi, q_lrng, q_mth, q_isi, q_nil, q_cons, q_on, q_os, q_tyes, q_tval, q_tnot, q_tand, q_tor, q_tcmp, q_tchn, q_tife, q_iseq, q_irng, q_ienu, q_izip, q_gnam, q_gtup, q_gsub, q_gnil, q_gcons, q_expr, q_asg, q_par, q_aug, q_ret, q_retn, q_pass, q_brk, q_cont, q_iff, q_snil, q_scons, q_start, q_srcT, q_srcF, q_srcS, q_srcL, cap, Nat.add_assoc, f_is_from, b_is_from, e, wholeP, fromP, h1]
    | _ => simp -implicitDefEqProofs [q_var, q_cst, q_glb, q_neg, q_no, q_bin, q_cmp, q_chn, q_and, q_or, q_ife, q_tup, q_lst, q_dic, q_ix, q_sl, q_rev, q_call, q_callk, q_bi, q_lrng, q_mth, q_isi, q_nil, q_cons, q_on, q_os, q_tyes, q_tval, q_tnot, q_tand, q_tor, q_tcmp, q_tchn, q_tife, q_iseq, q_irng, q_ienu, q_izip, q_gnam, q_gtup, q_gsub, q_gnil, q_gcons, q_expr, q_asg, q_par, q_aug, q_ret, q_retn, q_pass, q_brk, q_cont, q_iff, q_snil, q_scons, q_start, q_srcT, q_srcF, q_srcS, q_srcL, cap, Nat.add_assoc, f_is_from, b_is_from, e, wholeP, fromP]
def inRange (n : Nat) : Bool := decide (1 ≤ (n : Int)) && decide ((n : Int) ≤ 6)
def wordS (s : List Nat) : Bool := inRange s.length && s.all fun c => SG.contains c
def wordP : PyData → Bool
  | .str s => wordS s.cps.toList
  | _ => false
def shortS : PyData → Bool
  | .str s => Nat.ble s.cps.toList.length 1000
  | _ => true
theorem cw_ev {c : Cf} (hg : c.gv 3 = some (.str SG)) {s : List Nat} {a1 : Option D} (hl : s.length ≤ 1000) : evE c b c1_is_word [some (.str s), a1] M = .ok (.loc M.length) (M ++ [.lst ((s.map fun c => SG.contains c).map D.bl)]) := by
  unfold c1_is_word
  rw [lc_ev (src := .str s) (M1 := M) (xs := (s.map fun c => SG.contains c).map D.bl) (M2 := M) (by simp -implicitDefEqProofs [q_var, q_cst, q_glb, q_neg, q_no, q_bin, q_cmp, q_chn, q_and, q_or, q_ife, q_tup, q_lst, q_dic, q_ix, q_sl, q_rev, q_call, q_callk, q_bi, q_lrng, q_mth, q_isi, q_nil, q_cons, q_on, q_os, q_tyes, q_tval, q_tnot, q_tand, q_tor, q_tcmp, q_tchn, q_tife, q_iseq, q_irng, q_ienu, q_izip, q_gnam, q_gtup, q_gsub, q_gnil, q_gcons, q_expr, q_asg, q_par, q_aug, q_ret, q_retn, q_pass, q_brk, q_cont, q_iff, q_snil, q_scons, q_start, q_srcT, q_srcF, q_srcS, q_srcL, cap, Nat.add_assoc]) ?_, seal_flat (by simp [cap]; omega) (flats_bl _), List.take_length]
  show turns _ _ (s.length + 1) 0 M = _
  have z := turns_map (M := M) (next := fun M i => (Src.str s).next M i) (xs := s.map fun c => D.str [c]) (g := fun d => match d with
    | .str [c] => .bl (SG.contains c)
    | _ => .non) (turn := itemT (evG c M.length (.nam 1)) (evT c M.length .yes) (fun ρ2 M3 => (evE c M.length (.cmp .isin (.var 1) (.glb 3)) ρ2 M3).bind fun d M4 => .ok [d] M4) (wipe [some (.str s), a1] [1])) (next_str s) fun d mm => by
    obtain ⟨ch, _, rfl⟩ := List.mem_map.mp mm
    have e := in_sign (M := M) ch SG
    simp -implicitDefEqProofs [q_var, q_cst, q_glb, q_neg, q_no, q_bin, q_cmp, q_chn, q_and, q_or, q_ife, q_tup, q_lst, q_dic, q_ix, q_sl, q_rev, q_call, q_callk, q_bi, q_lrng, q_mth, q_isi, q_nil, q_cons, q_on, q_os, q_tyes, q_tval, q_tnot, q_tand, q_tor, q_tcmp, q_tchn, q_tife, q_iseq, q_irng, q_ienu, q_izip, q_gnam, q_gtup, q_gsub, q_gnil, q_gcons, q_expr, q_asg, q_par, q_aug, q_ret, q_retn, q_pass, q_brk, q_cont, q_iff, q_snil, q_scons, q_start, q_srcT, q_srcF, q_srcS, q_srcL, cap, Nat.add_assoc, itemT, Ev.wipe, hg, e]
  rw [List.length_map] at z
  rw [z, List.map_map, List.map_map]
  rfl
theorem w2 (h : At M x d) (hs : shortS d = true) : run TB.fns (gvOf TB) 64 (k + 1) 2 [x] b M = .ok (.bl (wordP d)) M := by
  have t := ty_at h
  cases d with
  | str s =>
    have z := at_inv h
    obtain ⟨rfl, _⟩ := z
    have hl : s.cps.toList.length ≤ 1000 := Nat.le_of_ble_eq_true hs
    show _ = Out.ok (D.bl (wordS s.cps.toList)) M
    generalize s.cps.toList = l at hl
    have e := cw_ev (c := cf k) (b := M.length) (M := M) g3 (a1 := none) hl
    have z : (l.map fun c => SG.contains c).all id = l.all fun c => SG.contains c := by rw [List.all_map]; rfl
    have ln := b1_len_str (M := M) l (by simp only [cap]; omega)
    generalize (l.map fun c => SG.contains c) = bs at e z
    unfold wordS inRange
    rw [← z]
    by_cases h1 : 1 ≤ (l.length : Int)
    · by_cases h2 : (l.length : Int) ≤ 6
      · rw [call_flat (fn := f_is_word) (d := .bl (bs.all id)) (M' := M ++ [.lst (bs.map D.bl)]) rfl rfl rfl ?_ (by simp)]
        · rw [take_ap, decide_eq_true h1, decide_eq_true h2]; rfl
        · simp -implicitDefEqProofs [q_var, q_cst, q_glb, q_neg, q_no, q_bin, q_cmp, q_chn, q_and, q_or, q_ife, q_tup, q_lst, q_dic, q_ix, q_sl, q_rev, q_call, q_callk, q_bi, q_lrng, q_mth, q_isi, q_nil, q_cons, q_on, q_os, q_tyes, q_tval, q_tnot, q_tand, q_tor, q_tcmp, q_tchn, q_tife, q_iseq, q_irng, q_ienu, q_izip, q_gnam, q_gtup, q_gsub, q_gnil, q_gcons, q_expr, q_asg, q_par, q_aug, q_ret, q_retn, q_pass, q_brk, q_cont, q_iff, q_snil, q_scons, q_start, q_srcT, q_srcF, q_srcS, q_srcL, cap, Nat.add_assoc, f_is_word, b_is_word, isAny, isTy, ln, h1, h2, g1, e]
      · rw [call_flat (fn := f_is_word) (d := .bl false) (M' := M) rfl rfl rfl ?_ (by simp)]
        · rw [List.take_length, decide_eq_false h2, Bool.and_false]; rfl
        · simp -implicitDefEqProofs [q_var, q_cst, q_glb, q_neg, q_no, q_bin, q_cmp, q_chn, q_and, q_or, q_ife, q_tup, q_lst, q_dic, q_ix, q_sl, q_rev, q_call, q_callk, q_bi, q_lrng, q_mth, q_isi, q_nil, q_cons, q_on, q_os, q_tyes, q_tval, q_tnot, q_tand, q_tor, q_tcmp, q_tchn, q_tife, q_iseq, q_irng, q_ienu, q_izip, q_gnam, q_gtup, q_gsub, q_gnil, q_gcons, q_expr, q_asg, q_par, q_aug, q_ret, q_retn, q_pass, q_brk, q_cont, q_iff, q_snil, q_scons, q_start, q_srcT, q_srcF, q_srcS, q_srcL, cap, Nat.add_assoc, f_is_word, b_is_word, isAny, isTy, ln, h1, h2, g1]
    · rw [call_flat (fn := f_is_word) (d := .bl false) (M' := M) rfl rfl rfl ?_ (by simp)]
      · rw [List.take_length, decide_eq_false h1]; rfl
      · simp -implicitDefEqProofs [q_var, q_cst, q_glb, q_neg, q_no, q_bin, q_cmp, q_chn, q_and, q_or, q_ife, q_tup, q_lst, q_dic, q_ix, q_sl, q_rev, q_call, q_callk, q_bi, q_lrng, q_mth, q_isi, q_nil, q_cons, q_on, q_os, q_tyes, q_tval, q_tnot, q_tand, q_tor, q_tcmp, q_tchn, q_tife, q_iseq, q_irng, q_ienu, q_izip, q_gnam, q_gtup, q_gsub, q_gnil, q_gcons, q_expr, q_asg, q_par, q_aug, q_ret, q_retn, q_pass, q_brk, q_cont, q_iff, q_snil, q_scons, q_start, q_srcT, q_srcF, q_srcS, q_srcL, cap, Nat.add_assoc, f_is_word, b_is_word, isAny, isTy, ln, h1, g1]
  | dict _ => exact (at_inv h).elim
  | _ =>
    rw [call_flat (fn := f_is_word) (d := .bl false) (M' := M) rfl rfl rfl ?_ (by simp)]
    · rw [List.take_length]; rfl
    · simp -implicitDefEqProofs [q_var, q_cst, q_glb, q_neg, q_no, q_bin, q_cmp, q_chn, q_and, q_or, q_ife, q_tup, q_lst, q_dic, q_ix, q_sl, q_rev, q_call, q_callk, q_bi, q_lrng, q_mth, q_isi, q_nil, q_cons, q_on, q_os, q_tyes, q_tval, q_tnot, q_tand, q_tor, q_tcmp, q_tchn, q_tife, q_iseq, q_irng, q_ienu, q_izip, q_gnam, q_gtup, q_gsub, q_gnil, q_gcons, q_expr, q_asg, q_par, q_aug, q_ret, q_retn, q_pass, q_brk, q_cont, q_iff, q_snil, q_scons, q_start, q_srcT, q_srcF, q_srcS, q_srcL, cap, Nat.add_assoc, f_is_word, b_is_word, t, tyOf, isAny, isTy]
def writtenP (d : PyData) : Bool := match d with
  | .bool _ => true
  | d => fromP d (-1000000000) 1000000000
theorem w3 (h : At M x d) : run TB.fns (gvOf TB) 64 (k + 3) 3 [x] b M = .ok (.bl (writtenP d)) M := by
  have t := ty_at h
  have e := w1 (k := k) (b := M.length) h (-1000000000) 1000000000
  rw [call_flat (fn := f_is_written) (d := .bl (writtenP d)) (M' := M) rfl rfl rfl ?_ (by simp)]
  · rw [List.take_length]
  · cases d with
    | dict _ => exact (at_inv h).elim
    | _ => simp -implicitDefEqProofs [q_var, q_cst, q_glb, q_neg, q_no, q_bin, q_cmp, q_chn, q_and, q_or, q_ife, q_tup, q_lst, q_dic, q_ix, q_sl, q_rev, q_call, q_callk, q_bi, q_lrng, q_mth, q_isi, q_nil, q_cons, q_on, q_os, q_tyes, q_tval, q_tnot, q_tand, q_tor, q_tcmp, q_tchn, q_tife, q_iseq, q_irng, q_ienu, q_izip, q_gnam, q_gtup, q_gsub, q_gnil, q_gcons, q_expr, q_asg, q_par, q_aug, q_ret, q_retn, q_pass, q_brk, q_cont, q_iff, q_snil, q_scons, q_start, q_srcT, q_srcF, q_srcS, q_srcL, cap, Nat.add_assoc, f_is_written, b_is_written, t, tyOf, isAny, isTy, writtenP, g0, e]
theorem w4t {xs : List D} (lo hi : Int) : run TB.fns (gvOf TB) 64 (k + 1) 4 [.tup xs, .int lo, .int hi] b M = .ok (.bl (decide (lo ≤ (xs.length : Int)) && decide ((xs.length : Int) ≤ hi))) M := by
  by_cases h1 : lo ≤ (xs.length : Int)
  · rw [call_flat (fn := f_is_tuple_of) (d := .bl (decide ((xs.length : Int) ≤ hi))) (M' := M) rfl rfl rfl ?_ (by simp)]
    · rw [List.take_length, decide_eq_true h1, Bool.true_and]
    · simp -implicitDefEqProofs [q_var, q_cst, q_glb, q_neg, q_no, q_bin, q_cmp, q_chn, q_and, q_or, q_ife, q_tup, q_lst, q_dic, q_ix, q_sl, q_rev, q_call, q_callk, q_bi, q_lrng, q_mth, q_isi, q_nil, q_cons, q_on, q_os, q_tyes, q_tval, q_tnot, q_tand, q_tor, q_tcmp, q_tchn, q_tife, q_iseq, q_irng, q_ienu, q_izip, q_gnam, q_gtup, q_gsub, q_gnil, q_gcons, q_expr, q_asg, q_par, q_aug, q_ret, q_retn, q_pass, q_brk, q_cont, q_iff, q_snil, q_scons, q_start, q_srcT, q_srcF, q_srcS, q_srcL, cap, Nat.add_assoc, f_is_tuple_of, b_is_tuple_of, isAny, isTy, h1]
  · rw [call_flat (fn := f_is_tuple_of) (d := .bl false) (M' := M) rfl rfl rfl ?_ (by simp)]
    · rw [List.take_length, decide_eq_false h1, Bool.false_and]
    · simp -implicitDefEqProofs [q_var, q_cst, q_glb, q_neg, q_no, q_bin, q_cmp, q_chn, q_and, q_or, q_ife, q_tup, q_lst, q_dic, q_ix, q_sl, q_rev, q_call, q_callk, q_bi, q_lrng, q_mth, q_isi, q_nil, q_cons, q_on, q_os, q_tyes, q_tval, q_tnot, q_tand, q_tor, q_tcmp, q_tchn, q_tife, q_iseq, q_irng, q_ienu, q_izip, q_gnam, q_gtup, q_gsub, q_gnil, q_gcons, q_expr, q_asg, q_par, q_aug, q_ret, q_retn, q_pass, q_brk, q_cont, q_iff, q_snil, q_scons, q_start, q_srcT, q_srcF, q_srcS, q_srcL, cap, Nat.add_assoc, f_is_tuple_of, b_is_tuple_of, isAny, isTy, h1]
theorem w4n (h : At M x d) (ht : ∀ ds, d ≠ .tuple ds) (lo hi : Int) : run TB.fns (gvOf TB) 64 (k + 1) 4 [x, .int lo, .int hi] b M = .ok (.bl false) M := by
  have t := ty_at h
  rw [call_flat (fn := f_is_tuple_of) (d := .bl false) (M' := M) rfl rfl rfl ?_ (by simp)]
  · rw [List.take_length]
  · cases d with
    | dict _ => exact (at_inv h).elim
    | tuple ds => exact absurd rfl (ht ds)
    | _ => simp -implicitDefEqProofs [q_var, q_cst, q_glb, q_neg, q_no, q_bin, q_cmp, q_chn, q_and, q_or, q_ife, q_tup, q_lst, q_dic, q_ix, q_sl, q_rev, q_call, q_callk, q_bi, q_lrng, q_mth, q_isi, q_nil, q_cons, q_on, q_os, q_tyes, q_tval, q_tnot, q_tand, q_tor, q_tcmp, q_tchn, q_tife, q_iseq, q_irng, q_ienu, q_izip, q_gnam, q_gtup, q_gsub, q_gnil, q_gcons, q_expr, q_asg, q_par, q_aug, q_ret, q_retn, q_pass, q_brk, q_cont, q_iff, q_snil, q_scons, q_start, q_srcT, q_srcF, q_srcS, q_srcL, cap, Nat.add_assoc, f_is_tuple_of, b_is_tuple_of, t, tyOf, isAny, isTy]
def isS (d : PyData) (w : List Nat) : Bool := match d with
  | .str s => decide (s.cps.toList = w)
  | _ => false
/-- not a tuple of so many -/
theorem w5n (h : At M x d) (m : Nat) (ht : ∀ ds, d = .tuple ds → ds.length ≠ m) (w : List Nat) : run TB.fns (gvOf TB) 64 (k + 2) 5 [x, .int m, .str w] b M = .ok (.bl false) M := by
  have e : run TB.fns (gvOf TB) 64 (k + 1) 4 [x, .int m, .int m] M.length M = .ok (.bl false) M := by
    by_cases q : ∃ ds, d = .tuple ds
    · obtain ⟨ds, rfl⟩ := q
      obtain ⟨xs, rfl, ha⟩ := at_inv h
      have l := allS_len ha
      have ne := ht ds rfl
      rw [w4t]
      have : (decide ((m : Int) ≤ (xs.length : Int)) && decide ((xs.length : Int) ≤ (m : Int))) = false := by
        rw [Bool.and_eq_false_iff, decide_eq_false_iff_not, decide_eq_false_iff_not]
        omega
      rw [this]
    · exact w4n h (fun ds e => q ⟨ds, e⟩) _ _
  rw [call_flat (fn := f_begins) (d := .bl false) (M' := M) rfl rfl rfl ?_ (by simp)]
  · rw [List.take_length]
  · simp -implicitDefEqProofs [q_var, q_cst, q_glb, q_neg, q_no, q_bin, q_cmp, q_chn, q_and, q_or, q_ife, q_tup, q_lst, q_dic, q_ix, q_sl, q_rev, q_call, q_callk, q_bi, q_lrng, q_mth, q_isi, q_nil, q_cons, q_on, q_os, q_tyes, q_tval, q_tnot, q_tand, q_tor, q_tcmp, q_tchn, q_tife, q_iseq, q_irng, q_ienu, q_izip, q_gnam, q_gtup, q_gsub, q_gnil, q_gcons, q_expr, q_asg, q_par, q_aug, q_ret, q_retn, q_pass, q_brk, q_cont, q_iff, q_snil, q_scons, q_start, q_srcT, q_srcF, q_srcS, q_srcL, cap, Nat.add_assoc, f_begins, b_begins, e]
theorem w5t {y : D} {xs : List D} {a : PyData} (h : At M y a) (w : List Nat) (hw : codes w = true) : run TB.fns (gvOf TB) 64 (k + 2) 5 [.tup (y :: xs), .int ((xs.length + 1 : Nat) : Int), .str w] b M = .ok (.bl (isS a w)) M := by
  have e := w4t (k := k) (b := M.length) (M := M) (xs := y :: xs) ((xs.length + 1 : Nat) : Int) ((xs.length + 1 : Nat) : Int)
  have z : (decide (((xs.length + 1 : Nat) : Int) ≤ ((y :: xs).length : Int)) && decide (((y :: xs).length : Int) ≤ ((xs.length + 1 : Nat) : Int))) = true := by simp
  rw [z] at e
  have t := ty_at h
  have i0 : L2.atI (y :: xs) 0 = some y := by
    rw [atI_nat (by omega) (by simp)]
    rfl
  rw [call_flat (fn := f_begins) (d := .bl (isS a w)) (M' := M) rfl rfl rfl ?_ (by simp)]
  · rw [List.take_length]
  · generalize ((xs.length + 1 : Nat) : Int) = N at e
    cases a with
    | str s =>
      obtain ⟨rfl, hc⟩ := at_inv h
      simp -implicitDefEqProofs [q_var, q_cst, q_glb, q_neg, q_no, q_bin, q_cmp, q_chn, q_and, q_or, q_ife, q_tup, q_lst, q_dic, q_ix, q_sl, q_rev, q_call, q_callk, q_bi, q_lrng, q_mth, q_isi, q_nil, q_cons, q_on, q_os, q_tyes, q_tval, q_tnot, q_tand, q_tor, q_tcmp, q_tchn, q_tife, q_iseq, q_irng, q_ienu, q_izip, q_gnam, q_gtup, q_gsub, q_gnil, q_gcons, q_expr, q_asg, q_par, q_aug, q_ret, q_retn, q_pass, q_brk, q_cont, q_iff, q_snil, q_scons, q_start, q_srcT, q_srcF, q_srcS, q_srcL, cap, Nat.add_assoc, f_begins, b_begins, e, i0, isAny, isTy, isS, hw, hc]
    | dict _ => exact (at_inv h).elim
    | _ => simp -implicitDefEqProofs [q_var, q_cst, q_glb, q_neg, q_no, q_bin, q_cmp, q_chn, q_and, q_or, q_ife, q_tup, q_lst, q_dic, q_ix, q_sl, q_rev, q_call, q_callk, q_bi, q_lrng, q_mth, q_isi, q_nil, q_cons, q_on, q_os, q_tyes, q_tval, q_tnot, q_tand, q_tor, q_tcmp, q_tchn, q_tife, q_iseq, q_irng, q_ienu, q_izip, q_gnam, q_gtup, q_gsub, q_gnil, q_gcons, q_expr, q_asg, q_par, q_aug, q_ret, q_retn, q_pass, q_brk, q_cont, q_iff, q_snil, q_scons, q_start, q_srcT, q_srcF, q_srcS, q_srcL, cap, Nat.add_assoc, f_begins, b_begins, e, i0, t, tyOf, isAny, isTy, isS]
end K01
end

section
namespace K01
open PySem Ev
variable {k b n m p : Nat} {M : Sto} {x : D} {d : PyData}
def LOT : List Nat := [108, 111, 116]
def PLACE : List Nat := [112, 108, 97, 99, 101]
def FAR : Int := 1000000000000000000000000000000000000000000000000000000000000
def worthP (d : PyData) : Bool := match d with
  | .tuple [a, b] => isS a LOT && fromP b 0 FAR
  | .tuple [a, b, c] => isS a PLACE && (fromP b 0 FAR && wordP c)
  | d => writtenP d
def short3 (d : PyData) : Bool := match d with
  | .tuple [a, b, c] => shortS c
  | d => shortS d
theorem up {y : D} {e : PyData} (h : py M 11 y = some e) : At M y e := py_mono h
theorem w6 (h : At M x d) (hs : short3 d = true) : run TB.fns (gvOf TB) 64 (k + 4) 6 [x] b M = .ok (.bl (worthP d)) M := by
  have e3 := w3 (k := k) (b := M.length) h
  by_cases ht : ∃ ds, d = .tuple ds
  · obtain ⟨ds, rfl⟩ := ht
    obtain ⟨xs, rfl, ha⟩ := at_inv h
    have wf : writtenP (.tuple ds) = false := rfl
    rw [wf] at e3
    by_cases h2 : ds.length = 2
    · match ds, h2 with
      | [a, c], _ =>
        obtain ⟨y, z, rfl, ya, zc⟩ := allS_two ha
        have e5 : run TB.fns (gvOf TB) 64 (k + 3) 5 [.tup [y, z], .int 2, .str LOT] M.length M = .ok (.bl (isS a LOT)) M := w5t (k := k + 1) (xs := [z]) (up ya) LOT rfl
        have e1 := w1 (k := k + 1) (b := M.length) (up zc) 0 FAR
        have e6 : run TB.fns (gvOf TB) 64 (k + 3) 5 [.tup [y, z], .int 3, .str PLACE] M.length M = .ok (.bl false) M := w5n (k := k + 1) h 3 (fun ds e => by cases e; simp) PLACE
        have i1 : L2.atI [y, z] 1 = some z := rfl
        unfold LOT FAR PLACE at *
        cases q : isS a [108, 111, 116] with
        | true =>
          rw [q] at e5
          rw [call_flat (fn := f_is_worth) (d := .bl (fromP c 0 1000000000000000000000000000000000000000000000000000000000000)) (M' := M) rfl rfl rfl ?_ (by simp)]
          · rw [List.take_length]; show _ = Out.ok (D.bl (isS a [108, 111, 116] && _)) M; rw [q]; rfl
          · simp -implicitDefEqProofs [q_var, q_cst, q_glb, q_neg, q_no, q_bin, q_cmp, q_chn, q_and, q_or, q_ife, q_tup, q_lst, q_dic, q_ix, q_sl, q_rev, q_call, q_callk, q_bi, q_lrng, q_mth, q_isi, q_nil, q_cons, q_on, q_os, q_tyes, q_tval, q_tnot, q_tand, q_tor, q_tcmp, q_tchn, q_tife, q_iseq, q_irng, q_ienu, q_izip, q_gnam, q_gtup, q_gsub, q_gnil, q_gcons, q_expr, q_asg, q_par, q_aug, q_ret, q_retn, q_pass, q_brk, q_cont, q_iff, q_snil, q_scons, q_start, q_srcT, q_srcF, q_srcS, q_srcL, cap, Nat.add_assoc, f_is_worth, b_is_worth, i1_is_worth, e3, e5, i1, g2, e1]
        | false =>
          rw [q] at e5
          rw [call_flat (fn := f_is_worth) (d := .bl false) (M' := M) rfl rfl rfl ?_ (by simp)]
          · rw [List.take_length]; show _ = Out.ok (D.bl (isS a [108, 111, 116] && _)) M; rw [q]; rfl
          · simp -implicitDefEqProofs [q_var, q_cst, q_glb, q_neg, q_no, q_bin, q_cmp, q_chn, q_and, q_or, q_ife, q_tup, q_lst, q_dic, q_ix, q_sl, q_rev, q_call, q_callk, q_bi, q_lrng, q_mth, q_isi, q_nil, q_cons, q_on, q_os, q_tyes, q_tval, q_tnot, q_tand, q_tor, q_tcmp, q_tchn, q_tife, q_iseq, q_irng, q_ienu, q_izip, q_gnam, q_gtup, q_gsub, q_gnil, q_gcons, q_expr, q_asg, q_par, q_aug, q_ret, q_retn, q_pass, q_brk, q_cont, q_iff, q_snil, q_scons, q_start, q_srcT, q_srcF, q_srcS, q_srcL, cap, Nat.add_assoc, f_is_worth, b_is_worth, i1_is_worth, e3, e5, e6]
    · have e5 : run TB.fns (gvOf TB) 64 (k + 3) 5 [.tup xs, .int 2, .str LOT] M.length M = .ok (.bl false) M := w5n (k := k + 1) h 2 (fun ds e => by cases e; exact h2) LOT
      by_cases h3 : ds.length = 3
      · match ds, h3 with
        | [a, c, g], _ =>
          obtain ⟨y, z, v, rfl, ya, zc, vg⟩ := allS_three ha
          have e6 : run TB.fns (gvOf TB) 64 (k + 3) 5 [.tup [y, z, v], .int 3, .str PLACE] M.length M = .ok (.bl (isS a PLACE)) M := w5t (k := k + 1) (xs := [z, v]) (up ya) PLACE rfl
          have e1 := w1 (k := k + 1) (b := M.length) (up zc) 0 FAR
          have e2 := w2 (k := k + 2) (b := M.length) (up vg) hs
          have i1 : L2.atI [y, z, v] 1 = some z := rfl
          have i2 : L2.atI [y, z, v] 2 = some v := rfl
          unfold LOT FAR PLACE at *
          cases q : isS a [112, 108, 97, 99, 101] with
          | true =>
            rw [q] at e6
            cases q2 : fromP c 0 1000000000000000000000000000000000000000000000000000000000000 with
            | true =>
              rw [q2] at e1
              rw [call_flat (fn := f_is_worth) (d := .bl (wordP g)) (M' := M) rfl rfl rfl ?_ (by simp)]
              · rw [List.take_length]; show _ = Out.ok (D.bl (isS a [112, 108, 97, 99, 101] && (fromP c 0 1000000000000000000000000000000000000000000000000000000000000 && _))) M; rw [q, q2]; rfl
              · simp -implicitDefEqProofs [q_var, q_cst, q_glb, q_neg, q_no, q_bin, q_cmp, q_chn, q_and, q_or, q_ife, q_tup, q_lst, q_dic, q_ix, q_sl, q_rev, q_call, q_callk, q_bi, q_lrng, q_mth, q_isi, q_nil, q_cons, q_on, q_os, q_tyes, q_tval, q_tnot, q_tand, q_tor, q_tcmp, q_tchn, q_tife, q_iseq, q_irng, q_ienu, q_izip, q_gnam, q_gtup, q_gsub, q_gnil, q_gcons, q_expr, q_asg, q_par, q_aug, q_ret, q_retn, q_pass, q_brk, q_cont, q_iff, q_snil, q_scons, q_start, q_srcT, q_srcF, q_srcS, q_srcL, cap, Nat.add_assoc, f_is_worth, b_is_worth, e3, e5, e6, i1, i2, g2, e1, e2]
            | false =>
              rw [q2] at e1
              rw [call_flat (fn := f_is_worth) (d := .bl false) (M' := M) rfl rfl rfl ?_ (by simp)]
              · rw [List.take_length]; show _ = Out.ok (D.bl (isS a [112, 108, 97, 99, 101] && (fromP c 0 1000000000000000000000000000000000000000000000000000000000000 && _))) M; rw [q, q2]; rfl
              · simp -implicitDefEqProofs [q_var, q_cst, q_glb, q_neg, q_no, q_bin, q_cmp, q_chn, q_and, q_or, q_ife, q_tup, q_lst, q_dic, q_ix, q_sl, q_rev, q_call, q_callk, q_bi, q_lrng, q_mth, q_isi, q_nil, q_cons, q_on, q_os, q_tyes, q_tval, q_tnot, q_tand, q_tor, q_tcmp, q_tchn, q_tife, q_iseq, q_irng, q_ienu, q_izip, q_gnam, q_gtup, q_gsub, q_gnil, q_gcons, q_expr, q_asg, q_par, q_aug, q_ret, q_retn, q_pass, q_brk, q_cont, q_iff, q_snil, q_scons, q_start, q_srcT, q_srcF, q_srcS, q_srcL, cap, Nat.add_assoc, f_is_worth, b_is_worth, e3, e5, e6, i1, i2, g2, e1, e2]
          | false =>
            rw [q] at e6
            rw [call_flat (fn := f_is_worth) (d := .bl false) (M' := M) rfl rfl rfl ?_ (by simp)]
            · rw [List.take_length]; show _ = Out.ok (D.bl (isS a [112, 108, 97, 99, 101] && _)) M; rw [q]; rfl
            · simp -implicitDefEqProofs [q_var, q_cst, q_glb, q_neg, q_no, q_bin, q_cmp, q_chn, q_and, q_or, q_ife, q_tup, q_lst, q_dic, q_ix, q_sl, q_rev, q_call, q_callk, q_bi, q_lrng, q_mth, q_isi, q_nil, q_cons, q_on, q_os, q_tyes, q_tval, q_tnot, q_tand, q_tor, q_tcmp, q_tchn, q_tife, q_iseq, q_irng, q_ienu, q_izip, q_gnam, q_gtup, q_gsub, q_gnil, q_gcons, q_expr, q_asg, q_par, q_aug, q_ret, q_retn, q_pass, q_brk, q_cont, q_iff, q_snil, q_scons, q_start, q_srcT, q_srcF, q_srcS, q_srcL, cap, Nat.add_assoc, f_is_worth, b_is_worth, e3, e5, e6]
      · have e6 : run TB.fns (gvOf TB) 64 (k + 3) 5 [.tup xs, .int 3, .str PLACE] M.length M = .ok (.bl false) M := w5n (k := k + 1) h 3 (fun ds e => by cases e; exact h3) PLACE
        have wp : worthP (.tuple ds) = false := by
          match ds, h2, h3 with
          | [], _, _ => rfl
          | [_], _, _ => rfl
          | [_, _], h2, _ => exact absurd rfl h2
          | [_, _, _], _, h3 => exact absurd rfl h3
          | _ :: _ :: _ :: _ :: _, _, _ => rfl
        unfold LOT PLACE at *
        rw [call_flat (fn := f_is_worth) (d := .bl false) (M' := M) rfl rfl rfl ?_ (by simp)]
        · rw [List.take_length, wp]
        · simp -implicitDefEqProofs [q_var, q_cst, q_glb, q_neg, q_no, q_bin, q_cmp, q_chn, q_and, q_or, q_ife, q_tup, q_lst, q_dic, q_ix, q_sl, q_rev, q_call, q_callk, q_bi, q_lrng, q_mth, q_isi, q_nil, q_cons, q_on, q_os, q_tyes, q_tval, q_tnot, q_tand, q_tor, q_tcmp, q_tchn, q_tife, q_iseq, q_irng, q_ienu, q_izip, q_gnam, q_gtup, q_gsub, q_gnil, q_gcons, q_expr, q_asg, q_par, q_aug, q_ret, q_retn, q_pass, q_brk, q_cont, q_iff, q_snil, q_scons, q_start, q_srcT, q_srcF, q_srcS, q_srcL, cap, Nat.add_assoc, f_is_worth, b_is_worth, e3, e5, e6]
  · have nt : ∀ ds, d ≠ .tuple ds := fun ds e => ht ⟨ds, e⟩
    have wp : worthP d = writtenP d := by
      unfold worthP
      split
      · exact absurd rfl (nt _)
      · exact absurd rfl (nt _)
      · rfl
    have e5 : run TB.fns (gvOf TB) 64 (k + 3) 5 [x, .int 2, .str LOT] M.length M = .ok (.bl false) M := w5n (k := k + 1) h 2 (fun ds e => absurd e (nt ds)) LOT
    have e6 : run TB.fns (gvOf TB) 64 (k + 3) 5 [x, .int 3, .str PLACE] M.length M = .ok (.bl false) M := w5n (k := k + 1) h 3 (fun ds e => absurd e (nt ds)) PLACE
    unfold LOT PLACE at *
    rw [wp]
    cases q : writtenP d with
    | true =>
      rw [q] at e3
      rw [call_flat (fn := f_is_worth) (d := .bl true) (M' := M) rfl rfl rfl ?_ (by simp)]
      · rw [List.take_length]
      · simp -implicitDefEqProofs [q_var, q_cst, q_glb, q_neg, q_no, q_bin, q_cmp, q_chn, q_and, q_or, q_ife, q_tup, q_lst, q_dic, q_ix, q_sl, q_rev, q_call, q_callk, q_bi, q_lrng, q_mth, q_isi, q_nil, q_cons, q_on, q_os, q_tyes, q_tval, q_tnot, q_tand, q_tor, q_tcmp, q_tchn, q_tife, q_iseq, q_irng, q_ienu, q_izip, q_gnam, q_gtup, q_gsub, q_gnil, q_gcons, q_expr, q_asg, q_par, q_aug, q_ret, q_retn, q_pass, q_brk, q_cont, q_iff, q_snil, q_scons, q_start, q_srcT, q_srcF, q_srcS, q_srcL, cap, Nat.add_assoc, f_is_worth, b_is_worth, e3]
    | false =>
      rw [q] at e3
      rw [call_flat (fn := f_is_worth) (d := .bl false) (M' := M) rfl rfl rfl ?_ (by simp)]
      · rw [List.take_length]
      · simp -implicitDefEqProofs [q_var, q_cst, q_glb, q_neg, q_no, q_bin, q_cmp, q_chn, q_and, q_or, q_ife, q_tup, q_lst, q_dic, q_ix, q_sl, q_rev, q_call, q_callk, q_bi, q_lrng, q_mth, q_isi, q_nil, q_cons, q_on, q_os, q_tyes, q_tval, q_tnot, q_tand, q_tor, q_tcmp, q_tchn, q_tife, q_iseq, q_irng, q_ienu, q_izip, q_gnam, q_gtup, q_gsub, q_gnil, q_gcons, q_expr, q_asg, q_par, q_aug, q_ret, q_retn, q_pass, q_brk, q_cont, q_iff, q_snil, q_scons, q_start, q_srcT, q_srcF, q_srcS, q_srcL, cap, Nat.add_assoc, f_is_worth, b_is_worth, e3, e5, e6]
/-! ### the law's own look -/
def tlS (d : PyData) : List Nat := d.shown.cps.toList
def rep (d : PyData) : Bool := d.showable && Nat.ble d.shown.length 1000 && cpsOk d.shown
theorem repr_at (h : At M x d) (hr : rep d = true) : reprD M x = some (tlS d) ∧ codes (tlS d) = true := by
  unfold rep at hr
  rw [Bool.and_eq_true, Bool.and_eq_true] at hr
  have l := Nat.le_of_ble_eq_true hr.1.2
  refine ⟨?_, hr.2⟩
  unfold reprD
  rw [show py M MX x = some d from h]
  dsimp only
  rw [hr.1.1, Nat.ble_eq_true_of_le (show d.shown.length + 64 ≤ cap by simp only [cap]; omega)]
  rfl
def numP (d : PyData) : Bool := match d with
  | .int i => decide (0 ≤ i)
  | _ => false
theorem w15 (h : At M x d) : run TB.fns (gvOf TB) 64 (k + 1) 15 [x, .int 0] b M = .ok (.bl (numP d)) M := by
  have t := ty_at h
  rw [call_flat (fn := f_l_own_number) (d := .bl (numP d)) (M' := M) rfl rfl rfl ?_ (by simp)]
  · rw [List.take_length]
  · cases d with
    | int i =>
      have z := at_inv h
      dsimp only at z
      subst z
      simp -implicitDefEqProofs [q_var, q_cst, q_glb, q_neg, q_no, q_bin, q_cmp, q_chn, q_and, q_or, q_ife, q_tup, q_lst, q_dic, q_ix, q_sl, q_rev, q_call, q_callk, q_bi, q_lrng, q_mth, q_isi, q_nil, q_cons, q_on, q_os, q_tyes, q_tval, q_tnot, q_tand, q_tor, q_tcmp, q_tchn, q_tife, q_iseq, q_irng, q_ienu, q_izip, q_gnam, q_gtup, q_gsub, q_gnil, q_gcons, q_expr, q_asg, q_par, q_aug, q_ret, q_retn, q_pass, q_brk, q_cont, q_iff, q_snil, q_scons, q_start, q_srcT, q_srcF, q_srcS, q_srcL, cap, Nat.add_assoc, f_l_own_number, b_l_own_number, isAny, isTy, numP]
    | dict _ => exact (at_inv h).elim
    | _ => simp -implicitDefEqProofs [q_var, q_cst, q_glb, q_neg, q_no, q_bin, q_cmp, q_chn, q_and, q_or, q_ife, q_tup, q_lst, q_dic, q_ix, q_sl, q_rev, q_call, q_callk, q_bi, q_lrng, q_mth, q_isi, q_nil, q_cons, q_on, q_os, q_tyes, q_tval, q_tnot, q_tand, q_tor, q_tcmp, q_tchn, q_tife, q_iseq, q_irng, q_ienu, q_izip, q_gnam, q_gtup, q_gsub, q_gnil, q_gcons, q_expr, q_asg, q_par, q_aug, q_ret, q_retn, q_pass, q_brk, q_cont, q_iff, q_snil, q_scons, q_start, q_srcT, q_srcF, q_srcS, q_srcL, cap, Nat.add_assoc, f_l_own_number, b_l_own_number, t, tyOf, isAny, isTy, numP]
theorem co_ev {c : Cf} {s : List Nat} {a1 : Option D} (hl : s.length ≤ 1000) : evE c b c1_l_own_word [some (.str s), a1] M = .ok (.loc M.length) (M ++ [.lst ((s.filter fun c => !SG.contains c).map fun c => D.str [c])]) := by
  have e0 : (s.map fun c => D.str [c]).filter (fun d => match d with
      | .str [c] => !SG.contains c
      | _ => false) = (s.filter fun c => !SG.contains c).map fun c => D.str [c] := by
    rw [List.filter_map]
    rfl
  unfold c1_l_own_word
  rw [lc_ev (src := .str s) (M1 := M) (xs := (s.filter fun c => !SG.contains c).map fun c => D.str [c]) (M2 := M) (by simp -implicitDefEqProofs [q_var, q_cst, q_glb, q_neg, q_no, q_bin, q_cmp, q_chn, q_and, q_or, q_ife, q_tup, q_lst, q_dic, q_ix, q_sl, q_rev, q_call, q_callk, q_bi, q_lrng, q_mth, q_isi, q_nil, q_cons, q_on, q_os, q_tyes, q_tval, q_tnot, q_tand, q_tor, q_tcmp, q_tchn, q_tife, q_iseq, q_irng, q_ienu, q_izip, q_gnam, q_gtup, q_gsub, q_gnil, q_gcons, q_expr, q_asg, q_par, q_aug, q_ret, q_retn, q_pass, q_brk, q_cont, q_iff, q_snil, q_scons, q_start, q_srcT, q_srcF, q_srcS, q_srcL, cap, Nat.add_assoc]) ?_, seal_flat ?_ (flats_all fun d m => by
    obtain ⟨c, _, rfl⟩ := List.mem_map.mp m
    simp), List.take_length]
  · rw [List.length_map]
    refine Nat.le_trans (List.length_filter_le _ _) ?_
    simp only [cap]
    omega
  · show turns _ _ (s.length + 1) 0 M = _
    have z := turns_filter (M := M) (next := fun M i => (Src.str s).next M i) (xs := s.map fun c => D.str [c]) (p := fun d => match d with
      | .str [c] => !SG.contains c
      | _ => false) (turn := itemT (evG c M.length (.nam 1)) (evT c M.length (.cmp .nin (.var 1) (.cst (.str SG)))) (fun ρ2 M3 => (evE c M.length (.var 1) ρ2 M3).bind fun d M4 => .ok [d] M4) (wipe [some (.str s), a1] [1])) (next_str s) fun d mm => by
      obtain ⟨ch, _, rfl⟩ := List.mem_map.mp mm
      have e := in_sign (M := M) ch SG
      cases q : SG.contains ch with
      | true =>
        rw [q] at e
        simp -implicitDefEqProofs [q_var, q_cst, q_glb, q_neg, q_no, q_bin, q_cmp, q_chn, q_and, q_or, q_ife, q_tup, q_lst, q_dic, q_ix, q_sl, q_rev, q_call, q_callk, q_bi, q_lrng, q_mth, q_isi, q_nil, q_cons, q_on, q_os, q_tyes, q_tval, q_tnot, q_tand, q_tor, q_tcmp, q_tchn, q_tife, q_iseq, q_irng, q_ienu, q_izip, q_gnam, q_gtup, q_gsub, q_gnil, q_gcons, q_expr, q_asg, q_par, q_aug, q_ret, q_retn, q_pass, q_brk, q_cont, q_iff, q_snil, q_scons, q_start, q_srcT, q_srcF, q_srcS, q_srcL, cap, Nat.add_assoc, itemT, Ev.wipe, e, q, -List.contains_eq_mem]
      | false =>
        rw [q] at e
        simp -implicitDefEqProofs [q_var, q_cst, q_glb, q_neg, q_no, q_bin, q_cmp, q_chn, q_and, q_or, q_ife, q_tup, q_lst, q_dic, q_ix, q_sl, q_rev, q_call, q_callk, q_bi, q_lrng, q_mth, q_isi, q_nil, q_cons, q_on, q_os, q_tyes, q_tval, q_tnot, q_tand, q_tor, q_tcmp, q_tchn, q_tife, q_iseq, q_irng, q_ienu, q_izip, q_gnam, q_gtup, q_gsub, q_gnil, q_gcons, q_expr, q_asg, q_par, q_aug, q_ret, q_retn, q_pass, q_brk, q_cont, q_iff, q_snil, q_scons, q_start, q_srcT, q_srcF, q_srcS, q_srcL, cap, Nat.add_assoc, itemT, Ev.wipe, e, q, -List.contains_eq_mem]
    rw [List.length_map] at z
    exact z.trans (by rw [e0])
theorem w14 (h : At M x d) (hs : shortS d = true) : run TB.fns (gvOf TB) 64 (k + 1) 14 [x] b M = .ok (.bl (wordP d)) M := by
  have t := ty_at h
  cases d with
  | str s =>
    have z := at_inv h
    obtain ⟨rfl, hc⟩ := z
    have hl : s.cps.toList.length ≤ 1000 := Nat.le_of_ble_eq_true hs
    show _ = Out.ok (D.bl (wordS s.cps.toList)) M
    generalize s.cps.toList = l at hl hc
    have e := co_ev (c := cf k) (b := M.length) (M := M) (a1 := none) hl
    have ln := b1_len_str (M := M) l (by simp only [cap]; omega)
    have q : eqD (M ++ [.lst ((l.filter fun c => !SG.contains c).map fun c => D.str [c]), .lst []]) (.loc M.length) (.loc (M.length + 1)) = some ((l.filter fun c => !SG.contains c).map fun c => D.str [c]).isEmpty := eq_nil (by simp) (fun y m => by
      obtain ⟨c, mc, rfl⟩ := List.mem_map.mp m
      have := List.all_eq_true.mp hc c (List.mem_filter.mp mc).1
      show codes [c] = true
      simpa [codes] using this) (by simp)
    have z : ((l.filter fun c => !SG.contains c).map fun c => D.str [c]).isEmpty = l.all fun c => SG.contains c := by
      rw [Bool.eq_iff_iff, List.isEmpty_iff, List.map_eq_nil_iff, List.filter_eq_nil_iff, List.all_eq_true]
      constructor
      · intro h x m; simpa using h x m
      · intro h x m
        have := h x m
        simpa using this
    rw [z] at q
    generalize ((l.filter fun c => !SG.contains c).map fun c => D.str [c]) = fs at e q
    unfold wordS inRange
    by_cases h1 : 1 ≤ (l.length : Int)
    · by_cases h2 : (l.length : Int) ≤ 6
      · rw [call_flat (fn := f_l_own_word) (d := .bl (l.all fun c => SG.contains c)) (M' := M ++ [.lst fs, .lst []]) rfl rfl rfl ?_ (by simp)]
        · rw [take_ap, decide_eq_true h1, decide_eq_true h2]; rfl
        · generalize (l.all fun c => SG.contains c) = r at q
          simp -implicitDefEqProofs [q_var, q_cst, q_glb, q_neg, q_no, q_bin, q_cmp, q_chn, q_and, q_or, q_ife, q_tup, q_lst, q_dic, q_ix, q_sl, q_rev, q_call, q_callk, q_bi, q_lrng, q_mth, q_isi, q_nil, q_cons, q_on, q_os, q_tyes, q_tval, q_tnot, q_tand, q_tor, q_tcmp, q_tchn, q_tife, q_iseq, q_irng, q_ienu, q_izip, q_gnam, q_gtup, q_gsub, q_gnil, q_gcons, q_expr, q_asg, q_par, q_aug, q_ret, q_retn, q_pass, q_brk, q_cont, q_iff, q_snil, q_scons, q_start, q_srcT, q_srcF, q_srcS, q_srcL, cap, Nat.add_assoc, f_l_own_word, b_l_own_word, isAny, isTy, ln, h1, h2, e, q, -eqLoc]
      · rw [call_flat (fn := f_l_own_word) (d := .bl false) (M' := M) rfl rfl rfl ?_ (by simp)]
        · rw [List.take_length, decide_eq_false h2, Bool.and_false]; rfl
        · simp -implicitDefEqProofs [q_var, q_cst, q_glb, q_neg, q_no, q_bin, q_cmp, q_chn, q_and, q_or, q_ife, q_tup, q_lst, q_dic, q_ix, q_sl, q_rev, q_call, q_callk, q_bi, q_lrng, q_mth, q_isi, q_nil, q_cons, q_on, q_os, q_tyes, q_tval, q_tnot, q_tand, q_tor, q_tcmp, q_tchn, q_tife, q_iseq, q_irng, q_ienu, q_izip, q_gnam, q_gtup, q_gsub, q_gnil, q_gcons, q_expr, q_asg, q_par, q_aug, q_ret, q_retn, q_pass, q_brk, q_cont, q_iff, q_snil, q_scons, q_start, q_srcT, q_srcF, q_srcS, q_srcL, cap, Nat.add_assoc, f_l_own_word, b_l_own_word, isAny, isTy, ln, h1, h2]
    · rw [call_flat (fn := f_l_own_word) (d := .bl false) (M' := M) rfl rfl rfl ?_ (by simp)]
      · rw [List.take_length, decide_eq_false h1]; rfl
      · simp -implicitDefEqProofs [q_var, q_cst, q_glb, q_neg, q_no, q_bin, q_cmp, q_chn, q_and, q_or, q_ife, q_tup, q_lst, q_dic, q_ix, q_sl, q_rev, q_call, q_callk, q_bi, q_lrng, q_mth, q_isi, q_nil, q_cons, q_on, q_os, q_tyes, q_tval, q_tnot, q_tand, q_tor, q_tcmp, q_tchn, q_tife, q_iseq, q_irng, q_ienu, q_izip, q_gnam, q_gtup, q_gsub, q_gnil, q_gcons, q_expr, q_asg, q_par, q_aug, q_ret, q_retn, q_pass, q_brk, q_cont, q_iff, q_snil, q_scons, q_start, q_srcT, q_srcF, q_srcS, q_srcL, cap, Nat.add_assoc, f_l_own_word, b_l_own_word, isAny, isTy, ln, h1]
  | dict _ => exact (at_inv h).elim
  | _ =>
    rw [call_flat (fn := f_l_own_word) (d := .bl false) (M' := M) rfl rfl rfl ?_ (by simp)]
    · rw [List.take_length]; rfl
    · simp -implicitDefEqProofs [q_var, q_cst, q_glb, q_neg, q_no, q_bin, q_cmp, q_chn, q_and, q_or, q_ife, q_tup, q_lst, q_dic, q_ix, q_sl, q_rev, q_call, q_callk, q_bi, q_lrng, q_mth, q_isi, q_nil, q_cons, q_on, q_os, q_tyes, q_tval, q_tnot, q_tand, q_tor, q_tcmp, q_tchn, q_tife, q_iseq, q_irng, q_ienu, q_izip, q_gnam, q_gtup, q_gsub, q_gnil, q_gcons, q_expr, q_asg, q_par, q_aug, q_ret, q_retn, q_pass, q_brk, q_cont, q_iff, q_snil, q_scons, q_start, q_srcT, q_srcF, q_srcS, q_srcL, cap, Nat.add_assoc, f_l_own_word, b_l_own_word, t, tyOf, isAny, isTy]
end K01
end

section
namespace K01
open PySem Ev
variable {k b n m p : Nat} {M : Sto} {x : D} {d : PyData}
def sP (s : List Nat) : PyData := .str ⟨s.toArray⟩
theorem at_sP (s : List Nat) (h : codes s = true) : At M (.str s) (sP s) := by
  show (match codes s with
    | true => some (PyData.str ⟨s.toArray⟩)
    | false => none) = _
  rw [h]
  rfl
def ownP (d : PyData) : Bool := match d with
  | .bool _ => true
  | .int i => decide (-1000000000 ≤ i) && decide (i ≤ 1000000000)
  | .tuple [a, c] => numP c && decide (tlS a = tlS (sP LOT))
  | .tuple [a, c, g] => numP c && (decide (tlS a = tlS (sP PLACE)) && wordP g)
  | _ => false
def rep0 (d : PyData) : Bool := match d with
  | .tuple [a, c] => rep a
  | .tuple [a, c, g] => rep a
  | _ => true
theorem len23 (n : Nat) : inD M (.int n) (.tup [.int 2, .int 3]) = some (2 == (n : Int) || 3 == (n : Int)) := by
  show inL M (.int n) (.tup [.int 2, .int 3]) [.int 2, .int 3] = _
  unfold inL
  rw [show (atom (.int n) && [D.int 2, .int 3].all atom) = true from rfl]
  simp [eqA]
theorem w16 (h : At M x d) (hs : short3 d = true) (hr : rep0 d = true) : run TB.fns (gvOf TB) 64 (k + 2) 16 [x] b M = .ok (.bl (ownP d)) M := by
  have t := ty_at h
  by_cases ht : ∃ ds, d = .tuple ds
  · obtain ⟨ds, rfl⟩ := ht
    obtain ⟨xs, rfl, ha⟩ := at_inv h
    by_cases h2 : ds.length = 2
    · match ds, h2 with
      | [a, c], _ =>
        obtain ⟨y, z, rfl, ya, zc⟩ := allS_two ha
        have ra := repr_at (up ya) hr
        have rl := repr_at (M := M) (at_sP LOT rfl) (by decide +kernel)
        have e15 := w15 (k := k) (b := M.length) (up zc)
        have i0 : L2.atI [y, z] 0 = some y := rfl
        have i1 : L2.atI [y, z] 1 = some z := rfl
        have il := len23 (M := M) 2
        unfold LOT at rl
        cases q : numP c with
        | true =>
          rw [q] at e15
          rw [call_flat (fn := f_l_own_worth) (d := .bl (decide (tlS a = tlS (sP LOT)))) (M' := M) rfl rfl rfl ?_ (by simp)]
          · rw [List.take_length]; show _ = Out.ok (D.bl (numP c && _)) M; rw [q]; rfl
          · have il' : inD M (.int 2) (.tup [.int 2, .int 3]) = some true := il
            simp -implicitDefEqProofs [q_var, q_cst, q_glb, q_neg, q_no, q_bin, q_cmp, q_chn, q_and, q_or, q_ife, q_tup, q_lst, q_dic, q_ix, q_sl, q_rev, q_call, q_callk, q_bi, q_lrng, q_mth, q_isi, q_nil, q_cons, q_on, q_os, q_tyes, q_tval, q_tnot, q_tand, q_tor, q_tcmp, q_tchn, q_tife, q_iseq, q_irng, q_ienu, q_izip, q_gnam, q_gtup, q_gsub, q_gnil, q_gcons, q_expr, q_asg, q_par, q_aug, q_ret, q_retn, q_pass, q_brk, q_cont, q_iff, q_snil, q_scons, q_start, q_srcT, q_srcF, q_srcS, q_srcL, cap, Nat.add_assoc, f_l_own_worth, b_l_own_worth, i1_l_own_worth, isAny, isTy, il', i1, e15, i0, ra.1, rl.1, ra.2, rl.2, LOT]
            try exact decide_eq_decide.mpr Iff.rfl
        | false =>
          rw [q] at e15
          rw [call_flat (fn := f_l_own_worth) (d := .bl false) (M' := M) rfl rfl rfl ?_ (by simp)]
          · rw [List.take_length]; show _ = Out.ok (D.bl (numP c && _)) M; rw [q]; rfl
          · have il' : inD M (.int 2) (.tup [.int 2, .int 3]) = some true := il
            simp -implicitDefEqProofs [q_var, q_cst, q_glb, q_neg, q_no, q_bin, q_cmp, q_chn, q_and, q_or, q_ife, q_tup, q_lst, q_dic, q_ix, q_sl, q_rev, q_call, q_callk, q_bi, q_lrng, q_mth, q_isi, q_nil, q_cons, q_on, q_os, q_tyes, q_tval, q_tnot, q_tand, q_tor, q_tcmp, q_tchn, q_tife, q_iseq, q_irng, q_ienu, q_izip, q_gnam, q_gtup, q_gsub, q_gnil, q_gcons, q_expr, q_asg, q_par, q_aug, q_ret, q_retn, q_pass, q_brk, q_cont, q_iff, q_snil, q_scons, q_start, q_srcT, q_srcF, q_srcS, q_srcL, cap, Nat.add_assoc, f_l_own_worth, b_l_own_worth, isAny, isTy, il', i1, e15]
    · by_cases h3 : ds.length = 3
      · match ds, h3 with
        | [a, c, g], _ =>
          obtain ⟨y, z, v, rfl, ya, zc, vg⟩ := allS_three ha
          have ra := repr_at (up ya) hr
          have rl := repr_at (M := M) (at_sP PLACE rfl) (by decide +kernel)
          have e15 := w15 (k := k) (b := M.length) (up zc)
          have e14 := w14 (k := k) (b := M.length) (up vg) hs
          have i0 : L2.atI [y, z, v] 0 = some y := rfl
          have i1 : L2.atI [y, z, v] 1 = some z := rfl
          have i2 : L2.atI [y, z, v] 2 = some v := rfl
          have il' : inD M (.int 3) (.tup [.int 2, .int 3]) = some true := len23 (M := M) 3
          unfold PLACE at rl
          cases q : numP c with
          | true =>
            rw [q] at e15
            by_cases q2 : tlS a = tlS (sP PLACE)
            · have q3 := q2
              unfold PLACE at q3
              rw [call_flat (fn := f_l_own_worth) (d := .bl (wordP g)) (M' := M) rfl rfl rfl ?_ (by simp)]
              · rw [List.take_length]; show _ = Out.ok (D.bl (numP c && (decide (tlS a = tlS (sP PLACE)) && wordP g))) M; rw [q, decide_eq_true q2]; rfl
              · rw [q3] at ra
                simp -implicitDefEqProofs [q_var, q_cst, q_glb, q_neg, q_no, q_bin, q_cmp, q_chn, q_and, q_or, q_ife, q_tup, q_lst, q_dic, q_ix, q_sl, q_rev, q_call, q_callk, q_bi, q_lrng, q_mth, q_isi, q_nil, q_cons, q_on, q_os, q_tyes, q_tval, q_tnot, q_tand, q_tor, q_tcmp, q_tchn, q_tife, q_iseq, q_irng, q_ienu, q_izip, q_gnam, q_gtup, q_gsub, q_gnil, q_gcons, q_expr, q_asg, q_par, q_aug, q_ret, q_retn, q_pass, q_brk, q_cont, q_iff, q_snil, q_scons, q_start, q_srcT, q_srcF, q_srcS, q_srcL, cap, Nat.add_assoc, f_l_own_worth, b_l_own_worth, isAny, isTy, il', i1, i2, e15, i0, ra.1, rl.1, rl.2, e14]
            · have q3 := q2
              unfold PLACE at q3
              rw [call_flat (fn := f_l_own_worth) (d := .bl false) (M' := M) rfl rfl rfl ?_ (by simp)]
              · rw [List.take_length]; show _ = Out.ok (D.bl (numP c && (decide (tlS a = tlS (sP PLACE)) && wordP g))) M; rw [q, decide_eq_false q2]; rfl
              · simp -implicitDefEqProofs [q_var, q_cst, q_glb, q_neg, q_no, q_bin, q_cmp, q_chn, q_and, q_or, q_ife, q_tup, q_lst, q_dic, q_ix, q_sl, q_rev, q_call, q_callk, q_bi, q_lrng, q_mth, q_isi, q_nil, q_cons, q_on, q_os, q_tyes, q_tval, q_tnot, q_tand, q_tor, q_tcmp, q_tchn, q_tife, q_iseq, q_irng, q_ienu, q_izip, q_gnam, q_gtup, q_gsub, q_gnil, q_gcons, q_expr, q_asg, q_par, q_aug, q_ret, q_retn, q_pass, q_brk, q_cont, q_iff, q_snil, q_scons, q_start, q_srcT, q_srcF, q_srcS, q_srcL, cap, Nat.add_assoc, f_l_own_worth, b_l_own_worth, isAny, isTy, il', i1, i2, e15, i0, ra.1, rl.1, ra.2, rl.2, q3]
          | false =>
            rw [q] at e15
            rw [call_flat (fn := f_l_own_worth) (d := .bl false) (M' := M) rfl rfl rfl ?_ (by simp)]
            · rw [List.take_length]; show _ = Out.ok (D.bl (numP c && _)) M; rw [q]; rfl
            · simp -implicitDefEqProofs [q_var, q_cst, q_glb, q_neg, q_no, q_bin, q_cmp, q_chn, q_and, q_or, q_ife, q_tup, q_lst, q_dic, q_ix, q_sl, q_rev, q_call, q_callk, q_bi, q_lrng, q_mth, q_isi, q_nil, q_cons, q_on, q_os, q_tyes, q_tval, q_tnot, q_tand, q_tor, q_tcmp, q_tchn, q_tife, q_iseq, q_irng, q_ienu, q_izip, q_gnam, q_gtup, q_gsub, q_gnil, q_gcons, q_expr, q_asg, q_par, q_aug, q_ret, q_retn, q_pass, q_brk, q_cont, q_iff, q_snil, q_scons, q_start, q_srcT, q_srcF, q_srcS, q_srcL, cap, Nat.add_assoc, f_l_own_worth, b_l_own_worth, isAny, isTy, il', i1, e15]
      · have wp : ownP (.tuple ds) = false := by
          match ds, h2, h3 with
          | [], _, _ => rfl
          | [_], _, _ => rfl
          | [_, _], h2, _ => exact absurd rfl h2
          | [_, _, _], _, h3 => exact absurd rfl h3
          | _ :: _ :: _ :: _ :: _, _, _ => rfl
        have l := allS_len ha
        have il := len23 (M := M) xs.length
        have f2 : ¬ (2 : Int) = (xs.length : Int) := by omega
        have f3 : ¬ (3 : Int) = (xs.length : Int) := by omega
        have il' : inD M (.int xs.length) (.tup [.int 2, .int 3]) = some false := by
          rw [il]
          simp [f2, f3]
        rw [call_flat (fn := f_l_own_worth) (d := .bl false) (M' := M) rfl rfl rfl ?_ (by simp)]
        · rw [List.take_length, wp]
        · simp -implicitDefEqProofs [q_var, q_cst, q_glb, q_neg, q_no, q_bin, q_cmp, q_chn, q_and, q_or, q_ife, q_tup, q_lst, q_dic, q_ix, q_sl, q_rev, q_call, q_callk, q_bi, q_lrng, q_mth, q_isi, q_nil, q_cons, q_on, q_os, q_tyes, q_tval, q_tnot, q_tand, q_tor, q_tcmp, q_tchn, q_tife, q_iseq, q_irng, q_ienu, q_izip, q_gnam, q_gtup, q_gsub, q_gnil, q_gcons, q_expr, q_asg, q_par, q_aug, q_ret, q_retn, q_pass, q_brk, q_cont, q_iff, q_snil, q_scons, q_start, q_srcT, q_srcF, q_srcS, q_srcL, cap, Nat.add_assoc, f_l_own_worth, b_l_own_worth, isAny, isTy, il']
  · cases d with
    | tuple ds => exact absurd ⟨ds, rfl⟩ ht
    | dict _ => exact (at_inv h).elim
    | int i =>
      have z := at_inv h
      dsimp only at z
      subst z
      by_cases h1 : -1000000000 ≤ i
      · rw [call_flat (fn := f_l_own_worth) (d := .bl (decide (i ≤ 1000000000))) (M' := M) rfl rfl rfl ?_ (by simp)]
        · rw [List.take_length]; show _ = Out.ok (D.bl (decide (-1000000000 ≤ i) && _)) M; rw [decide_eq_true h1]; rfl
        · simp -implicitDefEqProofs [q_var, q_cst, q_glb, q_neg, q_no, q_bin, q_cmp, q_chn, q_and, q_or, q_ife, q_tup, q_lst, q_dic, q_ix, q_sl, q_rev, q_call, q_callk, q_bi, q_lrng, q_mth, q_isi, q_nil, q_cons, q_on, q_os, q_tyes, q_tval, q_tnot, q_tand, q_tor, q_tcmp, q_tchn, q_tife, q_iseq, q_irng, q_ienu, q_izip, q_gnam, q_gtup, q_gsub, q_gnil, q_gcons, q_expr, q_asg, q_par, q_aug, q_ret, q_retn, q_pass, q_brk, q_cont, q_iff, q_snil, q_scons, q_start, q_srcT, q_srcF, q_srcS, q_srcL, cap, Nat.add_assoc, f_l_own_worth, b_l_own_worth, i2_l_own_worth, isAny, isTy, h1]
      · rw [call_flat (fn := f_l_own_worth) (d := .bl false) (M' := M) rfl rfl rfl ?_ (by simp)]
        · rw [List.take_length]; show _ = Out.ok (D.bl (decide (-1000000000 ≤ i) && _)) M; rw [decide_eq_false h1]; rfl
        · simp -implicitDefEqProofs [q_var, q_cst, q_glb, q_neg, q_no, q_bin, q_cmp, q_chn, q_and, q_or, q_ife, q_tup, q_lst, q_dic, q_ix, q_sl, q_rev, q_call, q_callk, q_bi, q_lrng, q_mth, q_isi, q_nil, q_cons, q_on, q_os, q_tyes, q_tval, q_tnot, q_tand, q_tor, q_tcmp, q_tchn, q_tife, q_iseq, q_irng, q_ienu, q_izip, q_gnam, q_gtup, q_gsub, q_gnil, q_gcons, q_expr, q_asg, q_par, q_aug, q_ret, q_retn, q_pass, q_brk, q_cont, q_iff, q_snil, q_scons, q_start, q_srcT, q_srcF, q_srcS, q_srcL, cap, Nat.add_assoc, f_l_own_worth, b_l_own_worth, i2_l_own_worth, isAny, isTy, h1]
    | bool q =>
      rw [call_flat (fn := f_l_own_worth) (d := .bl true) (M' := M) rfl rfl rfl ?_ (by simp)]
      · rw [List.take_length]; rfl
      · simp -implicitDefEqProofs [q_var, q_cst, q_glb, q_neg, q_no, q_bin, q_cmp, q_chn, q_and, q_or, q_ife, q_tup, q_lst, q_dic, q_ix, q_sl, q_rev, q_call, q_callk, q_bi, q_lrng, q_mth, q_isi, q_nil, q_cons, q_on, q_os, q_tyes, q_tval, q_tnot, q_tand, q_tor, q_tcmp, q_tchn, q_tife, q_iseq, q_irng, q_ienu, q_izip, q_gnam, q_gtup, q_gsub, q_gnil, q_gcons, q_expr, q_asg, q_par, q_aug, q_ret, q_retn, q_pass, q_brk, q_cont, q_iff, q_snil, q_scons, q_start, q_srcT, q_srcF, q_srcS, q_srcL, cap, Nat.add_assoc, f_l_own_worth, b_l_own_worth, t, tyOf, isAny, isTy]
    | _ =>
      rw [call_flat (fn := f_l_own_worth) (d := .bl false) (M' := M) rfl rfl rfl ?_ (by simp)]
      · rw [List.take_length]; rfl
      · simp -implicitDefEqProofs [q_var, q_cst, q_glb, q_neg, q_no, q_bin, q_cmp, q_chn, q_and, q_or, q_ife, q_tup, q_lst, q_dic, q_ix, q_sl, q_rev, q_call, q_callk, q_bi, q_lrng, q_mth, q_isi, q_nil, q_cons, q_on, q_os, q_tyes, q_tval, q_tnot, q_tand, q_tor, q_tcmp, q_tchn, q_tife, q_iseq, q_irng, q_ienu, q_izip, q_gnam, q_gtup, q_gsub, q_gnil, q_gcons, q_expr, q_asg, q_par, q_aug, q_ret, q_retn, q_pass, q_brk, q_cont, q_iff, q_snil, q_scons, q_start, q_srcT, q_srcF, q_srcS, q_srcL, cap, Nat.add_assoc, f_l_own_worth, b_l_own_worth, t, tyOf, isAny, isTy]
/-- what is wanted of a thing to be looked at -/
def okT (d : PyData) : Bool := rep d && (rep0 d && (shortS d && (short3 d && (worthP d == ownP d))))
theorem pl1 (x : D) : place 1 ([] : List D) [0] [x] = some [x] := id rfl
theorem eqB (a c : Bool) : eqD M (.bl a) (.bl c) = some (a == c) := id rfl
theorem rb_ (r : Bool) : ∃ s, reprD M (.bl r) = some s ∧ codes s = true := repr_oka rfl (by cases r <;> decide +kernel)
theorem w19 (h : At M x d) (hk : okT d = true) : run TB.fns (gvOf TB) 64 (k + 5) 19 [x] b M = .ok (.bl true) M := by
  unfold okT at hk
  simp only [Bool.and_eq_true, beq_iff_eq] at hk
  obtain ⟨k1, k2, k3, k4, k5⟩ := hk
  have e6 := w6 (k := k) (b := M.length) h k4
  have e16 := w16 (k := k + 2) (b := M.length) h k4 k2
  have e2 := w2 (k := k + 3) (b := M.length) h k3
  have e14 := w14 (k := k + 3) (b := M.length) h k3
  have r := repr_at h k1
  rw [k5] at e6
  generalize ownP d = o at e6 e16
  generalize wordP d = wd at e2 e14
  obtain ⟨s, s1, s2⟩ := rb_ (M := M) o
  obtain ⟨t, t1, t2⟩ := rb_ (M := M) wd
  rw [call_flat (fn := f_l_looks_right) (d := .bl true) (M' := M) rfl rfl rfl ?_ (by simp)]
  · rw [List.take_length]
  · simp -implicitDefEqProofs [q_var, q_cst, q_glb, q_neg, q_no, q_bin, q_cmp, q_chn, q_and, q_or, q_ife, q_tup, q_lst, q_dic, q_ix, q_sl, q_rev, q_call, q_callk, q_bi, q_lrng, q_mth, q_isi, q_nil, q_cons, q_on, q_os, q_tyes, q_tval, q_tnot, q_tand, q_tor, q_tcmp, q_tchn, q_tife, q_iseq, q_irng, q_ienu, q_izip, q_gnam, q_gtup, q_gsub, q_gnil, q_gcons, q_expr, q_asg, q_par, q_aug, q_ret, q_retn, q_pass, q_brk, q_cont, q_iff, q_snil, q_scons, q_start, q_srcT, q_srcF, q_srcS, q_srcL, cap, Nat.add_assoc, f_l_looks_right, b_l_looks_right, r.1, r.2, e6, e16, e2, e14, s1, s2, t1, t2, pl1, eqB]
/-- an empty dict -/
theorem w19d (h : M[n]? = some (.dct [])) : run TB.fns (gvOf TB) 64 (k + 5) 19 [.loc n] b M = .ok (.bl true) M := by
  have t : tyD M (.loc n) = some .dct := by simp [h]
  have r : reprD M (.loc n) = some [123, 125] := by
    have e : py M MX (.loc n) = none := by
      rw [show MX = 11 + 1 from rfl]
      unfold py
      dsimp only
      rw [h]
    unfold reprD
    rw [e]
    dsimp only
    rw [h]
  have e0 : ∀ k b, run TB.fns (gvOf TB) 64 (k + 1) 0 [.loc n] b M = .ok (.bl false) M := fun k b => by
    rw [call_flat (fn := f_is_whole) (d := .bl false) (M' := M) rfl rfl rfl ?_ (by simp)]
    · rw [List.take_length]
    · simp -implicitDefEqProofs [q_var, q_cst, q_glb, q_neg, q_no, q_bin, q_cmp, q_chn, q_and, q_or, q_ife, q_tup, q_lst, q_dic, q_ix, q_sl, q_rev, q_call, q_callk, q_bi, q_lrng, q_mth, q_isi, q_nil, q_cons, q_on, q_os, q_tyes, q_tval, q_tnot, q_tand, q_tor, q_tcmp, q_tchn, q_tife, q_iseq, q_irng, q_ienu, q_izip, q_gnam, q_gtup, q_gsub, q_gnil, q_gcons, q_expr, q_asg, q_par, q_aug, q_ret, q_retn, q_pass, q_brk, q_cont, q_iff, q_snil, q_scons, q_start, q_srcT, q_srcF, q_srcS, q_srcL, cap, Nat.add_assoc, f_is_whole, b_is_whole, h, isAny, isTy]
  have e1 : ∀ k b lo hi, run TB.fns (gvOf TB) 64 (k + 2) 1 [.loc n, .int lo, .int hi] b M = .ok (.bl false) M := fun k b lo hi => by
    rw [call_flat (fn := f_is_from) (d := .bl false) (M' := M) rfl rfl rfl ?_ (by simp)]
    · rw [List.take_length]
    · simp -implicitDefEqProofs [q_var, q_cst, q_glb, q_neg, q_no, q_bin, q_cmp, q_chn, q_and, q_or, q_ife, q_tup, q_lst, q_dic, q_ix, q_sl, q_rev, q_call, q_callk, q_bi, q_lrng, q_mth, q_isi, q_nil, q_cons, q_on, q_os, q_tyes, q_tval, q_tnot, q_tand, q_tor, q_tcmp, q_tchn, q_tife, q_iseq, q_irng, q_ienu, q_izip, q_gnam, q_gtup, q_gsub, q_gnil, q_gcons, q_expr, q_asg, q_par, q_aug, q_ret, q_retn, q_pass, q_brk, q_cont, q_iff, q_snil, q_scons, q_start, q_srcT, q_srcF, q_srcS, q_srcL, cap, Nat.add_assoc, f_is_from, b_is_from, e0]
  have e2 : ∀ k b, run TB.fns (gvOf TB) 64 (k + 1) 2 [.loc n] b M = .ok (.bl false) M := fun k b => by
    rw [call_flat (fn := f_is_word) (d := .bl false) (M' := M) rfl rfl rfl ?_ (by simp)]
    · rw [List.take_length]
    · simp -implicitDefEqProofs [q_var, q_cst, q_glb, q_neg, q_no, q_bin, q_cmp, q_chn, q_and, q_or, q_ife, q_tup, q_lst, q_dic, q_ix, q_sl, q_rev, q_call, q_callk, q_bi, q_lrng, q_mth, q_isi, q_nil, q_cons, q_on, q_os, q_tyes, q_tval, q_tnot, q_tand, q_tor, q_tcmp, q_tchn, q_tife, q_iseq, q_irng, q_ienu, q_izip, q_gnam, q_gtup, q_gsub, q_gnil, q_gcons, q_expr, q_asg, q_par, q_aug, q_ret, q_retn, q_pass, q_brk, q_cont, q_iff, q_snil, q_scons, q_start, q_srcT, q_srcF, q_srcS, q_srcL, cap, Nat.add_assoc, f_is_word, b_is_word, h, isAny, isTy]
  have e3 : ∀ k b, run TB.fns (gvOf TB) 64 (k + 3) 3 [.loc n] b M = .ok (.bl false) M := fun k b => by
    rw [call_flat (fn := f_is_written) (d := .bl false) (M' := M) rfl rfl rfl ?_ (by simp)]
    · rw [List.take_length]
    · simp -implicitDefEqProofs [q_var, q_cst, q_glb, q_neg, q_no, q_bin, q_cmp, q_chn, q_and, q_or, q_ife, q_tup, q_lst, q_dic, q_ix, q_sl, q_rev, q_call, q_callk, q_bi, q_lrng, q_mth, q_isi, q_nil, q_cons, q_on, q_os, q_tyes, q_tval, q_tnot, q_tand, q_tor, q_tcmp, q_tchn, q_tife, q_iseq, q_irng, q_ienu, q_izip, q_gnam, q_gtup, q_gsub, q_gnil, q_gcons, q_expr, q_asg, q_par, q_aug, q_ret, q_retn, q_pass, q_brk, q_cont, q_iff, q_snil, q_scons, q_start, q_srcT, q_srcF, q_srcS, q_srcL, cap, Nat.add_assoc, f_is_written, b_is_written, h, isAny, isTy, e1, g0]
  have e4 : ∀ k b lo hi, run TB.fns (gvOf TB) 64 (k + 1) 4 [.loc n, .int lo, .int hi] b M = .ok (.bl false) M := fun k b lo hi => by
    rw [call_flat (fn := f_is_tuple_of) (d := .bl false) (M' := M) rfl rfl rfl ?_ (by simp)]
    · rw [List.take_length]
    · simp -implicitDefEqProofs [q_var, q_cst, q_glb, q_neg, q_no, q_bin, q_cmp, q_chn, q_and, q_or, q_ife, q_tup, q_lst, q_dic, q_ix, q_sl, q_rev, q_call, q_callk, q_bi, q_lrng, q_mth, q_isi, q_nil, q_cons, q_on, q_os, q_tyes, q_tval, q_tnot, q_tand, q_tor, q_tcmp, q_tchn, q_tife, q_iseq, q_irng, q_ienu, q_izip, q_gnam, q_gtup, q_gsub, q_gnil, q_gcons, q_expr, q_asg, q_par, q_aug, q_ret, q_retn, q_pass, q_brk, q_cont, q_iff, q_snil, q_scons, q_start, q_srcT, q_srcF, q_srcS, q_srcL, cap, Nat.add_assoc, f_is_tuple_of, b_is_tuple_of, h, isAny, isTy]
  have e5 : ∀ k b m w, run TB.fns (gvOf TB) 64 (k + 2) 5 [.loc n, .int m, .str w] b M = .ok (.bl false) M := fun k b m w => by
    rw [call_flat (fn := f_begins) (d := .bl false) (M' := M) rfl rfl rfl ?_ (by simp)]
    · rw [List.take_length]
    · simp -implicitDefEqProofs [q_var, q_cst, q_glb, q_neg, q_no, q_bin, q_cmp, q_chn, q_and, q_or, q_ife, q_tup, q_lst, q_dic, q_ix, q_sl, q_rev, q_call, q_callk, q_bi, q_lrng, q_mth, q_isi, q_nil, q_cons, q_on, q_os, q_tyes, q_tval, q_tnot, q_tand, q_tor, q_tcmp, q_tchn, q_tife, q_iseq, q_irng, q_ienu, q_izip, q_gnam, q_gtup, q_gsub, q_gnil, q_gcons, q_expr, q_asg, q_par, q_aug, q_ret, q_retn, q_pass, q_brk, q_cont, q_iff, q_snil, q_scons, q_start, q_srcT, q_srcF, q_srcS, q_srcL, cap, Nat.add_assoc, f_begins, b_begins, e4]
  have e6 : ∀ k b, run TB.fns (gvOf TB) 64 (k + 4) 6 [.loc n] b M = .ok (.bl false) M := fun k b => by
    rw [call_flat (fn := f_is_worth) (d := .bl false) (M' := M) rfl rfl rfl ?_ (by simp)]
    · rw [List.take_length]
    · simp -implicitDefEqProofs [q_var, q_cst, q_glb, q_neg, q_no, q_bin, q_cmp, q_chn, q_and, q_or, q_ife, q_tup, q_lst, q_dic, q_ix, q_sl, q_rev, q_call, q_callk, q_bi, q_lrng, q_mth, q_isi, q_nil, q_cons, q_on, q_os, q_tyes, q_tval, q_tnot, q_tand, q_tor, q_tcmp, q_tchn, q_tife, q_iseq, q_irng, q_ienu, q_izip, q_gnam, q_gtup, q_gsub, q_gnil, q_gcons, q_expr, q_asg, q_par, q_aug, q_ret, q_retn, q_pass, q_brk, q_cont, q_iff, q_snil, q_scons, q_start, q_srcT, q_srcF, q_srcS, q_srcL, cap, Nat.add_assoc, f_is_worth, b_is_worth, e3, e5]
  have e14 : ∀ k b, run TB.fns (gvOf TB) 64 (k + 1) 14 [.loc n] b M = .ok (.bl false) M := fun k b => by
    rw [call_flat (fn := f_l_own_word) (d := .bl false) (M' := M) rfl rfl rfl ?_ (by simp)]
    · rw [List.take_length]
    · simp -implicitDefEqProofs [q_var, q_cst, q_glb, q_neg, q_no, q_bin, q_cmp, q_chn, q_and, q_or, q_ife, q_tup, q_lst, q_dic, q_ix, q_sl, q_rev, q_call, q_callk, q_bi, q_lrng, q_mth, q_isi, q_nil, q_cons, q_on, q_os, q_tyes, q_tval, q_tnot, q_tand, q_tor, q_tcmp, q_tchn, q_tife, q_iseq, q_irng, q_ienu, q_izip, q_gnam, q_gtup, q_gsub, q_gnil, q_gcons, q_expr, q_asg, q_par, q_aug, q_ret, q_retn, q_pass, q_brk, q_cont, q_iff, q_snil, q_scons, q_start, q_srcT, q_srcF, q_srcS, q_srcL, cap, Nat.add_assoc, f_l_own_word, b_l_own_word, h, isAny, isTy]
  have e16 : ∀ k b, run TB.fns (gvOf TB) 64 (k + 2) 16 [.loc n] b M = .ok (.bl false) M := fun k b => by
    rw [call_flat (fn := f_l_own_worth) (d := .bl false) (M' := M) rfl rfl rfl ?_ (by simp)]
    · rw [List.take_length]
    · simp -implicitDefEqProofs [q_var, q_cst, q_glb, q_neg, q_no, q_bin, q_cmp, q_chn, q_and, q_or, q_ife, q_tup, q_lst, q_dic, q_ix, q_sl, q_rev, q_call, q_callk, q_bi, q_lrng, q_mth, q_isi, q_nil, q_cons, q_on, q_os, q_tyes, q_tval, q_tnot, q_tand, q_tor, q_tcmp, q_tchn, q_tife, q_iseq, q_irng, q_ienu, q_izip, q_gnam, q_gtup, q_gsub, q_gnil, q_gcons, q_expr, q_asg, q_par, q_aug, q_ret, q_retn, q_pass, q_brk, q_cont, q_iff, q_snil, q_scons, q_start, q_srcT, q_srcF, q_srcS, q_srcL, cap, Nat.add_assoc, f_l_own_worth, b_l_own_worth, h, isAny, isTy]
  obtain ⟨s, s1, s2⟩ := rb_ (M := M) false
  have cd : codes [123, 125] = true := rfl
  rw [call_flat (fn := f_l_looks_right) (d := .bl true) (M' := M) rfl rfl rfl ?_ (by simp)]
  · rw [List.take_length]
  · simp -implicitDefEqProofs [q_var, q_cst, q_glb, q_neg, q_no, q_bin, q_cmp, q_chn, q_and, q_or, q_ife, q_tup, q_lst, q_dic, q_ix, q_sl, q_rev, q_call, q_callk, q_bi, q_lrng, q_mth, q_isi, q_nil, q_cons, q_on, q_os, q_tyes, q_tval, q_tnot, q_tand, q_tor, q_tcmp, q_tchn, q_tife, q_iseq, q_irng, q_ienu, q_izip, q_gnam, q_gtup, q_gsub, q_gnil, q_gcons, q_expr, q_asg, q_par, q_aug, q_ret, q_retn, q_pass, q_brk, q_cont, q_iff, q_snil, q_scons, q_start, q_srcT, q_srcF, q_srcS, q_srcL, cap, Nat.add_assoc, f_l_looks_right, b_l_looks_right, r, cd, e6, e16, e2, e14, s1, s2, pl1, eqB]
end K01
end

section
namespace K01
open PySem Ev
variable {k b n m p : Nat} {M : Sto} {x y : D} {d e : PyData}
/-! ### the signs of a number -/
def tlI (i : Int) : List Nat := match i with
  | .ofNat n => TL.numL n
  | .negSucc n => 45 :: TL.numL (n + 1)
theorem tlS_int (i : Int) : tlS (.int i) = tlI i := by
  cases i with
  | ofNat n => exact TL.tl_num n
  | negSucc n =>
    show (Str.ofString (toString (Int.negSucc n))).cps.toList = _
    rw [PyProof.Rows.signs_ofString]
    show ("-" ++ Nat.repr (n + 1)).toList.map Char.toNat = _
    rw [String.toList_append, List.map_append, Nat.toList_repr]
    rfl
theorem tlI_inj {i j : Int} (h : tlI i = tlI j) : i = j := by
  cases i with
  | ofNat n => cases j with
    | ofNat m => rw [TL.numL_inj (show TL.numL n = TL.numL m from h)]
    | negSucc m =>
      exact absurd (show 45 ∈ TL.numL n by rw [show TL.numL n = 45 :: TL.numL (m + 1) from h]; exact List.mem_cons_self ..) (TL.numL_free (.inl (by omega)))
  | negSucc n => cases j with
    | ofNat m =>
      exact absurd (show 45 ∈ TL.numL m by rw [← show 45 :: TL.numL (n + 1) = TL.numL m from h]; exact List.mem_cons_self ..) (TL.numL_free (.inl (by omega)))
    | negSucc m =>
      have z := TL.numL_inj (List.cons.inj (show 45 :: TL.numL (n + 1) = 45 :: TL.numL (m + 1) from h)).2
      rw [show n = m by omega]
/-- a number's signs are digits and a minus -/
theorem tlI_mem {i : Int} {c : Nat} (h : c ∈ tlI i) : c = 45 ∨ (48 ≤ c ∧ c ≤ 57) := by
  cases i with
  | ofNat n => exact .inr (TL.numL_digits n c h)
  | negSucc n =>
    rcases List.mem_cons.mp h with z | z
    · exact .inl z
    · exact .inr (TL.numL_digits (n + 1) c z)
theorem tlI_ne {i : Int} {c : Nat} {l : List Nat} (hc : c ≠ 45 ∧ (c < 48 ∨ 57 < c)) : tlI i ≠ c :: l := fun h => by
  have z := tlI_mem (i := i) (c := c) (by rw [h]; exact List.mem_cons_self ..)
  omega
theorem item_int {i : Int} (h : i.natAbs < 10 ^ 18) : itemOk (.int i) = true := by
  unfold itemOk
  have c1 : PyData.showable (.int i) = true := by
    rw [PyData.showable]
    refine decide_eq_true ?_
    by_cases z : i.natAbs = 0
    · rw [z]; decide
    · have := (Nat.log2_lt z (k := 1920)).mpr (Nat.lt_of_lt_of_le h (by decide))
      exact this
  have c2 : (PyData.shown (.int i)).length ≤ 40 := by
    rw [PyData.shown]
    have e := int_text_length_le10 (a := i) (k := 18) (by decide) h
    rw [ofString_length]
    omega
  have c3 : cpsOk (PyData.shown (.int i)) = true := by
    show codes (tlS (.int i)) = true
    rw [tlS_int]
    unfold codes
    rw [List.all_eq_true]
    intro c m
    have := tlI_mem m
    simp
    omega
  rw [c1, Nat.ble_eq_true_of_le c2, c3]
  rfl
/-! ### worths -/
def lotP (i : Int) : PyData := .tuple [sP LOT, .int i]
def placeP (i : Int) (w : List Nat) : PyData := .tuple [sP PLACE, .int i, sP w]
def T8 : List PyData := [lotP 0, lotP 1, lotP 2, lotP 100000000000000000000, placeP 0 [97], placeP 1 [97], placeP 2 [97], placeP 0 [97, 98, 99, 100, 101, 102]]
inductive Wd : PyData → Prop where
  | bl (q : Bool) : Wd (.bool q)
  | int (i : Int) (h : -1000000000 ≤ i ∧ i ≤ 1000000000) : Wd (.int i)
  | tup (t : PyData) (h : t ∈ T8) : Wd t
def isB : PyData → Bool
  | .bool _ => true
  | _ => false
def alikeP (a c : PyData) : Bool := (isB a == isB c) && PyData.eqv a c
theorem rep_tups : T8.all rep = true := by decide +kernel
theorem rep_of (h : Wd d) : rep d = true := by
  cases h with
  | bl q => cases q <;> decide +kernel
  | int i hi =>
    have z := item_int (i := i) (by omega)
    unfold itemOk at z
    rw [Bool.and_eq_true, Bool.and_eq_true] at z
    unfold rep
    rw [z.1.1, z.2, Nat.ble_eq_true_of_le (Nat.le_trans (Nat.le_of_ble_eq_true z.1.2) (by omega))]
    rfl
  | tup t ht => exact List.all_eq_true.mp rep_tups d ht
theorem tups_apart : T8.all (fun t => T8.all fun u => alikeP t u == decide (tlS t = tlS u)) = true := by decide +kernel
theorem tups_head : T8.all (fun t => (tlS t).head? == some 40 && !isB t && (match t with
  | .tuple _ => true
  | _ => false)) = true := by decide +kernel
theorem head_of {t : PyData} (h : t ∈ T8) : (∃ l, tlS t = 40 :: l) ∧ ∃ ds, t = .tuple ds := by
  have z := List.all_eq_true.mp tups_head t h
  simp only [Bool.and_eq_true, beq_iff_eq] at z
  obtain ⟨⟨z1, _⟩, z3⟩ := z
  refine ⟨?_, ?_⟩
  · cases q : tlS t with
    | nil => rw [q] at z1; cases z1
    | cons c l => rw [q] at z1; cases z1; exact ⟨l, rfl⟩
  · cases t <;> first | exact ⟨_, rfl⟩ | cases z3
theorem tl_bool (q : Bool) : ∃ c l, tlS (.bool q) = c :: l ∧ (c = 84 ∨ c = 70) := by
  cases q
  · exact ⟨70, [97, 108, 115, 101], by decide +kernel, .inr rfl⟩
  · exact ⟨84, [114, 117, 101], by decide +kernel, .inl rfl⟩
theorem same_eq (h : Wd d) (h' : Wd e) : alikeP d e = decide (tlS d = tlS e) := by
  have no : ∀ {a c : PyData}, tlS a ≠ tlS c → alikeP a c = false → alikeP a c = decide (tlS a = tlS c) := fun h1 h2 => by rw [h2, decide_eq_false h1]
  cases h with
  | bl q => cases h' with
    | bl r => cases q <;> cases r <;> decide +kernel
    | int i hi =>
      refine no ?_ (by simp [alikeP, isB])
      obtain ⟨c, l, e1, hc⟩ := tl_bool q
      rw [e1, tlS_int]
      exact fun z => tlI_ne (by omega) z.symm
    | tup u hu =>
      obtain ⟨⟨l', e2⟩, ds, rfl⟩ := head_of hu
      refine no ?_ (by simp [alikeP, isB])
      obtain ⟨c, l, e1, hc⟩ := tl_bool q
      rw [e1, e2]
      intro z
      cases z
      omega
  | int i hi => cases h' with
    | bl r =>
      refine no ?_ (by simp [alikeP, isB])
      obtain ⟨c, l, e1, hc⟩ := tl_bool r
      rw [e1, tlS_int]
      exact tlI_ne (by omega)
    | int j hj =>
      rw [tlS_int, tlS_int]
      show ((false == false) && PyData.eqv (.int i) (.int j)) = _
      rw [PyData.eqv]
      by_cases q : i = j
      · subst q; simp
      · rw [decide_eq_false fun z => q (tlI_inj z)]
        simp [q]
    | tup u hu =>
      obtain ⟨⟨l', e2⟩, ds, rfl⟩ := head_of hu
      refine no ?_ (by simp [alikeP, isB, PyData.eqv])
      rw [e2, tlS_int]
      exact tlI_ne (by omega)
  | tup t ht => cases h' with
    | bl r =>
      obtain ⟨⟨l', e2⟩, ds, rfl⟩ := head_of ht
      refine no ?_ (by simp [alikeP, isB])
      obtain ⟨c, l, e1, hc⟩ := tl_bool r
      rw [e1, e2]
      intro z
      cases z
      omega
    | int j hj =>
      obtain ⟨⟨l', e2⟩, ds, rfl⟩ := head_of ht
      refine no ?_ (by simp [alikeP, isB, PyData.eqv])
      rw [e2, tlS_int]
      exact fun z => tlI_ne (by omega) z.symm
    | tup u hu =>
      have z := List.all_eq_true.mp (List.all_eq_true.mp tups_apart d ht) e hu
      simpa using z
end K01
end

section
namespace K01
open PySem Ev
variable {k b n m p : Nat} {M : Sto} {x y : D} {d e : PyData}
theorem eq_at (h : At M x d) (h' : At M y e) : eqD M x y = some (PyData.eqv d e) := by
  unfold eqD
  rw [show py M MX x = some d from h, show py M MX y = some e from h']
theorem isiB (h : At M x d) : isiV (tyD M x) [.bool] M = .ok (.bl (isB d)) M := by
  rw [ty_at h]
  cases d with
  | dict _ => exact (at_inv h).elim
  | _ => rfl
theorem w7 (h : At M x d) (h' : At M y e) : run TB.fns (gvOf TB) 64 (k + 1) 7 [x, y] b M = .ok (.bl (alikeP d e)) M := by
  have b1 := isiB h
  have b2 := isiB h'
  have q := eq_at h h'
  unfold alikeP
  cases z : (isB d == isB e) with
  | true =>
    rw [call_flat (fn := f_alike) (d := .bl (PyData.eqv d e)) (M' := M) rfl rfl rfl ?_ (by simp)]
    · rw [List.take_length, Bool.true_and]
    · simp -implicitDefEqProofs [q_var, q_cst, q_glb, q_neg, q_no, q_bin, q_cmp, q_chn, q_and, q_or, q_ife, q_tup, q_lst, q_dic, q_ix, q_sl, q_rev, q_call, q_callk, q_bi, q_lrng, q_mth, q_isi, q_nil, q_cons, q_on, q_os, q_tyes, q_tval, q_tnot, q_tand, q_tor, q_tcmp, q_tchn, q_tife, q_iseq, q_irng, q_ienu, q_izip, q_gnam, q_gtup, q_gsub, q_gnil, q_gcons, q_expr, q_asg, q_par, q_aug, q_ret, q_retn, q_pass, q_brk, q_cont, q_iff, q_snil, q_scons, q_start, q_srcT, q_srcF, q_srcS, q_srcL, cap, Nat.add_assoc, f_alike, b_alike, b1, b2, eqB, z, q]
  | false =>
    rw [call_flat (fn := f_alike) (d := .bl false) (M' := M) rfl rfl rfl ?_ (by simp)]
    · rw [List.take_length, Bool.false_and]
    · simp -implicitDefEqProofs [q_var, q_cst, q_glb, q_neg, q_no, q_bin, q_cmp, q_chn, q_and, q_or, q_ife, q_tup, q_lst, q_dic, q_ix, q_sl, q_rev, q_call, q_callk, q_bi, q_lrng, q_mth, q_isi, q_nil, q_cons, q_on, q_os, q_tyes, q_tval, q_tnot, q_tand, q_tor, q_tcmp, q_tchn, q_tife, q_iseq, q_irng, q_ienu, q_izip, q_gnam, q_gtup, q_gsub, q_gnil, q_gcons, q_expr, q_asg, q_par, q_aug, q_ret, q_retn, q_pass, q_brk, q_cont, q_iff, q_snil, q_scons, q_start, q_srcT, q_srcF, q_srcS, q_srcL, cap, Nat.add_assoc, f_alike, b_alike, b1, b2, eqB, z]
theorem w12 (h : At M x d) (h' : At M y e) (r : rep d = true) (r' : rep e = true) : run TB.fns (gvOf TB) 64 (k + 1) 12 [x, y] b M = .ok (.bl (decide (tlS d = tlS e))) M := by
  have b1 := repr_at h r
  have b2 := repr_at h' r'
  generalize tlS d = s at b1
  generalize tlS e = t at b2
  rw [call_flat (fn := f_l_same) (d := .bl (decide (s = t))) (M' := M) rfl rfl rfl ?_ (by simp)]
  · rw [List.take_length]
  · simp -implicitDefEqProofs [q_var, q_cst, q_glb, q_neg, q_no, q_bin, q_cmp, q_chn, q_and, q_or, q_ife, q_tup, q_lst, q_dic, q_ix, q_sl, q_rev, q_call, q_callk, q_bi, q_lrng, q_mth, q_isi, q_nil, q_cons, q_on, q_os, q_tyes, q_tval, q_tnot, q_tand, q_tor, q_tcmp, q_tchn, q_tife, q_iseq, q_irng, q_ienu, q_izip, q_gnam, q_gtup, q_gsub, q_gnil, q_gcons, q_expr, q_asg, q_par, q_aug, q_ret, q_retn, q_pass, q_brk, q_cont, q_iff, q_snil, q_scons, q_start, q_srcT, q_srcF, q_srcS, q_srcL, cap, Nat.add_assoc, f_l_same, b_l_same, b1.1, b1.2, b2.1, b2.2]
    try exact decide_eq_decide.mpr Iff.rfl
def dSame : D := .str [115, 97, 109, 101]
def dPlus : D := .str [112, 108, 117, 115]
def dMinus : D := .str [109, 105, 110, 117, 115]
def dTimes : D := .str [116, 105, 109, 101, 115]
def dBelow : D := .str [98, 101, 108, 111, 119]
def worthD (v : D) : D := .tup [.str [119, 111, 114, 116, 104], v]
def kindD : D := .tup [.str [102, 97, 117, 108, 116], .str [107, 105, 110, 100]]
def greatD : D := .tup [.str [102, 97, 117, 108, 116], .str [103, 114, 101, 97, 116]]
def endI (f : Int) : D := if -1000000000 ≤ f then (if f ≤ 1000000000 then worthD (.int f) else greatD) else greatD
theorem at_int (i : Int) : At M (.int i) (.int i) := rfl
theorem at_bl (q : Bool) : At M (.bl q) (.bool q) := rfl
/-- both numbers -/
inductive Num4 : D → Int → Int → D → Prop where
  | plus (i j : Int) : Num4 dPlus i j (.int (i + j))
  | minus (i j : Int) : Num4 dMinus i j (.int (i - j))
  | times (i j : Int) : Num4 dTimes i j (.int (i * j))
  | below (i j : Int) : Num4 dBelow i j (.bl (decide (i < j)))
theorem w8 {w v : D} {i j : Int} (h : Num4 w i j v) (hs : small i = true) : run TB.fns (gvOf TB) 64 (k + 1) 8 [w, .int i, .int j] b M = .ok v M := by
  have fl : v.flat = true := by cases h <;> simp
  rw [call_flat (fn := f_reckoned) (d := v) (M' := M) rfl rfl rfl ?_ fl]
  · rw [List.take_length]
  · cases h <;> simp -implicitDefEqProofs [q_var, q_cst, q_glb, q_neg, q_no, q_bin, q_cmp, q_chn, q_and, q_or, q_ife, q_tup, q_lst, q_dic, q_ix, q_sl, q_rev, q_call, q_callk, q_bi, q_lrng, q_mth, q_isi, q_nil, q_cons, q_on, q_os, q_tyes, q_tval, q_tnot, q_tand, q_tor, q_tcmp, q_tchn, q_tife, q_iseq, q_irng, q_ienu, q_izip, q_gnam, q_gtup, q_gsub, q_gnil, q_gcons, q_expr, q_asg, q_par, q_aug, q_ret, q_retn, q_pass, q_brk, q_cont, q_iff, q_snil, q_scons, q_start, q_srcT, q_srcF, q_srcS, q_srcL, cap, Nat.add_assoc, f_reckoned, b_reckoned, dPlus, dMinus, dTimes, dBelow, codes, hs]
def endV : D → D
  | .int f => endI f
  | v => worthD v
theorem endV_flat {w v : D} {i j : Int} (h : Num4 w i j v) : (endV v).flat = true := by
  cases h <;> simp [endV, endI, worthD, greatD] <;> split <;> (try split) <;> simp
theorem w9_num {w v : D} {i j : Int} (h : Num4 w i j v) (hs : small i = true) : run TB.fns (gvOf TB) 64 (k + 4) 9 [w, .int i, .int j] b M = .ok (endV v) M := by
  have e8 := w8 (k := k + 2) (b := M.length) (M := M) h hs
  have e0 := w0 (k := k + 2) (b := M.length) (at_int (M := M) i)
  have e0' := w0 (k := k + 2) (b := M.length) (at_int (M := M) j)
  have fl := endV_flat h
  have ns : eqD M w dSame = some false := by cases h <;> simp [dPlus, dMinus, dTimes, dBelow, dSame, codes]
  have nw : codes [115, 97, 109, 101] = true := rfl
  unfold dSame at ns
  rw [call_flat (fn := f_done) (d := endV v) (M' := M) rfl rfl rfl ?_ fl]
  · rw [List.take_length]
  · have go : ∀ f : Int, v = .int f → endD (evSs (cf (k + 3)) M.length f_done.body (startE f_done [w, .int i, .int j]) M) = .ok (endI f) M := fun f ev => by
      subst ev
      have e3 := w3 (k := k) (b := M.length) (at_int (M := M) f)
      by_cases h1 : -1000000000 ≤ f
      · by_cases h2 : f ≤ 1000000000
        · simp -implicitDefEqProofs [q_var, q_cst, q_glb, q_neg, q_no, q_bin, q_cmp, q_chn, q_and, q_or, q_ife, q_tup, q_lst, q_dic, q_ix, q_sl, q_rev, q_call, q_callk, q_bi, q_lrng, q_mth, q_isi, q_nil, q_cons, q_on, q_os, q_tyes, q_tval, q_tnot, q_tand, q_tor, q_tcmp, q_tchn, q_tife, q_iseq, q_irng, q_ienu, q_izip, q_gnam, q_gtup, q_gsub, q_gnil, q_gcons, q_expr, q_asg, q_par, q_aug, q_ret, q_retn, q_pass, q_brk, q_cont, q_iff, q_snil, q_scons, q_start, q_srcT, q_srcF, q_srcS, q_srcL, cap, Nat.add_assoc, f_done, b_done, ns, e0, e0', wholeP, e8, e3, writtenP, fromP, h1, h2, endI, worthD]
        · simp -implicitDefEqProofs [q_var, q_cst, q_glb, q_neg, q_no, q_bin, q_cmp, q_chn, q_and, q_or, q_ife, q_tup, q_lst, q_dic, q_ix, q_sl, q_rev, q_call, q_callk, q_bi, q_lrng, q_mth, q_isi, q_nil, q_cons, q_on, q_os, q_tyes, q_tval, q_tnot, q_tand, q_tor, q_tcmp, q_tchn, q_tife, q_iseq, q_irng, q_ienu, q_izip, q_gnam, q_gtup, q_gsub, q_gnil, q_gcons, q_expr, q_asg, q_par, q_aug, q_ret, q_retn, q_pass, q_brk, q_cont, q_iff, q_snil, q_scons, q_start, q_srcT, q_srcF, q_srcS, q_srcL, cap, Nat.add_assoc, f_done, b_done, ns, e0, e0', wholeP, e8, e3, writtenP, fromP, h1, h2, endI, greatD]
      · simp -implicitDefEqProofs [q_var, q_cst, q_glb, q_neg, q_no, q_bin, q_cmp, q_chn, q_and, q_or, q_ife, q_tup, q_lst, q_dic, q_ix, q_sl, q_rev, q_call, q_callk, q_bi, q_lrng, q_mth, q_isi, q_nil, q_cons, q_on, q_os, q_tyes, q_tval, q_tnot, q_tand, q_tor, q_tcmp, q_tchn, q_tife, q_iseq, q_irng, q_ienu, q_izip, q_gnam, q_gtup, q_gsub, q_gnil, q_gcons, q_expr, q_asg, q_par, q_aug, q_ret, q_retn, q_pass, q_brk, q_cont, q_iff, q_snil, q_scons, q_start, q_srcT, q_srcF, q_srcS, q_srcL, cap, Nat.add_assoc, f_done, b_done, ns, e0, e0', wholeP, e8, e3, writtenP, fromP, h1, endI, greatD]
    cases h with
    | plus => exact go _ rfl
    | minus => exact go _ rfl
    | times => exact go _ rfl
    | below =>
      have e3 := w3 (k := k) (b := M.length) (at_bl (M := M) (decide (i < j)))
      simp -implicitDefEqProofs [q_var, q_cst, q_glb, q_neg, q_no, q_bin, q_cmp, q_chn, q_and, q_or, q_ife, q_tup, q_lst, q_dic, q_ix, q_sl, q_rev, q_call, q_callk, q_bi, q_lrng, q_mth, q_isi, q_nil, q_cons, q_on, q_os, q_tyes, q_tval, q_tnot, q_tand, q_tor, q_tcmp, q_tchn, q_tife, q_iseq, q_irng, q_ienu, q_izip, q_gnam, q_gtup, q_gsub, q_gnil, q_gcons, q_expr, q_asg, q_par, q_aug, q_ret, q_retn, q_pass, q_brk, q_cont, q_iff, q_snil, q_scons, q_start, q_srcT, q_srcF, q_srcS, q_srcL, cap, Nat.add_assoc, f_done, b_done, ns, e0, e0', wholeP, e8, e3, writtenP, endV, worthD]
theorem w9_kind {w : D} (hw : eqD M w dSame = some false) (h : At M x d) (h' : At M y e) (hk : (wholeP d && wholeP e) = false) : run TB.fns (gvOf TB) 64 (k + 4) 9 [w, x, y] b M = .ok kindD M := by
  have e0 := w0 (k := k + 2) (b := M.length) h
  have e0' := w0 (k := k + 2) (b := M.length) h'
  unfold dSame at hw
  rw [call_flat (fn := f_done) (d := kindD) (M' := M) rfl rfl rfl ?_ (by simp [kindD])]
  · rw [List.take_length]
  · cases q : wholeP d with
    | false =>
      rw [q] at e0
      simp -implicitDefEqProofs [q_var, q_cst, q_glb, q_neg, q_no, q_bin, q_cmp, q_chn, q_and, q_or, q_ife, q_tup, q_lst, q_dic, q_ix, q_sl, q_rev, q_call, q_callk, q_bi, q_lrng, q_mth, q_isi, q_nil, q_cons, q_on, q_os, q_tyes, q_tval, q_tnot, q_tand, q_tor, q_tcmp, q_tchn, q_tife, q_iseq, q_irng, q_ienu, q_izip, q_gnam, q_gtup, q_gsub, q_gnil, q_gcons, q_expr, q_asg, q_par, q_aug, q_ret, q_retn, q_pass, q_brk, q_cont, q_iff, q_snil, q_scons, q_start, q_srcT, q_srcF, q_srcS, q_srcL, cap, Nat.add_assoc, f_done, b_done, i1_done, hw, e0, kindD]
    | true =>
      rw [q, Bool.true_and] at hk
      rw [q] at e0
      rw [hk] at e0'
      simp -implicitDefEqProofs [q_var, q_cst, q_glb, q_neg, q_no, q_bin, q_cmp, q_chn, q_and, q_or, q_ife, q_tup, q_lst, q_dic, q_ix, q_sl, q_rev, q_call, q_callk, q_bi, q_lrng, q_mth, q_isi, q_nil, q_cons, q_on, q_os, q_tyes, q_tval, q_tnot, q_tand, q_tor, q_tcmp, q_tchn, q_tife, q_iseq, q_irng, q_ienu, q_izip, q_gnam, q_gtup, q_gsub, q_gnil, q_gcons, q_expr, q_asg, q_par, q_aug, q_ret, q_retn, q_pass, q_brk, q_cont, q_iff, q_snil, q_scons, q_start, q_srcT, q_srcF, q_srcS, q_srcL, cap, Nat.add_assoc, f_done, b_done, i1_done, hw, e0, e0', kindD]
theorem w9_same (h : At M x d) (h' : At M y e) : run TB.fns (gvOf TB) 64 (k + 4) 9 [dSame, x, y] b M = .ok (worthD (.bl (alikeP d e))) M := by
  have e7 := w7 (k := k + 2) (b := M.length) h h'
  rw [call_flat (fn := f_done) (d := worthD (.bl (alikeP d e))) (M' := M) rfl rfl rfl ?_ (by simp [worthD])]
  · rw [List.take_length]
  · simp -implicitDefEqProofs [q_var, q_cst, q_glb, q_neg, q_no, q_bin, q_cmp, q_chn, q_and, q_or, q_ife, q_tup, q_lst, q_dic, q_ix, q_sl, q_rev, q_call, q_callk, q_bi, q_lrng, q_mth, q_isi, q_nil, q_cons, q_on, q_os, q_tyes, q_tval, q_tnot, q_tand, q_tor, q_tcmp, q_tchn, q_tife, q_iseq, q_irng, q_ienu, q_izip, q_gnam, q_gtup, q_gsub, q_gnil, q_gcons, q_expr, q_asg, q_par, q_aug, q_ret, q_retn, q_pass, q_brk, q_cont, q_iff, q_snil, q_scons, q_start, q_srcT, q_srcF, q_srcS, q_srcL, cap, Nat.add_assoc, f_done, b_done, i2_done, dSame, codes, e7, worthD]
/-! ### the law's own -/
theorem w13_same (h : At M x d) (h' : At M y e) (r : rep d = true) (r' : rep e = true) : run TB.fns (gvOf TB) 64 (k + 2) 13 [dSame, x, y] b M = .ok (worthD (.bl (decide (tlS d = tlS e)))) M := by
  have e12 := w12 (k := k) (b := M.length) h h' r r'
  generalize decide (tlS d = tlS e) = q at e12
  rw [call_flat (fn := f_l_two) (d := worthD (.bl q)) (M' := M) rfl rfl rfl ?_ (by simp [worthD])]
  · rw [List.take_length]
  · simp -implicitDefEqProofs [q_var, q_cst, q_glb, q_neg, q_no, q_bin, q_cmp, q_chn, q_and, q_or, q_ife, q_tup, q_lst, q_dic, q_ix, q_sl, q_rev, q_call, q_callk, q_bi, q_lrng, q_mth, q_isi, q_nil, q_cons, q_on, q_os, q_tyes, q_tval, q_tnot, q_tand, q_tor, q_tcmp, q_tchn, q_tife, q_iseq, q_irng, q_ienu, q_izip, q_gnam, q_gtup, q_gsub, q_gnil, q_gcons, q_expr, q_asg, q_par, q_aug, q_ret, q_retn, q_pass, q_brk, q_cont, q_iff, q_snil, q_scons, q_start, q_srcT, q_srcF, q_srcS, q_srcL, cap, Nat.add_assoc, f_l_two, b_l_two, i3_l_two, dSame, codes, e12, worthD]
def badV (v : D) : Bool := match v with
  | .bl _ => true
  | .tup _ => true
  | _ => false
theorem bad_of (h : At M x d) (W : Wd d) : badV x = !wholeP d := by
  cases W with
  | bl q => rw [at_inv h]; rfl
  | int i hi => rw [at_inv h]; rfl
  | tup t ht =>
    obtain ⟨_, ds, rfl⟩ := head_of ht
    obtain ⟨xs, rfl, _⟩ := at_inv h
    rfl
theorem isi_bad (hx : ∃ M0 d, At M0 x d ∧ Wd d) (M : Sto) : isiV (tyD M x) [.bool, .tup] M = .ok (.bl (badV x)) M := by
  obtain ⟨M0, d, h, W⟩ := hx
  cases W with
  | bl q => rw [at_inv h]; rfl
  | int i hi => rw [at_inv h]; rfl
  | tup t ht =>
    obtain ⟨_, ds, rfl⟩ := head_of ht
    obtain ⟨xs, rfl, _⟩ := at_inv h
    rfl
theorem l1t_ev {c : Cf} {w : D} (h : At M x d) (h' : At M y e) (W : Wd d) (W' : Wd e) : ∃ a, evS c b l1_l_two [some w, some x, some y, none, none] M = if wholeP d && wholeP e then some (.nx [some w, some x, some y, a, none], M ++ [.lst [x, y]]) else some (.rt kindD, M ++ [.lst [x, y]]) := by
  have i1 := isi_bad ⟨M, d, h, W⟩
  have i2 := isi_bad ⟨M, e, h', W'⟩
  have lz : (M ++ [O.lst [x, y]])[M.length]? = some (.lst [x, y]) := by rw [get_ap0]; rfl
  have lp := loop_chk (M := M ++ [.lst [x, y]]) (next := fun M' i => (Src.lst M.length).next M' i) (xs := [x, y]) (r := kindD) (I := fun ρ => ∃ a, ρ = [some w, some x, some y, a, none]) (bad := badV) (body := fun d ρ M => bodyS (evG c b (.nam 3) d ρ M) (evSs c b s1_l_two))
    (next_lst lz) (fun v mv ρ hI => by
      obtain ⟨a, rfl⟩ := hI
      have iv : ∀ M, isiV (tyD M v) [.bool, .tup] M = .ok (.bl (badV v)) M := by
        rcases List.mem_cons.mp mv with rfl | mv
        · exact i1
        · rw [List.mem_singleton.mp mv]; exact i2
      cases q : badV v with
      | true =>
        rw [q] at iv
        exact .inl ⟨rfl, by simp -implicitDefEqProofs [q_var, q_cst, q_glb, q_neg, q_no, q_bin, q_cmp, q_chn, q_and, q_or, q_ife, q_tup, q_lst, q_dic, q_ix, q_sl, q_rev, q_call, q_callk, q_bi, q_lrng, q_mth, q_isi, q_nil, q_cons, q_on, q_os, q_tyes, q_tval, q_tnot, q_tand, q_tor, q_tcmp, q_tchn, q_tife, q_iseq, q_irng, q_ienu, q_izip, q_gnam, q_gtup, q_gsub, q_gnil, q_gcons, q_expr, q_asg, q_par, q_aug, q_ret, q_retn, q_pass, q_brk, q_cont, q_iff, q_snil, q_scons, q_start, q_srcT, q_srcF, q_srcS, q_srcL, cap, Nat.add_assoc, s1_l_two, i2_l_two, iv, kindD]⟩
      | false =>
        rw [q] at iv
        exact .inr ⟨rfl, _, ⟨some v, rfl⟩, by simp -implicitDefEqProofs [q_var, q_cst, q_glb, q_neg, q_no, q_bin, q_cmp, q_chn, q_and, q_or, q_ife, q_tup, q_lst, q_dic, q_ix, q_sl, q_rev, q_call, q_callk, q_bi, q_lrng, q_mth, q_isi, q_nil, q_cons, q_on, q_os, q_tyes, q_tval, q_tnot, q_tand, q_tor, q_tcmp, q_tchn, q_tife, q_iseq, q_irng, q_ienu, q_izip, q_gnam, q_gtup, q_gsub, q_gnil, q_gcons, q_expr, q_asg, q_par, q_aug, q_ret, q_retn, q_pass, q_brk, q_cont, q_iff, q_snil, q_scons, q_start, q_srcT, q_srcF, q_srcS, q_srcL, cap, Nat.add_assoc, s1_l_two, iv]⟩) 2 0 rfl [some w, some x, some y, none, none] ⟨none, rfl⟩
  have ef : evS c b l1_l_two [some w, some x, some y, none, none] M = loop (fun M' i => (Src.lst M.length).next M' i) (fun d ρ M => bodyS (evG c b (.nam 3) d ρ M) (evSs c b s1_l_two)) 3 0 [some w, some x, some y, none, none] (M ++ [.lst [x, y]]) := by
    unfold l1_l_two
    rw [for_ev (src := .lst M.length) (M1 := M ++ [.lst [x, y]]) (by simp -implicitDefEqProofs [q_var, q_cst, q_glb, q_neg, q_no, q_bin, q_cmp, q_chn, q_and, q_or, q_ife, q_tup, q_lst, q_dic, q_ix, q_sl, q_rev, q_call, q_callk, q_bi, q_lrng, q_mth, q_isi, q_nil, q_cons, q_on, q_os, q_tyes, q_tval, q_tnot, q_tand, q_tor, q_tcmp, q_tchn, q_tife, q_iseq, q_irng, q_ienu, q_izip, q_gnam, q_gtup, q_gsub, q_gnil, q_gcons, q_expr, q_asg, q_par, q_aug, q_ret, q_retn, q_pass, q_brk, q_cont, q_iff, q_snil, q_scons, q_start, q_srcT, q_srcF, q_srcS, q_srcL, cap, Nat.add_assoc]), len_lst lz]
    rfl
  have anyb : [x, y].any badV = !(wholeP d && wholeP e) := by
    rw [List.any_cons, List.any_cons, bad_of h W, bad_of h' W']
    cases wholeP d <;> cases wholeP e <;> rfl
  rw [List.drop_zero, anyb] at lp
  rw [ef]
  rcases lp with ⟨q, e1⟩ | ⟨q, ρ', ⟨a, rfl⟩, e1⟩
  · refine ⟨none, ?_⟩
    rw [Bool.not_eq_true'] at q
    rw [e1, q]
    rfl
  · refine ⟨a, ?_⟩
    have q2 : (wholeP d && wholeP e) = true := by
      cases z : (wholeP d && wholeP e) with
      | true => rfl
      | false => rw [z] at q; cases q
    rw [e1, q2]
    rfl
theorem w13_kind {w : D} (hw : eqD M w dSame = some false) (h : At M x d) (h' : At M y e) (W : Wd d) (W' : Wd e) (hk : (wholeP d && wholeP e) = false) : run TB.fns (gvOf TB) 64 (k + 2) 13 [w, x, y] b M = .ok kindD M := by
  obtain ⟨a, el⟩ := l1t_ev (c := cf (k + 1)) (b := M.length) (w := w) h h' W W'
  rw [hk] at el
  simp only [Bool.false_eq_true, if_false] at el
  unfold dSame at hw
  rw [call_flat (fn := f_l_two) (d := kindD) (M' := M ++ [.lst [x, y]]) rfl rfl rfl ?_ (by simp [kindD])]
  · rw [take_ap]
  · simp -implicitDefEqProofs [q_var, q_cst, q_glb, q_neg, q_no, q_bin, q_cmp, q_chn, q_and, q_or, q_ife, q_tup, q_lst, q_dic, q_ix, q_sl, q_rev, q_call, q_callk, q_bi, q_lrng, q_mth, q_isi, q_nil, q_cons, q_on, q_os, q_tyes, q_tval, q_tnot, q_tand, q_tor, q_tcmp, q_tchn, q_tife, q_iseq, q_irng, q_ienu, q_izip, q_gnam, q_gtup, q_gsub, q_gnil, q_gcons, q_expr, q_asg, q_par, q_aug, q_ret, q_retn, q_pass, q_brk, q_cont, q_iff, q_snil, q_scons, q_start, q_srcT, q_srcF, q_srcS, q_srcL, cap, Nat.add_assoc, f_l_two, b_l_two, hw, el]
theorem at_ix {w : List Nat} {j : Nat} (h : firstAt (fun z => eqA z (.str w)) [dPlus, dMinus, dTimes] 0 = some j) (hn : M[n]? = some (.lst [dPlus, dMinus, dTimes])) : semM1 .index (.loc n) (.str w) b M = .ok (.int j) M := by
  dsimp only [semM1]
  rw [lo_loc, hn]
  dsimp only
  rw [show (atom (.str w) && [dPlus, dMinus, dTimes].all atom) = true from rfl]
  dsimp only
  rw [h]
theorem w13_num {w v : D} {i j : Int} (h : Num4 w i j v) (hs : small i = true) (wi : -1000000000 ≤ i ∧ i ≤ 1000000000) (wj : -1000000000 ≤ j ∧ j ≤ 1000000000) : run TB.fns (gvOf TB) 64 (k + 2) 13 [w, .int i, .int j] b M = .ok (endV v) M := by
  have ns : eqD M w dSame = some false := by cases h <;> simp [dPlus, dMinus, dTimes, dBelow, dSame, codes]
  obtain ⟨a, el⟩ := l1t_ev (c := cf (k + 1)) (b := M.length) (w := w) (at_int (M := M) i) (at_int (M := M) j) (.int i wi) (.int j wj)
  have ww : (wholeP (.int i) && wholeP (.int j)) = true := rfl
  rw [ww, if_pos rfl] at el
  have fl := endV_flat h
  unfold dSame at ns
  have go : ∀ (f : Int) (t : Nat) (s : List Nat), v = .int f → w = .str s → eqD (M ++ [.lst [.int i, .int j]]) w dBelow = some false → firstAt (fun z => eqA z (.str s)) [dPlus, dMinus, dTimes] 0 = some t → L2.atI [D.int (i + j), .int (i - j), .int (i * j)] (t : Int) = some (.int f) →
      run TB.fns (gvOf TB) 64 (k + 2) 13 [w, .int i, .int j] b M = .ok (endV v) M := fun f t s ev ew nb hf hat => by
    subst ev ew
    have ix := at_ix (b := M.length) (n := M.length + 2) (M := M ++ [.lst [.int i, .int j], .lst [.int (i + j), .int (i - j), .int (i * j)], .lst [dPlus, dMinus, dTimes]]) hf (by simp)
    unfold dBelow at nb
    unfold dPlus dMinus dTimes at ix
    rw [call_flat (fn := f_l_two) (d := endI f) (M' := M ++ [.lst [.int i, .int j], .lst [.int (i + j), .int (i - j), .int (i * j)], .lst [dPlus, dMinus, dTimes]]) rfl rfl rfl ?_ fl]
    · rw [take_ap]; rfl
    · by_cases h1 : -1000000000 ≤ f
      · by_cases h2 : f ≤ 1000000000
        · simp -implicitDefEqProofs [q_var, q_cst, q_glb, q_neg, q_no, q_bin, q_cmp, q_chn, q_and, q_or, q_ife, q_tup, q_lst, q_dic, q_ix, q_sl, q_rev, q_call, q_callk, q_bi, q_lrng, q_mth, q_isi, q_nil, q_cons, q_on, q_os, q_tyes, q_tval, q_tnot, q_tand, q_tor, q_tcmp, q_tchn, q_tife, q_iseq, q_irng, q_ienu, q_izip, q_gnam, q_gtup, q_gsub, q_gnil, q_gcons, q_expr, q_asg, q_par, q_aug, q_ret, q_retn, q_pass, q_brk, q_cont, q_iff, q_snil, q_scons, q_start, q_srcT, q_srcF, q_srcS, q_srcL, cap, Nat.add_assoc, f_l_two, b_l_two, ns, el, nb, hs, ix, hat, h1, h2, endI, worthD, dPlus, dMinus, dTimes]
        · simp -implicitDefEqProofs [q_var, q_cst, q_glb, q_neg, q_no, q_bin, q_cmp, q_chn, q_and, q_or, q_ife, q_tup, q_lst, q_dic, q_ix, q_sl, q_rev, q_call, q_callk, q_bi, q_lrng, q_mth, q_isi, q_nil, q_cons, q_on, q_os, q_tyes, q_tval, q_tnot, q_tand, q_tor, q_tcmp, q_tchn, q_tife, q_iseq, q_irng, q_ienu, q_izip, q_gnam, q_gtup, q_gsub, q_gnil, q_gcons, q_expr, q_asg, q_par, q_aug, q_ret, q_retn, q_pass, q_brk, q_cont, q_iff, q_snil, q_scons, q_start, q_srcT, q_srcF, q_srcS, q_srcL, cap, Nat.add_assoc, f_l_two, b_l_two, ns, el, nb, hs, ix, hat, h1, h2, endI, greatD, dPlus, dMinus, dTimes]
      · simp -implicitDefEqProofs [q_var, q_cst, q_glb, q_neg, q_no, q_bin, q_cmp, q_chn, q_and, q_or, q_ife, q_tup, q_lst, q_dic, q_ix, q_sl, q_rev, q_call, q_callk, q_bi, q_lrng, q_mth, q_isi, q_nil, q_cons, q_on, q_os, q_tyes, q_tval, q_tnot, q_tand, q_tor, q_tcmp, q_tchn, q_tife, q_iseq, q_irng, q_ienu, q_izip, q_gnam, q_gtup, q_gsub, q_gnil, q_gcons, q_expr, q_asg, q_par, q_aug, q_ret, q_retn, q_pass, q_brk, q_cont, q_iff, q_snil, q_scons, q_start, q_srcT, q_srcF, q_srcS, q_srcL, cap, Nat.add_assoc, f_l_two, b_l_two, ns, el, nb, hs, ix, hat, h1, endI, greatD, dPlus, dMinus, dTimes]
  cases h with
  | plus => exact go _ 0 _ rfl rfl (by simp [dPlus, dBelow, codes]) rfl rfl
  | minus => exact go _ 1 _ rfl rfl (by simp [dMinus, dBelow, codes]) rfl rfl
  | times => exact go _ 2 _ rfl rfl (by simp [dTimes, dBelow, codes]) rfl rfl
  | below =>
    rw [call_flat (fn := f_l_two) (d := worthD (.bl (decide (i < j)))) (M' := M ++ [.lst [.int i, .int j]]) rfl rfl rfl ?_ (by simp [worthD])]
    · rw [take_ap]; rfl
    · unfold dBelow at ns el
      simp -implicitDefEqProofs [q_var, q_cst, q_glb, q_neg, q_no, q_bin, q_cmp, q_chn, q_and, q_or, q_ife, q_tup, q_lst, q_dic, q_ix, q_sl, q_rev, q_call, q_callk, q_bi, q_lrng, q_mth, q_isi, q_nil, q_cons, q_on, q_os, q_tyes, q_tval, q_tnot, q_tand, q_tor, q_tcmp, q_tchn, q_tife, q_iseq, q_irng, q_ienu, q_izip, q_gnam, q_gtup, q_gsub, q_gnil, q_gcons, q_expr, q_asg, q_par, q_aug, q_ret, q_retn, q_pass, q_brk, q_cont, q_iff, q_snil, q_scons, q_start, q_srcT, q_srcF, q_srcS, q_srcL, cap, Nat.add_assoc, f_l_two, b_l_two, i1_l_two, ns, el, dBelow, codes, worthD]
end K01
end

section
namespace K01
open PySem Ev
variable {k b n m p : Nat} {M : Sto} {x y : D} {d e : PyData}
theorem g4 : gvOf TB 4 = some (.tup [dPlus, dMinus, dTimes, dBelow, dSame]) := id rfl
def ReprOk (M : Sto) (v : D) : Prop := ∃ s, reprD M v = some s ∧ codes s = true
theorem r_worth {v : D} (h : oka v = true) (hi : itemOk (gA v) = true) : ReprOk M (worthD v) := repr_tup (fun y m => by
    rcases List.mem_cons.mp m with rfl | m
    · rfl
    · rw [List.mem_singleton.mp m]; exact h) (fun y m => by
    rcases List.mem_cons.mp m with rfl | m
    · decide +kernel
    · rw [List.mem_singleton.mp m]; exact hi) (by simp)
theorem r_kind : ReprOk M kindD := repr_tup (fun y m => by
    simp only [List.mem_cons, List.not_mem_nil, or_false] at m
    rcases m with rfl | rfl <;> rfl) (fun y m => by
    simp only [List.mem_cons, List.not_mem_nil, or_false] at m
    rcases m with rfl | rfl <;> decide +kernel) (by decide)
theorem r_great : ReprOk M greatD := repr_tup (fun y m => by
    simp only [List.mem_cons, List.not_mem_nil, or_false] at m
    rcases m with rfl | rfl <;> rfl) (fun y m => by
    simp only [List.mem_cons, List.not_mem_nil, or_false] at m
    rcases m with rfl | rfl <;> decide +kernel) (by decide)
theorem r_bl (q : Bool) : ReprOk M (worthD (.bl q)) := r_worth rfl (by cases q <;> decide +kernel)
theorem r_endI (f : Int) : ReprOk M (endI f) := by
  unfold endI
  split
  · split
    · exact r_worth rfl (item_int (by omega))
    · exact r_great
  · exact r_great
theorem word_ok {w : D} (hw : w ∈ [dPlus, dMinus, dTimes, dBelow, dSame]) (h : At M x d) (h' : At M y e) (W : Wd d) (W' : Wd e) : ∃ res, (∀ k b, run TB.fns (gvOf TB) 64 (k + 4) 9 [w, x, y] b M = .ok res M) ∧ (∀ k b, run TB.fns (gvOf TB) 64 (k + 2) 13 [w, x, y] b M = .ok res M) ∧ ReprOk M res := by
  by_cases hs : w = dSame
  · subst hs
    have z := same_eq W W'
    refine ⟨_, fun k b => w9_same h h', fun k b => ?_, r_bl _⟩
    rw [z]
    exact w13_same h h' (rep_of W) (rep_of W')
  · have ns : eqD M w dSame = some false := by
      simp only [List.mem_cons, List.not_mem_nil, or_false] at hw
      rcases hw with rfl | rfl | rfl | rfl | rfl <;> first | (exact absurd rfl hs) | simp [dPlus, dMinus, dTimes, dBelow, dSame, codes]
    cases q : (wholeP d && wholeP e) with
    | false => exact ⟨kindD, fun k b => w9_kind ns h h' q, fun k b => w13_kind ns h h' W W' q, r_kind⟩
    | true =>
      rw [Bool.and_eq_true] at q
      cases W with
      | bl _ => cases q.1
      | tup t ht => obtain ⟨_, ds, rfl⟩ := head_of ht; cases q.1
      | int i hi =>
        cases W' with
        | bl _ => cases q.2
        | tup t ht => obtain ⟨_, ds, rfl⟩ := head_of ht; cases q.2
        | int j hj =>
          have z1 := at_inv h
          have z2 := at_inv h'
          dsimp only at z1 z2
          subst z1 z2
          have sm : small i = true := small_of (by omega) (by omega)
          simp only [List.mem_cons, List.not_mem_nil, or_false] at hw
          rcases hw with rfl | rfl | rfl | rfl | rfl
          · exact ⟨_, fun k b => w9_num (.plus i j) sm, fun k b => w13_num (.plus i j) sm hi hj, r_endI _⟩
          · exact ⟨_, fun k b => w9_num (.minus i j) sm, fun k b => w13_num (.minus i j) sm hi hj, r_endI _⟩
          · exact ⟨_, fun k b => w9_num (.times i j) sm, fun k b => w13_num (.times i j) sm hi hj, r_endI _⟩
          · exact ⟨_, fun k b => w9_num (.below i j) sm, fun k b => w13_num (.below i j) sm hi hj, r_bl _⟩
          · exact absurd rfl hs
theorem pl3 (l r w : D) : place 3 ([] : List D) [2, 1, 0] [r, l, w] = some [w, l, r] := id rfl
theorem pl2 (l r : D) : place 2 ([] : List D) [1, 0] [r, l] = some [l, r] := id rfl
theorem s1t_ev {w : D} {a c : Option D} (hw : w ∈ [dPlus, dMinus, dTimes, dBelow, dSame]) (h : At M x d) (h' : At M y e) (W : Wd d) (W' : Wd e) : ∃ c, evSs (cf (k + 4)) b s1_l_two_right [some x, some y, some w, a] M = some (.nx [some x, some y, some w, c], M) := by
  obtain ⟨res, e9, e13, s, r1, r2⟩ := word_ok hw h h' W W'
  have e9' := e9 k b
  have e13' := e13 (k + 2) b
  exact ⟨some (.str s), by simp -implicitDefEqProofs [q_var, q_cst, q_glb, q_neg, q_no, q_bin, q_cmp, q_chn, q_and, q_or, q_ife, q_tup, q_lst, q_dic, q_ix, q_sl, q_rev, q_call, q_callk, q_bi, q_lrng, q_mth, q_isi, q_nil, q_cons, q_on, q_os, q_tyes, q_tval, q_tnot, q_tand, q_tor, q_tcmp, q_tchn, q_tife, q_iseq, q_irng, q_ienu, q_izip, q_gnam, q_gtup, q_gsub, q_gnil, q_gcons, q_expr, q_asg, q_par, q_aug, q_ret, q_retn, q_pass, q_brk, q_cont, q_iff, q_snil, q_scons, q_start, q_srcT, q_srcF, q_srcS, q_srcL, cap, Nat.add_assoc, s1_l_two_right, e9', e13', r1, r2, pl3]⟩
theorem l1r_ev {a c : Option D} (h : At M x d) (h' : At M y e) (W : Wd d) (W' : Wd e) : ∃ a' c', evS (cf (k + 4)) b l1_l_two_right [some x, some y, a, c] M = some (.nx [some x, some y, a', c'], M) := by
  have lp := loop_chk (M := M) (next := fun M' i => (Src.its [dPlus, dMinus, dTimes, dBelow, dSame]).next M' i) (xs := [dPlus, dMinus, dTimes, dBelow, dSame]) (r := .non) (I := fun ρ => ∃ a c, ρ = [some x, some y, a, c]) (bad := fun _ => false) (body := fun d ρ M => bodyS (evG (cf (k + 4)) b (.nam 2) d ρ M) (evSs (cf (k + 4)) b s1_l_two_right))
    (fun i => rfl) (fun w mw ρ hI => by
      obtain ⟨a, c, rfl⟩ := hI
      obtain ⟨c', e1⟩ := s1t_ev (k := k) (b := b) (a := c) (c := none) mw h h' W W'
      exact .inr ⟨rfl, [some x, some y, some w, c'], ⟨_, _, rfl⟩, by simp -implicitDefEqProofs [q_var, q_cst, q_glb, q_neg, q_no, q_bin, q_cmp, q_chn, q_and, q_or, q_ife, q_tup, q_lst, q_dic, q_ix, q_sl, q_rev, q_call, q_callk, q_bi, q_lrng, q_mth, q_isi, q_nil, q_cons, q_on, q_os, q_tyes, q_tval, q_tnot, q_tand, q_tor, q_tcmp, q_tchn, q_tife, q_iseq, q_irng, q_ienu, q_izip, q_gnam, q_gtup, q_gsub, q_gnil, q_gcons, q_expr, q_asg, q_par, q_aug, q_ret, q_retn, q_pass, q_brk, q_cont, q_iff, q_snil, q_scons, q_start, q_srcT, q_srcF, q_srcS, q_srcL, cap, Nat.add_assoc, e1]⟩) 5 0 rfl [some x, some y, a, c] ⟨_, _, rfl⟩
  rcases lp with ⟨q, _⟩ | ⟨_, ρ', ⟨a', c', rfl⟩, e1⟩
  · cases q
  · refine ⟨a', c', ?_⟩
    unfold l1_l_two_right
    rw [for_ev (src := .its [dPlus, dMinus, dTimes, dBelow, dSame]) (M1 := M) (by simp -implicitDefEqProofs [q_var, q_cst, q_glb, q_neg, q_no, q_bin, q_cmp, q_chn, q_and, q_or, q_ife, q_tup, q_lst, q_dic, q_ix, q_sl, q_rev, q_call, q_callk, q_bi, q_lrng, q_mth, q_isi, q_nil, q_cons, q_on, q_os, q_tyes, q_tval, q_tnot, q_tand, q_tor, q_tcmp, q_tchn, q_tife, q_iseq, q_irng, q_ienu, q_izip, q_gnam, q_gtup, q_gsub, q_gnil, q_gcons, q_expr, q_asg, q_par, q_aug, q_ret, q_retn, q_pass, q_brk, q_cont, q_iff, q_snil, q_scons, q_start, q_srcT, q_srcF, q_srcS, q_srcL, cap, Nat.add_assoc, g4])]
    exact e1
theorem w20 (h : At M x d) (h' : At M y e) (W : Wd d) (W' : Wd e) : run TB.fns (gvOf TB) 64 (k + 5) 20 [x, y] b M = .ok (.bl true) M := by
  have e7 := w7 (k := k + 3) (b := M.length) h h'
  have e12 := w12 (k := k + 3) (b := M.length) h h' (rep_of W) (rep_of W')
  rw [← same_eq W W'] at e12
  generalize alikeP d e = q at e7 e12
  obtain ⟨s, s1, s2⟩ := rb_ (M := M) q
  obtain ⟨a', c', el⟩ := l1r_ev (k := k) (b := M.length) (a := none) (c := none) h h' W W'
  rw [call_flat (fn := f_l_two_right) (d := .bl true) (M' := M) rfl rfl rfl ?_ (by simp)]
  · rw [List.take_length]
  · simp -implicitDefEqProofs [q_var, q_cst, q_glb, q_neg, q_no, q_bin, q_cmp, q_chn, q_and, q_or, q_ife, q_tup, q_lst, q_dic, q_ix, q_sl, q_rev, q_call, q_callk, q_bi, q_lrng, q_mth, q_isi, q_nil, q_cons, q_on, q_os, q_tyes, q_tval, q_tnot, q_tand, q_tor, q_tcmp, q_tchn, q_tife, q_iseq, q_irng, q_ienu, q_izip, q_gnam, q_gtup, q_gsub, q_gnil, q_gcons, q_expr, q_asg, q_par, q_aug, q_ret, q_retn, q_pass, q_brk, q_cont, q_iff, q_snil, q_scons, q_start, q_srcT, q_srcF, q_srcS, q_srcL, cap, Nat.add_assoc, f_l_two_right, b_l_two_right, e7, e12, s1, s2, pl2, el]
end K01
end

section
namespace K01
open PySem Ev
variable {k b n m p : Nat} {M : Sto} {x y : D} {d e : PyData}
theorem okT_tups : T8.all okT = true := by decide +kernel
theorem okT_of (W : Wd d) : okT d = true := by
  cases W with
  | bl q => cases q <;> decide +kernel
  | int i hi =>
    unfold okT
    rw [rep_of (.int i hi)]
    show (true && (true && (true && (writtenP (.int i) == ownP (.int i))))) = true
    simp [writtenP, fromP, ownP]
  | tup t ht => exact List.all_eq_true.mp okT_tups d ht
/-- a worth, whatever the store -/
structure Wx (x : D) (d : PyData) : Prop where
  w : Wd d
  at_ : ∀ M, At M x d
  fl : x.flat = true
theorem wx_int (i : Int) (h : -1000000000 ≤ i ∧ i ≤ 1000000000) : Wx (.int i) (.int i) := ⟨.int i h, fun _ => rfl, by simp⟩
theorem wx_bl (q : Bool) : Wx (.bl q) (.bool q) := ⟨.bl q, fun _ => rfl, by simp⟩
theorem wx_lot (i : Int) (h : lotP i ∈ T8) : Wx (.tup [.str LOT, .int i]) (lotP i) := ⟨.tup _ h, fun _ => rfl, by simp⟩
theorem wx_place (i : Int) (w : List Nat) (hw : codes w = true) (h : placeP i w ∈ T8) : Wx (.tup [.str PLACE, .int i, .str w]) (placeP i w) := ⟨.tup _ h, fun M => by
  show (allS ([D.str PLACE, .int i, .str w].map (py M 11))).map PyData.tuple = _
  have e1 : py M 11 (.str PLACE) = some (sP PLACE) := rfl
  have e2 : py M 11 (.int i) = some (.int i) := rfl
  have e3 : py M 11 (.str w) = some (sP w) := by
    show (match codes w with
      | true => some (PyData.str ⟨w.toArray⟩)
      | false => none) = _
    rw [hw]
    rfl
  simp only [List.map_cons, List.map_nil, e1, e2, e3]
  rfl, by simp⟩
theorem drawn1 (P : PoolAt p M) : ∃ x d M', run TB.fns (gvOf TB) 64 (k + 2) 17 [.loc p] b M = .ok x M' ∧ Wx x d ∧ PoolAt p M' ∧ Nx p M M' := by
  have lt := P.lt
  obtain ⟨r1, M1, e1, a1, b1, P1, l1, N1⟩ := take1 (k := k) (b := M.length) P (m := 3) ⟨by omega, by omega⟩
  obtain ⟨La, hL1⟩ : ∃ La : List D, La = [.int 0, .int 1, .int 2, .int (-1), .int 31623, .int 1000000000, .int (-1000000000), .bl true, .bl false, .tup [.str LOT, .int r1], .tup [.str LOT, .int 100000000000000000000]] := ⟨_, rfl⟩
  obtain ⟨r2, M2, e2, a2, b2, P2, l2, N2⟩ := take1 (k := k) (b := M.length) (P1.app (N := [.lst La])) (m := 3) ⟨by omega, by omega⟩
  obtain ⟨r3, M3, e3, a3, b3, P3, l3, N3⟩ := take1 (k := k) (b := M.length) P2 (m := 1000000000) ⟨by omega, by omega⟩
  obtain ⟨Lb, hLb⟩ : ∃ Lb : List D, Lb = [.tup [.str PLACE, .int r2, .str [97]], .tup [.str PLACE, .int 0, .str [97, 98, 99, 100, 101, 102]], .int r3] := ⟨_, rfl⟩
  obtain ⟨r4, M4, e4, a4, b4, P4, l4, N4⟩ := take1 (k := k) (b := M.length) (P3.app (N := [.lst Lb, .lst (La ++ Lb)])) (m := 14) ⟨by omega, by omega⟩
  have len1 : La.length = 11 := by rw [hL1]; rfl
  have len2 : Lb.length = 3 := by rw [hLb]; rfl
  have q1 : M3[M1.length]? = some (.lst La) := N3.get (N2.get (by simp) (by omega)) (by omega)
  have q1' := look q1
  have q2 : M4[M3.length + 1]? = some (.lst (La ++ Lb)) := N4.get (by simp) (by have := P3.lt; omega)
  obtain ⟨x, hx⟩ : ∃ x, (La ++ Lb)[r4.toNat]? = some x := ⟨_, List.getElem?_eq_getElem (by rw [List.length_append, len1, len2]; omega)⟩
  have ax : L2.atI (La ++ Lb) r4 = some x := by rw [atI_nat a4 (by rw [List.length_append, len1, len2]; omega)]; exact hx
  have mx := List.mem_of_getElem? hx
  have wx : ∃ d, Wx x d := by
    rw [hL1, hLb] at mx
    simp only [List.cons_append, List.nil_append, List.mem_cons, List.not_mem_nil, or_false] at mx
    have lots : ∀ r : Int, 0 ≤ r → r < 3 → lotP r ∈ T8 := fun r h0 h3 => by
      have : r = 0 ∨ r = 1 ∨ r = 2 := by omega
      rcases this with rfl | rfl | rfl <;> simp [T8]
    have places : ∀ r : Int, 0 ≤ r → r < 3 → placeP r [97] ∈ T8 := fun r h0 h3 => by
      have : r = 0 ∨ r = 1 ∨ r = 2 := by omega
      rcases this with rfl | rfl | rfl <;> simp [T8]
    rcases mx with rfl | rfl | rfl | rfl | rfl | rfl | rfl | rfl | rfl | rfl | rfl | rfl | rfl | rfl
    · exact ⟨_, wx_int 0 (by omega)⟩
    · exact ⟨_, wx_int 1 (by omega)⟩
    · exact ⟨_, wx_int 2 (by omega)⟩
    · exact ⟨_, wx_int (-1) (by omega)⟩
    · exact ⟨_, wx_int 31623 (by omega)⟩
    · exact ⟨_, wx_int 1000000000 (by omega)⟩
    · exact ⟨_, wx_int (-1000000000) (by omega)⟩
    · exact ⟨_, wx_bl true⟩
    · exact ⟨_, wx_bl false⟩
    · exact ⟨_, wx_lot r1 (lots r1 a1 b1)⟩
    · exact ⟨_, wx_lot 100000000000000000000 (by simp [T8])⟩
    · exact ⟨_, wx_place r2 [97] rfl (places r2 a2 b2)⟩
    · exact ⟨_, wx_place 0 [97, 98, 99, 100, 101, 102] rfl (by simp [T8])⟩
    · exact ⟨_, wx_int r3 (by omega)⟩
  obtain ⟨d, wx⟩ := wx
  have N03 : Nx p M M3 := ((N1.trans (.app _ _ _)).trans N2).trans N3
  have N04 : Nx p M M4 := (N03.trans (.app _ _ _)).trans N4
  refine ⟨x, d, M4.take M.length, ?_, wx, P4.cut lt, N04.cut⟩
  rw [call_flat (fn := f_l_drawn) (d := x) (M' := M4) rfl rfl rfl ?_ wx.fl]
  have c1 : La.length + Lb.length ≤ 16777216 := by omega
  have c2 : La.length ≤ 16777216 := by omega
  have c3 : Lb.length ≤ 16777216 := by omega
  have hL1' := hL1
  have hLb' := hLb
  unfold LOT at hL1'
  unfold PLACE at hLb'
  simp -implicitDefEqProofs [q_var, q_cst, q_glb, q_neg, q_no, q_bin, q_cmp, q_chn, q_and, q_or, q_ife, q_tup, q_lst, q_dic, q_ix, q_sl, q_rev, q_call, q_callk, q_bi, q_lrng, q_mth, q_isi, q_nil, q_cons, q_on, q_os, q_tyes, q_tval, q_tnot, q_tand, q_tor, q_tcmp, q_tchn, q_tife, q_iseq, q_irng, q_ienu, q_izip, q_gnam, q_gtup, q_gsub, q_gnil, q_gcons, q_expr, q_asg, q_par, q_aug, q_ret, q_retn, q_pass, q_brk, q_cont, q_iff, q_snil, q_scons, q_start, q_srcT, q_srcF, q_srcS, q_srcL, cap, Nat.add_assoc, f_l_drawn, b_l_drawn, e1, ← hL1', e2, e3, ← hLb', q1', c1, c2, c3, e4, q2, ax]
end K01
end

section
namespace K01
open PySem Ev
variable {k b n m p : Nat} {M : Sto} {x y : D} {d e : PyData}
theorem cut_tup {n0 : Nat} {xs : List D} : cutE n0 (.ok (.tup xs) M) = if flats xs then .ok (.tup xs) (M.take n0) else .ok (.tup xs) M := by
  cases h : flats xs <;> simp [cutE, h]
mutual
theorem py_flat {M' : Sto} : ∀ {k : Nat} {x : D}, x.flat = true → py M k x = py M' k x
  | 0, x, _ => rfl
  | k + 1, .tup xs, h => by
    show (allS (xs.map (py M k))).map PyData.tuple = (allS (xs.map (py M' k))).map PyData.tuple
    rw [pys_flat (by simpa using h)]
  | k + 1, .frz xs, h => by
    show (allS (xs.map (py M k))).map PyData.list = (allS (xs.map (py M' k))).map PyData.list
    rw [pys_flat (by simpa [D.flat] using h)]
  | k + 1, .loc n, h => by simp at h
  | k + 1, .non, _ => rfl
  | k + 1, .bl _, _ => rfl
  | k + 1, .int _, _ => rfl
  | k + 1, .str _, _ => rfl
  | k + 1, .fn _, _ => rfl
theorem pys_flat {M' : Sto} : ∀ {k : Nat} {xs : List D}, flats xs = true → xs.map (py M k) = xs.map (py M' k)
  | k, [], _ => rfl
  | k, x :: xs, h => by
    rw [fl_cons, Bool.and_eq_true] at h
    rw [List.map_cons, List.map_cons, py_flat h.1, pys_flat h.2]
end
theorem allS_set {α β : Type} {f : α → Option β} {o : α} {q : β} (ho : f o = some q) : ∀ {xs : List α} {ds : List β} {i : Nat}, allS (xs.map f) = some ds → allS ((xs.set i o).map f) = some (ds.set i q)
  | [], ds, i, h => by cases h; simp [allS]
  | x :: xs, ds, i, h => by
    rw [List.map_cons] at h
    cases ef : f x with
    | none => rw [ef] at h; cases h
    | some y =>
      rw [ef] at h
      have e2 : (match allS (xs.map f) with
        | some ys => some (y :: ys)
        | none => none) = some ds := h
      cases er : allS (xs.map f) with
      | none => rw [er] at e2; cases e2
      | some zs =>
        rw [er] at e2
        cases e2
        cases i with
        | zero =>
          rw [List.set_cons_zero, List.set_cons_zero, List.map_cons, ho]
          show (match allS (xs.map f) with
            | some ys => some (q :: ys)
            | none => none) = _
          rw [er]
        | succ i =>
          rw [List.set_cons_succ, List.set_cons_succ, List.map_cons, ef]
          show (match allS ((xs.set i o).map f) with
            | some ys => some (y :: ys)
            | none => none) = _
          rw [allS_set ho er]
theorem cut_set {α : Type} {xs : List α} {r : Int} {o : α} (h0 : 0 ≤ r) (h1 : r < xs.length) : cutD xs none (some r) ++ [o] ++ cutD xs (some (r + 1)) none = xs.set r.toNat o := by
  have e1 : cutD xs none (some r) = xs.take r.toNat := by
    unfold cutD HT.sIx
    dsimp only
    rw [if_neg (by omega), List.drop_zero, Nat.sub_zero, Nat.min_eq_left (by omega)]
  have e2 : cutD xs (some (r + 1)) none = xs.drop (r.toNat + 1) := by
    unfold cutD HT.sIx
    dsimp only
    rw [if_neg (by omega)]
    have : min (r + 1).toNat xs.length = r.toNat + 1 := by omega
    rw [this, List.take_of_length_le (by rw [List.length_drop]; omega)]
  rw [e1, e2, List.set_eq_take_append_cons_drop, if_pos (by omega)]
  simp
/-- what a thing is bent with: as values, as data -/
def oddD (a c : Nat) : List D := [.non, .str [], .str LOT, .int 1000000001, .int (-1000000001), .tup [], .loc a, .tup [.str LOT], .tup [.str LOT, .int (-1)], .tup [.str LOT, .bl true], .tup [.str LOT, .str [49]],
  .tup [.str [76, 111, 116], .int 1], .loc c, .tup [.str PLACE, .int 1], .tup [.str PLACE, .int 1, .str [65]], .tup [.str PLACE, .int (-1), .str [97]], .tup [.str PLACE, .bl true, .str [97]],
  .tup [.str PLACE, .int 1, .str [97, 98, 99, 100, 101, 102, 103]], .tup [.str PLACE, .int 1, .str []], .tup [.str LOT, .int 1, .str [97]], .tup [.str PLACE, .int 1, .str [97], .int 2], .tup [.int 1, .int 1], .tup [.str PLACE]]
def oddP : List PyData := [.none, sP [], sP LOT, .int 1000000001, .int (-1000000001), .tuple [], .list [], .tuple [sP LOT], .tuple [sP LOT, .int (-1)], .tuple [sP LOT, .bool true], .tuple [sP LOT, sP [49]],
  .tuple [sP [76, 111, 116], .int 1], .list [sP LOT, .int 1], .tuple [sP PLACE, .int 1], .tuple [sP PLACE, .int 1, sP [65]], .tuple [sP PLACE, .int (-1), sP [97]], .tuple [sP PLACE, .bool true, sP [97]],
  .tuple [sP PLACE, .int 1, sP [97, 98, 99, 100, 101, 102, 103]], .tuple [sP PLACE, .int 1, sP []], .tuple [sP LOT, .int 1, sP [97]], .tuple [sP PLACE, .int 1, sP [97], .int 2], .tuple [.int 1, .int 1], .tuple [sP PLACE]]
theorem odd_ok : oddP.all okT = true := by decide +kernel
theorem bent_ok : T8.all (fun t => match t with
  | .tuple ds => (List.range ds.length).all fun i => oddP.all fun o => okT (.tuple (ds.set i o))
  | _ => true) = true := by decide +kernel
theorem odd_at {a c : Nat} {o : D} (ha : M[a]? = some (.lst [])) (hc : M[c]? = some (.lst [.str LOT, .int 1])) (m : o ∈ oddD a c) : ∃ q, q ∈ oddP ∧ py M 11 o = some q ∧ (o.flat = true ∨ o = .loc a ∨ o = .loc c) := by
  have pl : ∀ {n : Nat} {xs : List D} {ds : List PyData}, M[n]? = some (.lst xs) → allS (xs.map (py M 10)) = some ds → py M 11 (.loc n) = some (.list ds) := fun {n xs ds} h1 h2 => by
    rw [show 11 = 10 + 1 from rfl]
    unfold py
    dsimp only
    rw [h1]
    dsimp only
    rw [h2]
    rfl
  simp only [oddD, List.mem_cons, List.not_mem_nil, or_false] at m
  rcases m with rfl | rfl | rfl | rfl | rfl | rfl | rfl | rfl | rfl | rfl | rfl | rfl | rfl | rfl | rfl | rfl | rfl | rfl | rfl | rfl | rfl | rfl | rfl
  · exact ⟨.none, by simp [oddP], rfl, .inl (by simp)⟩
  · exact ⟨sP [], by simp [oddP], rfl, .inl (by simp)⟩
  · exact ⟨sP LOT, by simp [oddP], rfl, .inl (by simp)⟩
  · exact ⟨.int 1000000001, by simp [oddP], rfl, .inl (by simp)⟩
  · exact ⟨.int (-1000000001), by simp [oddP], rfl, .inl (by simp)⟩
  · exact ⟨.tuple [], by simp [oddP], rfl, .inl (by simp)⟩
  · exact ⟨.list [], by simp [oddP], pl ha rfl, .inr (.inl rfl)⟩
  · exact ⟨.tuple [sP LOT], by simp [oddP], rfl, .inl (by simp)⟩
  · exact ⟨.tuple [sP LOT, .int (-1)], by simp [oddP], rfl, .inl (by simp)⟩
  · exact ⟨.tuple [sP LOT, .bool true], by simp [oddP], rfl, .inl (by simp)⟩
  · exact ⟨.tuple [sP LOT, sP [49]], by simp [oddP], rfl, .inl (by simp)⟩
  · exact ⟨.tuple [sP [76, 111, 116], .int 1], by simp [oddP], rfl, .inl (by simp)⟩
  · exact ⟨.list [sP LOT, .int 1], by simp [oddP], pl hc rfl, .inr (.inr rfl)⟩
  · exact ⟨.tuple [sP PLACE, .int 1], by simp [oddP], rfl, .inl (by simp)⟩
  · exact ⟨.tuple [sP PLACE, .int 1, sP [65]], by simp [oddP], rfl, .inl (by simp)⟩
  · exact ⟨.tuple [sP PLACE, .int (-1), sP [97]], by simp [oddP], rfl, .inl (by simp)⟩
  · exact ⟨.tuple [sP PLACE, .bool true, sP [97]], by simp [oddP], rfl, .inl (by simp)⟩
  · exact ⟨.tuple [sP PLACE, .int 1, sP [97, 98, 99, 100, 101, 102, 103]], by simp [oddP], rfl, .inl (by simp)⟩
  · exact ⟨.tuple [sP PLACE, .int 1, sP []], by simp [oddP], rfl, .inl (by simp)⟩
  · exact ⟨.tuple [sP LOT, .int 1, sP [97]], by simp [oddP], rfl, .inl (by simp)⟩
  · exact ⟨.tuple [sP PLACE, .int 1, sP [97], .int 2], by simp [oddP], rfl, .inl (by simp)⟩
  · exact ⟨.tuple [.int 1, .int 1], by simp [oddP], rfl, .inl (by simp)⟩
  · exact ⟨.tuple [sP PLACE], by simp [oddP], rfl, .inl (by simp)⟩
end K01
end

section
namespace K01
open PySem Ev
variable {k b n m p : Nat} {M : Sto} {x y : D} {d e : PyData}
/-- what a bent thing is -/
def BentX (x : D) (M : Sto) : Prop := ∃ d, At M x d ∧ okT d = true
theorem py_le : ∀ {j : Nat} {x : D} {d : PyData}, py M 11 x = some d → At M x d := fun h => py_mono h
theorem slT (xs : List D) (lo hi : Option Int) : semSl (.tup xs) lo hi M = .ok (.tup (cutD xs lo hi)) M := id rfl
theorem bent1 (W : Wx x d) (P : PoolAt p M) : ∃ z M', run TB.fns (gvOf TB) 64 (k + 2) 18 [.loc p, x] b M = .ok z M' ∧ BentX z M' ∧ PoolAt p M' ∧ Nx p M M' := by
  have lt := P.lt
  obtain ⟨Z, hZ⟩ : ∃ Z : Sto, Z = [.lst [], .lst ((oddD M.length (M.length + 2)).take 11), .lst [.str LOT, .int 1], .lst (((oddD M.length (M.length + 2)).drop 11).take 6), .lst ((oddD M.length (M.length + 2)).take 17), .lst ((oddD M.length (M.length + 2)).drop 17), .lst (oddD M.length (M.length + 2))] := ⟨_, rfl⟩
  have lZ : (M ++ Z).length = M.length + 7 := by rw [hZ]; simp
  have P0 : PoolAt p (M ++ Z) := P.app
  have olen : (oddD M.length (M.length + 2)).length = 23 := rfl
  have q0 : ∀ {M' : Sto}, Nx p (M ++ Z) M' → M'[M.length]? = some (.lst []) := fun N => N.get (by rw [hZ]; simp) (by omega)
  have q2 : ∀ {M' : Sto}, Nx p (M ++ Z) M' → M'[M.length + 2]? = some (.lst [.str LOT, .int 1]) := fun N => N.get (by rw [hZ]; simp) (by omega)
  have q6 : ∀ {M' : Sto}, Nx p (M ++ Z) M' → M'[M.length + 6]? = some (.lst (oddD M.length (M.length + 2))) := fun N => N.get (by rw [hZ]; simp) (by omega)
  have hNx : Nx p M (M ++ Z) := .app _ _ _
  have pick : ∀ {M1 : Sto}, Nx p (M ++ Z) M1 → PoolAt p M1 → ∃ r o M2, run TB.fns (gvOf TB) 64 (k + 1) 11 [.loc p, .int 23] M.length M1 = .ok (.int r) M2 ∧ L2.atI (oddD M.length (M.length + 2)) r = some o ∧ o ∈ oddD M.length (M.length + 2) ∧ PoolAt p M2 ∧ Nx p (M ++ Z) M2 := fun {M1} N P1 => by
    obtain ⟨r, M2, e2, a2, b2, P2, l2, N2⟩ := take1 (k := k) (b := M.length) P1 (m := 23) ⟨by omega, by omega⟩
    obtain ⟨o, ho⟩ : ∃ o, (oddD M.length (M.length + 2))[r.toNat]? = some o := ⟨_, List.getElem?_eq_getElem (by rw [olen]; omega)⟩
    exact ⟨r, o, M2, e2, by rw [atI_nat a2 (by rw [olen]; omega)]; exact ho, List.mem_of_getElem? ho, P2, N.trans N2⟩
  -- an odd thing alone
  have alone : ∀ {o : D} {M2 : Sto}, o ∈ oddD M.length (M.length + 2) → PoolAt p M2 → Nx p (M ++ Z) M2 → ∃ z M', cutE M.length (.ok o M2) = .ok z M' ∧ BentX z M' ∧ PoolAt p M' ∧ Nx p M M' := fun {o M2} mo P2 N2 => by
    obtain ⟨q, mq, hq, fl⟩ := odd_at (q0 N2) (q2 N2) mo
    have okq := List.all_eq_true.mp odd_ok q mq
    have N02 := hNx.trans N2
    have lk : (M2.take M.length).length = M.length := by rw [List.length_take]; have := N02.le; omega
    have own : ∀ {j : Nat} {ys : List D}, M.length ≤ j → M2[j]? = some (.lst ys) → flats ys = true → o = .loc j → ∃ z M', cutE M.length (.ok o M2) = .ok z M' ∧ BentX z M' ∧ PoolAt p M' ∧ Nx p M M' := fun {j ys} hj hl hf e => by
      subst e
      refine ⟨_, _, cut_list hj hl hf, ⟨q, ?_, okq⟩, (P2.cut lt).app, N02.cut.trans (.app _ _ _)⟩
      have z := get_ap0 (A := M2.take M.length) (B := [.lst ys])
      rw [lk] at z
      have e1 : py M2 11 (.loc j) = (allS (ys.map (py M2 10))).map PyData.list := by
        rw [show 11 = 10 + 1 from rfl]
        conv => lhs; unfold py
        dsimp only
        rw [hl]
      have e2 : py (M2.take M.length ++ [.lst ys]) 11 (.loc M.length) = (allS (ys.map (py (M2.take M.length ++ [.lst ys]) 10))).map PyData.list := by
        rw [show 11 = 10 + 1 from rfl]
        conv => lhs; unfold py
        dsimp only
        rw [z]
        rfl
      refine py_mono ?_
      rw [e2, ← pys_flat (M := M2) hf, ← e1]
      exact hq
    rcases fl with fl | fl | fl
    · refine ⟨o, _, cut_flat fl, ⟨q, py_mono ?_, okq⟩, P2.cut lt, N02.cut⟩
      rw [← py_flat (M := M2) fl]
      exact hq
    · exact own (Nat.le_refl _) (q0 N2) rfl fl
    · exact own (by omega) (q2 N2) rfl fl
  -- a worth with an odd thing in it
  have within : ∀ {o : D} {M2 : Sto} {xs : List D} {ds : List PyData} {i : Nat}, x = .tup xs → d = .tuple ds → i < xs.length → o ∈ oddD M.length (M.length + 2) → PoolAt p M2 → Nx p (M ++ Z) M2 → ∃ z M', cutE M.length (.ok (.tup (xs.set i o)) M2) = .ok z M' ∧ BentX z M' ∧ PoolAt p M' ∧ Nx p M M' := fun {o M2 xs ds i} ex ed hi mo P2 N2 => by
    obtain ⟨q, mq, hq, fl⟩ := odd_at (q0 N2) (q2 N2) mo
    have N02 := hNx.trans N2
    subst ex ed
    obtain ⟨xs', e', ha⟩ := at_inv (W.at_ M2)
    cases e'
    have hs := allS_set (i := i) hq ha
    have hA : py M2 12 (.tup (xs.set i o)) = some (.tuple (ds.set i q)) := by
      show (allS ((xs.set i o).map (py M2 11))).map PyData.tuple = _
      rw [hs]
      rfl
    have T : PyData.tuple ds ∈ T8 := by
      have w := W.w
      cases w with
      | tup t ht => exact ht
    have ok : okT (.tuple (ds.set i q)) = true := by
      have z := List.all_eq_true.mp bent_ok _ T
      have z2 := List.all_eq_true.mp z i (List.mem_range.mpr (by rw [← allS_len ha]; exact hi))
      exact List.all_eq_true.mp z2 q mq
    rw [cut_tup]
    cases hf : flats (xs.set i o) with
    | true =>
      refine ⟨_, _, rfl, ⟨_, ?_, ok⟩, P2.cut lt, N02.cut⟩
      show py (M2.take M.length) 12 _ = _
      rw [← py_flat (M := M2) (by simpa using hf)]
      exact hA
    | false => exact ⟨_, _, rfl, ⟨_, hA, ok⟩, P2, N02⟩

  have ty6 : ∀ X : Sto, tyD (M ++ X) x = tyOf d := fun X => ty_at (W.at_ _)
  have norm : ∀ {v : Out D} {m : Int}, run TB.fns (gvOf TB) 64 (k + 1) 11 [.loc p, .int m] M.length (M ++ Z) = v → run TB.fns (gvOf TB) 64 (k + 1) 11 [.loc p, .int m] M.length (M ++ [.lst [], .lst [.non, .str [], .str [108, 111, 116], .int 1000000001, .int (-1000000001), .tup [], .loc M.length, .tup [.str [108, 111, 116]], .tup [.str [108, 111, 116], .int (-1)], .tup [.str [108, 111, 116], .bl true], .tup [.str [108, 111, 116], .str [49]]],
      .lst [.str [108, 111, 116], .int 1],
      .lst [.tup [.str [76, 111, 116], .int 1], .loc (M.length + 2), .tup [.str [112, 108, 97, 99, 101], .int 1], .tup [.str [112, 108, 97, 99, 101], .int 1, .str [65]], .tup [.str [112, 108, 97, 99, 101], .int (-1), .str [97]], .tup [.str [112, 108, 97, 99, 101], .bl true, .str [97]]],
      .lst [.non, .str [], .str [108, 111, 116], .int 1000000001, .int (-1000000001), .tup [], .loc M.length, .tup [.str [108, 111, 116]], .tup [.str [108, 111, 116], .int (-1)], .tup [.str [108, 111, 116], .bl true], .tup [.str [108, 111, 116], .str [49]], .tup [.str [76, 111, 116], .int 1], .loc (M.length + 2), .tup [.str [112, 108, 97, 99, 101], .int 1], .tup [.str [112, 108, 97, 99, 101], .int 1, .str [65]], .tup [.str [112, 108, 97, 99, 101], .int (-1), .str [97]], .tup [.str [112, 108, 97, 99, 101], .bl true, .str [97]]],
      .lst [.tup [.str [112, 108, 97, 99, 101], .int 1, .str [97, 98, 99, 100, 101, 102, 103]], .tup [.str [112, 108, 97, 99, 101], .int 1, .str []], .tup [.str [108, 111, 116], .int 1, .str [97]], .tup [.str [112, 108, 97, 99, 101], .int 1, .str [97], .int 2], .tup [.int 1, .int 1], .tup [.str [112, 108, 97, 99, 101]]],
      .lst [.non, .str [], .str [108, 111, 116], .int 1000000001, .int (-1000000001), .tup [], .loc M.length, .tup [.str [108, 111, 116]], .tup [.str [108, 111, 116], .int (-1)], .tup [.str [108, 111, 116], .bl true], .tup [.str [108, 111, 116], .str [49]], .tup [.str [76, 111, 116], .int 1], .loc (M.length + 2), .tup [.str [112, 108, 97, 99, 101], .int 1], .tup [.str [112, 108, 97, 99, 101], .int 1, .str [65]], .tup [.str [112, 108, 97, 99, 101], .int (-1), .str [97]], .tup [.str [112, 108, 97, 99, 101], .bl true, .str [97]], .tup [.str [112, 108, 97, 99, 101], .int 1, .str [97, 98, 99, 100, 101, 102, 103]], .tup [.str [112, 108, 97, 99, 101], .int 1, .str []], .tup [.str [108, 111, 116], .int 1, .str [97]], .tup [.str [112, 108, 97, 99, 101], .int 1, .str [97], .int 2], .tup [.int 1, .int 1], .tup [.str [112, 108, 97, 99, 101]]]]) = v := fun {v m} h => by
    rw [hZ] at h
    exact h
  by_cases ht : ∃ xs ds, x = .tup xs ∧ d = .tuple ds
  · obtain ⟨xs, ds, rfl, rfl⟩ := ht
    obtain ⟨xs', e', ha⟩ := at_inv (W.at_ M)
    cases e'
    have hx3 : 0 < xs.length ∧ xs.length ≤ 3 := by
      rw [allS_len ha]
      have T : PyData.tuple ds ∈ T8 := by
        have w := W.w
        cases w with
        | tup t ht => exact ht
      simp only [T8, lotP, placeP, List.mem_cons, List.not_mem_nil, or_false, PyData.tuple.injEq] at T
      rcases T with rfl | rfl | rfl | rfl | rfl | rfl | rfl | rfl <;> decide
    obtain ⟨r1, M1, e1, a1, b1, P1, l1, N1⟩ := take1 (k := k) (b := M.length) P0 (m := 2) ⟨by omega, by omega⟩
    have e1' := norm e1
    by_cases hr : r1 = 0
    · subst hr
      obtain ⟨r2, o, M2, e2, ho, mo, P2, N2⟩ := pick N1 P1
      have h6 := q6 N2
      obtain ⟨z, M', ez, bz⟩ := alone mo P2 N2
      refine ⟨z, M', ?_, bz⟩
      rw [← ez]
      refine call_of (fn := f_l_bent) rfl rfl rfl ?_
      simp -implicitDefEqProofs [q_var, q_cst, q_glb, q_neg, q_no, q_bin, q_cmp, q_chn, q_and, q_or, q_ife, q_tup, q_lst, q_dic, q_ix, q_sl, q_rev, q_call, q_callk, q_bi, q_lrng, q_mth, q_isi, q_nil, q_cons, q_on, q_os, q_tyes, q_tval, q_tnot, q_tand, q_tor, q_tcmp, q_tchn, q_tife, q_iseq, q_irng, q_ienu, q_izip, q_gnam, q_gtup, q_gsub, q_gnil, q_gcons, q_expr, q_asg, q_par, q_aug, q_ret, q_retn, q_pass, q_brk, q_cont, q_iff, q_snil, q_scons, q_start, q_srcT, q_srcF, q_srcS, q_srcL, cap, Nat.add_assoc, f_l_bent, b_l_bent, i1_l_bent, isAny, isTy, e1', e2, h6, ho]
    · obtain ⟨r2, M2, e2, a2, b2, P2, l2, N2⟩ := take1 (k := k) (b := M.length) P1 (m := xs.length) ⟨by omega, by omega⟩
      obtain ⟨r3, o, M3, e3, ho, mo, P3, N3⟩ := pick (N1.trans N2) P2
      have h6 := q6 N3
      obtain ⟨z, M', ez, bz⟩ := within (i := r2.toNat) rfl rfl (by omega) mo P3 N3
      refine ⟨z, M', ?_, bz⟩
      rw [← ez]
      refine call_of (fn := f_l_bent) rfl rfl rfl ?_
      have cs := cut_set (o := o) a2 b2
      have lA : (cutD xs none (some r2)).length ≤ 3 := Nat.le_trans (cutD_le xs) hx3.2
      have lB : (cutD xs (some (r2 + 1)) none).length ≤ 3 := Nat.le_trans (cutD_le xs) hx3.2
      obtain ⟨A, hA⟩ : ∃ A, A = cutD xs none (some r2) := ⟨_, rfl⟩
      obtain ⟨B, hB⟩ : ∃ B, B = cutD xs (some (r2 + 1)) none := ⟨_, rfl⟩
      rw [← hA, ← hB] at cs
      rw [← hA] at lA
      rw [← hB] at lB
      have c1 : A.length + 1 ≤ 16777216 := by omega
      have c2 : A.length + (1 + B.length) ≤ 16777216 := by omega
      have cs' : A ++ o :: B = xs.set r2.toNat o := by rw [← cs]; simp
      simp -implicitDefEqProofs [q_var, q_cst, q_glb, q_neg, q_no, q_bin, q_cmp, q_chn, q_and, q_or, q_ife, q_tup, q_lst, q_dic, q_ix, q_sl, q_rev, q_call, q_callk, q_bi, q_lrng, q_mth, q_isi, q_nil, q_cons, q_on, q_os, q_tyes, q_tval, q_tnot, q_tand, q_tor, q_tcmp, q_tchn, q_tife, q_iseq, q_irng, q_ienu, q_izip, q_gnam, q_gtup, q_gsub, q_gnil, q_gcons, q_expr, q_asg, q_par, q_aug, q_ret, q_retn, q_pass, q_brk, q_cont, q_iff, q_snil, q_scons, q_start, q_srcT, q_srcF, q_srcS, q_srcL, cap, Nat.add_assoc, f_l_bent, b_l_bent, isAny, isTy, e1', hr, e2, e3, h6, ho, slT, ← hA, ← hB, c1, c2, cs']
  · have hb : ∀ X : Sto, isiV (tyD (M ++ X) x) [.tup] (M ++ X) = .ok (.bl false) (M ++ X) := fun X => by
      rw [ty6]
      have w := W.w
      cases w with
      | bl _ => rfl
      | int _ _ => rfl
      | tup t ht' =>
        obtain ⟨_, ds, rfl⟩ := head_of ht'
        obtain ⟨xs, rfl, _⟩ := at_inv (W.at_ M)
        exact absurd ⟨xs, ds, rfl, rfl⟩ ht
    obtain ⟨r2, o, M2, e2, ho, mo, P2, N2⟩ := pick (.refl _ _) P0
    have h6 := q6 N2
    have e2' := norm e2
    obtain ⟨z, M', ez, bz⟩ := alone mo P2 N2
    refine ⟨z, M', ?_, bz⟩
    rw [← ez]
    refine call_of (fn := f_l_bent) rfl rfl rfl ?_
    simp -implicitDefEqProofs [q_var, q_cst, q_glb, q_neg, q_no, q_bin, q_cmp, q_chn, q_and, q_or, q_ife, q_tup, q_lst, q_dic, q_ix, q_sl, q_rev, q_call, q_callk, q_bi, q_lrng, q_mth, q_isi, q_nil, q_cons, q_on, q_os, q_tyes, q_tval, q_tnot, q_tand, q_tor, q_tcmp, q_tchn, q_tife, q_iseq, q_irng, q_ienu, q_izip, q_gnam, q_gtup, q_gsub, q_gnil, q_gcons, q_expr, q_asg, q_par, q_aug, q_ret, q_retn, q_pass, q_brk, q_cont, q_iff, q_snil, q_scons, q_start, q_srcT, q_srcF, q_srcS, q_srcL, cap, Nat.add_assoc, f_l_bent, b_l_bent, i1_l_bent, hb, e2', h6, ho]
end K01
end

section
namespace K01
open PySem Ev
variable {k b n m p : Nat} {M : Sto} {x y : D} {d e : PyData}
theorem bg3 : big 3 = true := id rfl
theorem filter_none {α : Type} (xs : List α) : xs.filter (fun _ => false) = [] := by
  induction xs with
  | nil => rfl
  | cons x xs ih => simpa [List.filter_cons] using ih
theorem c3_ev {a0 a2 a3 a4 a5 a6 a7 a8 a9 : Option D} {xs : List D} (hn : M[n]? = some (.lst xs)) (h : ∀ x ∈ xs, ∀ b, run TB.fns (gvOf TB) 64 (k + 5) 19 [x] b M = .ok (.bl true) M) : evE (cf (k + 5)) b c3_law [a0, some (.loc n), a2, a3, a4, a5, a6, a7, a8, a9] M = .ok (.loc M.length) (M ++ [.lst []]) := by
  unfold c3_law
  rw [lc_ev (src := .lst n) (M1 := M) (xs := []) (M2 := M) (by simp -implicitDefEqProofs [q_var, q_cst, q_glb, q_neg, q_no, q_bin, q_cmp, q_chn, q_and, q_or, q_ife, q_tup, q_lst, q_dic, q_ix, q_sl, q_rev, q_call, q_callk, q_bi, q_lrng, q_mth, q_isi, q_nil, q_cons, q_on, q_os, q_tyes, q_tval, q_tnot, q_tand, q_tor, q_tcmp, q_tchn, q_tife, q_iseq, q_irng, q_ienu, q_izip, q_gnam, q_gtup, q_gsub, q_gnil, q_gcons, q_expr, q_asg, q_par, q_aug, q_ret, q_retn, q_pass, q_brk, q_cont, q_iff, q_snil, q_scons, q_start, q_srcT, q_srcF, q_srcS, q_srcL, cap, Nat.add_assoc, hn]) ?_, seal_flat (by decide) (by simp), List.take_length]
  rw [len_lst hn, turns_filter (p := fun _ => false) (next_lst hn) (fun v mv => ?_), filter_none]
  have e := h v mv M.length
  simp -implicitDefEqProofs [q_var, q_cst, q_glb, q_neg, q_no, q_bin, q_cmp, q_chn, q_and, q_or, q_ife, q_tup, q_lst, q_dic, q_ix, q_sl, q_rev, q_call, q_callk, q_bi, q_lrng, q_mth, q_isi, q_nil, q_cons, q_on, q_os, q_tyes, q_tval, q_tnot, q_tand, q_tor, q_tcmp, q_tchn, q_tife, q_iseq, q_irng, q_ienu, q_izip, q_gnam, q_gtup, q_gsub, q_gnil, q_gcons, q_expr, q_asg, q_par, q_aug, q_ret, q_retn, q_pass, q_brk, q_cont, q_iff, q_snil, q_scons, q_start, q_srcT, q_srcF, q_srcS, q_srcL, cap, Nat.add_assoc, itemT, Ev.wipe, e]
theorem c1_ev {a0 a1 a2 a4 a5 a6 a8 a9 : Option D} {xs : List D} (hn : M[n]? = some (.lst xs)) (h : ∀ y ∈ xs, ∀ b, run TB.fns (gvOf TB) 64 (k + 5) 20 [x, y] b M = .ok (.bl true) M) : evE (cf (k + 5)) b c1_law [a0, a1, a2, some x, a4, a5, a6, some (.loc n), a8, a9] M = .ok (.loc M.length) (M ++ [.lst []]) := by
  unfold c1_law
  rw [lc_ev (src := .lst n) (M1 := M) (xs := []) (M2 := M) (by simp -implicitDefEqProofs [q_var, q_cst, q_glb, q_neg, q_no, q_bin, q_cmp, q_chn, q_and, q_or, q_ife, q_tup, q_lst, q_dic, q_ix, q_sl, q_rev, q_call, q_callk, q_bi, q_lrng, q_mth, q_isi, q_nil, q_cons, q_on, q_os, q_tyes, q_tval, q_tnot, q_tand, q_tor, q_tcmp, q_tchn, q_tife, q_iseq, q_irng, q_ienu, q_izip, q_gnam, q_gtup, q_gsub, q_gnil, q_gcons, q_expr, q_asg, q_par, q_aug, q_ret, q_retn, q_pass, q_brk, q_cont, q_iff, q_snil, q_scons, q_start, q_srcT, q_srcF, q_srcS, q_srcL, cap, Nat.add_assoc, hn]) ?_, seal_flat (by decide) (by simp), List.take_length]
  rw [len_lst hn, turns_filter (p := fun _ => false) (next_lst hn) (fun v mv => ?_), filter_none]
  have e := h v mv M.length
  simp -implicitDefEqProofs [q_var, q_cst, q_glb, q_neg, q_no, q_bin, q_cmp, q_chn, q_and, q_or, q_ife, q_tup, q_lst, q_dic, q_ix, q_sl, q_rev, q_call, q_callk, q_bi, q_lrng, q_mth, q_isi, q_nil, q_cons, q_on, q_os, q_tyes, q_tval, q_tnot, q_tand, q_tor, q_tcmp, q_tchn, q_tife, q_iseq, q_irng, q_ienu, q_izip, q_gnam, q_gtup, q_gsub, q_gnil, q_gcons, q_expr, q_asg, q_par, q_aug, q_ret, q_retn, q_pass, q_brk, q_cont, q_iff, q_snil, q_scons, q_start, q_srcT, q_srcF, q_srcS, q_srcL, cap, Nat.add_assoc, itemT, Ev.wipe, e]
theorem s1_law_ev {q : Nat} {xs : List D} {a0 a1 a2 a4 a5 a8 a9 : Option D} (W : Wx x d) (P : PoolAt p M) (hq : M[q]? = some (.lst xs)) (nq : q ≠ p) (hx : ∀ y ∈ xs, ∃ e, Wx y e) :
    ∃ M', evSs (cf (k + 5)) b s1_law [a0, a1, a2, some x, a4, a5, some (.loc p), some (.loc q), a8, a9] M = some (.nx [a0, a1, a2, some x, a4, a5, some (.loc p), some (.loc q), a8, a9], M') ∧ PoolAt p M' ∧ Nx p M M' := by
  have e19 := w19 (k := k) (b := b) (W.at_ M) (okT_of W.w)
  obtain ⟨z, M1, eb, ⟨dz, az, oz⟩, P1, N1⟩ := bent1 (k := k + 3) (b := b) W P
  have e19' := w19 (k := k) (b := b) az oz
  have hq1 := N1.get hq nq
  have ec := c1_ev (k := k) (b := b) (x := x) (a0 := a0) (a1 := a1) (a2 := a2) (a4 := a4) (a5 := a5) (a6 := some (.loc p)) (a8 := a8) (a9 := a9) hq1 (fun y my b => by
    obtain ⟨e, We⟩ := hx y my
    exact w20 (W.at_ M1) (We.at_ M1) W.w We.w)
  refine ⟨M1 ++ [.lst [], .lst []], ?_, P1.app, N1.trans (.app _ _ _)⟩
  simp -implicitDefEqProofs [q_var, q_cst, q_glb, q_neg, q_no, q_bin, q_cmp, q_chn, q_and, q_or, q_ife, q_tup, q_lst, q_dic, q_ix, q_sl, q_rev, q_call, q_callk, q_bi, q_lrng, q_mth, q_isi, q_nil, q_cons, q_on, q_os, q_tyes, q_tval, q_tnot, q_tand, q_tor, q_tcmp, q_tchn, q_tife, q_iseq, q_irng, q_ienu, q_izip, q_gnam, q_gtup, q_gsub, q_gnil, q_gcons, q_expr, q_asg, q_par, q_aug, q_ret, q_retn, q_pass, q_brk, q_cont, q_iff, q_snil, q_scons, q_start, q_srcT, q_srcF, q_srcS, q_srcL, cap, Nat.add_assoc, s1_law, e19, eb, e19', ec]
theorem l1_law_ev {q : Nat} {xs : List D} {a0 a1 a2 a3 a4 a5 a8 a9 : Option D} (P : PoolAt p M) (hq : M[q]? = some (.lst xs)) (nq : q ≠ p) (hx : ∀ y ∈ xs, ∃ e, Wx y e) :
    ∃ y3 M', evS (cf (k + 5)) b l1_law [a0, a1, a2, a3, a4, a5, some (.loc p), some (.loc q), a8, a9] M = some (.nx [a0, a1, a2, y3, a4, a5, some (.loc p), some (.loc q), a8, a9], M') := by
  obtain ⟨ρ', M', el, ⟨y3, rfl⟩, _⟩ := loop_go (xs := xs) (next := fun M i => (Src.lst q).next M i) (body := fun d ρ M => bodyS (evG (cf (k + 5)) b (.nam 3) d ρ M) (evSs (cf (k + 5)) b s1_law))
    (I := fun ρ M' => (∃ y3, ρ = [a0, a1, a2, y3, a4, a5, some (.loc p), some (.loc q), a8, a9]) ∧ PoolAt p M' ∧ M'[q]? = some (.lst xs))
    (fun ρ M' i h => next_lst h.2.2 i) (fun v mv ρ M2 h => by
      obtain ⟨⟨y3, rfl⟩, P2, h2⟩ := h
      obtain ⟨dv, Wv⟩ := hx v mv
      obtain ⟨M3, e3, P3, N3⟩ := s1_law_ev (k := k) (b := b) (a0 := a0) (a1 := a1) (a2 := a2) (a4 := a4) (a5 := a5) (a8 := a8) (a9 := a9) Wv P2 h2 nq hx
      exact ⟨[a0, a1, a2, some v, a4, a5, some (.loc p), some (.loc q), a8, a9], M3, by simp -implicitDefEqProofs [q_var, q_cst, q_glb, q_neg, q_no, q_bin, q_cmp, q_chn, q_and, q_or, q_ife, q_tup, q_lst, q_dic, q_ix, q_sl, q_rev, q_call, q_callk, q_bi, q_lrng, q_mth, q_isi, q_nil, q_cons, q_on, q_os, q_tyes, q_tval, q_tnot, q_tand, q_tor, q_tcmp, q_tchn, q_tife, q_iseq, q_irng, q_ienu, q_izip, q_gnam, q_gtup, q_gsub, q_gnil, q_gcons, q_expr, q_asg, q_par, q_aug, q_ret, q_retn, q_pass, q_brk, q_cont, q_iff, q_snil, q_scons, q_start, q_srcT, q_srcF, q_srcS, q_srcL, cap, Nat.add_assoc, e3], ⟨_, rfl⟩, P3, N3.get h2 nq⟩) xs.length 0 (by omega) [a0, a1, a2, a3, a4, a5, some (.loc p), some (.loc q), a8, a9] M ⟨⟨_, rfl⟩, P, hq⟩
  refine ⟨y3, M', ?_⟩
  unfold l1_law
  rw [for_ev (src := .lst q) (M1 := M) (by simp -implicitDefEqProofs [q_var, q_cst, q_glb, q_neg, q_no, q_bin, q_cmp, q_chn, q_and, q_or, q_ife, q_tup, q_lst, q_dic, q_ix, q_sl, q_rev, q_call, q_callk, q_bi, q_lrng, q_mth, q_isi, q_nil, q_cons, q_on, q_os, q_tyes, q_tval, q_tnot, q_tand, q_tor, q_tcmp, q_tchn, q_tife, q_iseq, q_irng, q_ienu, q_izip, q_gnam, q_gtup, q_gsub, q_gnil, q_gcons, q_expr, q_asg, q_par, q_aug, q_ret, q_retn, q_pass, q_brk, q_cont, q_iff, q_snil, q_scons, q_start, q_srcT, q_srcF, q_srcS, q_srcL, cap, Nat.add_assoc, hq]), len_lst hq]
  exact el
theorem s2_law_ev {is : List Int} (hl : is.length ≤ 63) (i : Nat) (hi : i ≤ 100) {a1 a2 a3 a4 a6 a7 a8 a9 : Option D} :
    ∃ y3 y6 y7 M', evSs (cf (k + 5)) b s2_law [some (.frz (is.map D.int)), a1, a2, a3, a4, some (.int i), a6, a7, a8, a9] M = some (.nx [some (.frz (is.map D.int)), a1, a2, y3, a4, some (.int i), y6, y7, a8, a9], M') := by
  obtain ⟨a, s, e1, s1, s2⟩ := pool1 (k := k + 4) (b := b) (M := M) hl i hi
  have P : PoolAt M.length (M ++ [.lst [.int a, .int s]]) := ⟨a, s, by simp, s1, s2⟩
  obtain ⟨q, xs, M1, ec, hq, lq, P1, N1, len, hx⟩ := lc_draw (c := cf (k + 5)) (b := b) (ρ := [some (.frz (is.map D.int)), a1, a2, a3, a4, some (.int i), some (.loc M.length), a7, a8, a9]) (M := M ++ [.lst [.int a, .int s]]) (M1 := M ++ [.lst [.int a, .int s]]) (lo := 0) (n := 3) (it := .rng (.cons (.cst (.int 3)) .nil)) (g := .nam 9) (ow := [9]) (t := .yes) (e := (.call 17 (.cons (.var 6) .nil))) (P := fun x _ => ∃ d, Wx x d)
    (by simp -implicitDefEqProofs [q_var, q_cst, q_glb, q_neg, q_no, q_bin, q_cmp, q_chn, q_and, q_or, q_ife, q_tup, q_lst, q_dic, q_ix, q_sl, q_rev, q_call, q_callk, q_bi, q_lrng, q_mth, q_isi, q_nil, q_cons, q_on, q_os, q_tyes, q_tval, q_tnot, q_tand, q_tor, q_tcmp, q_tchn, q_tife, q_iseq, q_irng, q_ienu, q_izip, q_gnam, q_gtup, q_gsub, q_gnil, q_gcons, q_expr, q_asg, q_par, q_aug, q_ret, q_retn, q_pass, q_brk, q_cont, q_iff, q_snil, q_scons, q_start, q_srcT, q_srcF, q_srcS, q_srcL, cap, Nat.add_assoc, bg3]) P (by decide) (fun _ _ _ _ h => h) (fun _ _ _ _ h => h) (fun v M2 P2 N2 => by
      obtain ⟨x, d, M3, e3, W, P3, N3⟩ := drawn1 (k := k + 3) (b := (M ++ [O.lst [D.int a, .int s]]).length) P2
      exact ⟨x, M3, by simp at e3 ⊢; simp -implicitDefEqProofs [q_var, q_cst, q_glb, q_neg, q_no, q_bin, q_cmp, q_chn, q_and, q_or, q_ife, q_tup, q_lst, q_dic, q_ix, q_sl, q_rev, q_call, q_callk, q_bi, q_lrng, q_mth, q_isi, q_nil, q_cons, q_on, q_os, q_tyes, q_tval, q_tnot, q_tand, q_tor, q_tcmp, q_tchn, q_tife, q_iseq, q_irng, q_ienu, q_izip, q_gnam, q_gtup, q_gsub, q_gnil, q_gcons, q_expr, q_asg, q_par, q_aug, q_ret, q_retn, q_pass, q_brk, q_cont, q_iff, q_snil, q_scons, q_start, q_srcT, q_srcF, q_srcS, q_srcL, cap, Nat.add_assoc, itemT, Ev.wipe, e3], ⟨d, W⟩, P3, N3⟩)
  have ec' : evE (cf (k + 5)) b c2_law [some (.frz (is.map D.int)), a1, a2, a3, a4, some (.int i), some (.loc M.length), a7, a8, a9] (M ++ [.lst [.int a, .int s]]) = .ok (.loc q) M1 := ec
  have hq' := look hq
  have lt1 := P1.lt
  obtain ⟨zs, hz⟩ : ∃ zs, zs = xs ++ [.int 1, .bl true, .tup [.str LOT, .int 0]] := ⟨_, rfl⟩
  have hz' := hz
  unfold LOT at hz'
  have c1 : xs.length + 3 ≤ 16777216 := by omega
  have hzs : ∀ y ∈ zs, ∃ e, Wx y e := fun y my => by
    rw [hz] at my
    rcases List.mem_append.mp my with my | my
    · exact hx y my
    · simp only [List.mem_cons, List.not_mem_nil, or_false] at my
      rcases my with rfl | rfl | rfl
      · exact ⟨_, wx_int 1 (by omega)⟩
      · exact ⟨_, wx_bl true⟩
      · exact ⟨_, wx_lot 0 (by simp [T8])⟩
  obtain ⟨y3, M', el⟩ := l1_law_ev (k := k) (b := b) (p := M.length) (q := M1.length + 1) (xs := zs) (a0 := some (.frz (is.map D.int))) (a1 := a1) (a2 := a2) (a3 := a3) (a4 := a4) (a5 := some (.int i)) (a8 := a8) (a9 := a9) (M := M1 ++ [.lst [.int 1, .bl true, .tup [.str [108, 111, 116], .int 0]], .lst zs]) P1.app (by simp) (by omega) hzs
  refine ⟨y3, some (.loc M.length), some (.loc (M1.length + 1)), M', ?_⟩
  simp -implicitDefEqProofs [q_var, q_cst, q_glb, q_neg, q_no, q_bin, q_cmp, q_chn, q_and, q_or, q_ife, q_tup, q_lst, q_dic, q_ix, q_sl, q_rev, q_call, q_callk, q_bi, q_lrng, q_mth, q_isi, q_nil, q_cons, q_on, q_os, q_tyes, q_tval, q_tnot, q_tand, q_tor, q_tcmp, q_tchn, q_tife, q_iseq, q_irng, q_ienu, q_izip, q_gnam, q_gtup, q_gsub, q_gnil, q_gcons, q_expr, q_asg, q_par, q_aug, q_ret, q_retn, q_pass, q_brk, q_cont, q_iff, q_snil, q_scons, q_start, q_srcT, q_srcF, q_srcS, q_srcL, cap, Nat.add_assoc, s2_law, e1, ec', hq', c1, ← hz', el]
end K01
end

section
namespace K01
open PySem Ev
variable {k b n m p : Nat} {M : Sto} {x y : D} {d e : PyData}
theorem l2_law_ev {is : List Int} (hl : is.length ≤ 63) {a1 a2 a3 a4 a5 a6 a7 a8 a9 : Option D} : ∃ ρ' M', evS (cf (k + 5)) b l2_law [some (.frz (is.map D.int)), a1, a2, a3, a4, a5, a6, a7, a8, a9] M = some (.nx ρ', M') := by
  obtain ⟨N, hN, lN⟩ : ∃ N : Nat, (N : Int) = (if (if ((is.length : Nat) : Int) < (20 : Int) then ((is.length : Nat) : Int) else (20 : Int)) > 1 then (if ((is.length : Nat) : Int) < (20 : Int) then ((is.length : Nat) : Int) else (20 : Int)) else 1) ∧ N ≤ 20 := by
    refine ⟨(if (if ((is.length : Nat) : Int) < (20 : Int) then ((is.length : Nat) : Int) else (20 : Int)) > 1 then (if ((is.length : Nat) : Int) < (20 : Int) then ((is.length : Nat) : Int) else (20 : Int)) else 1).toNat, ?_, ?_⟩ <;> split <;> split <;> omega
  obtain ⟨ρ', M', el, _⟩ := loop_go (xs := rngD 0 N) (next := fun M i => (Src.rng 0 N).next M i) (body := fun d ρ M => bodyS (evG (cf (k + 5)) b (.nam 5) d ρ M) (evSs (cf (k + 5)) b s2_law))
    (I := fun ρ M' => ∃ y1 y2 y3 y4 y5 y6 y7 y8 y9, ρ = [some (.frz (is.map D.int)), y1, y2, y3, y4, y5, y6, y7, y8, y9])
    (fun ρ M' i h => next_rng 0 N i) (fun d md ρ M2 h => by
      obtain ⟨y1, y2, y3, y4, y5, y6, y7, y8, y9, rfl⟩ := h
      obtain ⟨i, hi, rfl⟩ := rng_mem md
      obtain ⟨z3, z6, z7, M3, e3⟩ := s2_law_ev (k := k) (b := b) (M := M2) hl i (by omega) (a1 := y1) (a2 := y2) (a3 := y3) (a4 := y4) (a6 := y6) (a7 := y7) (a8 := y8) (a9 := y9)
      exact ⟨[some (.frz (is.map D.int)), y1, y2, z3, y4, some (.int i), z6, z7, y8, y9], M3, by simp -implicitDefEqProofs [q_var, q_cst, q_glb, q_neg, q_no, q_bin, q_cmp, q_chn, q_and, q_or, q_ife, q_tup, q_lst, q_dic, q_ix, q_sl, q_rev, q_call, q_callk, q_bi, q_lrng, q_mth, q_isi, q_nil, q_cons, q_on, q_os, q_tyes, q_tval, q_tnot, q_tand, q_tor, q_tcmp, q_tchn, q_tife, q_iseq, q_irng, q_ienu, q_izip, q_gnam, q_gtup, q_gsub, q_gnil, q_gcons, q_expr, q_asg, q_par, q_aug, q_ret, q_retn, q_pass, q_brk, q_cont, q_iff, q_snil, q_scons, q_start, q_srcT, q_srcF, q_srcS, q_srcL, cap, Nat.add_assoc, e3], _, _, _, _, _, _, _, _, _, rfl⟩) (rngD 0 N).length 0 (by omega) [some (.frz (is.map D.int)), a1, a2, a3, a4, a5, a6, a7, a8, a9] M ⟨_, _, _, _, _, _, _, _, _, rfl⟩
  refine ⟨ρ', M', ?_⟩
  unfold l2_law
  have hb : big (N : Int) = true := big_of (by omega) (by omega)
  rw [for_ev (src := .rng 0 N) (M1 := M) (by
    simp -implicitDefEqProofs [q_var, q_cst, q_glb, q_neg, q_no, q_bin, q_cmp, q_chn, q_and, q_or, q_ife, q_tup, q_lst, q_dic, q_ix, q_sl, q_rev, q_call, q_callk, q_bi, q_lrng, q_mth, q_isi, q_nil, q_cons, q_on, q_os, q_tyes, q_tval, q_tnot, q_tand, q_tor, q_tcmp, q_tchn, q_tife, q_iseq, q_irng, q_ienu, q_izip, q_gnam, q_gtup, q_gsub, q_gnil, q_gcons, q_expr, q_asg, q_par, q_aug, q_ret, q_retn, q_pass, q_brk, q_cont, q_iff, q_snil, q_scons, q_start, q_srcT, q_srcF, q_srcS, q_srcL, cap, Nat.add_assoc]
    rw [← hN]
    simp [hb]), len_rng]
  exact el
def pairs7 : List D := [.tup [.int 1000000000, .int 1], .tup [.int (-999999999), .int 2], .tup [.int 31623, .int 31623], .tup [.int 1000000000, .int (-1)], .tup [.int (-1000000000), .int (-1000000000)], .tup [.bl true, .int 1], .tup [.int 2, .bl false]]
theorem pairs_ok {v : D} (h : v ∈ pairs7) : ∃ x y, v = .tup [x, y] ∧ ∀ k b M, run TB.fns (gvOf TB) 64 (k + 5) 20 [x, y] b M = .ok (.bl true) M := by
  have go : ∀ {x y : D} {d e : PyData}, Wx x d → Wx y e → ∃ x' y', D.tup [x, y] = .tup [x', y'] ∧ ∀ k b M, run TB.fns (gvOf TB) 64 (k + 5) 20 [x', y'] b M = .ok (.bl true) M := fun {x y d e} W W' => ⟨x, y, rfl, fun k b M => w20 (W.at_ M) (W'.at_ M) W.w W'.w⟩
  simp only [pairs7, List.mem_cons, List.not_mem_nil, or_false] at h
  rcases h with rfl | rfl | rfl | rfl | rfl | rfl | rfl
  · exact go (wx_int _ (by omega)) (wx_int _ (by omega))
  · exact go (wx_int _ (by omega)) (wx_int _ (by omega))
  · exact go (wx_int _ (by omega)) (wx_int _ (by omega))
  · exact go (wx_int _ (by omega)) (wx_int _ (by omega))
  · exact go (wx_int _ (by omega)) (wx_int _ (by omega))
  · exact go (wx_bl _) (wx_int _ (by omega))
  · exact go (wx_int _ (by omega)) (wx_bl _)
theorem l3_law_ev {a0 a1 a3 a4 a5 a6 a7 a8 a9 : Option D} : ∃ y3 y4, evS (cf (k + 5)) b l3_law [a0, a1, some (.int 1000000000), a3, a4, a5, a6, a7, a8, a9] M = some (.nx [a0, a1, some (.int 1000000000), y3, y4, a5, a6, a7, a8, a9], M ++ [.lst pairs7]) := by
  have lz : (M ++ [O.lst pairs7])[M.length]? = some (.lst pairs7) := by rw [get_ap0]; rfl
  have lp := loop_chk (M := M ++ [.lst pairs7]) (next := fun M' i => (Src.lst M.length).next M' i) (xs := pairs7) (r := .non) (I := fun ρ => ∃ y3 y4, ρ = [a0, a1, some (.int 1000000000), y3, y4, a5, a6, a7, a8, a9]) (bad := fun _ => false) (body := fun d ρ M => bodyS (evG (cf (k + 5)) b (.tup (.cons (.nam 3) (.cons (.nam 4) .nil))) d ρ M) (evSs (cf (k + 5)) b s3_law))
    (next_lst lz) (fun w mw ρ hI => by
      obtain ⟨y3, y4, rfl⟩ := hI
      obtain ⟨x, y, rfl, e1⟩ := pairs_ok mw
      have e2 := e1 k b
      exact .inr ⟨rfl, [a0, a1, some (.int 1000000000), some x, some y, a5, a6, a7, a8, a9], ⟨_, _, rfl⟩, by simp -implicitDefEqProofs [q_var, q_cst, q_glb, q_neg, q_no, q_bin, q_cmp, q_chn, q_and, q_or, q_ife, q_tup, q_lst, q_dic, q_ix, q_sl, q_rev, q_call, q_callk, q_bi, q_lrng, q_mth, q_isi, q_nil, q_cons, q_on, q_os, q_tyes, q_tval, q_tnot, q_tand, q_tor, q_tcmp, q_tchn, q_tife, q_iseq, q_irng, q_ienu, q_izip, q_gnam, q_gtup, q_gsub, q_gnil, q_gcons, q_expr, q_asg, q_par, q_aug, q_ret, q_retn, q_pass, q_brk, q_cont, q_iff, q_snil, q_scons, q_start, q_srcT, q_srcF, q_srcS, q_srcL, cap, Nat.add_assoc, s3_law, e2]⟩) 7 0 rfl [a0, a1, some (.int 1000000000), a3, a4, a5, a6, a7, a8, a9] ⟨_, _, rfl⟩
  rcases lp with ⟨q, _⟩ | ⟨_, ρ', ⟨y3, y4, rfl⟩, e1⟩
  · exfalso
    have z : ∀ l : List D, l.any (fun _ => false) = false := fun l => by induction l with
      | nil => rfl
      | cons _ _ ih => exact ih
    rw [z] at q
    cases q
  · refine ⟨y3, y4, ?_⟩
    unfold l3_law
    have ei : evI (cf (k + 5)) b (.seq (.lst (.cons (.tup (.cons (.var 2) (.cons (.cst (.int 1)) .nil))) (.cons (.tup (.cons (.bin .sub (.cst (.int 1)) (.var 2)) (.cons (.cst (.int 2)) .nil))) (.cons (.tup (.cons (.cst (.int 31623)) (.cons (.cst (.int 31623)) .nil))) (.cons (.tup (.cons (.var 2) (.cons (.un .neg (.cst (.int 1))) .nil))) (.cons (.tup (.cons (.un .neg (.var 2)) (.cons (.un .neg (.var 2)) .nil))) (.cons (.tup (.cons (.cst (.bl true)) (.cons (.cst (.int 1)) .nil))) (.cons (.tup (.cons (.cst (.int 2)) (.cons (.cst (.bl false)) .nil))) .nil))))))))) [a0, a1, some (.int 1000000000), a3, a4, a5, a6, a7, a8, a9] M = .ok (.lst M.length) (M ++ [.lst pairs7]) := by
      simp -implicitDefEqProofs [q_var, q_cst, q_glb, q_neg, q_no, q_bin, q_cmp, q_chn, q_and, q_or, q_ife, q_tup, q_lst, q_dic, q_ix, q_sl, q_rev, q_call, q_callk, q_bi, q_lrng, q_mth, q_isi, q_nil, q_cons, q_on, q_os, q_tyes, q_tval, q_tnot, q_tand, q_tor, q_tcmp, q_tchn, q_tife, q_iseq, q_irng, q_ienu, q_izip, q_gnam, q_gtup, q_gsub, q_gnil, q_gcons, q_expr, q_asg, q_par, q_aug, q_ret, q_retn, q_pass, q_brk, q_cont, q_iff, q_snil, q_scons, q_start, q_srcT, q_srcF, q_srcS, q_srcL, cap, Nat.add_assoc, pairs7]
    rw [for_ev ei, len_lst lz]
    exact e1
def things : List D := [.non, .str [], .str [97], .str [122, 122, 122, 122, 122, 122], .str [97, 98, 99, 100, 101, 102, 103], .str [65], .str [97, 49], .str [97, 32, 98], .int 5, .bl true, .loc 0, .loc 1, .str [97, 10], .tup [.str [97]], .int 1000000001,
  .tup [.str PLACE, .int 1, .str [65]], .tup [.str PLACE, .int 1, .str []], .tup [.str PLACE, .bl true, .str [97]], .tup [.str LOT, .bl true], .tup [.str LOT, .int (-1)], .tup [.str PLACE, .int 1, .str [98]]]
theorem things_ok {v : D} (h0 : M[0]? = some (.lst [.str [97]])) (h1 : M[1]? = some (.dct [])) (h : v ∈ things) : ∀ b, run TB.fns (gvOf TB) 64 (k + 5) 19 [v] b M = .ok (.bl true) M := fun b => by
  have pl : At M (.loc 0) (.list [sP [97]]) := by
    show py M 12 _ = _
    rw [show 12 = 11 + 1 from rfl]
    unfold py
    dsimp only
    rw [h0]
    rfl
  simp only [things, List.mem_cons, List.not_mem_nil, or_false] at h
  rcases h with rfl | rfl | rfl | rfl | rfl | rfl | rfl | rfl | rfl | rfl | rfl | rfl | rfl | rfl | rfl | rfl | rfl | rfl | rfl | rfl | rfl
  · exact w19 (d := .none) rfl (by decide +kernel)
  · exact w19 (d := sP []) rfl (by decide +kernel)
  · exact w19 (d := sP [97]) rfl (by decide +kernel)
  · exact w19 (d := sP [122, 122, 122, 122, 122, 122]) rfl (by decide +kernel)
  · exact w19 (d := sP [97, 98, 99, 100, 101, 102, 103]) rfl (by decide +kernel)
  · exact w19 (d := sP [65]) rfl (by decide +kernel)
  · exact w19 (d := sP [97, 49]) rfl (by decide +kernel)
  · exact w19 (d := sP [97, 32, 98]) rfl (by decide +kernel)
  · exact w19 (d := .int 5) rfl (by decide +kernel)
  · exact w19 (d := .bool true) rfl (by decide +kernel)
  · exact w19 pl (by decide +kernel)
  · exact w19d h1
  · exact w19 (d := sP [97, 10]) rfl (by decide +kernel)
  · exact w19 (d := .tuple [sP [97]]) rfl (by decide +kernel)
  · exact w19 (d := .int 1000000001) rfl (by decide +kernel)
  · exact w19 (d := .tuple [sP PLACE, .int 1, sP [65]]) rfl (by decide +kernel)
  · exact w19 (d := .tuple [sP PLACE, .int 1, sP []]) rfl (by decide +kernel)
  · exact w19 (d := .tuple [sP PLACE, .bool true, sP [97]]) rfl (by decide +kernel)
  · exact w19 (d := .tuple [sP LOT, .bool true]) rfl (by decide +kernel)
  · exact w19 (d := .tuple [sP LOT, .int (-1)]) rfl (by decide +kernel)
  · exact w19 (d := .tuple [sP PLACE, .int 1, sP [98]]) rfl (by decide +kernel)
theorem words_repr : ReprOk M (.tup [dPlus, dMinus, dTimes, dBelow, dSame]) := repr_tup (fun y m => by
    simp only [List.mem_cons, List.not_mem_nil, or_false] at m
    rcases m with rfl | rfl | rfl | rfl | rfl <;> rfl) (fun y m => by
    simp only [List.mem_cons, List.not_mem_nil, or_false] at m
    rcases m with rfl | rfl | rfl | rfl | rfl <;> decide +kernel) (by decide)
theorem law_ev {is : List Int} (hl : is.length ≤ 63) : ∃ M, run TB.fns (gvOf TB) 64 8 21 [.frz (is.map D.int)] 0 [] = .ok (.bl true) M := by
  obtain ⟨s, r1, r2⟩ := words_repr (M := [])
  obtain ⟨S4, hS4⟩ : ∃ S4 : Sto, S4 = [.lst [.str [97]], .dct [], .lst (things.take 15), .lst ((things.drop 15).take 5), .lst things] := ⟨_, rfl⟩
  have ec := c3_ev (k := 2) (b := 0) (n := 4) (M := S4) (xs := things) (a0 := some (.frz (is.map D.int))) (a2 := none) (a3 := none) (a4 := none) (a5 := none) (a6 := none) (a7 := none) (a8 := none) (a9 := none) (by rw [hS4]; rfl) (fun x mx => things_ok (by rw [hS4]; rfl) (by rw [hS4]; rfl) mx)
  obtain ⟨y3, y4, e3⟩ := l3_law_ev (k := 2) (b := 0) (M := S4 ++ [.lst [], .lst []]) (a0 := some (.frz (is.map D.int))) (a1 := some (.loc 4)) (a3 := none) (a4 := none) (a5 := none) (a6 := none) (a7 := none) (a8 := none) (a9 := none)
  obtain ⟨ρ', M', e2⟩ := l2_law_ev (k := 2) (b := 0) (M := S4 ++ [.lst [], .lst []] ++ [.lst pairs7]) (a1 := some (.loc 4)) (a2 := some (.int 1000000000)) (a3 := y3) (a4 := y4) (a5 := none) (a6 := none) (a7 := none) (a8 := none) (a9 := none) hl
  unfold dPlus dMinus dTimes dBelow dSame at r1
  rw [hS4] at ec e3 e2
  simp [things, LOT, PLACE] at ec e3 e2
  refine ⟨M'.take 0, ?_⟩
  rw [call_flat (fn := f_law) (d := .bl true) (M' := M') rfl rfl rfl ?_ (by simp)]
  · rfl
  · simp -implicitDefEqProofs [q_var, q_cst, q_glb, q_neg, q_no, q_bin, q_cmp, q_chn, q_and, q_or, q_ife, q_tup, q_lst, q_dic, q_ix, q_sl, q_rev, q_call, q_callk, q_bi, q_lrng, q_mth, q_isi, q_nil, q_cons, q_on, q_os, q_tyes, q_tval, q_tnot, q_tand, q_tor, q_tcmp, q_tchn, q_tife, q_iseq, q_irng, q_ienu, q_izip, q_gnam, q_gtup, q_gsub, q_gnil, q_gcons, q_expr, q_asg, q_par, q_aug, q_ret, q_retn, q_pass, q_brk, q_cont, q_iff, q_snil, q_scons, q_start, q_srcT, q_srcF, q_srcS, q_srcL, cap, Nat.add_assoc, f_law, b_law, g0, g4, dPlus, dMinus, dTimes, dBelow, dSame, r1, r2, ec, e3, e2]
end K01
theorem k01_holds : PySem.Challenge.rw_waitedmeets_k01_worths_of_all_sorts.Holds := k01_of fun is h => K01.law_ev h
end

theorem PySem.Challenge.cw_waitedmeets_k01_worths_of_all_sorts_holds : PySem.Challenge.rw_waitedmeets_k01_worths_of_all_sorts.Holds :=
  k01_holds
