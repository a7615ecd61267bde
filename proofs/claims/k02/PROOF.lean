import PyProof.Rows.All
import Wide.All
import OpenK.AllK
import Wide.FinOn
import HandS.ForExc
import HandS.Wide
import HandS.Gcd
import HandS.Flow
import HandS.Style
import HandS.TupAny
import HandS.IsInst
import HandS.Iter
import HandS.Rev
import HandS.Zip
import HandS.Comp
import HandS.Text
import HandS.CallSlots
import HandS.EndBits
import HandS.StrMore
import HandS.StrSplit
import HandS.WideBits
import HandS.SortInts
import HandS.More
import HandS.Dict
import HandS.ExcIs
import HandS.Exc
import HandS.ExcInit
import KE.KExcSuper
import HandS.Zip0
import PyProof.Draws
import KE.GoesZip
import KE.GoesMore
import HandS.TryMany
import HandS.Small
import HandS.TryOnly
import PyProof.StrLawsIn
import KE.IntTextLaws
import PyProof.Rows.StrFromFirst
import PyProof.Rows.StrLawsPart
import PySem.Challenge.RW_integraph_k02_written_form
set_option Elab.async false
set_option linter.all false
set_option maxRecDepth 100000
set_option maxHeartbeats 4000000
/-! A small evaluator over plain data, and what it says of the text: the forms. -/
namespace Ev
open PySem PySem.Spec PyProof.Rows L2

/-- plain data: tuples by value (and a list that is only read, rol), lists and other objects by place -/
inductive D where
  | non | bl (b : Bool) | int (i : Int) | str (x : Str) | tup (xs : List D) | rol (xs : List D) | ref (a : Addr)
inductive Ob where
  | lst (xs : List D)
  /-- an instance of a class of the text, its attributes -/
  | ins (C : Str) (fs : List (Str × D))
  /-- a dict with text keys; the same while it is walked -/
  | dct (kvs : List (Str × D))
  | dcl (o : Obj) (kvs : List (Str × D))
  /-- the own dict of an exception -/
  | xd (fs : List (Str × D))
abbrev Sto := Addr → Option Ob
def put (S : Sto) (a : Addr) (o : Ob) : Sto := fun b => if b = a then some o else S b
theorem put_same {S : Sto} {a : Addr} {o : Ob} : put S a o a = some o := if_pos rfl
theorem put_ne {S : Sto} {a b : Addr} {o : Ob} (h : b ≠ a) : put S a o b = S b := if_neg h
/-- an exception: its class's name, the fields of its own __init__ -/
structure Exn where
  cls : Str
  fs : List (Str × D)
abbrev DK := D → Sto → Prop
abbrev XS := Exn → Sto → Prop
abbrev CallS := Str → List D → Sto → DK → XS → Prop
abbrev En := List (Option D)
def gt : En → Nat → Option D
  | [], _ => none
  | x :: _, 0 => x
  | _ :: r, n + 1 => gt r n
def stn : En → Nat → D → En
  | [], _, _ => []
  | _ :: r, 0, d => some d :: r
  | x :: r, n + 1, d => x :: stn r n d
def wip1 : En → Nat → En
  | [], _ => []
  | _ :: r, 0 => none :: r
  | x :: r, n + 1 => x :: wip1 r n
def wips : En → List Nat → En
  | σ, [] => σ
  | σ, i :: r => wips (wip1 σ i) r

inductive Bi where
  | len | abs | int | min2 | max2 | tuple | list | gcd | lcm | str | ord | divmod | sorted | dict
  deriving DecidableEq
inductive Ty where
  | int | bool | str | tuple | list | own (x : Str)
  deriving DecidableEq
inductive Me where
  | append | pop | popat | reverse
  deriving DecidableEq

/-- methods of texts -/
inductive Sm where
  | join | partition | startswith | strip | lstrip | zfill | split | isdigit | isalnum
  deriving DecidableEq

mutual
inductive IE where
  | var (i : Nat)
  | int (i : Int) | bl (b : Bool) | non | str (x : Str)
  | glo (x : Str)
  | tup (es : IEs) | lst (es : IEs)
  | bin (op : Operator) (a b : IE)
  | neg (a : IE)
  | cmp (op : CmpOp) (a b : IE)
  | chn (op op2 : CmpOp) (a b c : IE)
  | and (a b : IE) | or (a b : IE) | one (a : IE) | not (a : IE)
  | ifx (c : IC) (a b : IE)
  | idx (a i : IE)
  | slc (a : IE) (lo hi : IO)
  | call (f : Str) (es : IEs)
  | bi (b : Bi) (es : IEs)
  | isi (e : IE) (ts : List Ty)
  /-- isinstance of the caught exception: one class, or a tuple of classes -/
  | isx (e : IE) (c : Str) | isxs (e : IE) (cs : List Str)
  | mth (m : Me) (o : IE) (es : IEs)
  | fld (o : IE) (f : Str)
  | mcl (o : IE) (m : Str) (es : IEs)
  | mk (x : Str) (es : IEs)
  | lc (elt : IE) (tg : IG) (it : II) (ifs : IQ) (own : List Nat)
  | smt (m : Sm) (o : IE) (es : IEs)
  /-- a field of the caught exception -/
  | fldx (e : IE) (f : Str)
  /-- a dict display with written keys; a module's dict at a key -/
  | dct (ks : List Str) (es : IEs)
  | gix (x : Str) (e : IE)
  | rsl (e : IE)
  /-- a comprehension over the keys of a dict -/
  | lck (e : IE) (i : Nat)
inductive IEs where
  | nil | cons (e : IE) (r : IEs)
inductive IO where
  | no | some (e : IE)
inductive IC where
  | and (a b : IC) | or (a b : IC) | one (a : IC) | not (a : IC)
  | cmp (op : CmpOp) (a b : IE)
  | chn (op op2 : CmpOp) (a b c : IE)
  | v (e : IE)
inductive IQ where
  | no | c (c : IC)
inductive II where
  | seq (e : IE) | rng1 (a : IE) | rng2 (a b : IE) | rng3 (a b c : IE) | enu (e : IE) | zip (a b : IE) | rev (e : IE)
inductive IG where
  | nm (i : Nat) | tup (gs : IGs)
inductive IGs where
  | nil | cons (g : IG) (r : IGs)
end
mutual
inductive IS where
  | set (i : Nat) (e : IE)
  | asg (g : IG) (e : IE)
  | par2 (i j : Nat) (a b : IE)
  | sub (o i e : IE)
  | expr (e : IE)
  | ret (e : IE) | retN
  | ifs (c : IC) (a b : ISs)
  | whl (c : IC) (b : ISs)
  | for_ (g : IG) (it : II) (b : ISs)
  | brk | cnt | pass
  | raise (x : Str) (es : IEs)
  | tryx (b : ISs) (x : Str) (s : ISs)
  | tryas (b : ISs) (x : Str) (i : Nat) (s : ISs)
  | setf (o : IE) (f : Str) (e : IE)
  | never
  /-- an exception whose class has its own __init__ -/
  | raisef (x : Str) (e : IE)
  | trym (b : ISs) (hs : IHs)
  | aug (i : Nat) (e : IE)
inductive ISs where
  | nil | cons (s : IS) (r : ISs)
inductive IHs where
  | nil | cons (x : Str) (i : Option Nat) (s : ISs) (r : IHs)
end

/-! ### operations on data -/
def lget (S : Sto) (a : Addr) : Option (List D) := match S a with
  | some (.lst xs) => some xs
  | some (.ins _ _) => none
  | some (.dct _) => none
  | some (.dcl _ _) => none
  | some (.xd _) => none
  | none => none
def iget (S : Sto) (a : Addr) : Option (Str × List (Str × D)) := match S a with
  | some (.ins x fs) => some (x, fs)
  | some (.lst _) => none
  | some (.dct _) => none
  | some (.dcl _ _) => none
  | some (.xd _) => none
  | none => none
/-- what is a dict, to be read -/
def dget (S : Sto) (a : Addr) : Option (List (Str × D)) := match S a with
  | some (.lst _) => none
  | some (.ins _ _) => none
  | some (.dct kvs) => some kvs
  | some (.dcl _ kvs) => some kvs
  | some (.xd _) => none
  | none => none
def xget (S : Sto) (a : Addr) : Option (List (Str × D)) := match S a with
  | some (.lst _) => none
  | some (.ins _ _) => none
  | some (.dct _) => none
  | some (.dcl _ _) => none
  | some (.xd fs) => some fs
  | none => none
def lookS (kvs : List (Str × D)) (z : Str) : Option D := (kvs.find? fun p => decide (p.1 = z)).map (·.2)
def putS (kvs : List (Str × D)) (z : Str) (d : D) : List (Str × D) := if kvs.any (fun p => decide (p.1 = z)) then kvs.map (fun p => if p.1 = z then (z, d) else p) else kvs ++ [(z, d)]
def putD (f : Str) (v : D) : List (Str × D) → List (Str × D)
  | [] => [(f, v)]
  | (g, x) :: r => if g = f then (g, v) :: r else (g, x) :: putD f v r
/-- what has items: a tuple, a list -/
def sget (S : Sto) : D → Option (List D)
  | .tup xs => some xs
  | .rol xs => some xs
  | .ref a => lget S a
  | _ => none
def truS (x : D) (S : Sto) (Q : Bool → Prop) : Prop := match x with
  | .non => Q false
  | .bl b => Q b
  | .int i => Q (i != 0)
  | .str y => y.length ≤ sizeLine ∧ Q ((y.length : Int) != 0)
  | .tup xs => Q (!xs.isEmpty)
  | .rol xs => Q (!xs.isEmpty)
  | .ref a => match lget S a with
    | some xs => Q (!xs.isEmpty)
    | none => False
mutual
/-- data as the library's comparison reads it -/
inductive Pd (S : Sto) : D → PyData → Prop
  | non : Pd S .non .none
  | bl (b : Bool) : Pd S (.bl b) (.bool b)
  | int (i : Int) : Pd S (.int i) (.int i)
  | str (x : Str) : Pd S (.str x) (.str x)
  | tup {xs : List D} {ps : List PyData} (h : Pds S xs ps) : Pd S (.tup xs) (.tuple ps)
  | rol {xs : List D} {ps : List PyData} (h : Pds S xs ps) : Pd S (.rol xs) (.list ps)
  | ref {a : Addr} {xs : List D} {ps : List PyData} (l : lget S a = some xs) (h : Pds S xs ps) : Pd S (.ref a) (.list ps)
inductive Pds (S : Sto) : List D → List PyData → Prop
  | nil : Pds S [] []
  | cons {d : D} {ds : List D} {p : PyData} {ps : List PyData} (h : Pd S d p) (t : Pds S ds ps) : Pds S (d :: ds) (p :: ps)
end
def eqG (x y : D) (S : Sto) (Q : Bool → Prop) : Prop := ∃ p q, Pd S x p ∧ Pd S y q ∧ SeqAt.shaped p = true ∧ SeqAt.shaped q = true ∧ Q (PyData.eqv p q)
def eqS (x y : D) (S : Sto) (Q : Bool → Prop) : Prop := match x with
  | .int i => (match y with
    | .int j => Q (decide (i = j))
    | _ => eqG x y S Q)
  | .str a => (match y with
    | .str b => Q (decide (a = b))
    | _ => eqG x y S Q)
  | _ => eqG x y S Q
/-- flat data: what `in` compares at once -/
def flD : D → Bool
  | .non => true
  | .bl _ => true
  | .int _ => true
  | .str _ => true
  | _ => false
def toV : D → V
  | .bl b => .bl b
  | .int i => .int i
  | .str x => .str x
  | _ => .non
def inL (x : D) (xs : List D) : Bool := xs.any fun y => eqV (toV y) (toV x)
def dgetD (S : Sto) : D → Option (List (Str × D))
  | .ref a => dget S a
  | _ => none
def inS (x y : D) (S : Sto) (Q : Bool → Prop) : Prop := match y with
  | .str j => (match x with | .str i => Q (!(Builtin.Str.occurrences j i 0 j.length 1).isEmpty) | _ => False)
  | _ => (match dgetD S y with
   | some kvs => (match x with | .str z => Q (lookS kvs z).isSome | _ => False)
   | none => (match sget S y with
    | some xs => flD x = true ∧ xs.all flD = true ∧ Q (inL x xs)
    | none => False))
def cmpS (op : CmpOp) (x y : D) (S : Sto) (Q : Bool → Prop) : Prop := match op with
  | .Eq => eqS x y S Q
  | .NotEq => eqS x y S fun k => Q (!k)
  | .Lt => (match x, y with | .int i, .int j => Q (decide (i < j)) | _, _ => False)
  | .LtE => (match x, y with | .int i, .int j => Q (decide (i ≤ j)) | _, _ => False)
  | .Gt => (match x, y with | .int i, .int j => Q (decide (j < i)) | _, _ => False)
  | .GtE => (match x, y with | .int i, .int j => Q (decide (j ≤ i)) | _, _ => False)
  | .Is => (match y with
    | .non => (match x with | .non => Q true | _ => Q false)
    | .bl b => (match x with | .bl c => Q (decide (c = b)) | _ => False)
    | _ => False)
  | .IsNot => (match y with
    | .non => (match x with | .non => Q false | _ => Q true)
    | .bl b => (match x with | .bl c => Q (!decide (c = b)) | _ => False)
    | _ => False)
  | .In => inS x y S Q
  | .NotIn => inS x y S fun k => Q (!k)
/-- the condition on // : the divisor is not 0, and the library's big division is not asked (or is allowed: PY) -/
def FdOk (PY : Prop) (i j : Int) : Prop := j ≠ 0 ∧ (Builtin.divisionGoesByPylong i j = false ∨ PY)
def binS (PY : Prop) (op : Operator) (x y : D) (S : Sto) (Q : DK) : Prop := match op with
  | .Add => (match x, y with
    | .int i, .int j => Q (.int (i + j)) S
    | .tup xs, .tup ys => xs.length + ys.length ≤ sizeLine ∧ Q (.tup (xs ++ ys)) S
    | .str a, .str b => a.length + b.length ≤ sizeLine ∧ Q (.str (a ++ b)) S
    | .ref a, .ref b => (match S a, S b with
      | some (.lst xs), some (.lst ys) => xs.length + ys.length ≤ sizeLine ∧ ∀ c, S c = none → Q (.ref c) (put S c (.lst (xs ++ ys)))
      | _, _ => False)
    | _, _ => False)
  | .Sub => (match x, y with | .int i, .int j => Q (.int (i - j)) S | _, _ => False)
  | .Mult => (match x, y with
    | .int i, .int j => IntMulOk i j ∧ Q (.int (i * j)) S
    | .str z, .int k => MulOk z k ∧ Q (.str (Txt.mul z k)) S
    | .ref a, .int k => (match S a with
      | some (.lst xs) => -(2 ^ 63) ≤ k ∧ k < 2 ^ 63 ∧ xs.length * k.toNat ≤ sizeLine ∧ ∀ c, S c = none → Q (.ref c) (put S c (.lst (List.replicate k.toNat xs).flatten))
      | _ => False)
    | _, _ => False)
  | .FloorDiv => (match x, y with | .int i, .int j => FdOk PY i j ∧ Q (.int (i.fdiv j)) S | _, _ => False)
  | .Mod => (match x, y with | .int i, .int j => j ≠ 0 ∧ Q (.int (i.fmod j)) S | _, _ => False)
  | .Pow => (match x, y with | .int i, .int j => CPow i j ∧ Q (.int (i ^ j.toNat)) S | _, _ => False)
  | _ => False
/-- what dicts have at a key -/
def dixS (S : Sto) (a : Addr) (z : Str) (Q : DK) : Prop := match dget S a with
  | some kvs => (match lookS kvs z with | some d => Q d S | none => False)
  | none => False
def idxS (x i : D) (S : Sto) (Q : DK) : Prop := match i with
  | .int n => (match x with
    | .str z => z.length ≤ sizeLine ∧ (match atI z.cps.toList n with | some c => Q (.str ⟨#[c]⟩) S | none => False)
    | _ => (match sget S x with
      | some xs => (match atI xs n with | some d => Q d S | none => False)
      | none => False))
  | .str z => (match x with
    | .ref a => dixS S a z Q
    | _ => False)
  | _ => False
def cutD (xs : List D) (lo hi : Option Int) : List D := (xs.drop (HT.sIx xs.length 0 lo)).take (HT.sIx xs.length xs.length hi - HT.sIx xs.length 0 lo)
def slcS (x : D) (lo hi : Option Int) (S : Sto) (Q : DK) : Prop := match x with
  | .tup xs => Q (.tup (cutD xs lo hi)) S
  | .rol xs => ∀ c, S c = none → Q (.ref c) (put S c (.lst (cutD xs lo hi)))
  | .str z => z.length ≤ sizeLine ∧ Q (.str (cutS z lo hi)) S
  | .ref a => (match lget S a with
    | some xs => ∀ c, S c = none → Q (.ref c) (put S c (.lst (cutD xs lo hi)))
    | none => False)
  | _ => False
/-- a list's items -/
def sgetL (S : Sto) : D → Option (List D)
  | .rol xs => some xs
  | .ref a => lget S a
  | _ => none
/-- methods of texts -/
def smtS (m : Sm) (x : D) (ds : List D) (S : Sto) (Q : DK) : Prop := match x with
  | .str a => (match m with
    | .join => (match ds with
      | [y] => ∃ ys : List Str, sget S y = some (ys.map D.str) ∧ (ys.map (·.length)).sum + ys.length * a.length ≤ 16777216 ∧ Q (.str (Txt.join a ys)) S
      | _ => False)
    | .partition => (match ds with
      | [.str b] => (b.length == 0) = false ∧ a.length ≤ sizeLine ∧ Q (.tup [.str (Txt.partition a b).1, .str (Txt.partition a b).2.1, .str (Txt.partition a b).2.2]) S
      | _ => False)
    | .startswith => (match ds with | [.str b] => Q (.bl (Txt.startswith a b)) S | _ => False)
    | .strip => (match ds with | [.str b] => a.length ≤ sizeLine ∧ Q (.str (Txt.stripChars a b)) S | _ => False)
    | .lstrip => (match ds with | [.str b] => a.length ≤ sizeLine ∧ Q (.str (Txt.lstripChars a b)) S | _ => False)
    | .zfill => (match ds with | [.int i] => PadOk i = true ∧ Q (.str (Txt.zfill a i)) S | _ => False)
    | .split => (match ds with
      | [.str b] => (b.length == 0) = false ∧ a.length + 2 ≤ sizeLine ∧ ∀ c, S c = none → Q (.ref c) (put S c (.lst ((Txt.split a b).map D.str)))
      | _ => False)
    | .isdigit => (match ds with | [] => Q (.bl (Txt.isdigit a)) S | _ => False)
    | .isalnum => (match ds with | [] => Q (.bl (Txt.isalnum a)) S | _ => False))
  | _ => False
def biS (b : Bi) (ds : List D) (S : Sto) (Q : DK) : Prop := match b with
  | .len => (match ds with
    | [.str z] => z.length ≤ sizeLine ∧ Q (.int z.length) S
    | [x] => (match sget S x with | some xs => Q (.int xs.length) S | none => False)
    | _ => False)
  | .abs => (match ds with | [.int i] => Q (.int (if i < 0 then -i else i)) S | _ => False)
  | .int => (match ds with
    | [.int i] => Q (.int i) S
    | [.bl k] => Q (.int (if k then 1 else 0)) S
    | [.str a] => ∃ n, PySem.intText? a = some n ∧ a.length ≤ 640 ∧ Q (.int n) S
    | _ => False)
  | .ord => (match ds with | [.str x] => x.length = 1 ∧ Q (.int (x.cps.getD 0 0 : Nat)) S | _ => False)
  | .divmod => (match ds with | [.int i, .int j] => CDivP i j ∧ Q (.tup [.int (i / j), .int (i % j)]) S | _ => False)
  | .sorted => (match ds with
    | [x] => ∃ ns : List Int, sgetL S x = some (ns.map D.int) ∧ ∀ ns' : List Int, ns'.Perm ns → ns'.Pairwise (· ≤ ·) → ∀ c, S c = none → Q (.ref c) (put S c (.lst (ns'.map D.int)))
    | _ => False)
  | .dict => (match ds with
    | [.ref a] => (match dget S a with | some kvs => ∀ c, S c = none → Q (.ref c) (put S c (.dct kvs)) | none => False)
    | _ => False)
  | .min2 => (match ds with | [.int i, .int j] => Q (.int (if j < i then j else i)) S | _ => False)
  | .max2 => (match ds with | [.int i, .int j] => Q (.int (if j > i then j else i)) S | _ => False)
  | .tuple => (match ds with
    | [x] => (match sget S x with | some xs => Q (.tup xs) S | none => False)
    | _ => False)
  | .list => (match ds with
    | [x] => (match sget S x with | some xs => ∀ c, S c = none → Q (.ref c) (put S c (.lst xs)) | none => False)
    | _ => False)
  | .str => (match ds with | [.int i] => i.natAbs.log2 < 1920 ∧ Q (.str (toString i : String)) S | _ => False)
  | .gcd => (match ds with | [.int i, .int j] => Q (.int ((Nat.gcd i.natAbs j.natAbs : Nat) : Int)) S | _ => False)
  | .lcm => (match ds with | [.int i, .int j] => i.natAbs.log2 < 13000 ∧ j.natAbs.log2 < 13000 ∧ Q (.int ((Nat.lcm i.natAbs j.natAbs : Nat) : Int)) S | _ => False)
/-- is a value of this type -/
def isT (S : Sto) (x : D) : Ty → Option Bool
  | .int => (match x with | .int _ => some true | .bl _ => some true | .ref a => (lget S a).map fun _ => false | _ => some false)
  | .bool => (match x with | .bl _ => some true | .ref a => (lget S a).map fun _ => false | _ => some false)
  | .str => (match x with | .str _ => some true | .ref a => (lget S a).map fun _ => false | _ => some false)
  | .tuple => (match x with | .tup _ => some true | .ref a => (lget S a).map fun _ => false | _ => some false)
  | .list => (match x with | .rol _ => some true | .ref a => (lget S a).map fun _ => true | _ => some false)
  | .own _ => none
def isTs (S : Sto) (x : D) : List Ty → Option Bool
  | [] => some false
  | t :: r => match isT S x t with
    | some true => some true
    | some false => isTs S x r
    | none => none
/-- the receiver's kind, ahead of the arguments -/
def mthT (m : Me) (o : D) (S : Sto) : Prop := match o with
  | .ref a => ∃ xs, lget S a = some xs
  | _ => False
def mthS (m : Me) (o : D) (ds : List D) (S : Sto) (Q : DK) : Prop := match o with
  | .ref a => (match S a with
    | some (.lst xs) => (match m with
      | .append => (match ds with | [y] => xs.length < sizeLine ∧ Q .non (put S a (.lst (xs ++ [y]))) | _ => False)
      | .pop => (match ds with | [] => (match xs[xs.length - 1]? with | some y => Q y (put S a (.lst xs.dropLast)) | none => False) | _ => False)
      | .popat => (match ds with
        | [.int i] => -(2 ^ 63) ≤ i ∧ i < 2 ^ 63 ∧ (match seqIndex? i xs.length with
          | some k => (match xs[k]? with | some y => Q y (put S a (.lst (xs.eraseIdx k))) | none => False)
          | none => False)
        | _ => False)
      | .reverse => (match ds with | [] => Q .non (put S a (.lst xs.reverse)) | _ => False))
    | _ => False)
  | _ => False

/-! ### what is walked -/
inductive Itr where
  | tup (xs : List D)
  | rol (xs : List D)
  | lst (a : Addr)
  | rng (lo : Int) (n : Nat)
  | rngc (lo c : Int) (n : Nat)
  | enu (a : Addr)
  | enuT (xs : List D)
  | zip (a b : Addr)
  | zipM (a : Addr) (ys : List D)
  | rev (a : Addr) (n : Nat)
  | stri (z : Str)
  | dky (a : Addr) (o : Obj)
def nxt (j : Itr) (i : Nat) (S : Sto) (stop : Prop) (go : D → Prop) : Prop := match j with
  | .tup xs => (match xs[i]? with | some d => go d | none => stop)
  | .rol xs => (match xs[i]? with | some d => go d | none => stop)
  | .lst a => (match lget S a with
    | some xs => (match xs[i]? with | some d => go d | none => stop)
    | none => False)
  | .rng lo n => if i < n then go (.int (lo + i)) else stop
  | .rngc lo c n => if i < n then go (.int (lo + (i : Nat) * c)) else stop
  | .enu a => (match lget S a with
    | some xs => (match xs[i]? with | some d => go (.tup [.int i, d]) | none => stop)
    | none => False)
  | .enuT xs => (match xs[i]? with | some d => go (.tup [.int i, d]) | none => stop)
  | .zip a b => (match lget S a, lget S b with
    | some xs, some ys => (match xs[i]? with
      | some d => (match ys[i]? with | some e => go (.tup [d, e]) | none => stop)
      | none => stop)
    | _, _ => False)
  | .zipM a ys => (match lget S a with
    | some xs => xs.length = ys.length ∧ i ≤ ys.length ∧ (match xs[i]? with
      | some d => (match ys[i]? with | some e => go (.tup [d, e]) | none => False)
      | none => stop)
    | none => False)
  | .rev a n => (match lget S a with
    | some xs => if i < n then (match xs[n - 1 - i]? with | some d => xs.length = n ∧ go d | none => False) else stop
    | none => False)
  | .stri z => (match z.cps[i]? with | some c => go (.str ⟨#[c]⟩) | none => stop)
  | .dky a o => (match S a with
    | some (.dcl o' kvs) => o' = o ∧ (match kvs[i]? with | some p => go (.str p.1) | none => stop)
    | _ => False)

/-- the pairs of a walk over two tuples -/
def zipD (xs ys : List D) : List D := List.zipWith (fun a b => .tup [a, b]) xs ys

/-- what is walked at a place -/
def seqRS (S : Sto) (a : Addr) (R : Itr → Sto → Prop) : Prop := match S a with
  | some (.lst _) => R (.lst a) S
  | some (.ins _ _) => False
  | some (.dct _) => False
  | some (.dcl o _) => R (.dky a o) S
  | some (.xd _) => False
  | none => False
/-! ### targets -/
mutual
def asgS : IG → D → En → Sto → (En → Prop) → Prop
  | .nm i, d, σ, _, Q => Q (stn σ i d)
  | .tup gs, d, σ, S, Q => match sget S d with
    | some xs => asgsS gs xs σ S Q
    | none => False
def asgsS : IGs → List D → En → Sto → (En → Prop) → Prop
  | .nil, ds, σ, _, Q => (match ds with | [] => Q σ | _ => False)
  | .cons g r, ds, σ, S, Q => (match ds with
    | d :: t => asgS g d σ S fun σ1 => asgsS r t σ1 S Q
    | [] => False)
end

/-! ### expressions -/
/-- what the text's module has: defs, constants -/
structure Fn where
  ps : Nat
  sl : Nat
  body : ISs
structure Gl0 where
  cs : Str → Option D
  PY : Prop
  /-- is an exception of the class of that name one of the other class? -/
  sub : Str → Str → Option Bool := fun _ _ => none
  /-- a class's method: its def's key -/
  mt : Str → Str → Option Str := fun _ _ => none
  /-- a class that is made: its __init__'s key, or none where it is object's -/
  it : Str → Option (Option Str) := fun _ => none
  /-- an attribute that no class above has -/
  fd : Str → Str → Bool := fun _ _ => false
  /-- the exception that a clause holds -/
  xc : Option (Addr × Exn) := none
  /-- a class of exceptions with its own __init__: its field, is it a number -/
  xf : Str → Option (Str × Bool) := fun _ => none
  /-- a dict of the module -/
  kd : Str → Option (List (Str × D)) := fun _ => none
/-- where the fields of an exception stand -/
def xpl : List (Str × D) → Option Addr
  | [] => none
  | [(_, .ref p)] => some p
  | _ => none
def okX : List (Str × D) → Bool
  | [] => true
  | [(_, .ref _)] => true
  | _ => false
def xfS (o : Option (Str × Bool)) (x : Str) (d : D) (S : Sto) (R : Exn → Sto → Prop) : Prop := match o with
  | some (f, true) => (match d with | .int i => (i.natAbs.log2 < 1920 ∧ (Str.ofString (toString i)).length ≤ 1000) ∧ ∀ p, S p = none → R ⟨x, [("", .ref p)]⟩ (put S p (.xd [(f, d)])) | _ => False)
  | some (f, false) => (match d with | .str z => z.length ≤ 1000 ∧ ∀ p, S p = none → R ⟨x, [("", .ref p)]⟩ (put S p (.xd [(f, d)])) | _ => False)
  | none => False
def fldxS (o : Option (Str × Bool)) (q : Option Addr) (f : Str) (S : Sto) (Q : DK) : Prop := match o with
  | some (g, _) => g = f ∧ (match q with
    | some p => (match xget S p with
      | some fs => (match fs.lookup f with | some d => Q d S | none => False)
      | none => False)
    | none => False)
  | none => False
def rslS (x : D) (S : Sto) (Q : DK) : Prop := match x with
  | .ref a => (match lget S a with
    | some xs => ∀ c, S c = none → Q (.ref c) (put S c (.lst xs.reverse))
    | none => False)
  | _ => False
def gixS (o : Option (List (Str × D))) (y : D) (S : Sto) (Q : DK) : Prop := match o with
  | some kvs => (match y with
    | .str z => (match lookS kvs z with | some d => Q d S | none => False)
    | _ => False)
  | none => False
def lckS (S : Sto) (x : Option D) (R : Sto → DK → Prop) (Q : DK) : Prop := match x with
  | some (.ref a) => (match S a with
    | some (.dct kvs) => ∀ od, R (put S a (.dcl od kvs)) fun v S' => S' a = some (.dcl od kvs) ∧ Q v (put S' a (.dct kvs))
    | _ => False)
  | _ => False
/-- is an exception of class c one of these classes? -/
def isXs (sub : Str → Str → Option Bool) (c : Str) : List Str → Option Bool
  | [] => some false
  | t :: r => match sub c t with
    | some true => some true
    | some false => isXs sub c r
    | none => none
section
variable (G : Gl0) (C : CallS)
mutual
def semE (X : XS) : IE → En → Sto → DK → Prop
  | .var i, σ, S, Q => (match gt σ i with | some d => Q d S | none => False)
  | .int i, _, S, Q => Q (.int i) S
  | .bl b, _, S, Q => Q (.bl b) S
  | .non, _, S, Q => Q .non S
  | .str x, _, S, Q => Q (.str x) S
  | .glo x, _, S, Q => (match G.cs x with | some d => Q d S | none => False)
  | .tup es, σ, S, Q => semEs X es σ S fun ds S1 => Q (.tup ds) S1
  | .lst es, σ, S, Q => semEs X es σ S fun ds S1 => ∀ a, S1 a = none → Q (.ref a) (put S1 a (.lst ds))
  | .bin op a b, σ, S, Q => semE X a σ S fun x S1 => semE X b σ S1 fun y S2 => binS G.PY op x y S2 Q
  | .neg a, σ, S, Q => semE X a σ S fun x S1 => (match x with | .int i => Q (.int (-i)) S1 | _ => False)
  | .cmp op a b, σ, S, Q => semE X a σ S fun x S1 => semE X b σ S1 fun y S2 => cmpS op x y S2 fun k => Q (.bl k) S2
  | .chn op op2 a b c, σ, S, Q => semE X a σ S fun x S1 => semE X b σ S1 fun y S2 => cmpS op x y S2 fun k =>
      if k = true then semE X c σ S2 fun z S3 => cmpS op2 y z S3 fun k2 => Q (.bl k2) S3 else Q (.bl false) S2
  | .and a b, σ, S, Q => semE X a σ S fun x S1 => truS x S1 fun k => if k = true then semE X b σ S1 Q else Q x S1
  | .or a b, σ, S, Q => semE X a σ S fun x S1 => truS x S1 fun k => if k = true then Q x S1 else semE X b σ S1 Q
  | .one a, σ, S, Q => semE X a σ S Q
  | .not a, σ, S, Q => semE X a σ S fun x S1 => truS x S1 fun k => Q (.bl (!k)) S1
  | .ifx c a b, σ, S, Q => semC X c σ S fun k S1 => if k = true then semE X a σ S1 Q else semE X b σ S1 Q
  | .idx a i, σ, S, Q => semE X a σ S fun x S1 => semE X i σ S1 fun y S2 => idxS x y S2 Q
  | .slc a lo hi, σ, S, Q => semE X a σ S fun x S1 => semO X lo σ S1 fun l S2 => semO X hi σ S2 fun u S3 => slcS x l u S3 Q
  | .call f es, σ, S, Q => semEs X es σ S fun ds S1 => C f ds S1 Q X
  | .bi b es, σ, S, Q => semEs X es σ S fun ds S1 => biS b ds S1 Q
  | .isi e ts, σ, S, Q => semE X e σ S fun x S1 => (match isTs S1 x ts with | some k => Q (.bl k) S1 | none => False)
  | .isx e c, σ, S, Q => (match G.xc with
      | some (b, ex) => semE X e σ S fun x S1 => x = .ref b ∧ ex.fs = [] ∧ (match G.sub ex.cls c with | some k => Q (.bl k) S1 | none => False)
      | none => False)
  | .isxs e cs, σ, S, Q => (match G.xc with
      | some (b, ex) => semE X e σ S fun x S1 => x = .ref b ∧ ex.fs = [] ∧ (match isXs G.sub ex.cls cs with | some k => Q (.bl k) S1 | none => False)
      | none => False)
  | .mth m o es, σ, S, Q => semE X o σ S fun x S1 => mthT m x S1 ∧ semEs X es σ S1 fun ds S2 => mthS m x ds S2 Q
  | .fld o f, σ, S, Q => semE X o σ S fun x S1 => (match x with
      | .ref a => (match iget S1 a with
        | some (C0, fs) => G.fd C0 f = true ∧ (match fs.lookup f with | some d => Q d S1 | none => False)
        | none => False)
      | _ => False)
  | .mcl o m es, σ, S, Q => semE X o σ S fun x S1 => (match x with
      | .ref a => (match iget S1 a with
        | some (C0, fs) => fs.lookup m = none ∧ (match G.mt C0 m with
          | some key => semEs X es σ S1 fun ds S2 => C key (.ref a :: ds) S2 Q X
          | none => False)
        | none => False)
      | _ => False)
  | .mk x es, σ, S, Q => semEs X es σ S fun ds S1 => (match G.it x with
      | some none => ds = [] ∧ ∀ a, S1 a = none → Q (.ref a) (put S1 a (.ins x []))
      | some (some key) => ∀ a, S1 a = none → C key (.ref a :: ds) (put S1 a (.ins x [])) (fun d S2 => d = .non ∧ Q (.ref a) S2) X
      | none => False)
  | .lc elt tg it ifs own, σ, S, Q => semI X it σ S fun J S1 => ∀ a, S1 a = none →
      ∃ W : Nat → Nat → Sto → Prop, (∃ m, W 0 m (put S1 a (.lst []))) ∧ ∀ i m S, W i m S →
        nxt J i S (Q (.ref a) S) fun d => asgS tg d (wips σ own) S fun σ2 =>
          semQ (fun _ _ => False) ifs σ2 S fun k S3 => if k = true
              then semE (fun _ _ => False) elt σ2 S3 fun y S4 => ∃ acc, S4 a = some (.lst acc) ∧ acc.length < sizeLine ∧ ∃ m', m' < m ∧ W (i + 1) m' (put S4 a (.lst (acc ++ [y])))
              else ∃ m', m' < m ∧ W (i + 1) m' S3
  | .smt m o es, σ, S, Q => semE X o σ S fun x S1 => (∃ a, x = .str a) ∧ semEs X es σ S1 fun ds S2 => smtS m x ds S2 Q
  | .fldx o f, σ, S, Q => (match G.xc with
      | some (b, ex) => semE X o σ S fun x S1 => x = .ref b ∧ fldxS (G.xf ex.cls) (xpl ex.fs) f S1 Q
      | none => False)
  | .dct ks es, σ, S, Q => ∀ a, S a = none → semEs X es σ (put S a (.dct [])) fun ds S1 => S1 a = some (.dct []) ∧ Q (.ref a) (put S1 a (.dct (ks.zip ds)))
  | .rsl e, σ, S, Q => semE X e σ S fun y S1 => rslS y S1 Q
  | .gix x e, σ, S, Q => semE X e σ S fun y S1 => gixS (G.kd x) y S1 Q
  | .lck e i, σ, S, Q => lckS S (gt σ i) (fun S1 Q1 => semE X e σ S1 Q1) Q
def semEs (X : XS) : IEs → En → Sto → (List D → Sto → Prop) → Prop
  | .nil, _, S, Q => Q [] S
  | .cons e r, σ, S, Q => semE X e σ S fun d S1 => semEs X r σ S1 fun ds S2 => Q (d :: ds) S2
def semO (X : XS) : IO → En → Sto → (Option Int → Sto → Prop) → Prop
  | .no, _, S, Q => Q none S
  | .some e, σ, S, Q => semE X e σ S fun x S1 => (match x with | .int i => Q (some i) S1 | _ => False)
def semQ (X : XS) : IQ → En → Sto → (Bool → Sto → Prop) → Prop
  | .no, _, S, Q => Q true S
  | .c c, σ, S, Q => semC X c σ S Q
def semC (X : XS) : IC → En → Sto → (Bool → Sto → Prop) → Prop
  | .and a b, σ, S, Q => semC X a σ S fun k S1 => if k = true then semC X b σ S1 Q else Q false S1
  | .or a b, σ, S, Q => semC X a σ S fun k S1 => if k = true then Q true S1 else semC X b σ S1 Q
  | .one a, σ, S, Q => semC X a σ S Q
  | .not a, σ, S, Q => semC X a σ S fun k S1 => Q (!k) S1
  | .cmp op a b, σ, S, Q => semE X a σ S fun x S1 => semE X b σ S1 fun y S2 => cmpS op x y S2 fun k => Q k S2
  | .chn op op2 a b c, σ, S, Q => semE X a σ S fun x S1 => semE X b σ S1 fun y S2 => cmpS op x y S2 fun k =>
      if k = true then semE X c σ S2 fun z S3 => cmpS op2 y z S3 fun k2 => Q k2 S3 else Q false S2
  | .v e, σ, S, Q => semE X e σ S fun x S1 => truS x S1 fun k => Q k S1
def semI (X : XS) : II → En → Sto → (Itr → Sto → Prop) → Prop
  | .seq e, σ, S, R => semE X e σ S fun x S1 => (match x with
      | .tup xs => R (.tup xs) S1
      | .rol xs => R (.rol xs) S1
      | .str z => R (.stri z) S1
      | .ref a => seqRS S1 a R
      | _ => False)
  | .rng1 a, σ, S, R => semE X a σ S fun x S1 => (match x with | .int j => -(2 ^ 62) ≤ j ∧ j < 2 ^ 62 ∧ R (.rng 0 j.toNat) S1 | _ => False)
  | .rng2 a b, σ, S, R => semE X a σ S fun x S1 => semE X b σ S1 fun y S2 => (match x, y with
      | .int i, .int j => (-(2 ^ 62) ≤ i ∧ i < 2 ^ 62 ∧ -(2 ^ 62) ≤ j ∧ j < 2 ^ 62) ∧ R (.rng i (j - i).toNat) S2
      | _, _ => False)
  | .rng3 a b c, σ, S, R => semE X a σ S fun x S1 => semE X b σ S1 fun y S2 => semE X c σ S2 fun z S3 => (match x, y, z with
      | .int i, .int j, .int k => ∃ n, RgC i j k n ∧ R (.rngc i k n) S3
      | _, _, _ => False)
  | .enu e, σ, S, R => semE X e σ S fun x S1 => (match x with
      | .ref a => (match lget S1 a with | some _ => R (.enu a) S1 | none => False)
      | .tup xs => R (.enuT xs) S1
      | _ => False)
  | .zip e e2, σ, S, R => semE X e σ S fun x S1 => semE X e2 σ S1 fun y S2 => (match x, y with
      | .ref a, .ref b => (match lget S2 a, lget S2 b with | some _, some _ => R (.zip a b) S2 | _, _ => False)
      | .tup xs, .tup ys => R (.tup (zipD xs ys)) S2
      | .ref a, .tup ys => (match lget S2 a with | some _ => R (.zipM a ys) S2 | _ => False)
      | _, _ => False)
  | .rev e, σ, S, R => semE X e σ S fun x S1 => (match x with
      | .ref a => (match lget S1 a with | some xs => R (.rev a xs.length) S1 | none => False)
      | .tup xs => R (.tup xs.reverse) S1
      | _ => False)
end
end

/-! ### statements -/
structure Kt where
  nx : En → Sto → Prop
  rt : DK
  bk : En → Sto → Prop
  ct : En → Sto → Prop
  ex : Exn → En → Sto → Prop
mutual
def semS (G : Gl0) (C : CallS) : IS → Kt → En → Sto → Prop
  | .set i e, k, σ, S => semE G C (fun x S => k.ex x σ S) e σ S fun d S1 => k.nx (stn σ i d) S1
  | .asg g e, k, σ, S => semE G C (fun x S => k.ex x σ S) e σ S fun d S1 => asgS g d σ S1 fun σ1 => k.nx σ1 S1
  | .par2 i j a b, k, σ, S => semE G C (fun x S => k.ex x σ S) a σ S fun x S1 => semE G C (fun x S => k.ex x σ S) b σ S1 fun y S2 => k.nx (stn (stn σ i x) j y) S2
  | .sub o i e, k, σ, S => semE G C (fun x S => k.ex x σ S) e σ S fun d S1 => semE G C (fun x S => k.ex x σ S) o σ S1 fun ov S2 => semE G C (fun x S => k.ex x σ S) i σ S2 fun iv S3 =>
      (match ov, iv with
      | .ref a, .int n => (match S3 a with
        | some (.lst xs) => (match ixN xs.length n with | some j => k.nx σ (put S3 a (.lst (xs.set j d))) | none => False)
        | _ => False)
      | .ref a, .str z => (match S3 a with
        | some (.dct kvs) => kvs.length < sizeLine ∧ k.nx σ (put S3 a (.dct (putS kvs z d)))
        | _ => False)
      | _, _ => False)
  | .expr e, k, σ, S => semE G C (fun x S => k.ex x σ S) e σ S fun _ S1 => k.nx σ S1
  | .ret e, k, σ, S => semE G C (fun x S => k.ex x σ S) e σ S k.rt
  | .retN, k, _, S => k.rt .non S
  | .ifs c a b, k, σ, S => semC G C (fun x S => k.ex x σ S) c σ S fun h S1 => if h = true then semSs G C a k σ S1 else semSs G C b k σ S1
  | .whl c b, k, σ, S => ∃ W : Nat → En → Sto → Prop, (∃ m, W m σ S) ∧ ∀ m σ S, W m σ S →
      semC G C (fun x S => k.ex x σ S) c σ S fun h S1 => if h = true
        then semSs G C b { nx := fun σ' S' => ∃ m', m' < m ∧ W m' σ' S', rt := k.rt, bk := k.nx, ct := fun σ' S' => ∃ m', m' < m ∧ W m' σ' S', ex := k.ex } σ S1
        else k.nx σ S1
  | .for_ g it b, k, σ, S => semI G C (fun x S => k.ex x σ S) it σ S fun J S1 => ∃ W : Nat → Nat → En → Sto → Prop, (∃ m, W 0 m σ S1) ∧ ∀ i m σ S, W i m σ S →
      nxt J i S (k.nx σ S) fun d => asgS g d σ S fun σ2 =>
        semSs G C b { nx := fun σ' S' => ∃ m', m' < m ∧ W (i + 1) m' σ' S', rt := k.rt, bk := k.nx, ct := fun σ' S' => ∃ m', m' < m ∧ W (i + 1) m' σ' S', ex := k.ex } σ2 S
  | .brk, k, σ, S => k.bk σ S
  | .cnt, k, σ, S => k.ct σ S
  | .pass, k, σ, S => k.nx σ S
  | .raise x es, k, σ, S => semEs G C (fun x S => k.ex x σ S) es σ S fun ds S1 => ds.length ≤ sizeLine ∧ k.ex ⟨x, []⟩ σ S1
  | .tryx b x s, k, σ, S => semSs G C b { k with ex := fun e σ' S' => match G.sub e.cls x with
      | some true => semSs G C s { k with ex := fun _ _ _ => False } σ' S'
      | some false => k.ex e σ' S'
      | none => False } σ S
  | .tryas b x i s, k, σ, S => semSs G C b { k with ex := fun e σ' S' => match G.sub e.cls x with
      | some true => okX e.fs = true ∧ ∀ a, S' a = none → semSs { G with xc := some (a, e) } C s { nx := fun σ2 S2 => k.nx (wip1 σ2 i) S2, rt := k.rt, bk := fun σ2 S2 => k.bk (wip1 σ2 i) S2, ct := fun σ2 S2 => k.ct (wip1 σ2 i) S2, ex := fun _ _ _ => False } (stn σ' i (.ref a)) S'
      | some false => k.ex e σ' S'
      | none => False } σ S
  | .setf o f e, k, σ, S => semE G C (fun x S => k.ex x σ S) e σ S fun d S1 => semE G C (fun x S => k.ex x σ S) o σ S1 fun ov S2 =>
      (match ov with
      | .ref a => (match iget S2 a with
        | some (C0, fs) => G.fd C0 f = true ∧ fs.length < 1000 ∧ k.nx σ (put S2 a (.ins C0 (putD f d fs)))
        | none => False)
      | _ => False)
  | .never, _, _, _ => False
  | .raisef x e, k, σ, S => semE G C (fun x S => k.ex x σ S) e σ S fun d S1 => xfS (G.xf x) x d S1 fun ex S2 => k.ex ex σ S2
  | .trym b hs, k, σ, S => semSs G C b { k with ex := fun e σ' S' => semH G C hs k e σ' S' } σ S
  | .aug i e, k, σ, S => (match gt σ i with
    | some (.int a) => semE G C (fun x S => k.ex x σ S) e σ S fun d S1 => (match d with | .int b => k.nx (stn σ i (.int (a + b))) S1 | _ => False)
    | _ => False)
def semH (G : Gl0) (C : CallS) : IHs → Kt → Exn → En → Sto → Prop
  | .nil, k, e, σ, S => k.ex e σ S
  | .cons x i s r, k, e, σ, S => (match G.sub e.cls x with
      | some true => (match i with
        | none => semSs G C s { k with ex := fun _ _ _ => False } σ S
        | some i => okX e.fs = true ∧ ∀ a, S a = none → semSs { G with xc := some (a, e) } C s { nx := fun σ2 S2 => k.nx (wip1 σ2 i) S2, rt := k.rt, bk := fun σ2 S2 => k.bk (wip1 σ2 i) S2, ct := fun σ2 S2 => k.ct (wip1 σ2 i) S2, ex := fun _ _ _ => False } (stn σ i (.ref a)) S)
      | some false => semH G C r k e σ S
      | none => False)
def semSs (G : Gl0) (C : CallS) : ISs → Kt → En → Sto → Prop
  | .nil, k, σ, S => k.nx σ S
  | .cons s r, k, σ, S => semS G C s { k with nx := fun σ1 S1 => semSs G C r k σ1 S1 } σ S
end
def kend (Q : DK) (E : XS) : Kt := { nx := fun _ S => Q .non S, rt := Q, bk := fun _ _ => False, ct := fun _ _ => False, ex := fun x _ S => E x S }
def ent (n : Nat) (ds : List D) : En := ds.map some ++ List.replicate (n - ds.length) none
/-- a def called at depth k -/
def semF (G : Gl0) (T : Str → Option Fn) : Nat → CallS
  | 0 => fun _ _ _ _ _ => False
  | k + 1 => fun f ds S Q E => match T f with
    | some F => ds.length = F.ps ∧ semSs G (semF G T k) F.body (kend Q E) (ent F.sl ds) S
    | none => False
end Ev

/-! The evaluator's data on the layer's heap; the operations keep what they say. -/
namespace Ev
open PySem PySem.Spec PyProof.Rows L2

/-- a list that is never written -/
def SqF (K : PySem.W.Frag) (H : Hp) (a : Addr) (xs : List V) : Prop :=
  (∃ o, H a = some (.frz o (.lst xs))) ∨
    ∃ (o : Obj) (its : Array Value) (n : Nat), K.lookup a = some o ∧ o.cls = .type "list" ∧ o.dict = none ∧ o.data = .seq its n ∧ its.size ≤ sizeLine ∧ Vals xs its.toList
theorem SqF.l {K : PySem.W.Frag} {H : Hp} {a : Addr} {xs : List V} (h : SqF K H a xs) : SqL K H a xs := by
  rcases h with ⟨o, h⟩ | h
  · exact .inl (.inr ⟨o, h⟩)
  · exact .inr h
mutual
inductive Rv (K : PySem.W.Frag) (H : Hp) : D → V → Prop
  | non : Rv K H .non .non
  | bl (b : Bool) : Rv K H (.bl b) (.bl b)
  | int (i : Int) : Rv K H (.int i) (.int i)
  | str (x : Str) : Rv K H (.str x) (.str x)
  | ref (a : Addr) : Rv K H (.ref a) (.ref a)
  | tup {a : Addr} {xs : List V} {ds : List D} (h : SqT K H a xs) (t : Rvs K H ds xs) : Rv K H (.tup ds) (.ref a)
  | rol {a : Addr} {xs : List V} {ds : List D} (h : SqF K H a xs) (t : Rvs K H ds xs) : Rv K H (.rol ds) (.ref a)
inductive Rvs (K : PySem.W.Frag) (H : Hp) : List D → List V → Prop
  | nil : Rvs K H [] []
  | cons {d : D} {ds : List D} {v : V} {vs : List V} (h : Rv K H d v) (t : Rvs K H ds vs) : Rvs K H (d :: ds) (v :: vs)
end
def keyS (p : Str × V) : Key × V := (Sum.inr p.1, p.2)
theorem keyS_inj {a b : List (Str × V)} (h : a.map keyS = b.map keyS) : a = b := (List.map_inj_right (fun p q w => by
  cases p; cases q
  unfold keyS at w
  cases w
  rfl)).mp h
abbrev PR (K : PySem.W.Frag) (H : Hp) : List (Str × D) → List (Str × V) → Prop := Paired (fun (p : Str × D) (q : Str × V) => p.1 = q.1 ∧ Rv K H p.2 q.2)
def RO (K : PySem.W.Frag) (H : Hp) (a : Addr) : Ob → Prop
  | .lst ds => ∃ xs, H a = some (.lst xs) ∧ Rvs K H ds xs
  | .ins x fs => ∃ cls dx fv, PySem.W.nsIn K mainGlobals x = some (some (.ref cls)) ∧ H a = some (.ins cls dx fv) ∧ Paired (fun (p : Str × D) (q : Str × V) => p.1 = q.1 ∧ Rv K H p.2 q.2) fs fv
  | .dct kvs => ∃ kv, H a = some (.dK (kv.map keyS)) ∧ PR K H kvs kv
  | .dcl o kvs => ∃ kv, H a = some (.frz o (.dK (kv.map keyS))) ∧ PR K H kvs kv
  | .xd fs => ∃ fv, H a = some (.xd fv) ∧ PR K H fs fv
def RS (K : PySem.W.Frag) (H : Hp) (S : Sto) : Prop := ∀ a o, S a = some o → RO K H a o
def Ro (K : PySem.W.Frag) (H : Hp) : Option D → Option V → Prop
  | none, _ => True
  | some d, some v => Rv K H d v
  | some _, none => False
inductive Rn (K : PySem.W.Frag) (H : Hp) : En → L2.St → Prop
  | nil : Rn K H [] []
  | cons {d : Option D} {ds : En} {v : Option V} {vs : L2.St} (h : Ro K H d v) (t : Rn K H ds vs) : Rn K H (d :: ds) (v :: vs)
/-- tuples stay, and what is known -/
structure ExtW (H H' : Hp) : Prop where
  tup : ∀ a xs, H a = some (.tup xs) → H' a = some (.tup xs)
  frzL : ∀ a o xs, H a = some (.frz o (.lst xs)) → H' a = some (.frz o (.lst xs))
  frzT : ∀ a o xs, H a = some (.frz o (.tup xs)) → H' a = some (.frz o (.tup xs))
structure Ext (H H' : Hp) : Prop where
  w : ExtW H H'
  frzK : ∀ a o xs, H a = some (.frz o (.dK xs)) → H' a = some (.frz o (.dK xs))
section
variable {K : PySem.W.Frag} {H H1 H2 H' : Hp} {S : Sto} {a p : Addr}
theorem Ext.refl (H : Hp) : Ext H H := ⟨⟨fun _ _ h => h, fun _ _ _ h => h, fun _ _ _ h => h⟩, fun _ _ _ h => h⟩
theorem Ext.trans (x : Ext H H1) (y : Ext H1 H2) : Ext H H2 := ⟨⟨fun a xs h => y.w.tup _ _ (x.w.tup _ _ h), fun a o u h => y.w.frzL _ _ _ (x.w.frzL _ _ _ h), fun a o u h => y.w.frzT _ _ _ (x.w.frzT _ _ _ h)⟩, fun a o u h => y.frzK _ _ _ (x.frzK _ _ _ h)⟩
theorem Ext.new {o : HO} (h : H p = none) : Ext H (upd H p o) := ⟨⟨fun a xs e => by rw [upd_ne (ne_of_none e h)]; exact e, fun a o u e => by rw [upd_ne (ne_of_none e h)]; exact e, fun a o u e => by rw [upd_ne (ne_of_none e h)]; exact e⟩, fun a o u e => by rw [upd_ne (ne_of_none e h)]; exact e⟩
/-- what is no tuple and nothing frozen is written -/
theorem ExtW.over {u o : HO} (h : H p = some u) (h1 : ∀ xs, u ≠ .tup xs) (h2 : ∀ o xs, u ≠ .frz o (.lst xs)) (h3 : ∀ o xs, u ≠ .frz o (.tup xs)) : ExtW H (upd H p o) :=
  ⟨fun a ys e => by rw [upd_ne (ne_of e h fun z => h1 ys z.symm)]; exact e, fun a o xs e => by rw [upd_ne (ne_of e h fun z => h2 o xs z.symm)]; exact e, fun a o xs e => by rw [upd_ne (ne_of e h fun z => h3 o xs z.symm)]; exact e⟩
theorem Ext.over {u o : HO} (h : H p = some u) (h1 : ∀ xs, u ≠ .tup xs) (h2 : ∀ o w, u ≠ .frz o w) : Ext H (upd H p o) :=
  ⟨ExtW.over h h1 (fun _ _ => h2 _ _) (fun _ _ => h2 _ _), fun a o xs e => by rw [upd_ne (ne_of e h fun z => h2 o _ z.symm)]; exact e⟩
theorem Ext.lst {xs : List V} {o : HO} (h : H p = some (.lst xs)) : Ext H (upd H p o) := Ext.over h (fun _ z => by cases z) (fun _ _ z => by cases z)
theorem Ext.dK {kvs : List (Key × V)} {o : HO} (h : H p = some (.dK kvs)) : Ext H (upd H p o) := Ext.over h (fun _ z => by cases z) (fun _ _ z => by cases z)
theorem ExtW.sqT {xs : List V} (x : ExtW H H') (h : SqT K H a xs) : SqT K H' a xs := by
  rcases h with (h | ⟨o, h⟩) | h
  · exact .inl (.inl (x.tup _ _ h))
  · exact .inl (.inr ⟨o, x.frzT _ _ _ h⟩)
  · exact .inr h
theorem ExtW.sqF {xs : List V} (x : ExtW H H') (h : SqF K H a xs) : SqF K H' a xs := by
  rcases h with ⟨o, h⟩ | h
  · exact .inl ⟨o, x.frzL _ _ _ h⟩
  · exact .inr h
theorem Ext.sqT {xs : List V} (x : Ext H H') (h : SqT K H a xs) : SqT K H' a xs := x.w.sqT h
theorem Ext.sqF {xs : List V} (x : Ext H H') (h : SqF K H a xs) : SqF K H' a xs := x.w.sqF h
mutual
theorem Rv.extW (x : ExtW H H') : ∀ {d : D} {v : V}, Rv K H d v → Rv K H' d v
  | _, _, .non => .non
  | _, _, .bl b => .bl b
  | _, _, .int i => .int i
  | _, _, .str y => .str y
  | _, _, .ref a => .ref a
  | _, _, .tup h t => .tup (x.sqT h) (Rvs.extW x t)
  | _, _, .rol h t => .rol (x.sqF h) (Rvs.extW x t)
theorem Rvs.extW (x : ExtW H H') : ∀ {d : List D} {v : List V}, Rvs K H d v → Rvs K H' d v
  | _, _, .nil => .nil
  | _, _, .cons h t => .cons (Rv.extW x h) (Rvs.extW x t)
end
theorem Rv.ext (x : Ext H H') {d : D} {v : V} (h : Rv K H d v) : Rv K H' d v := Rv.extW x.w h
theorem Rvs.ext (x : Ext H H') {d : List D} {v : List V} (h : Rvs K H d v) : Rvs K H' d v := Rvs.extW x.w h
theorem Ro.ext (x : Ext H H') {d : Option D} {v : Option V} (h : Ro K H d v) : Ro K H' d v := by
  cases d with
  | none => trivial
  | some d =>
    cases v with
    | none => exact h
    | some v => exact Rv.ext x h
theorem Rn.ext (x : Ext H H') {σd : En} {σ : L2.St} (h : Rn K H σd σ) : Rn K H' σd σ := by
  induction h with
  | nil => exact .nil
  | cons h t ih => exact .cons (h.ext x) ih
theorem Rn.gt {σd : En} {σ : L2.St} (h : Rn K H σd σ) : ∀ {i : Nat} {d : D}, gt σd i = some d → ∃ v, σ[i]? = some (some v) ∧ Rv K H d v := by
  induction h with
  | nil => intro i d e; cases e
  | @cons d0 ds v0 vs h t ih =>
    intro i d e
    cases i with
    | zero =>
      have e' : d0 = some d := e
      subst e'
      cases v0 with
      | none => exact False.elim h
      | some v => exact ⟨v, rfl, h⟩
    | succ n =>
      obtain ⟨v, h1, h2⟩ := ih (i := n) (d := d) e
      exact ⟨v, by simpa using h1, h2⟩
theorem Rn.set {σd : En} {σ : L2.St} (h : Rn K H σd σ) {d : D} {v : V} (r : Rv K H d v) : ∀ i : Nat, Rn K H (stn σd i d) (σ.set i (some v)) := by
  induction h with
  | nil => intro i; exact .nil
  | cons h t ih =>
    intro i
    cases i with
    | zero => exact .cons r t
    | succ n => exact .cons h (ih n)
theorem Rn.wip {σd : En} {σ : L2.St} (h : Rn K H σd σ) : ∀ i : Nat, Rn K H (wip1 σd i) (σ.set i none) := by
  induction h with
  | nil => intro i; exact .nil
  | cons h t ih =>
    intro i
    cases i with
    | zero => exact .cons trivial t
    | succ n => exact .cons h (ih n)
theorem wip1_comm (σ : En) : ∀ i j : Nat, wip1 (wip1 σ i) j = wip1 (wip1 σ j) i := by
  induction σ with
  | nil => intro i j; rfl
  | cons x r ih =>
    intro i j
    cases i <;> cases j <;> first | rfl | (show _ :: _ = _ :: _; rw [ih])
theorem wips_out (l : List Nat) : ∀ (σ : En) (i : Nat), wips (wip1 σ i) l = wip1 (wips σ l) i := by
  induction l with
  | nil => intro σ i; rfl
  | cons j r ih =>
    intro σ i
    show wips (wip1 (wip1 σ i) j) r = wip1 (wips (wip1 σ j) r) i
    rw [wip1_comm, ih]
theorem Rn.wips {σd : En} {σ : L2.St} (h : Rn K H σd σ) : ∀ l : List Nat, Rn K H (Ev.wips σd l) (wipe σ l)
  | [] => h
  | i :: r => by
    show Rn K H (Ev.wips (wip1 σd i) r) ((wipe σ r).set i none)
    rw [wips_out]
    exact (Rn.wips h r).wip i
theorem Rvs.length {ds : List D} {vs : List V} (h : Rvs K H ds vs) : ds.length = vs.length := by
  induction ds generalizing vs with
  | nil => cases h; rfl
  | cons d r ih =>
    cases h with
    | cons h t => show r.length + 1 = _ + 1; rw [ih t]
theorem Rvs.get {ds : List D} : ∀ {vs : List V} {i : Nat} {d : D}, Rvs K H ds vs → ds[i]? = some d → ∃ v, vs[i]? = some v ∧ Rv K H d v := by
  induction ds with
  | nil => intro vs i d _ e; simp at e
  | cons x r ih =>
    intro vs i d h e
    cases h with
    | cons h t =>
      cases i with
      | zero => simp at e; subst e; exact ⟨_, rfl, h⟩
      | succ n =>
        obtain ⟨v, h1, h2⟩ := ih (i := n) t (by simpa using e)
        exact ⟨v, by simpa using h1, h2⟩
theorem Rvs.append {ds es : List D} : ∀ {vs ws : List V}, Rvs K H ds vs → Rvs K H es ws → Rvs K H (ds ++ es) (vs ++ ws) := by
  induction ds with
  | nil => intro vs ws h q; cases h; exact q
  | cons x r ih => intro vs ws h q; cases h with | cons h t => exact .cons h (ih t q)
theorem Rvs.take {ds : List D} : ∀ {vs : List V} (n : Nat), Rvs K H ds vs → Rvs K H (ds.take n) (vs.take n) := by
  induction ds with
  | nil => intro vs n h; cases h; cases n <;> exact .nil
  | cons x r ih => intro vs n h; cases h with | cons h t => cases n with | zero => exact .nil | succ n => exact .cons h (ih n t)
theorem Rvs.drop {ds : List D} : ∀ {vs : List V} (n : Nat), Rvs K H ds vs → Rvs K H (ds.drop n) (vs.drop n) := by
  induction ds with
  | nil => intro vs n h; cases h; cases n <;> exact .nil
  | cons x r ih => intro vs n h; cases h with | cons h t => cases n with | zero => exact .cons h t | succ n => exact ih n t
theorem Rvs.set {ds : List D} : ∀ {vs : List V} {d : D} {v : V} (n : Nat), Rvs K H ds vs → Rv K H d v → Rvs K H (ds.set n d) (vs.set n v) := by
  induction ds with
  | nil => intro vs d v n h _; cases h; exact .nil
  | cons x r ih => intro vs d v n h q; cases h with | cons h t => cases n with | zero => exact .cons q t | succ n => exact .cons h (ih n t q)
theorem Rvs.eraseIdx {ds : List D} : ∀ {vs : List V} (n : Nat), Rvs K H ds vs → Rvs K H (ds.eraseIdx n) (vs.eraseIdx n) := by
  induction ds with
  | nil => intro vs n h; cases h; exact .nil
  | cons x r ih => intro vs n h; cases h with | cons h t => cases n with | zero => exact t | succ n => exact .cons h (ih n t)
theorem Rvs.reverse {ds : List D} : ∀ {vs : List V}, Rvs K H ds vs → Rvs K H ds.reverse vs.reverse := by
  induction ds with
  | nil => intro vs h; cases h; exact .nil
  | cons x r ih =>
    intro vs h
    cases h with
    | cons h t =>
      rw [List.reverse_cons, List.reverse_cons]
      exact (ih t).append (.cons h .nil)
theorem Rvs.dropLast {ds : List D} {vs : List V} (h : Rvs K H ds vs) : Rvs K H ds.dropLast vs.dropLast := by
  rw [List.dropLast_eq_take, List.dropLast_eq_take, h.length]
  exact h.take _
theorem Rvs.nil_iff {ds : List D} {vs : List V} (h : Rvs K H ds vs) : ds.isEmpty = vs.isEmpty := by
  cases h <;> rfl

theorem RO.extW {o : Ob} (x : ExtW H H') (hl : ∀ u, H a = some u → H' a = some u) (h : RO K H a o) : RO K H' a o := by
  cases o with
  | lst ds =>
    obtain ⟨xs, h1, h2⟩ := h
    exact ⟨xs, hl _ h1, Rvs.extW x h2⟩
  | ins y fs =>
    obtain ⟨cls, dx, fv, h1, h2, h3⟩ := h
    exact ⟨cls, dx, fv, h1, hl _ h2, Paired.mono (fun p q z => ⟨z.1, Rv.extW x z.2⟩) h3⟩
  | dct kvs =>
    obtain ⟨kv, h1, h2⟩ := h
    exact ⟨kv, hl _ h1, Paired.mono (fun p q z => ⟨z.1, Rv.extW x z.2⟩) h2⟩
  | dcl o kvs =>
    obtain ⟨kv, h1, h2⟩ := h
    exact ⟨kv, hl _ h1, Paired.mono (fun p q z => ⟨z.1, Rv.extW x z.2⟩) h2⟩
  | xd fs =>
    obtain ⟨kv, h1, h2⟩ := h
    exact ⟨kv, hl _ h1, Paired.mono (fun p q z => ⟨z.1, Rv.extW x z.2⟩) h2⟩
theorem RO.ext {o : Ob} (x : Ext H H') (hl : ∀ u, H a = some u → H' a = some u) (h : RO K H a o) : RO K H' a o := RO.extW x.w hl h
theorem RO.some {o : Ob} (h : RO K H a o) : ∃ u, H a = some u := by
  cases o with
  | lst ds =>
    obtain ⟨xs, h1, h2⟩ := h
    exact ⟨_, h1⟩
  | ins y fs =>
    obtain ⟨cls, dx, fv, h1, h2, h3⟩ := h
    exact ⟨_, h2⟩
  | dct kvs =>
    obtain ⟨kv, h1, h2⟩ := h
    exact ⟨_, h1⟩
  | dcl o kvs =>
    obtain ⟨kv, h1, h2⟩ := h
    exact ⟨_, h1⟩
  | xd fs =>
    obtain ⟨kv, h1, h2⟩ := h
    exact ⟨_, h1⟩
theorem RS.none (r : RS K H S) (h : H p = Option.none) : S p = Option.none := by
  cases e : S p with
  | none => rfl
  | some o =>
    obtain ⟨u, h1⟩ := (r p _ e).some
    rw [h] at h1; cases h1
/-- any new object -/
theorem RS.new {o : HO} (r : RS K H S) (h : H p = Option.none) : RS K (upd H p o) S := fun a ob e =>
  (r a ob e).ext (Ext.new h) fun u q => by rw [upd_ne (ne_of_none q h)]; exact q
/-- a new list -/
theorem RS.newL {xs : List V} {ds : List D} (r : RS K H S) (h : H p = Option.none) (q : Rvs K H ds xs) : RS K (upd H p (.lst xs)) (put S p (.lst ds)) := fun a ob e => by
  by_cases ha : a = p
  · subst ha
    rw [put_same] at e; cases e
    exact ⟨xs, upd_same, Rvs.ext (Ext.new h) q⟩
  · rw [put_ne ha] at e
    exact r.new h a ob e
/-- a list is written -/
theorem RS.write {xs ys : List V} {ds es : List D} (r : RS K H S) (h : H p = some (.lst ys)) (hs : S p = some (.lst es)) (q : Rvs K H ds xs) : RS K (upd H p (.lst xs)) (put S p (.lst ds)) := fun a ob e => by
  by_cases ha : a = p
  · subst ha
    rw [put_same] at e; cases e
    exact ⟨xs, upd_same, Rvs.ext (Ext.lst h) q⟩
  · rw [put_ne ha] at e
    exact (r a ob e).ext (Ext.lst h) fun u q => by rw [upd_ne ha]; exact q
theorem Ext.ins {C dx : Addr} {fs : List (Str × V)} {o : HO} (h : H p = some (.ins C dx fs)) : Ext H (upd H p o) := Ext.over h (fun _ z => by cases z) (fun _ _ z => by cases z)
/-- one object is written, or is new -/
theorem RS.overW {o : HO} {ob : Ob} (r : RS K H S) (x : ExtW H (upd H p o)) (q : RO K (upd H p o) p ob) : RS K (upd H p o) (put S p ob) := fun a ob' e => by
  by_cases ha : a = p
  · subst ha
    rw [put_same] at e; cases e
    exact q
  · rw [put_ne ha] at e
    exact (r a ob' e).extW x fun u z => by rw [upd_ne ha]; exact z
theorem RS.over {o : HO} {ob : Ob} (r : RS K H S) (x : Ext H (upd H p o)) (q : RO K (upd H p o) p ob) : RS K (upd H p o) (put S p ob) := r.overW x.w q
/-- a table by text keys -/
theorem pr_look {kvs : List (Str × D)} {kv : List (Str × V)} (h : PR K H kvs kv) (z : Str) : (lookS kvs z = none ∧ valV (kv.map keyS) (Sum.inr z) = none) ∨ ∃ d v, lookS kvs z = some d ∧ valV (kv.map keyS) (Sum.inr z) = some v ∧ Rv K H d v := by
  unfold lookS valV
  induction h with
  | nil => exact .inl ⟨rfl, rfl⟩
  | @cons p q ps qs h t ih =>
    obtain ⟨h1, h2⟩ := h
    rw [List.map_cons, List.find?_cons, List.find?_cons]
    by_cases e : p.1 = z
    · have e2 : (keyS q).1 = Sum.inr z := by show Sum.inr q.1 = _; rw [← h1, e]
      rw [decide_eq_true e, decide_eq_true e2]
      exact .inr ⟨_, _, rfl, rfl, h2⟩
    · have e2 : ¬ (keyS q).1 = Sum.inr z := fun w => e (by have w : (Sum.inr q.1 : Key) = Sum.inr z := w; rw [h1]; exact Sum.inr.inj w)
      rw [decide_eq_false e, decide_eq_false e2]
      exact ih
theorem pr_any {kvs : List (Str × D)} {kv : List (Str × V)} (h : PR K H kvs kv) (z : Str) : kvs.any (fun p => decide (p.1 = z)) = (kv.map keyS).any (fun p => decide (p.1 = Sum.inr z)) := by
  induction h with
  | nil => rfl
  | @cons p q ps qs h t ih =>
    rw [List.map_cons, List.any_cons, List.any_cons, ih]
    congr 1
    have : ((keyS q).1 = Sum.inr z) = (p.1 = z) := by
      rw [h.1]
      exact propext ⟨fun w => Sum.inr.inj w, fun w => by show Sum.inr q.1 = _; rw [w]⟩
    simp only [this]
theorem pr_put {kvs : List (Str × D)} {kv : List (Str × V)} (h : PR K H kvs kv) {d : D} {v : V} (r : Rv K H d v) (z : Str) : ∃ kv2 : List (Str × V), putK (kv.map keyS) (Sum.inr z) v = kv2.map keyS ∧ PR K H (putS kvs z d) kv2 := by
  unfold putS putK
  rw [pr_any h z]
  split
  · rename_i e
    refine ⟨kv.map fun p => if p.1 = z then (p.1, v) else p, ?_, ?_⟩
    · rw [List.map_map, List.map_map]
      refine List.map_congr_left fun p _ => ?_
      by_cases e : p.1 = z
      · have e2 : (keyS p).1 = Sum.inr z := by show Sum.inr p.1 = _; rw [e]
        show (if (keyS p).1 = Sum.inr z then _ else _) = keyS (if p.1 = z then _ else _)
        rw [if_pos e2, if_pos e]
        rfl
      · have e2 : ¬ (keyS p).1 = Sum.inr z := fun w => e (Sum.inr.inj w)
        show (if (keyS p).1 = Sum.inr z then _ else _) = keyS (if p.1 = z then _ else _)
        rw [if_neg e2, if_neg e]
    · clear e
      induction h with
      | nil => exact .nil
      | @cons p q ps qs h t ih =>
        rw [List.map_cons, List.map_cons]
        refine .cons ?_ ih
        by_cases e : p.1 = z
        · have e2 : q.1 = z := by rw [← h.1, e]
          rw [if_pos e, if_pos e2]
          exact ⟨e2.symm, r⟩
        · have e2 : ¬ q.1 = z := fun w => e (by rw [h.1, w])
          rw [if_neg e, if_neg e2]
          exact h
  · refine ⟨kv ++ [(z, v)], by rw [List.map_append]; rfl, ?_⟩
    rename_i e
    clear e
    induction h with
    | nil => exact .cons ⟨rfl, r⟩ .nil
    | cons h t ih => exact .cons h ih
/-- a new instance -/
theorem RS.newI {cls dx : Addr} {x : Str} (r : RS K H S) (hn : PySem.W.nsIn K mainGlobals x = some (some (.ref cls))) (h : H p = Option.none) (hd : H dx = Option.none) (hne : dx ≠ p) :
    RS K (upd (upd H dx (.own p)) p (.ins cls dx [])) (put S p (.ins x [])) := fun a ob e => by
  by_cases ha : a = p
  · subst ha
    rw [put_same] at e; cases e
    exact ⟨cls, dx, [], hn, upd_same, .nil⟩
  · rw [put_ne ha] at e
    have e1 : Ext H (upd H dx (.own p)) := Ext.new hd
    have h2 : upd H dx (.own p) p = Option.none := by rw [upd_ne (Ne.symm hne)]; exact h
    exact (r a ob e).ext (e1.trans (Ext.new h2)) fun u q => by rw [upd_ne ha, upd_ne (ne_of_none q hd)]; exact q
theorem Ext.newI {cls dx : Addr} (h : H p = Option.none) (hd : H dx = Option.none) (hne : dx ≠ p) : Ext H (upd (upd H dx (.own p)) p (.ins cls dx [])) := by
  have h2 : upd H dx (.own p) p = Option.none := by rw [upd_ne (Ne.symm hne)]; exact h
  exact (Ext.new hd).trans (Ext.new h2)
/-- an attribute is written -/
theorem RS.writeI {cls dx : Addr} {x : Str} {fs : List (Str × D)} {fv : List (Str × V)} (r : RS K H S) (hn : PySem.W.nsIn K mainGlobals x = some (some (.ref cls))) (h : H p = some (.ins cls dx fv))
    (q : Paired (fun (p : Str × D) (q : Str × V) => p.1 = q.1 ∧ Rv K H p.2 q.2) fs fv) : RS K (upd H p (.ins cls dx fv)) (put S p (.ins x fs)) := fun a ob e => by
  by_cases ha : a = p
  · subst ha
    rw [put_same] at e; cases e
    exact ⟨cls, dx, fv, hn, upd_same, Paired.mono (fun p q z => ⟨z.1, Rv.ext (Ext.ins h) z.2⟩) q⟩
  · rw [put_ne ha] at e
    exact (r a ob e).ext (Ext.ins h) fun u q => by rw [upd_ne ha]; exact q
theorem RS.writeI2 {cls dx : Addr} {x : Str} {fs : List (Str × D)} {fv fw : List (Str × V)} (r : RS K H S) (hn : PySem.W.nsIn K mainGlobals x = some (some (.ref cls))) (h : H p = some (.ins cls dx fw))
    (q : Paired (fun (p : Str × D) (q : Str × V) => p.1 = q.1 ∧ Rv K H p.2 q.2) fs fv) : RS K (upd H p (.ins cls dx fv)) (put S p (.ins x fs)) := fun a ob e => by
  by_cases ha : a = p
  · subst ha
    rw [put_same] at e; cases e
    exact ⟨cls, dx, fv, hn, upd_same, Paired.mono (fun p q z => ⟨z.1, Rv.ext (Ext.ins h) z.2⟩) q⟩
  · rw [put_ne ha] at e
    exact (r a ob e).ext (Ext.ins h) fun u q => by rw [upd_ne ha]; exact q
theorem put_rel {R : Str × D → Str × V → Prop} {f : Str} {d : D} {v : V} (hR : ∀ x y, R x y → x.1 = y.1) (hf : ∀ g, R (g, d) (g, v)) : ∀ {fs : List (Str × D)} {fv : List (Str × V)}, Paired R fs fv → Paired R (putD f d fs) (putF f v fv)
  | [], _, .nil => .cons (hf f) .nil
  | (g, x) :: r, _ :: t, .cons h1 h2 => by
    have e := hR _ _ h1
    rename_i y
    obtain ⟨g2, y⟩ := y
    have e : g = g2 := e
    subst e
    unfold putD putF
    split
    · exact .cons (hf g) h2
    · exact .cons h1 (put_rel hR hf h2)
theorem look_rel {f : Str} {d : D} : ∀ {fs : List (Str × D)} {fv : List (Str × V)}, Paired (fun (p : Str × D) (q : Str × V) => p.1 = q.1 ∧ Rv K H p.2 q.2) fs fv → fs.lookup f = some d → ∃ v, fv.lookup f = some v ∧ Rv K H d v
  | [], _, .nil, h => by cases h
  | (g, x) :: r, (g2, y) :: t, .cons h1 h2, h => by
    have e : g = g2 := h1.1
    subst e
    rw [List.lookup_cons] at h ⊢
    split at h
    · cases h
      exact ⟨y, rfl, h1.2⟩
    · exact look_rel h2 h
theorem look_none {f : Str} : ∀ {fs : List (Str × D)} {fv : List (Str × V)}, Paired (fun (p : Str × D) (q : Str × V) => p.1 = q.1 ∧ Rv K H p.2 q.2) fs fv → fs.lookup f = Option.none → fv.lookup f = Option.none
  | [], _, .nil, h => rfl
  | (g, x) :: r, (g2, y) :: t, .cons h1 h2, h => by
    have e : g = g2 := h1.1
    subst e
    rw [List.lookup_cons] at h ⊢
    split at h
    · cases h
    · exact look_none h2 h
theorem RS.iget (r : RS K H S) {x : Str} {fs : List (Str × D)} (h : iget S a = some (x, fs)) : ∃ cls dx fv, PySem.W.nsIn K mainGlobals x = some (some (.ref cls)) ∧ H a = some (.ins cls dx fv) ∧ Paired (fun (p : Str × D) (q : Str × V) => p.1 = q.1 ∧ Rv K H p.2 q.2) fs fv := by
  unfold Ev.iget at h
  cases e : S a with
  | none => rw [e] at h; cases h
  | some o =>
    rw [e] at h
    cases o with
    | ins y gs =>
      cases h
      exact r a _ e
    | _ => cases h
theorem RS.lget (r : RS K H S) {xs : List D} (h : lget S a = some xs) : ∃ vs, SqL K H a vs ∧ Rvs K H xs vs := by
  unfold Ev.lget at h
  cases e : S a with
  | none => rw [e] at h; cases h
  | some o =>
    rw [e] at h
    cases o with
    | lst ds =>
      cases h
      obtain ⟨vs, h1, h2⟩ := r a _ e
      exact ⟨vs, .of h1, h2⟩
    | _ => cases h
theorem RS.dget (r : RS K H S) {kvs : List (Str × D)} (h : dget S a = some kvs) : ∃ kv, Rd H a (.dK (kv.map keyS)) ∧ PR K H kvs kv := by
  unfold Ev.dget at h
  cases e : S a with
  | none => rw [e] at h; cases h
  | some o =>
    rw [e] at h
    cases o with
    | dct kvs =>
      cases h
      obtain ⟨vs, h1, h2⟩ := r a _ e
      exact ⟨vs, .inl h1, h2⟩
    | dcl o kvs =>
      cases h
      obtain ⟨vs, h1, h2⟩ := r a _ e
      exact ⟨vs, .inr ⟨_, h1⟩, h2⟩
    | _ => cases h
theorem RS.xget (r : RS K H S) {fs : List (Str × D)} (h : xget S a = some fs) : ∃ fv, H a = some (.xd fv) ∧ PR K H fs fv := by
  unfold Ev.xget at h
  cases e : S a with
  | none => rw [e] at h; cases h
  | some o =>
    rw [e] at h
    cases o with
    | xd kvs =>
      cases h
      exact r a _ e
    | _ => cases h
theorem RS.sget (r : RS K H S) {x : D} {v : V} {xs : List D} (rv : Rv K H x v) (h : sget S x = some xs) : ∃ a vs, v = .ref a ∧ (SqL K H a vs ∨ SqT K H a vs) ∧ Rvs K H xs vs := by
  cases rv with
  | ref a =>
    obtain ⟨vs, h1, h2⟩ := r.lget h
    exact ⟨a, vs, rfl, .inl h1, h2⟩
  | tup h1 h2 =>
    cases h
    exact ⟨_, _, rfl, .inr h1, h2⟩
  | rol h1 h2 =>
    cases h
    exact ⟨_, _, rfl, .inl h1.l, h2⟩
  | _ => cases h
end

/-! ### the wish about exceptions -/
def RX (K : PySem.W.Frag) (mg : Str → Option Value) (H : Hp) (x : Exn) (c : Value) (d : Option Addr) : Prop :=
  mg x.cls = some c ∧ match d with
    | none => x.fs = []
    | some p => x.fs = [(("" : Str), D.ref p)]
def XP (X : Cx) (W : WX) (E : XS) (σ : L2.St) (H : Hp) : Prop := ∀ c d H' x S', Ext H H' → RX X.K X.mg H' x c d → RS X.K H' S' → E x S' → W c d σ H'
theorem XP.ext {X : Cx} {W : WX} {E : XS} {σ : L2.St} {H H' : Hp} (x : Ext H H') (h : XP X W E σ H) : XP X W E σ H' := fun c d H2 y S' e => h c d H2 y S' (x.trans e)

/-! ### lifted transformers -/
abbrev FE := XS → En → Sto → DK → Prop
def LE (X : Cx) (W : WX) (f : FE) : TE := fun σ H Q => ∃ (σd : En) (S : Sto) (Qd : DK) (E : XS), Rn X.K H σd σ ∧ RS X.K H S ∧ f E σd S Qd ∧
  (∀ v H' d S', Ext H H' → Rv X.K H' d v → RS X.K H' S' → Qd d S' → Q v H') ∧ XP X W E σ H
def LT (X : Cx) (W : WX) (f : XS → En → Sto → (Bool → Sto → Prop) → Prop) : TT := fun σ H Q => ∃ (σd : En) (S : Sto) (Qd : Bool → Sto → Prop) (E : XS), Rn X.K H σd σ ∧ RS X.K H S ∧ f E σd S Qd ∧
  (∀ b H' S', Ext H H' → RS X.K H' S' → Qd b S' → Q b H') ∧ XP X W E σ H
def LA (X : Cx) (W : WX) (n : Nat) (f : XS → En → Sto → (List D → Sto → Prop) → Prop) : TA := fun σ H Q => ∃ (σd : En) (S : Sto) (Qd : List D → Sto → Prop) (E : XS), Rn X.K H σd σ ∧ RS X.K H S ∧ f E σd S Qd ∧
  (∀ vs H' ds S', Ext H H' → vs.length = n → Rvs X.K H' ds vs → RS X.K H' S' → Qd ds S' → Q vs H') ∧ XP X W E σ H
def LO (X : Cx) (W : WX) (f : XS → En → Sto → (Option Int → Sto → Prop) → Prop) : TO := fun σ H Q => ∃ (σd : En) (S : Sto) (Qd : Option Int → Sto → Prop) (E : XS), Rn X.K H σd σ ∧ RS X.K H S ∧ f E σd S Qd ∧
  (∀ o H' S', Ext H H' → RS X.K H' S' → Qd o S' → Q o H') ∧ XP X W E σ H
/-- weaker readings -/
theorem _root_.L2.PE.imp {X : Cx} {e : Expr} {t t' : TE} (h : PE X e t) (i : ∀ σ H Q, t' σ H Q → t σ H Q) : PE X e t' := ⟨fun pins s σ H Q I q => h.run pins s σ H Q I (i _ _ _ q)⟩
theorem _root_.L2.PT.imp {X : Cx} {e : Expr} {t t' : TT} (h : PT X e t) (i : ∀ σ H Q, t' σ H Q → t σ H Q) : PT X e t' := ⟨fun pins s σ H Q I q => h.run pins s σ H Q I (i _ _ _ q)⟩
theorem _root_.L2.PW.imp {X : Cx} {e : Expr} {t t' : TT} (h : PW X e t) (i : ∀ σ H Q, t' σ H Q → t σ H Q) : PW X e t' := ⟨fun wh pins s σ H Q I q => h.run wh pins s σ H Q I (i _ _ _ q)⟩
theorem _root_.L2.PA.imp {X : Cx} {e : List Expr} {t t' : TA} (h : PA X e t) (i : ∀ σ H Q, t' σ H Q → t σ H Q) : PA X e t' := ⟨fun pos pins s σ H Q I q => h.run pos pins s σ H Q I (i _ _ _ q)⟩
theorem _root_.L2.PO.imp {X : Cx} {e : Option Expr} {t t' : TO} (h : PO X e t) (i : ∀ σ H Q, t' σ H Q → t σ H Q) : PO X e t' := ⟨fun pins s σ H Q I q => h.run pins s σ H Q I (i _ _ _ q)⟩
theorem _root_.L2.PS.imp {X : Cx} {e : Stmt} {t t' : TS} (h : PS X e t) (i : ∀ D σ H, t' D σ H → t D σ H) : PS X e t' := ⟨fun pins s σ H D I q => h.run pins s σ H D I (i _ _ _ q)⟩
theorem _root_.L2.PSs.imp {X : Cx} {e : List Stmt} {t t' : TS} (h : PSs X e t) (i : ∀ D σ H, t' D σ H → t D σ H) : PSs X e t' := ⟨fun pins s σ H D I q => h.run pins s σ H D I (i _ _ _ q)⟩

/-! ### operations -/
section
variable {K : PySem.W.Frag} {H : Hp} {S : Sto}
theorem tru_rel (r : RS K H S) {x : D} {v : V} (rv : Rv K H x v) {Q : Bool → Prop} (h : truS x S Q) : ∃ k, TruV K v H k ∧ Q k := by
  cases rv with
  | non => exact ⟨false, rfl, h⟩
  | bl b => exact ⟨b, rfl, h⟩
  | int i => exact ⟨_, rfl, h⟩
  | str y => exact ⟨_, ⟨h.1, rfl⟩, h.2⟩
  | tup h1 h2 =>
    have h : Q _ := h
    rw [h2.nil_iff] at h
    exact ⟨_, .inr (.inl ⟨_, h1, rfl⟩), h⟩
  | rol h1 h2 =>
    have h : Q _ := h
    rw [h2.nil_iff] at h
    exact ⟨_, .inl ⟨_, h1.l, rfl⟩, h⟩
  | ref a =>
    have h : (match lget S a with | some xs => Q (!xs.isEmpty) | none => False) := h
    split at h
    · rename_i xs e
      obtain ⟨vs, h1, h2⟩ := r.lget e
      rw [h2.nil_iff] at h
      exact ⟨_, .inl ⟨vs, h1, rfl⟩, h⟩
    · exact h.elim
mutual
theorem pd_rel (r : RS K H S) : ∀ {x : D} {v : V} {p : PyData}, Pd S x p → Rv K H x v → Dp K H v p
  | _, _, _, .non, rv => by cases rv; exact .non
  | _, _, _, .bl b, rv => by cases rv; exact .bl b
  | _, _, _, .int b, rv => by cases rv; exact .int b
  | _, _, _, .str b, rv => by cases rv; exact .str b
  | _, _, _, .tup h, rv => by cases rv with | tup h1 h2 => exact .tup h1 (pds_rel r h h2)
  | _, _, _, .rol h, rv => by cases rv with | rol h1 h2 => exact .lst h1.l (pds_rel r h h2)
  | _, _, _, .ref l h, rv => by
    cases rv with
    | ref a =>
      obtain ⟨vs, h1, h2⟩ := r.lget l
      exact .lst h1 (pds_rel r h h2)
theorem pds_rel (r : RS K H S) : ∀ {x : List D} {v : List V} {p : List PyData}, Pds S x p → Rvs K H x v → DpAll K H v p
  | _, _, _, .nil, rv => by cases rv; exact .nil
  | _, _, _, .cons h t, rv => by cases rv with | cons h1 h2 => exact .cons (pd_rel r h h1) (pds_rel r t h2)
end
end

section
variable {X : Cx} {pins : List (Addr × Obj)} {σ : L2.St} {H : Hp} {s : Shared} {S : Sto} {v w : V} {vv ww : Value} {x y : D}
/-- a comparison by values -/
def CmpOk (X : Cx) (op : CmpOp) : Prop := ∀ (pins : List (Addr × Obj)) (s : Shared) (σ : L2.St) (H : Hp) (S : Sto) (x y : D) (v w : V) (vv ww : Value) (Qd : Bool → Prop) (Q : VK),
  Inv X pins σ H s → RS X.K H S → Rv X.K H x v → Rv X.K H y w → RelV v vv → RelV w ww → cmpS op x y S Qd → (∀ k, Qd k → Q (.bl k) H) → wpAny (model X.prog X.w) X.A (compareOp op vv ww) (EP X pins σ Q) X.xe s
theorem eqG_ok (hu : X.A.units + 64 < cLine) (neg : Bool) {Qd : Bool → Prop} {Q : VK} (I : Inv X pins σ H s) (r : RS X.K H S) (rx : Rv X.K H x v) (ry : Rv X.K H y w) (rv : RelV v vv) (rw_ : RelV w ww)
    (h : eqG x y S Qd) (q : ∀ k, Qd k → Q (.bl (if neg then !k else k)) H) : wpAny (model X.prog X.w) X.A (compareOp (if neg then .NotEq else .Eq) vv ww) (EP X pins σ Q) X.xe s := by
  obtain ⟨d, e, hd, he, sd, se, hq⟩ := h
  cases neg with
  | false => exact op_eqD hu pins s σ H v w vv ww Q I rv rw_ ⟨d, e, pd_rel r hd rx, pd_rel r he ry, sd, se, q _ hq⟩
  | true => exact op_neD hu pins s σ H v w vv ww Q I rv rw_ ⟨d, e, pd_rel r hd rx, pd_rel r he ry, sd, se, q _ hq⟩
theorem cmp_eq (hu : X.A.units + 64 < cLine) : CmpOk X .Eq := by
  intro pins s σ H S x y v w vv ww Qd Q I r rx ry rv rw_ h q
  have gen : eqG x y S Qd → wpAny (model X.prog X.w) X.A (compareOp .Eq vv ww) (EP X pins σ Q) X.xe s := fun g => eqG_ok hu false I r rx ry rv rw_ g q
  have h : eqS x y S Qd := h
  cases x with
  | int i =>
    cases y with
    | int j =>
      cases rx; cases ry
      exact op_eq pins s σ H _ _ vv ww Q I rv rw_ ⟨rfl, by rw [dec_int, Bool.beq_eq_decide_eq]; exact q _ h⟩
    | _ => exact gen h
  | str i =>
    cases y with
    | str j =>
      cases rx; cases ry
      exact op_eq pins s σ H _ _ vv ww Q I rv rw_ ⟨rfl, by rw [dec_str, Bool.beq_eq_decide_eq]; exact q _ h⟩
    | _ => exact gen h
  | _ => exact gen h
theorem cmp_ne (hu : X.A.units + 64 < cLine) : CmpOk X .NotEq := by
  intro pins s σ H S x y v w vv ww Qd Q I r rx ry rv rw_ h q
  have gen : eqG x y S (fun k => Qd (!k)) → wpAny (model X.prog X.w) X.A (compareOp .NotEq vv ww) (EP X pins σ Q) X.xe s := fun g => eqG_ok hu true I r rx ry rv rw_ g fun k hk => q _ hk
  have h : eqS x y S (fun k => Qd (!k)) := h
  cases x with
  | int i =>
    cases y with
    | int j =>
      cases rx; cases ry
      exact op_ne pins s σ H _ _ vv ww Q I rv rw_ ⟨rfl, by rw [dec_int, Bool.beq_eq_decide_eq]; exact q _ h⟩
    | _ => exact gen h
  | str i =>
    cases y with
    | str j =>
      cases rx; cases ry
      exact op_ne pins s σ H _ _ vv ww Q I rv rw_ ⟨rfl, by rw [dec_str, Bool.beq_eq_decide_eq]; exact q _ h⟩
    | _ => exact gen h
  | _ => exact gen h
theorem fl_rel {K : PySem.W.Frag} {H : Hp} {d : D} {v : V} (r : Rv K H d v) (h : flD d = true) : v = toV d ∧ flatV v = true := by
  cases r <;> first | exact ⟨rfl, rfl⟩ | cases h
theorem fls_rel {K : PySem.W.Frag} {H : Hp} : ∀ {ds : List D} {vs : List V}, Rvs K H ds vs → ds.all flD = true → vs = ds.map toV ∧ vs.all flatV = true
  | _, _, .nil, _ => ⟨rfl, rfl⟩
  | d :: ds, v :: vs, .cons r t, h => by
    rw [List.all_cons, Bool.and_eq_true] at h
    obtain ⟨e1, f1⟩ := fl_rel r h.1
    obtain ⟨e2, f2⟩ := fls_rel t h.2
    refine ⟨by rw [e1, e2, List.map_cons], ?_⟩
    rw [List.all_cons, f1, f2]
    rfl
theorem inL_rel {x : D} {xs : List D} : inV (toV x) (xs.map toV) = inL x xs := by
  unfold inV inL
  rw [List.any_map]
  rfl
theorem in_rel {K : PySem.W.Frag} {H : Hp} {S : Sto} {x y : D} {v w : V} {Q : Bool → Prop} (r : RS K H S) (rx : Rv K H x v) (ry : Rv K H y w) (h : inS x y S Q) :
    (∃ i j, x = .str i ∧ y = .str j ∧ Q (!(Builtin.Str.occurrences j i 0 j.length 1).isEmpty)) ∨ (∃ p z ov, v = .str z ∧ w = .ref p ∧ DGet H p (.str z) ov ∧ Q ov.isSome) ∨ ∃ p xs ds, w = .ref p ∧ (SqL K H p xs ∨ SqT K H p xs) ∧ flatV v = true ∧ xs.all flatV = true ∧ inV v xs = inL x ds ∧ Q (inL x ds) := by
  have seq : ∀ ds, sget S y = some ds → flD x = true → ds.all flD = true → Q (inL x ds) → ∃ p xs ds, w = .ref p ∧ (SqL K H p xs ∨ SqT K H p xs) ∧ flatV v = true ∧ xs.all flatV = true ∧ inV v xs = inL x ds ∧ Q (inL x ds) := by
    intro ds e h1 h2 h3
    obtain ⟨e1, f1⟩ := fl_rel rx h1
    obtain ⟨p, xs, ew, hq, rv⟩ := r.sget ry e
    obtain ⟨e2, f2⟩ := fls_rel rv h2
    exact ⟨p, xs, ds, ew, hq, f1, f2, by rw [e1, e2, inL_rel], h3⟩
  unfold inS at h
  split at h
  · split at h
    · exact .inl ⟨_, _, rfl, rfl, h⟩
    · exact h.elim
  · split at h
    · rename_i kvs e
      split at h
      · rename_i z
        cases rx
        cases y with
        | ref a =>
          have e : Ev.dget S a = some kvs := e
          cases ry
          obtain ⟨kv, k1, k2⟩ := r.dget e
          refine .inr (.inl ⟨a, z, _, rfl, rfl, .inl ⟨_, Sum.inr z, k1, rfl, rfl⟩, ?_⟩)
          rcases pr_look k2 z with ⟨l1, l2⟩ | ⟨d, v, l1, l2, l3⟩
          · rw [l1] at h; rw [l2]; exact h
          · rw [l1] at h; rw [l2]; exact h
        | _ => cases e
      · exact h.elim
    · split at h
      · rename_i e
        exact .inr (.inr (seq _ e h.1 h.2.1 h.2.2))
      · exact h.elim
theorem cmp_ok (hu : X.A.units + 64 < cLine) : ∀ op, CmpOk X op
  | .Eq => cmp_eq hu
  | .NotEq => cmp_ne hu
  | .Lt => by
    intro pins s σ H S x y v w vv ww Qd Q I r rx ry rv rw_ h q
    simp only [cmpS] at h
    split at h
    · cases rx; cases ry
      exact op_lt pins s σ H _ _ vv ww Q I rv rw_ ⟨_, _, rfl, rfl, q _ h⟩
    · exact h.elim
  | .LtE => by
    intro pins s σ H S x y v w vv ww Qd Q I r rx ry rv rw_ h q
    simp only [cmpS] at h
    split at h
    · cases rx; cases ry
      exact op_le pins s σ H _ _ vv ww Q I rv rw_ ⟨_, _, rfl, rfl, q _ h⟩
    · exact h.elim
  | .Gt => by
    intro pins s σ H S x y v w vv ww Qd Q I r rx ry rv rw_ h q
    simp only [cmpS] at h
    split at h
    · cases rx; cases ry
      exact op_gt pins s σ H _ _ vv ww Q I rv rw_ ⟨_, _, rfl, rfl, q _ h⟩
    · exact h.elim
  | .GtE => by
    intro pins s σ H S x y v w vv ww Qd Q I r rx ry rv rw_ h q
    simp only [cmpS] at h
    split at h
    · cases rx; cases ry
      exact op_ge pins s σ H _ _ vv ww Q I rv rw_ ⟨_, _, rfl, rfl, q _ h⟩
    · exact h.elim
  | .Is => by
    intro pins s σ H S x y v w vv ww Qd Q I r rx ry rv rw_ h q
    cases y with
    | non =>
      cases ry
      refine op_isN pins s σ H _ _ vv ww Q I rv rw_ ⟨rfl, ?_⟩
      cases rx <;> exact q _ h
    | bl b =>
      cases ry
      simp only [cmpS] at h
      split at h
      · cases rx
        exact op_isBl pins s σ H _ _ vv ww Q I rv rw_ ⟨_, _, rfl, rfl, q _ h⟩
      · exact h.elim
    | _ => exact False.elim h
  | .IsNot => by
    intro pins s σ H S x y v w vv ww Qd Q I r rx ry rv rw_ h q
    cases y with
    | non =>
      cases ry
      refine op_notN pins s σ H _ _ vv ww Q I rv rw_ ⟨rfl, ?_⟩
      cases rx <;> exact q _ h
    | bl b =>
      cases ry
      simp only [cmpS] at h
      split at h
      · cases rx
        exact op_notBl pins s σ H _ _ vv ww Q I rv rw_ ⟨_, _, rfl, rfl, q _ h⟩
      · exact h.elim
    | _ => exact False.elim h
  | .In => by
    intro pins s σ H S x y v w vv ww Qd Q I r rx ry rv rw_ h q
    have h : inS x y S Qd := h
    rcases in_rel r rx ry h with ⟨i, j, rfl, rfl, h⟩ | ⟨p, z, ov, rfl, rfl, g, h⟩ | ⟨p, xs, ds, ew, hq, f1, f2, e, h⟩
    · cases rx; cases ry
      exact op_in_str pins s σ H _ _ vv ww Q I rv rw_ ⟨_, _, rfl, rfl, q _ h⟩
    · obtain rfl : ww = Value.ref p := rw_
      exact d_in (Nat.lt_of_le_of_lt (Nat.add_le_add_left (by decide) _) hu) I g rv fun s3 I3 => ⟨.bl ov.isSome, H, I3, rfl, q _ h⟩
    · exact op_in_seq pins s σ H _ _ vv ww Q I rv rw_ ⟨p, xs, ew, hq, f1, f2, by rw [e]; exact q _ h⟩
  | .NotIn => by
    intro pins s σ H S x y v w vv ww Qd Q I r rx ry rv rw_ h q
    have h : inS x y S (fun k => Qd (!k)) := h
    rcases in_rel r rx ry h with ⟨i, j, rfl, rfl, h⟩ | ⟨p, z, ov, rfl, rfl, g, h⟩ | ⟨p, xs, ds, ew, hq, f1, f2, e, h⟩
    · cases rx; cases ry
      exact op_notin_str pins s σ H _ _ vv ww Q I rv rw_ ⟨_, _, rfl, rfl, q _ h⟩
    · obtain rfl : ww = Value.ref p := rw_
      exact d_notIn (Nat.lt_of_le_of_lt (Nat.add_le_add_left (by decide) _) hu) I g rv fun s3 I3 => ⟨.bl (!ov.isSome), H, I3, rfl, q _ h⟩
    · exact op_notIn_seq pins s σ H _ _ vv ww Q I rv rw_ ⟨p, xs, ew, hq, f1, f2, by rw [e]; exact q _ h⟩
end
end Ev

/-! The operations of the evaluator are the machine's. -/
namespace Ev
open PySem PySem.Spec PyProof.Rows L2
/-- what is wanted of a value -/
def Post (K : PySem.W.Frag) (H : Hp) (Qd : DK) (Q : VK) : Prop := ∀ v H' d S', Ext H H' → Rv K H' d v → RS K H' S' → Qd d S' → Q v H'
theorem Post.now {K : PySem.W.Frag} {H : Hp} {Qd : DK} {Q : VK} {S : Sto} {d : D} {v : V} (p : Post K H Qd Q) (r : RS K H S) (rv : Rv K H d v) (h : Qd d S) : Q v H := p v H d S (Ext.refl H) rv r h
/-- a fresh tuple -/
theorem Post.tup {K : PySem.W.Frag} {H : Hp} {Qd : DK} {Q : VK} {S : Sto} {ds : List D} {xs : List V} (p : Post K H Qd Q) (r : RS K H S) (q : Rvs K H ds xs) (h : Qd (.tup ds) S) : ∀ a, H a = none → Q (.ref a) (upd H a (.tup xs)) := fun a na =>
  p _ _ (.tup ds) S (Ext.new na) (.tup (.of upd_same) (Rvs.ext (Ext.new na) q)) (r.new na) h
/-- a fresh list -/
theorem Post.lst {K : PySem.W.Frag} {H : Hp} {Qd : DK} {Q : VK} {S : Sto} {ds : List D} {xs : List V} (p : Post K H Qd Q) (r : RS K H S) (q : Rvs K H ds xs) (h : ∀ c, S c = none → Qd (.ref c) (put S c (.lst ds))) : ∀ a, H a = none → Q (.ref a) (upd H a (.lst xs)) := fun a na =>
  p _ _ (.ref a) (put S a (.lst ds)) (Ext.new na) (.ref a) (r.newL na q) (h a (r.none na))
theorem cut_rel {K : PySem.W.Frag} {H : Hp} {ds : List D} {xs : List V} (h : Rvs K H ds xs) (lo hi : Option Int) : Rvs K H (cutD ds lo hi) (cutV xs lo hi) := by
  unfold cutD cutV
  rw [h.length]
  exact (h.drop _).take _
theorem cut_all {xs : List V} {lo hi : Option Int} (h : HT.sIx xs.length 0 lo = 0 ∧ HT.sIx xs.length xs.length hi = xs.length) : cutV xs lo hi = xs := by
  unfold cutV
  rw [h.1, h.2]
  show List.take (xs.length - 0) (xs.drop 0) = xs
  rw [List.drop_zero, Nat.sub_zero, List.take_length]
theorem Rvs.rep {K : PySem.W.Frag} {H : Hp} {ds : List D} {xs : List V} (h : Rvs K H ds xs) : ∀ n : Nat, Rvs K H (List.replicate n ds).flatten (List.replicate n xs).flatten
  | 0 => .nil
  | n + 1 => by
    rw [List.replicate_succ, List.replicate_succ, List.flatten_cons, List.flatten_cons]
    exact h.append (Rvs.rep h n)
section
variable {X : Cx}

/-! ### operators -/
def RB (K : PySem.W.Frag) (PY : Prop) (op : Operator) : R2 := fun v w H Q => ∃ x y S Qd, RS K H S ∧ Rv K H x v ∧ Rv K H y w ∧ binS PY op x y S Qd ∧ Post K H Qd Q
theorem bin_ok {PY : Prop} (py : PY → ∀ pins σ H s, Inv X pins σ H s → PylongRoom (model X.prog X.w) X.A s) : ∀ op, OpR X (binaryOp op) (RB X.K PY op)
  | .Add => by
    intro pins s σ H v w vv ww Q I rv rw_ h
    obtain ⟨x, y, S, Qd, rs, rx, ry, h, p⟩ := h
    simp only [binS] at h
    split at h
    · cases rx; cases ry
      exact op_add pins s σ H _ _ vv ww Q I rv rw_ ⟨_, _, rfl, rfl, p.now rs (.int _) h⟩
    · cases rx with
      | tup h1 q1 =>
        cases ry with
        | tup h2 q2 =>
          obtain ⟨hz, h⟩ := h
          refine op_catA pins s σ H _ _ vv ww Q I rv rw_ ⟨_, _, _, _, rfl, rfl, h1, h2, by rw [← q1.length, ← q2.length]; exact hz, fun e => ?_, fun _ e => ?_, fun _ _ => p.tup rs (q1.append q2) h⟩
          · subst e
            cases q1
            exact p.now rs (.tup h2 q2) h
          · subst e
            cases q2
            rw [List.append_nil] at h
            exact p.now rs (.tup h1 q1) h
    · cases rx; cases ry
      exact op_add_str pins s σ H _ _ vv ww Q I rv rw_ ⟨_, _, rfl, rfl, h.1, p.now rs (.str _) h.2⟩
    · cases rx; cases ry
      split at h
      · rename_i e1 e2
        obtain ⟨us, u1, u2⟩ := rs _ _ e1
        obtain ⟨ws, w1, w2⟩ := rs _ _ e2
        exact op_cat pins s σ H _ _ vv ww Q I rv rw_ ⟨_, _, _, _, rfl, rfl, u1, w1, by rw [← u2.length, ← w2.length]; exact h.1, p.lst rs (u2.append w2) h.2⟩
      · exact h.elim
    · exact h.elim
  | .Sub => by
    intro pins s σ H v w vv ww Q I rv rw_ h
    obtain ⟨x, y, S, Qd, rs, rx, ry, h, p⟩ := h
    simp only [binS] at h
    split at h
    · cases rx; cases ry
      exact op_sub pins s σ H _ _ vv ww Q I rv rw_ ⟨_, _, rfl, rfl, p.now rs (.int _) h⟩
    · exact h.elim
  | .Mult => by
    intro pins s σ H v w vv ww Q I rv rw_ h
    obtain ⟨x, y, S, Qd, rs, rx, ry, h, p⟩ := h
    simp only [binS] at h
    split at h
    · cases rx; cases ry
      obtain ⟨t, rfl⟩ := rv
      obtain ⟨u, rfl⟩ := rw_
      exact mul_int ⟨.int _, H, I.tok _, ⟨_, rfl⟩, p.now rs (.int _) h.2⟩ h.1
    · cases rx; cases ry
      obtain ⟨t, rfl⟩ := rv
      obtain ⟨u, rfl⟩ := rw_
      exact SB.mul h.1 fun t' k => ⟨.str _, H, I.tok _, ⟨_, rfl⟩, p.now rs (.str _) h.2⟩
    · cases rx; cases ry
      split at h
      · rename_i xs e1
        obtain ⟨us, u1, u2⟩ := rs _ _ e1
        refine op_rep pins s σ H _ _ vv ww Q I rv rw_ ⟨_, _, us, rfl, rfl, u1, h.1, h.2.1, by rw [← u2.length]; exact h.2.2.1, p.lst rs (u2.rep _) h.2.2.2⟩
      · exact h.elim
    · exact h.elim
  | .FloorDiv => by
    intro pins s σ H v w vv ww Q I rv rw_ h
    obtain ⟨x, y, S, Qd, rs, rx, ry, h, p⟩ := h
    simp only [binS] at h
    split at h
    · cases rx; cases ry
      obtain ⟨t, rfl⟩ := rv
      obtain ⟨u, rfl⟩ := rw_
      obtain ⟨⟨h0, hp⟩, h⟩ := h
      exact floordiv_int h0 ⟨.int _, H, I.tok _, ⟨_, rfl⟩, p.now rs (.int _) h⟩ (hp.imp id fun z => py z pins σ H s I)
    · exact h.elim
  | .Mod => by
    intro pins s σ H v w vv ww Q I rv rw_ h
    obtain ⟨x, y, S, Qd, rs, rx, ry, h, p⟩ := h
    simp only [binS] at h
    split at h
    · cases rx; cases ry
      exact op_modN pins s σ H _ _ vv ww Q I rv rw_ ⟨_, _, rfl, rfl, h.1, p.now rs (.int _) h.2⟩
    · exact h.elim
  | .Pow => by
    intro pins s σ H v w vv ww Q I rv rw_ h
    obtain ⟨x, y, S, Qd, rs, rx, ry, h, p⟩ := h
    simp only [binS] at h
    split at h
    · cases rx; cases ry
      exact op_pow pins s σ H _ _ vv ww Q I rv rw_ ⟨_, _, rfl, rfl, h.1, p.now rs (.int _) h.2⟩
    · exact h.elim
  | .MatMult => fun _ _ _ _ _ _ _ _ _ _ _ _ ⟨_, _, _, _, _, _, _, h, _⟩ => h.elim
  | .Div => fun _ _ _ _ _ _ _ _ _ _ _ _ ⟨_, _, _, _, _, _, _, h, _⟩ => h.elim
  | .LShift => fun _ _ _ _ _ _ _ _ _ _ _ _ ⟨_, _, _, _, _, _, _, h, _⟩ => h.elim
  | .RShift => fun _ _ _ _ _ _ _ _ _ _ _ _ ⟨_, _, _, _, _, _, _, h, _⟩ => h.elim
  | .BitOr => fun _ _ _ _ _ _ _ _ _ _ _ _ ⟨_, _, _, _, _, _, _, h, _⟩ => h.elim
  | .BitXor => fun _ _ _ _ _ _ _ _ _ _ _ _ ⟨_, _, _, _, _, _, _, h, _⟩ => h.elim
  | .BitAnd => fun _ _ _ _ _ _ _ _ _ _ _ _ ⟨_, _, _, _, _, _, _, h, _⟩ => h.elim
/-- a comparison -/
def RC (K : PySem.W.Frag) (op : CmpOp) : R2 := fun v w H Q => ∃ x y S Qd, RS K H S ∧ Rv K H x v ∧ Rv K H y w ∧ cmpS op x y S Qd ∧ ∀ k, Qd k → Q (.bl k) H
theorem cmpR_ok (hu : X.A.units + 64 < cLine) (op : CmpOp) : OpR X (compareOp op) (RC X.K op) := by
  intro pins s σ H v w vv ww Q I rv rw_ h
  obtain ⟨x, y, S, Qd, rs, rx, ry, h, p⟩ := h
  exact cmp_ok hu op pins s σ H S x y v w vv ww Qd Q I rs rx ry rv rw_ h p

/-! ### items, slices -/
theorem atI_rel {K : PySem.W.Frag} {H : Hp} {ds : List D} {xs : List V} (r : Rvs K H ds xs) {n : Int} {d : D} (h : atI ds n = some d) : ∃ v, atI xs n = some v ∧ Rv K H d v := by
  unfold atI at h ⊢
  rw [r.length] at h
  cases e : ixN xs.length n with
  | none => rw [e] at h; cases h
  | some j =>
    rw [e] at h
    exact r.get h
def RI (K : PySem.W.Frag) : R2 := fun v w H Q => ∃ x y S Qd, RS K H S ∧ Rv K H x v ∧ Rv K H y w ∧ idxS x y S Qd ∧ Post K H Qd Q
theorem idx_ok (hu : X.A.units + 64 < cLine) : IxR X (RI X.K) := by
  intro value slice pins s σ H v w vv ww Q I rv rw_ h hs
  obtain ⟨x, y, S, Qd, rs, rx, ry, h, p⟩ := h
  by_cases hk : ∃ z a kvs d, y = .str z ∧ x = .ref a ∧ dget S a = some kvs ∧ lookS kvs z = some d ∧ Qd d S
  · obtain ⟨z, a, kvs, d, rfl, rfl, e1, e2, q⟩ := hk
    cases rx; cases ry
    obtain ⟨kv, k1, k2⟩ := rs.dget e1
    rcases pr_look k2 z with ⟨l1, _⟩ | ⟨d', u, l1, l2, l3⟩
    · rw [e2] at l1; cases l1
    · rw [e2] at l1; cases l1
      have g : DGet H a (.str z) (some u) := .inl ⟨_, Sum.inr z, k1, rfl, l2.symm⟩
      obtain rfl : vv = Value.ref a := rv
      exact tail_any (dict_typeIs I g) PySem.F.slot_dict_getitem.lookup (d_getItem (Nat.lt_of_le_of_lt (Nat.add_le_add_left (by decide) _) hu) I g rw_ fun w' s' I' r' => ⟨u, H, I', r', p.now rs l3 q⟩) hs
  refine ix_seq value slice pins s σ H v w vv ww Q I rv rw_ ?_ hs
  unfold idxS at h
  split at h
  · cases ry
    split at h
    · obtain ⟨hz, h⟩ := h
      split at h
      · rename_i e
        cases rx
        exact .inr (.inr ⟨_, _, _, rfl, rfl, hz, e, p.now rs (.str _) h⟩)
      · exact h.elim
    · split at h
      · rename_i e
        split at h
        · rename_i e2
          obtain ⟨a, vs, rfl, hq, q⟩ := rs.sget rx e
          obtain ⟨u, hu, ru⟩ := atI_rel q e2
          rcases hq with hq | hq
          · exact .inl ⟨_, _, _, _, rfl, rfl, hq, hu, p.now rs ru h⟩
          · exact .inr (.inl ⟨_, _, _, _, rfl, rfl, hq, hu, p.now rs ru h⟩)
        · exact h.elim
      · exact h.elim
  · split at h
    · rename_i z _ a
      unfold dixS at h
      split at h
      · rename_i kvs e1
        split at h
        · rename_i d e2
          exact absurd ⟨_, _, _, _, rfl, rfl, e1, e2, h⟩ hk
        · exact h.elim
      · exact h.elim
    · exact h.elim
  · exact h.elim
def RL (K : PySem.W.Frag) : V → Option Int → Option Int → Hp → VK → Prop := fun v lo hi H Q => ∃ x S Qd, RS K H S ∧ Rv K H x v ∧ slcS x lo hi S Qd ∧ Post K H Qd Q
theorem slc_ok : SlR X (RL X.K) := by
  intro pins s σ H v vv vl vu lo hi sl Q I rv hsl pl pu h
  obtain ⟨x, S, Qd, rs, rx, h, p⟩ := h
  unfold slcS at h
  split at h
  · cases rx with
    | tup h1 q1 =>
      refine sl_tupA pins s σ H _ vv vl vu lo hi sl Q I rv hsl pl pu ⟨_, _, rfl, h1, fun e => ?_, fun _ => p.tup rs (cut_rel q1 lo hi) h⟩
      have z := cut_rel q1 lo hi
      rw [cut_all e] at z
      exact p.now rs (.tup h1 z) h
  · cases rx with
    | rol h1 q1 => exact sl_list pins s σ H _ vv vl vu lo hi sl Q I rv hsl pl pu ⟨_, _, rfl, h1.l, p.lst rs (cut_rel q1 lo hi) h⟩
  · cases rx
    exact sl_str pins s σ H _ vv vl vu lo hi sl Q I rv hsl pl pu ⟨_, rfl, h.1, p.now rs (.str _) h.2⟩
  · split at h
    · rename_i e
      cases rx
      obtain ⟨vs, h1, h2⟩ := rs.lget e
      exact sl_list pins s σ H _ vv vl vu lo hi sl Q I rv hsl pl pu ⟨_, _, rfl, h1, p.lst rs (cut_rel h2 lo hi) h⟩
    · exact h.elim
  · exact h.elim

/-! ### built-in functions -/
def rLcm : List V → Hp → VK → Prop := fun vs H Q => ∃ a b : Int, vs = [.int a, .int b] ∧ a.natAbs.log2 < 13000 ∧ b.natAbs.log2 < 13000 ∧ Q (.int ((Nat.lcm a.natAbs b.natAbs : Nat) : Int)) H
theorem log2_max_lt {a b k : Nat} (ha : a.log2 < k) (hb : b.log2 < k) : (max a b).log2 < k := by
  rcases Nat.le_total a b with h | h
  · rw [Nat.max_eq_right h]; exact hb
  · rw [Nat.max_eq_left h]; exact ha
theorem lt_of_log2 {a k : Nat} (ha : a.log2 < k) : a < 2 ^ k := by
  by_cases h : a = 0
  · rw [h]; exact Nat.two_pow_pos k
  · exact (Nat.log2_lt h).mp ha
theorem cr_lcm {X : Cx} : CallR X (.builtin "math.lcm") rLcm := by
  intro pins s σ H vs us Q I r h
  obtain ⟨a, b, rfl, ha, hb, q⟩ := h
  obtain ⟨t, u, rfl⟩ := Vals.int2 r
  have e1 : Nat.lcm 1 a.natAbs = a.natAbs := by simp [Nat.lcm]
  have h1 : (max 1 a.natAbs).log2 < 13000 := log2_max_lt (by decide +kernel) ha
  have h2 := log2_max_lt ha hb
  have hl : ((((Nat.lcm 1 a.natAbs).lcm b.natAbs : Nat) : Int)).natAbs.log2 < bitsLine := by
    rw [e1, Int.natAbs_natCast]
    by_cases h0 : a.natAbs.lcm b.natAbs = 0
    · rw [h0]; decide +kernel
    · have h3 : a.natAbs.lcm b.natAbs < 2 ^ 26000 := by
        refine Nat.lt_of_le_of_lt (show a.natAbs.lcm b.natAbs ≤ a.natAbs * b.natAbs from Nat.div_le_self _ _) ?_
        have e : (2 : Nat) ^ 26000 = 2 ^ 13000 * 2 ^ 13000 := by rw [← Nat.pow_add]
        rw [e]
        exact Nat.mul_lt_mul'' (lt_of_log2 ha) (lt_of_log2 hb)
      exact Nat.lt_trans ((Nat.log2_lt h0).mpr h3) (by decide +kernel)
  refine call_function_meets PySem.W.MGF.kind_lcm PySem.W.MGF.plain_lcm PySem.W.MGF.entry_lcm (PySem.W.MGF.args_lcm _ _) (PySem.W.mg_run_lcm a t b u (by omega) (by omega) hl).meets ?_
  rw [e1]
  exact ⟨.int _, H, I.tok _, ⟨_, rfl⟩, q⟩
def RBi (K : PySem.W.Frag) (b : Bi) : List V → Hp → VK → Prop := fun vs H Q => ∃ ds S Qd, RS K H S ∧ Rvs K H ds vs ∧ biS b ds S Qd ∧ Post K H Qd Q
def biV : Bi → Value
  | .len => .builtin "len"
  | .abs => .builtin "abs"
  | .int => .type "int"
  | .min2 => .builtin "min"
  | .max2 => .builtin "max"
  | .tuple => .type "tuple"
  | .list => .type "list"
  | .gcd => .builtin "math.gcd"
  | .lcm => .builtin "math.lcm"
  | .str => .type "str"
  | .ord => .builtin "ord"
  | .divmod => .builtin "divmod"
  | .sorted => .builtin "sorted"
  | .dict => .type "dict"
theorem Rvs.ints {K : PySem.W.Frag} {H : Hp} : ∀ {ns : List Int} {vs : List V}, Rvs K H (ns.map D.int) vs → vs = ns.map V.int
  | [], _, h => by cases h; rfl
  | n :: ns, _, h => by
    cases h with
    | cons h t =>
      cases h
      rw [Rvs.ints t]
      rfl
theorem Rvs.strs {K : PySem.W.Frag} {H : Hp} : ∀ {ns : List Str} {vs : List V}, Rvs K H (ns.map D.str) vs → vs = ns.map V.str
  | [], _, h => by cases h; rfl
  | n :: ns, _, h => by
    cases h with
    | cons h t =>
      cases h
      rw [Rvs.strs t]
      rfl
theorem rvs_int {K : PySem.W.Frag} {H : Hp} : ∀ ns : List Int, Rvs K H (ns.map D.int) (ns.map V.int)
  | [] => .nil
  | _ :: r => .cons (.int _) (rvs_int r)
theorem rvs_str {K : PySem.W.Frag} {H : Hp} : ∀ ns : List Str, Rvs K H (ns.map D.str) (ns.map V.str)
  | [] => .nil
  | _ :: r => .cons (.str _) (rvs_str r)
theorem RS.sgetL {K : PySem.W.Frag} {H : Hp} {S : Sto} (r : RS K H S) {x : D} {v : V} {xs : List D} (rv : Rv K H x v) (h : sgetL S x = some xs) : ∃ a vs, v = .ref a ∧ SqL K H a vs ∧ Rvs K H xs vs := by
  cases rv with
  | ref a =>
    obtain ⟨vs, h1, h2⟩ := r.lget h
    exact ⟨a, vs, rfl, h1, h2⟩
  | rol h1 h2 =>
    cases h
    exact ⟨_, _, rfl, h1.l, h2⟩
  | _ => cases h
theorem Rvs.one {K : PySem.W.Frag} {H : Hp} {d : D} {vs : List V} (h : Rvs K H [d] vs) : ∃ v, vs = [v] ∧ Rv K H d v := by
  cases h with | cons h t => cases t; exact ⟨_, rfl, h⟩
theorem Rvs.two {K : PySem.W.Frag} {H : Hp} {d e : D} {vs : List V} (h : Rvs K H [d, e] vs) : ∃ v w, vs = [v, w] ∧ Rv K H d v ∧ Rv K H e w := by
  cases h with | cons h t => cases t with | cons h2 t2 => cases t2; exact ⟨_, _, rfl, h, h2⟩
theorem bi_ok (hc : X.calm = true) : ∀ b, CallR X (biV b) (RBi X.K b)
  | .len => by
    intro pins s σ H vs us Q I ru h
    obtain ⟨ds, S, Qd, rs, rd, h, p⟩ := h
    simp only [biS] at h
    split at h
    · obtain ⟨v, rfl, rv⟩ := rd.one
      cases rv
      exact call_len_str pins s σ H _ us Q I ru ⟨_, rfl, h.1, p.now rs (.int _) h.2⟩
    · obtain ⟨v, rfl, rv⟩ := rd.one
      split at h
      · rename_i e
        obtain ⟨a, ws, rfl, hq, q⟩ := rs.sget rv e
        exact call_len_seq pins s σ H _ us Q I ru ⟨_, _, rfl, hq, by rw [← q.length]; exact p.now rs (.int _) h⟩
      · exact h.elim
    · exact h.elim
  | .abs => by
    intro pins s σ H vs us Q I ru h
    obtain ⟨ds, S, Qd, rs, rd, h, p⟩ := h
    simp only [biS] at h
    split at h
    · obtain ⟨v, rfl, rv⟩ := rd.one
      cases rv
      exact call_abs pins s σ H _ us Q I ru ⟨_, rfl, p.now rs (.int _) h⟩
    · exact h.elim
  | .str => by
    intro pins s σ H vs us Q I ru h
    obtain ⟨ds, S, Qd, rs, rd, h, p⟩ := h
    simp only [biS] at h
    split at h
    · obtain ⟨v, rfl, rv⟩ := rd.one
      cases rv
      exact call_str_int pins s σ H _ us Q I ru ⟨_, rfl, h.1, p.now rs (.str _) h.2⟩
    · exact h.elim
  | .int => by
    intro pins s σ H vs us Q I ru h
    obtain ⟨ds, S, Qd, rs, rd, h, p⟩ := h
    simp only [biS] at h
    split at h
    · obtain ⟨v, rfl, rv⟩ := rd.one
      cases rv
      exact call_int1 pins s σ H _ us Q I ru (.inl ⟨_, rfl, p.now rs (.int _) h⟩)
    · obtain ⟨v, rfl, rv⟩ := rd.one
      cases rv
      exact call_int1 pins s σ H _ us Q I ru (.inr ⟨_, rfl, p.now rs (.int _) h⟩)
    · obtain ⟨v, rfl, rv⟩ := rd.one
      cases rv
      obtain ⟨n, h1, h2, h⟩ := h
      exact call_int_str pins s σ H _ us Q I ru ⟨_, n, rfl, h1, h2, p.now rs (.int _) h⟩
    · exact h.elim
  | .ord => by
    intro pins s σ H vs us Q I ru h
    obtain ⟨ds, S, Qd, rs, rd, h, p⟩ := h
    simp only [biS] at h
    split at h
    · obtain ⟨v, rfl, rv⟩ := rd.one
      cases rv
      exact call_ord pins s σ H _ us Q I ru ⟨_, rfl, h.1, p.now rs (.int _) h.2⟩
    · exact h.elim
  | .divmod => by
    intro pins s σ H vs us Q I ru h
    obtain ⟨ds, S, Qd, rs, rd, h, p⟩ := h
    simp only [biS] at h
    split at h
    · obtain ⟨v, w, rfl, rv, rw_⟩ := rd.two
      cases rv; cases rw_
      exact call_divmodW pins s σ H _ us Q I ru ⟨_, _, rfl, h.1, p.tup rs (.cons (.int _) (.cons (.int _) .nil)) h.2⟩
    · exact h.elim
  | .sorted => by
    intro pins s σ H vs us Q I ru h
    obtain ⟨ds, S, Qd, rs, rd, h, p⟩ := h
    simp only [biS] at h
    split at h
    · obtain ⟨v, rfl, rv⟩ := rd.one
      obtain ⟨ns, e, h⟩ := h
      obtain ⟨a, ws, rfl, hq, q⟩ := rs.sgetL rv e
      have := q.ints
      subst this
      exact cr_sortedI pins s σ H _ us Q I ru ⟨_, _, rfl, hq, fun ns' a h1 h2 na => p.lst rs (rvs_int ns') (h ns' h1 h2) a na⟩
    · exact h.elim
  | .dict => by
    intro pins s σ H vs us Q I ru h
    obtain ⟨ds, S, Qd, rs, rd, h, p⟩ := h
    simp only [biS] at h
    split at h
    · rename_i a
      obtain ⟨v, rfl, rv⟩ := rd.one
      cases rv
      split at h
      · rename_i kvs e
        obtain ⟨kv, k1, k2⟩ := rs.dget e
        refine call_dictD pins s σ H _ us Q I ru ⟨_, _, rfl, k1, fun c nc => ?_⟩
        have x := Ext.new (o := .dK (kv.map keyS)) nc
        exact p (.ref c) _ (.ref c) _ x (.ref c) (rs.over (ob := .dct kvs) x ⟨kv, upd_same, Paired.mono (fun p q z => ⟨z.1, Rv.ext x z.2⟩) k2⟩) (h c (rs.none nc))
      · exact h.elim
    · exact h.elim
  | .min2 => by
    intro pins s σ H vs us Q I ru h
    obtain ⟨ds, S, Qd, rs, rd, h, p⟩ := h
    simp only [biS] at h
    split at h
    · obtain ⟨v, w, rfl, rv, rw_⟩ := rd.two
      cases rv; cases rw_
      exact call_min2 hc pins s σ H _ us Q I ru ⟨_, _, rfl, p.now rs (.int _) h⟩
    · exact h.elim
  | .max2 => by
    intro pins s σ H vs us Q I ru h
    obtain ⟨ds, S, Qd, rs, rd, h, p⟩ := h
    simp only [biS] at h
    split at h
    · obtain ⟨v, w, rfl, rv, rw_⟩ := rd.two
      cases rv; cases rw_
      exact call_max2 hc pins s σ H _ us Q I ru ⟨_, _, rfl, p.now rs (.int _) h⟩
    · exact h.elim
  | .tuple => by
    intro pins s σ H vs us Q I ru h
    obtain ⟨ds, S, Qd, rs, rd, h, p⟩ := h
    simp only [biS] at h
    split at h
    · obtain ⟨v, rfl, rv⟩ := rd.one
      split at h
      · rename_i e
        obtain ⟨a, ws, rfl, hq, q⟩ := rs.sget rv e
        refine call_tuple_of pins s σ H _ us Q I ru ⟨_, ws, rfl, ?_⟩
        rcases hq with hq | hq
        · exact .inl ⟨hq, p.tup rs q h⟩
        · exact .inr ⟨hq, p.now rs (.tup hq q) h⟩
      · exact h.elim
    · exact h.elim
  | .list => by
    intro pins s σ H vs us Q I ru h
    obtain ⟨ds, S, Qd, rs, rd, h, p⟩ := h
    simp only [biS] at h
    split at h
    · obtain ⟨v, rfl, rv⟩ := rd.one
      split at h
      · rename_i e
        obtain ⟨a, ws, rfl, hq, q⟩ := rs.sget rv e
        exact call_list_of pins s σ H _ us Q I ru ⟨_, _, rfl, hq, p.lst rs q h⟩
      · exact h.elim
    · exact h.elim
  | .gcd => by
    intro pins s σ H vs us Q I ru h
    obtain ⟨ds, S, Qd, rs, rd, h, p⟩ := h
    simp only [biS] at h
    split at h
    · obtain ⟨v, w, rfl, rv, rw_⟩ := rd.two
      cases rv; cases rw_
      exact cr_gcd pins s σ H _ us Q I ru ⟨_, _, rfl, p.now rs (.int _) h⟩
    · exact h.elim
  | .lcm => by
    intro pins s σ H vs us Q I ru h
    obtain ⟨ds, S, Qd, rs, rd, h, p⟩ := h
    simp only [biS] at h
    split at h
    · obtain ⟨v, w, rfl, rv, rw_⟩ := rd.two
      cases rv; cases rw_
      obtain ⟨h1, h2, h⟩ := h
      exact cr_lcm pins s σ H _ us Q I ru ⟨_, _, rfl, h1, h2, p.now rs (.int _) h⟩
    · exact h.elim

/-! ### isinstance -/
def tyV1 : Ty → Value
  | .int => .type "int"
  | .bool => .type "bool"
  | .str => .type "str"
  | .tuple => .type "tuple"
  | .list => .type "list"
  | .own _ => .none
theorem sqT_ty {K : PySem.W.Frag} {H : Hp} {a : Addr} {xs : List V} (h : SqT K H a xs) : TyX K H (.ref a) (.type "tuple") := by
  rcases h with (h | ⟨o, h⟩) | ⟨o, its, n, h1, h2, _⟩
  · exact .base (.tup h)
  · exact .fTuple h
  · exact .kTuple h1 h2
theorem sqF_ty {K : PySem.W.Frag} {H : Hp} {a : Addr} {xs : List V} (h : SqF K H a xs) : TyX K H (.ref a) (.type "list") := by
  rcases h with ⟨o, h⟩ | ⟨o, its, n, h1, h2, _⟩
  · exact .base (.frz h)
  · exact .kList h1 h2
/-- the name of data's type -/
def tyD : D → String
  | .non => "NoneType"
  | .bl _ => "bool"
  | .int _ => "int"
  | .str _ => "str"
  | .tup _ => "tuple"
  | .rol _ => "list"
  | .ref _ => "list"
theorem tyD_ok {K : PySem.W.Frag} {H : Hp} {S : Sto} {x : D} {v : V} (rs : RS K H S) (rv : Rv K H x v) (hr : ∀ a, x = .ref a → ∃ xs, lget S a = some xs) : TyX K H v (.type (tyD x)) := by
  cases rv with
  | non => exact .base .non
  | bl b => exact .base (.bl b)
  | int i => exact .base (.int i)
  | str i => exact .base (.str i)
  | tup h t => exact sqT_ty h
  | rol h t => exact sqF_ty h
  | ref a =>
    obtain ⟨xs, e⟩ := hr a rfl
    unfold lget at e
    split at e
    · rename_i e1
      obtain ⟨vs, h1, _⟩ := rs a _ e1
      exact .base (.lst h1)
    all_goals cases e
theorem isT_kit {K : PySem.W.Frag} {S : Sto} {x : D} {t : Ty} {k : Bool} (h : isT S x t = some k) : PySem.W.kitOne K (.type (tyD x)) (tyV1 t) = some k ∧ (∀ a, x = .ref a → ∃ xs, lget S a = some xs) ∧ ∃ n, tyV1 t = .type n := by
  have hr : ∀ {b : Bool} {a : Addr}, (lget S a).map (fun _ => b) = some k → b = k ∧ ∃ xs, lget S a = some xs := fun {b a} e => by
    cases q : lget S a with
    | none => rw [q] at e; cases e
    | some xs => rw [q] at e; exact ⟨Option.some.inj e, xs, rfl⟩
  cases t <;> cases x <;> first
    | (cases h; exact ⟨kit_ty (by dsimp only [tyD]; decide +kernel), (fun _ z => nomatch z), _, rfl⟩)
    | (obtain ⟨e, q⟩ := hr h; subst e; exact ⟨kit_ty (by dsimp only [tyD]; decide +kernel), fun _ z => by cases z; exact q, _, rfl⟩)
    | (cases h; done)
theorem isTs_kit {K : PySem.W.Frag} {S : Sto} {x : D} : ∀ {ts : List Ty} {k : Bool}, isTs S x ts = some k → PySem.W.kitAny K (.type (tyD x)) (ts.map tyV1) = some k ∧ (ts ≠ [] → ∀ a, x = .ref a → ∃ xs, lget S a = some xs)
  | [], k, h => by
    cases h
    exact ⟨kitAny_nil, fun z => absurd rfl z⟩
  | t :: r, k, h => by
    unfold isTs at h
    split at h
    · rename_i e
      cases h
      obtain ⟨e1, e2, _⟩ := isT_kit (K := K) e
      exact ⟨kitAny_cons e1 (fun z => nomatch z) fun _ => rfl, fun _ => e2⟩
    · rename_i e
      obtain ⟨e1, e2, _⟩ := isT_kit (K := K) e
      obtain ⟨q1, q2⟩ := isTs_kit (K := K) h
      exact ⟨kitAny_cons e1 (fun _ => q1) (fun z => nomatch z), fun _ => e2⟩
    · cases h

/-! ### methods of lists -/
def meId : Me → String
  | .append => "list.append"
  | .pop => "list.pop"
  | .popat => "list.pop"
  | .reverse => "list.reverse"
def RM (K : PySem.W.Frag) (m : Me) : V → List V → Hp → VK → Prop := fun v ws H Q => ∃ x ds S Qd, RS K H S ∧ Rv K H x v ∧ Rvs K H ds ws ∧ mthS m x ds S Qd ∧ Post K H Qd Q
theorem Post.write {K : PySem.W.Frag} {H : Hp} {Qd : DK} {Q : VK} {S : Sto} {ds es : List D} {xs ys : List V} {a : Addr} {d : D} {v : V} (p : Post K H Qd Q) (r : RS K H S) (h : H a = some (.lst ys)) (hs : S a = some (.lst es)) (q : Rvs K H ds xs) (rv : Rv K H d v)
    (hq : Qd d (put S a (.lst ds))) : Q v (upd H a (.lst xs)) := p _ _ d _ (Ext.lst h) (Rv.ext (Ext.lst h) rv) (r.write h hs q) hq
theorem mth_ok : ∀ m, MtR X (meId m) (RM X.K m) := by
  intro m pins s σ H v ws vv us Q I rv ru h
  obtain ⟨x, ds, S, Qd, rs, rx, rd, h, p⟩ := h
  unfold mthS at h
  split at h
  · split at h
    · rename_i a xs e
      cases rx
      obtain ⟨vs, h1, h2⟩ := rs _ _ e
      cases m with
      | append =>
        simp only at h
        split at h
        · obtain ⟨u, rfl, ru1⟩ := rd.one
          exact mt_append pins s σ H _ _ vv us Q I rv ru ⟨_, _, _, rfl, rfl, h1, by rw [← h2.length]; exact h.1, p.write rs h1 e (h2.append (.cons ru1 .nil)) .non h.2⟩
        · exact h.elim
      | pop =>
        simp only at h
        split at h
        · cases rd
          split at h
          · rename_i e2
            rw [h2.length] at e2
            obtain ⟨u, hu, ru1⟩ := h2.get e2
            exact mt_pop pins s σ H _ _ vv us Q I rv ru ⟨_, _, _, rfl, rfl, h1, hu, p.write rs h1 e h2.dropLast ru1 h⟩
          · exact h.elim
        · exact h.elim
      | popat =>
        simp only at h
        split at h
        · obtain ⟨u, rfl, ru1⟩ := rd.one
          cases ru1
          obtain ⟨b1, b2, h⟩ := h
          split at h
          · rename_i e2
            split at h
            · rename_i e3
              rw [h2.length] at e2
              obtain ⟨u, hu, ru1⟩ := h2.get e3
              exact mt_popAt pins s σ H _ _ vv us Q I rv ru ⟨_, _, _, _, _, rfl, rfl, h1, b1, b2, e2, hu, p.write rs h1 e (h2.eraseIdx _) ru1 h⟩
            · exact h.elim
          · exact h.elim
        · exact h.elim
      | reverse =>
        simp only at h
        split at h
        · cases rd
          exact mt_reverse pins s σ H _ _ vv us Q I rv ru ⟨_, _, rfl, rfl, h1, p.write rs h1 e h2.reverse .non h⟩
        · exact h.elim
    · exact h.elim
  · exact h.elim
/-! ### methods of texts -/
def smId : Sm → String
  | .join => "str.join"
  | .partition => "str.partition"
  | .startswith => "str.startswith"
  | .strip => "str.strip"
  | .lstrip => "str.lstrip"
  | .zfill => "str.zfill"
  | .split => "str.split"
  | .isdigit => "str.isdigit"
  | .isalnum => "str.isalnum"
def RSm (K : PySem.W.Frag) (m : Sm) : V → List V → Hp → VK → Prop := fun v ws H Q => ∃ x ds S Qd, RS K H S ∧ Rv K H x v ∧ Rvs K H ds ws ∧ smtS m x ds S Qd ∧ Post K H Qd Q
theorem smt_ok : ∀ m, MtR X (smId m) (RSm X.K m) := by
  intro m pins s σ H v ws vv us Q I rv ru h
  obtain ⟨x, ds, S, Qd, rs, rx, rd, h, p⟩ := h
  unfold smtS at h
  split at h
  · cases rx
    cases m with
    | join =>
      simp only at h
      split at h
      · obtain ⟨u, rfl, ru1⟩ := rd.one
        obtain ⟨ys, e, hz, h⟩ := h
        obtain ⟨a, vs, rfl, hq, q⟩ := rs.sget ru1 e
        have := q.strs
        subst this
        exact mt_join pins s σ H _ _ vv us Q I rv ru ⟨_, _, ys, rfl, rfl, hq, hz, p.now rs (.str _) h⟩
      · exact h.elim
    | partition =>
      simp only at h
      split at h
      · obtain ⟨u, rfl, ru1⟩ := rd.one
        cases ru1
        exact mt_partition pins s σ H _ _ vv us Q I rv ru ⟨_, _, rfl, rfl, h.1, h.2.1, p.tup rs (.cons (.str _) (.cons (.str _) (.cons (.str _) .nil))) h.2.2⟩
      · exact h.elim
    | startswith =>
      simp only at h
      split at h
      · obtain ⟨u, rfl, ru1⟩ := rd.one
        cases ru1
        exact mt_startswith pins s σ H _ _ vv us Q I rv ru ⟨_, _, rfl, rfl, p.now rs (.bl _) h⟩
      · exact h.elim
    | strip =>
      simp only at h
      split at h
      · obtain ⟨u, rfl, ru1⟩ := rd.one
        cases ru1
        exact mt_stripChars pins s σ H _ _ vv us Q I rv ru ⟨_, _, rfl, rfl, h.1, p.now rs (.str _) h.2⟩
      · exact h.elim
    | lstrip =>
      simp only at h
      split at h
      · obtain ⟨u, rfl, ru1⟩ := rd.one
        cases ru1
        exact mt_lstripChars pins s σ H _ _ vv us Q I rv ru ⟨_, _, rfl, rfl, h.1, p.now rs (.str _) h.2⟩
      · exact h.elim
    | zfill =>
      simp only at h
      split at h
      · obtain ⟨u, rfl, ru1⟩ := rd.one
        cases ru1
        exact mt_zfill pins s σ H _ _ vv us Q I rv ru ⟨_, _, rfl, rfl, h.1, p.now rs (.str _) h.2⟩
      · exact h.elim
    | split =>
      simp only at h
      split at h
      · obtain ⟨u, rfl, ru1⟩ := rd.one
        cases ru1
        exact mt_split pins s σ H _ _ vv us Q I rv ru ⟨_, _, rfl, rfl, h.1, h.2.1, p.lst rs (rvs_str _) h.2.2⟩
      · exact h.elim
    | isdigit =>
      simp only at h
      split at h
      · cases rd
        exact mt_isdigit pins s σ H _ _ vv us Q I rv ru ⟨_, rfl, rfl, trivial, p.now rs (.bl _) h⟩
      · exact h.elim
    | isalnum =>
      simp only at h
      split at h
      · cases rd
        exact mt_isalnum pins s σ H _ _ vv us Q I rv ru ⟨_, rfl, rfl, trivial, p.now rs (.bl _) h⟩
      · exact h.elim
  · exact h.elim
end
end Ev

/-! The check that a form is the form of a piece of the text. -/
namespace Ev
open PySem PySem.Spec PyProof.Rows L2

/-- what is known of a block's names -/
structure Sc where
  N : List Str
  sc : Scope
  stl : List (Str × NameKind)
  fns : List (Str × Nat)
  blt : List Str
  cst : List Str
  gcd : Bool
  lcm : Bool
  cm : Bool
  tp : Bool
  exc : List Str
  exn : List Str
  mks : List (Str × Bool)
  xis : List Str := []
  xfs : List Str := []
  kds : List Str := []
def Sc.vis (A : Sc) (i : Nat) (x : Str) : Bool := decide (A.N[i]? = some x) && (match A.sc.names.lookup x with | some .local => true | some .cell => true | some .free => true | _ => false) && !(x == ("__debug__" : Str)) && !(x == ("__classdict__" : Str))
def Sc.loc (A : Sc) (i : Nat) (x : Str) : Bool := decide (A.N[i]? = some x) && (match A.stl.lookup x with | some .local => true | some .cell => true | _ => false)
def Sc.lcl (A : Sc) (i : Nat) (x : Str) : Bool := decide (A.N[i]? = some x) && (match A.sc.names.lookup x with | some .local => true | _ => false)
def Sc.glb (A : Sc) (x : Str) : Bool := (match A.sc.names.lookup x with | some .globalImplicit => true | _ => false) && !(x == ("__debug__" : Str))
def Sc.bn (A : Sc) (x : Str) : Bool := A.glb x && A.blt.contains x && !(x == ("__name__" : Str))
/-- within a comprehension's block -/
def Sc.inn (A : Sc) (scope : Scope) : Sc := { A with sc := relS scope A.sc, stl := scope.names, tp := false }
def nst : Expr → Bool
  | .Starred .. => false
  | _ => true
def nsl : Expr → Bool
  | .Slice .. => false
  | _ => true
def ncl : Expr → Bool
  | .Call _ [] _ _ => false
  | _ => true
def nset : Expr → Bool
  | .Set .. => false
  | _ => true
/-- an expression whose test is its value's truth -/
def plt : Expr → Bool
  | .UnaryOp .Not .. => false
  | .BoolOp .. => false
  | .IfExp .. => false
  | .Compare .. => false
  | _ => true
def ncomp : Expr → Bool
  | .ListComp .. => false
  | .SetComp .. => false
  | .DictComp .. => false
  | _ => true
def ntup : Expr → Bool
  | .Tuple .. => false
  | .List .. => false
  | _ => true
/-- the names that a swapped store would take -/
def swNames (A : Sc) (ts : List Expr) : List Str := ts.filterMap fun
  | .Name id pos => if A.sc.names.lookup id == some .local && pos.line == (ts.head?.map (·.pos.line)).getD 0 then some id else none
  | _ => none
/-- two tuples written, not all names plain locals -/
def nsw (A : Sc) (xs : List Expr) : Expr → Bool
  | .Tuple vs _ _ => (swNames A xs).length != xs.length || vs.all (foldedForSure 8)
  | _ => false
def biNm : Bi → Str
  | .len => "len"
  | .abs => "abs"
  | .int => "int"
  | .min2 => "min"
  | .max2 => "max"
  | .tuple => "tuple"
  | .list => "list"
  | .gcd => "gcd"
  | .lcm => "lcm"
  | .str => "str"
  | .ord => "ord"
  | .divmod => "divmod"
  | .sorted => "sorted"
  | .dict => "dict"
def smNm : Sm → Str
  | .join => "join"
  | .partition => "partition"
  | .startswith => "startswith"
  | .strip => "strip"
  | .lstrip => "lstrip"
  | .zfill => "zfill"
  | .split => "split"
  | .isdigit => "isdigit"
  | .isalnum => "isalnum"
/-- written keys of a dict display -/
def keysW : List Str → List (Option Expr) → Bool
  | [], [] => true
  | k :: ks, some (.Constant (.str y) _ _) :: r => decide (k = y) && keysW ks r
  | _, _ => false
def isLcF : IE → Bool
  | .lc .. => true
  | _ => false
def tyNm : Ty → Str
  | .int => "int"
  | .bool => "bool"
  | .str => "str"
  | .tuple => "tuple"
  | .list => "list"
  | .own x => x
def meNm : Me → Str
  | .append => "append"
  | .pop => "pop"
  | .popat => "pop"
  | .reverse => "reverse"
def Sc.ty1 (A : Sc) (t : Ty) : Expr → Bool
  | .Name x _ => decide (x = tyNm t) && A.bn x && (match t with | .own _ => false | _ => true)
  | _ => false
def Sc.tys (A : Sc) : List Ty → List Expr → Bool
  | [], [] => true
  | t :: r, e :: es => A.ty1 t e && A.tys r es
  | _, _ => false
/-- classes that are asked of a caught exception -/
def Sc.xn1 (A : Sc) (c : Str) : Expr → Bool
  | .Name x _ => decide (x = c) && A.glb x && A.xis.contains x
  | _ => false
def Sc.xns (A : Sc) : List Str → List Expr → Bool
  | [], [] => true
  | c :: r, e :: es => A.xn1 c e && A.xns r es
  | _, _ => false
def ownOf (N : List Str) (l : List Nat) : List (Str × Nat) := l.map fun i => (N.getD i "", i)

mutual
def chkE (A : Sc) : IE → Expr → Bool
  | .var i, e => (match e with | .Name x _ => A.vis i x | _ => false)
  | .int i, e => (match e with | .Constant (.int j) _ _ => decide (i = j) | _ => false)
  | .bl b, e => (match e with | .Constant (.bool c) _ _ => decide (b = c) | _ => false)
  | .non, e => (match e with | .Constant .none _ _ => true | _ => false)
  | .str x, e => (match e with | .Constant (.str y) _ _ => decide (x = y) | _ => false)
  | .glo x, e => (match e with | .Name y _ => decide (x = y) && A.glb y && A.cst.contains y | _ => false)
  | .tup es, e => (match e with | .Tuple xs _ _ => chkEs A es xs && decide (xs.length ≤ 1000) | _ => false)
  | .lst es, e => (match e with | .List xs _ => chkEs A es xs && decide (xs.length ≤ 1000) | _ => false)
  | .bin op a b, e => (match e with | .BinOp l o r _ => decide (op = o) && chkE A a l && chkE A b r | _ => false)
  | .neg a, e => (match e with | .UnaryOp .USub x _ => chkE A a x | _ => false)
  | .cmp op a b, e => (match e with | .Compare l [o] [r] _ => decide (op = o) && chkE A a l && chkE A b r | _ => false)
  | .chn op op2 a b c, e => (match e with | .Compare l [o, o2] [r, r2] _ => decide (op = o) && decide (op2 = o2) && chkE A a l && chkE A b r && chkE A c r2 | _ => false)
  | .and a b, e => (match e with | .BoolOp .And (x :: y :: r) p => chkE A a x && chkE A b (.BoolOp .And (y :: r) p) | _ => false)
  | .or a b, e => (match e with | .BoolOp .Or (x :: y :: r) p => chkE A a x && chkE A b (.BoolOp .Or (y :: r) p) | _ => false)
  | .one a, e => (match e with | .BoolOp _ [x] _ => chkE A a x | _ => false)
  | .not a, e => (match e with | .UnaryOp .Not x _ => chkE A a x | _ => false)
  | .ifx c a b, e => (match e with | .IfExp t x y _ => chkC A c t && chkE A a x && chkE A b y | _ => false)
  | .idx a i, e => (match e with | .Subscript x s _ => chkE A a x && chkE A i s | _ => false)
  | .slc a lo hi, e => (match e with | .Subscript x (.Slice l h none _) _ => chkE A a x && chkO A lo l && chkO A hi h | _ => false)
  | .call f es, e => (match e with | .Call (.Name x _) args [] _ => decide (x = f) && A.glb x && decide (A.fns.lookup x = some args.length) && A.cm && chkEs A es args | _ => false)
  | .bi b es, e => (match e with | .Call (.Name x _) args [] _ => decide (x = biNm b) && (match b with | .gcd => A.glb x && A.gcd | .lcm => A.glb x && A.lcm | _ => A.bn x) && A.cm && chkEs A es args && !args.isEmpty | _ => false)
  | .isi a ts, e => (match e with
    | .Call (.Name x _) [y, t] [] _ => decide (x = "isinstance") && A.bn x && chkE A a y && (match t with
      | .Tuple xs _ _ => A.tys ts xs && !xs.isEmpty && decide (xs.length ≤ 1000)
      | t => (match ts with | [t1] => A.ty1 t1 t | _ => false))
    | _ => false)
  | .isx a c, e => (match e with
    | .Call (.Name x _) [y, t] [] _ => decide (x = "isinstance") && A.bn x && chkE A a y && A.xn1 c t
    | _ => false)
  | .isxs a cs, e => (match e with
    | .Call (.Name x _) [y, .Tuple xs _ _] [] _ => decide (x = "isinstance") && A.bn x && chkE A a y && A.xns cs xs && decide (xs.length ≤ 1000)
    | _ => false)
  | .mth m o es, e => (match e with | .Call (.Attribute x nm ap) args [] cp => decide (nm = meNm m) && chkE A o x && ncl x && chkEs A es args && decide (args.length < 29) && (ap.endLine == cp.line) | _ => false)
  | .fld o f, e => (match e with | .Attribute x nm _ => decide (nm = f) && chkE A o x && ncl x | _ => false)
  | .mcl o m es, e => (match e with | .Call (.Attribute x nm ap) args [] cp => decide (nm = m) && chkE A o x && ncl x && chkEs A es args && decide (args.length < 29) && (ap.endLine == cp.line) && A.cm | _ => false)
  | .mk y es, e => (match e with | .Call (.Name x _) args [] _ => decide (x = y) && A.glb x && (match A.mks.lookup x with | some b => b || args.isEmpty | none => false) && A.cm && chkEs A es args | _ => false)
  | .lc elt tg it ifs own, e => (match e with
    | .ListComp el [⟨t, i, cs, 0⟩] scope _ => A.cm && blkC A.N A.sc scope (ownOf A.N own) && chkI A it t i && chkG (A.inn scope) own tg t && chkE (A.inn scope) elt el && chkQ (A.inn scope) ifs cs
    | _ => false)
  | .smt m o es, e => (match e with | .Call (.Attribute x nm ap) args [] cp => decide (nm = smNm m) && chkE A o x && ncl x && chkEs A es args && decide (args.length ≤ 1) && (ap.endLine == cp.line) | _ => false)
  | .fldx o f, e => (match e with | .Attribute x nm _ => decide (nm = f) && chkE A o x && ncl x | _ => false)
  | .dct ks es, e => (match e with | .Dict keys vals _ => keysW ks keys && chkEs A es vals && decide (ks.length = vals.length) && decide (ks.length ≤ 15) && decide ks.Nodup | _ => false)
  | .rsl a, e => (match e with | .Subscript x (.Slice none none (some (.UnaryOp .USub (.Constant (.int 1) _ _) _)) _) _ => chkE A a x | _ => false)
  | .gix y a, e => (match e with | .Subscript (.Name x _) s _ => decide (x = y) && A.glb x && nsl s && chkE A a s && A.kds.contains x | _ => false)
  | .lck a _, e => (match e with | .ListComp el gs sc p => chkE A a (.ListComp el gs sc p) && isLcF a | _ => false)
def chkEs (A : Sc) : IEs → List Expr → Bool
  | .nil, l => (match l with | [] => true | _ => false)
  | .cons e r, l => (match l with | x :: t => chkE A e x && chkEs A r t | _ => false)
def chkQ (A : Sc) : IQ → List Expr → Bool
  | .no, l => (match l with | [] => true | _ => false)
  | .c c, l => (match l with | [x] => chkC A c x | _ => false)
def chkO (A : Sc) : IO → Option Expr → Bool
  | .no, o => (match o with | none => true | _ => false)
  | .some e, o => (match o with | some x => chkE A e x | _ => false)
def chkC (A : Sc) : IC → Expr → Bool
  | .and a b, e => (match e with | .BoolOp .And (x :: y :: r) p => chkC A a x && chkC A b (.BoolOp .And (y :: r) p) | _ => false)
  | .or a b, e => (match e with | .BoolOp .Or (x :: y :: r) p => chkC A a x && chkC A b (.BoolOp .Or (y :: r) p) | _ => false)
  | .one a, e => (match e with | .BoolOp _ [x] _ => chkC A a x | _ => false)
  | .not a, e => (match e with | .UnaryOp .Not x _ => chkC A a x | _ => false)
  | .cmp op a b, e => (match e with | .Compare l [o] [r] _ => decide (op = o) && chkE A a l && chkE A b r | _ => false)
  | .chn op op2 a b c, e => (match e with | .Compare l [o, o2] [r, r2] _ => decide (op = o) && decide (op2 = o2) && chkE A a l && chkE A b r && chkE A c r2 | _ => false)
  | .v a, e => chkE A a e && plt e
def chkI (A : Sc) : II → Expr → Expr → Bool
  | .seq e, _, x => chkE A e x && nset x
  | .rng1 a, _, x => (match x with | .Call (.Name n _) [y] [] _ => decide (n = "range") && A.bn n && chkE A a y | _ => false)
  | .rng2 a b, _, x => (match x with | .Call (.Name n _) [y, z] [] _ => decide (n = "range") && A.bn n && chkE A a y && chkE A b z | _ => false)
  | .rng3 a b c, _, x => (match x with | .Call (.Name n _) [y, z, u] [] _ => decide (n = "range") && A.bn n && chkE A a y && chkE A b z && chkE A c u | _ => false)
  | .enu e, t, x => (match t with
    | .Tuple .. => (match x with | .Call (.Name n _) [y] [] _ => decide (n = "enumerate") && A.bn n && chkE A e y | _ => false)
    | _ => false)
  | .zip a b, t, x => (match t with
    | .Tuple .. => (match x with | .Call (.Name n _) [y, z] [] _ => decide (n = "zip") && A.bn n && chkE A a y && chkE A b z | _ => false)
    | _ => false)
  | .rev e, _, x => (match x with | .Call (.Name n _) [y] [] _ => decide (n = "reversed") && A.bn n && chkE A e y | _ => false)
/-- a target; its slots lie in own -/
def chkG (A : Sc) (own : List Nat) : IG → Expr → Bool
  | .nm i, e => (match e with | .Name x _ => A.loc i x && own.contains i | _ => false)
  | .tup gs, e => (match e with | .Tuple xs _ _ => A.cm && chkGs A own gs xs | _ => false)
def chkGs (A : Sc) (own : List Nat) : IGs → List Expr → Bool
  | .nil, l => (match l with | [] => true | _ => false)
  | .cons g r, l => (match l with | x :: t => chkG A own g x && nst x && chkGs A own r t | _ => false)
end
/-- the swap of a comprehension with its one-line name -/
def swB (A : Sc) (x : Str) (py : Pos) : Expr → Bool
  | .ListComp _ _ scope pos => decide (A.sc.names.lookup x = some .local) && (py.line == pos.line) && !(scope.names.any fun (n, k) => n == x && (k == .local || k == .cell))
  | _ => false
mutual
def chkS (A : Sc) : IS → Stmt → Bool
  | .set i e, s => (match s with | .Assign [.Name x py] v _ => A.loc i x && chkE A e v && (ncomp v || (swB A x py v && decide (A.sc.names.lookup x = some .local)) || !swB A x py v) | _ => false)
  | .asg g e, s => (match s with | .Assign [.Tuple xs k p] v _ => chkG A (List.range A.N.length) g (.Tuple xs k p) && chkE A e v && (ntup v || nsw A xs v) && ncomp v | _ => false)
  | .par2 i j a b, s => (match s with
    | .Assign [.Tuple [.Name x px, .Name y py] _ tp] (.Tuple [u, v] _ _) _ => A.cm && A.lcl i x && A.lcl j y && chkE A a u && chkE A b v && decide (i ≠ j) && (px.line == py.line) && !(constantsAlone 8 u && constantsAlone 8 v) && !(foldedForSure 8 u && foldedForSure 8 v) && !(x == y)
    | _ => false)
  | .sub o i e, s => (match s with | .Assign [.Subscript x y _] v _ => chkE A o x && chkE A i y && nsl y && chkE A e v && ncomp v | _ => false)
  | .expr e, s => (match s with | .Expr v _ => chkE A e v && ncomp v | _ => false)
  | .ret e, s => (match s with | .Return (some v) _ => chkE A e v | _ => false)
  | .retN, s => (match s with | .Return none _ => true | _ => false)
  | .ifs c a b, s => (match s with | .If t x y _ => chkC A c t && chkSs A a x && chkSs A b y | _ => false)
  | .whl c b, s => (match s with | .While t x [] _ => chkC A c t && chkSs A b x | _ => false)
  | .for_ g it b, s => (match s with | .For t i x [] _ => A.cm && chkG A (List.range A.N.length) g t && chkI A it t i && nset i && chkSs A b x | _ => false)
  | .brk, s => (match s with | .Break _ => true | _ => false)
  | .cnt, s => (match s with | .Continue _ => true | _ => false)
  | .pass, s => (match s with | .Pass _ => true | _ => false)
  | .raise x es, s => (match s with
    | .Raise (some (.Call (.Name y _) (a :: r) [] _)) none _ => decide (x = y) && A.cm && A.exc.contains x && A.glb x && chkEs A es (a :: r)
    | _ => false)
  | .tryx b x t, s => (match s with
    | .Try u [.ExceptHandler (some (.Name y _)) none (v :: w) _] [] [] _ => decide (x = y) && A.tp && A.exn.contains x && A.glb x && chkSs A b u && chkSs { A with cm := false, tp := false } t (v :: w)
    | _ => false)
  | .tryas b x i t, s => (match s with
    | .Try u [.ExceptHandler (some (.Name y _)) (some n) (v :: w) _] [] [] _ => decide (x = y) && A.tp && A.exn.contains x && A.xis.contains x && A.glb x && A.lcl i n && chkSs A b u && chkSs { A with cm := false, tp := false } t (v :: w)
    | _ => false)
  | .raisef x e, s => (match s with
    | .Raise (some (.Call (.Name y _) [a] [] _)) none _ => decide (x = y) && A.cm && A.xfs.contains x && A.glb x && chkE A e a
    | _ => false)
  | .trym b hs, s => (match s with
    | .Try u (h :: r) [] [] _ => A.tp && chkSs A b u && chkH A hs (h :: r)
    | _ => false)
  | .aug i e, s => (match s with | .AugAssign (.Name x _) .Add v _ => A.loc i x && chkE A e v | _ => false)
  | .setf o f e, s => (match s with | .Assign [.Attribute x nm _] v _ => decide (nm = f) && chkE A o x && ncl x && chkE A e v && ncomp v | _ => false)
  | .never, _ => true
def chkH (A : Sc) : IHs → List ExceptHandler → Bool
  | .nil, l => (match l with | [] => true | _ => false)
  | .cons x i s r, l => (match l with
    | .ExceptHandler (some (.Name y _)) nm (v :: w) _ :: t => decide (x = y) && A.exn.contains x && A.glb x && (match i with
        | none => (match nm with | none => true | some _ => false)
        | some j => (match nm with | none => false | some n => A.xis.contains x && A.lcl j n)) && chkSs { A with cm := false, tp := false } s (v :: w) && chkH A r t
    | _ => false)
def chkSs (A : Sc) : ISs → List Stmt → Bool
  | .nil, l => (match l with | [] => true | _ => false)
  | .cons s r, l => (match l with | x :: t => chkS A s x && chkSs A r t | _ => false)
end
end Ev

/-! isinstance of a caught exception: one class, a tuple of classes. -/
namespace Ev
open PySem PySem.Spec PyProof.Rows L2
/-- isinstance(e, (c1, c2, ..)), e the exception that the suite holds -/
def rIsET (K : PySem.W.Frag) (D a : Addr) : List V → Hp → VK → Prop := fun xs H Q => ∃ (tp : Addr) (cs : List V) (us : List Value) (b : Bool), xs = [.ref a, .ref tp] ∧ H tp = some (.tup cs) ∧ Paired ClsV cs us ∧ PySem.W.kitAny K (.ref D) us = some b ∧ Q (.bl b) H
theorem call_isET {X : Cx} {a D : Addr} {oe : Obj} {pn : List (Addr × Obj)} (C : ExcC X.K D) (hz : Zc (.ref D) none oe) (hf : ∃ vs, oe.data = .fields vs) : CallR (X.suite a ((a, oe) :: pn)) (.builtin "isinstance") (rIsET X.K D a) := by
  intro pins s σ H xs us Q I r h
  obtain ⟨tp, cs, ws, b, rfl, hT, k, e, q⟩ := h
  obtain ⟨u1, u2, rfl, r1, r2⟩ := vals2 r
  cases (show u2 = Value.ref tp from r2)
  cases (show u1 = Value.ref a from r1)
  obtain ⟨hget, _⟩ := I.pin (a, oe) (List.mem_append.mpr (.inl List.mem_cons_self))
  obtain ⟨vs, hv⟩ := hf
  have J : PySem.W.InstAt s.heap a oe D none := by
    obtain ⟨oc, od, oda, osl⟩ := oe
    obtain ⟨h1, h2⟩ := hz
    dsimp only at h1 h2 hv
    subst h1 h2 hv
    exact ⟨hget, rfl, rfl, trivial⟩
  obtain ⟨_, its, rv, o, h1, h2, n, h3⟩ := (show ObjOk X.prog X.w H s.heap tp (.tup cs) from I.hok tp _ hT)
  have e3 := ClsV.all k rv
  subst e3
  obtain ⟨oc, od, dt, sl⟩ := o
  simp only at h2 h3
  subst h2 h3
  exact PySem.W.kia_tup (PySem.W.handS_kitx_exc C.hg C.hk C.hs C.hd C.ha C.hn C.ht C.hm) I.kIn J h1 e (fun z => nomatch z) fun tk => ⟨.bl b, H, I.tok tk, rfl, q⟩
end Ev

/-! An exception of a class over ValueError whose __init__ says super().__init__(text + field) and keeps the field. -/
namespace Ev
open PySem PySem.Spec PyProof.Rows L2
section
open PySem.W PySem.Calls PySem.HandSPX
/-- what is handed to super().__init__ -/
def initArg (f pre : Str) (isI : Bool) (k0 : Nat) (pc pn ps pk pb : Pos) : Expr :=
  .BinOp (.Constant (.str pre) k0 pc) .Add (if isI then .Call (.Name "str" ps) [.Name f pn] [] pk else .Name f pn) pb
/-- the text of such an __init__ -/
def InitT (f : Str) (isI : Bool) (params : Arguments) (body : List Stmt) (scope : Scope) : Prop :=
  ∃ (pre : Str) (k0 : Nat) (pc pn ps pk pb p0 p1 p2 p3 p4 q1 q2 q3 q4 a1 a2 : Pos),
    params = { posonlyargs := [], args := [{ arg := "self", annotation := none, pos := a1 }, { arg := f, annotation := none, pos := a2 }], vararg := none, kwonlyargs := [], kw_defaults := [], kwarg := none, defaults := [] } ∧
    body = [.Expr (.Call (.Attribute (.Call (.Name "super" p0) [] [] p1) "__init__" p2) [initArg f pre isI k0 pc pn ps pk pb] [] p3) p4, .Assign [.Attribute (.Name "self" q1) f q2] (.Name f q3) q4] ∧
    pre.length ≤ 1000 ∧ scope.names.lookup ("super" : Str) = some .globalImplicit ∧ scope.names.lookup ("__class__" : Str) = some .free ∧ scope.names.lookup ("self" : Str) = some .local ∧ scope.names.lookup f = some .local ∧
    (isI = true → scope.names.lookup ("str" : Str) = some .globalImplicit) ∧ (∀ x ∈ scope.names, x.2 ≠ .cell) ∧ scope.isCoroutine = false ∧ scope.isGenerator = false ∧ scope.kind = .function ∧
    (f == ("self" : Str)) = false ∧ (f == ("__debug__" : Str)) = false ∧ (p2.endLine == p3.line) = true
/-- what is told of the class and its __init__ -/
structure XTxt (P : Program) (K : Frag) (mg : Str → Option Value) (f : Str) (isI : Bool) (C fI : Addr) : Prop where
  cls : ∃ nm q N bs bm sn sub ab col dd k0 k1 k2 k3 k5, K.lookup C = some (excClassObj nm q C N bs bm true sn sub ab col dd k0 k1 k2 k3 k5 "ValueError.__new__") ∧ refsVE bm = true
  sa : findIn K (.ref C) "__setattr__" = some (some (.builtin "object.__setattr__"))
  noN : findIn K (.ref C) f = some none
  iC : findIn K (.ref C) "__init__" = some (some (.ref fI))
  tC : typeIn K (.ref fI) = some (.type "function")
  kC : keepIn K (.ref C) = true
  exC : subIn K (.ref C) (.type "BaseException") = some true
  tyC : typeIn K (.ref C) = some (.type "type")
  fn : ∃ (oc : Value) (od : Option Addr) (qual : Str) (params : Arguments) (body : List Stmt) (scope : Scope) (dV kV doc pm : Value) (an : Option Addr) (cda : Addr) (ct : Value) (cc : Addr) (osl : Array (Option Value)),
    K.lookup fI = some ⟨oc, od, .func (ksFn "__init__" qual params body scope dV kV doc pm an (.ref cda) ct cc), osl⟩ ∧ codeIn K (.ref cda) qual = true ∧
    (∃ (ccl : Value) (cdd : Option Addr) (vs : Array Value) (ccs : Array (Option Value)) (file : Str) (tf : Tok), K.lookup cda = some ⟨ccl, cdd, .fields vs, ccs⟩ ∧ vs[2]? = some (.str file tf) ∧ ((P.main.file : Str) == file) = true) ∧
    (∃ (cl : Value) (cld : Option Addr) (csl : Array (Option Value)), K.lookup cc = some ⟨cl, cld, .cell (some (.ref C)), csl⟩) ∧ InitT f isI params body scope ∧
    (∀ (s : Shared) (v w : Value), BindsTo s (ksFn "__init__" qual params body scope dV kV doc pm an (.ref cda) ct cc) ⟨[v, w], []⟩ [("self", v), (f, w)])
  sup : ks_superIn K C C "__init__" = some (some (.builtin "ValueError.__init__"))
  mro : mroIn K C (.ref C) = some true
  subV : subIn K (.ref C) (.type "ValueError") = some true
  any : nsIn K cStatics "thirdparty.any" = some none
  mS : mg "super" = none
  mT : isI = true → mg "str" = none
  top : (P.main.scope.names.lookup ("super" : Str)).isSome = false
/-- what may be handed in -/
def okArg (isI : Bool) (v : V) : Prop := if isI then ∃ i : Int, v = .int i ∧ i.natAbs.log2 < 1920 ∧ (Str.ofString (toString i)).length ≤ 1000 else ∃ z : Str, v = .str z ∧ z.length ≤ 1000
/-- what __init__ leaves of a fresh exception at x -/
structure InitEnd (f : Str) (h h' : Heap) (x C dx t1 : Addr) (v : Value) : Prop where
  keep : ∀ b o, b ≠ x → h.get? b = some o → h'.get? b = some o
  obj : h'.get? x = some { cls := .ref C, dict := some dx, data := .fields #[.ref t1, .none, .none, .none, .bool false, .none] }
  dbig : h.objs.size ≤ dx
  dne : dx ≠ x
  ns : h'.Ns1 dx (fun y => if y = f then some v else none)
structure OwnMade (f : Str) (h h' : Heap) (e C d : Addr) (v : Value) : Prop where
  keep : ∀ b o, h.get? b = some o → h'.get? b = some o
  new : h.objs.size ≤ e
  obj : ∃ oe vs, h'.get? e = some oe ∧ oe.cls = .ref C ∧ oe.dict = some d ∧ oe.data = .fields vs ∧ vs[1]? = some .none
  dbig : h.objs.size ≤ d
  dne : d ≠ e
  ns : h'.Ns1 d (fun y => if y = f then some v else none)
theorem one_size (v : Value) : [v].length ≤ sizeLine := by
  rw [sizeLine_eq]
  exact (by decide : 1 ≤ 16777216)
section
variable {prog : Program} {w : World} {A : Around} {E : Value → Shared → Prop} {R : Result → Shared → Prop} {s : Shared} {K : Frag} {mg mb : Str → Option Value} {C fI : Addr} {f : Str} {isI : Bool}
/-- the frame of such an __init__ -/
structure EnvI (env : Env) (scope : Scope) (L fI cda cc : Addr) : Prop where
  sc : env.scope = scope
  fu : env.func = some fI
  co : env.code = .ref cda
  lo : env.locals = L
  ce : env.cells.lookup ("__class__" : Str) = some cc
  gl : env.globals = mainGlobals
  bl : env.builtins = builtinsNs
theorem arg_ok {env : Env} {scope : Scope} {L fI cda cc : Addr} (En : EnvI env scope L fI cda cc) {pre : Str} {k0 : Nat} {pc pn ps pk pb : Pos} {v : Value} {vv : V} {m : Str → Option Value} {Q : Value → Shared → Prop}
    (hg : s.heap.Ns mainGlobals mg) (hb : s.heap.Ns builtinsNs mb) (hbb : ∀ x : Str, x ≠ "__name__" → mb x = bootBuiltins x) (hns : s.heap.Ns L m) (hm : m f = some v) (hk : scope.kind = .function) (hf : scope.names.lookup f = some .local) (hd : (f == ("__debug__" : Str)) = false)
    (hs : isI = true → scope.names.lookup ("str" : Str) = some .globalImplicit) (mT : isI = true → mg "str" = none) (hp : pre.length ≤ 1000) (rv : RelV vv v) (hv : okArg isI vv)
    (h : ∀ z t tk, Q (.str z t) { s with toks := tk }) : wpAny (model prog w) A (eval (initArg f pre isI k0 pc pn ps pk pb) env) Q E s := by
  have ldf : ∀ {s' : Shared} {Q' : Value → Shared → Prop}, s'.heap = s.heap → Q' v s' → wpAny (model prog w) A (eval (.Name f pn) env) Q' E s' := fun {s' Q'} e q => by
    refine wpAny_Name (wpAny_loadName_local (by rw [En.sc]; exact hk) (by show env.scope.names.lookup f = _; rw [En.sc]; exact hf) (by rw [En.lo, e]; exact hns) hm q) hd
  unfold initArg
  refine wpAny_BinOp (wpAny_Constant_str ?_)
  cases isI with
  | false =>
    obtain ⟨z, rfl, hz⟩ := hv
    obtain ⟨t, rfl⟩ := rv
    refine ldf rfl ?_
    exact add_str (fun t' tk => h _ _ _) (by have := sizeLine_eq; omega)
  | true =>
    obtain ⟨i, rfl, hz, hz2⟩ := hv
    obtain ⟨t, rfl⟩ := rv
    rw [if_pos rfl]
    refine wpAny_Call_Name_kw ?_
    refine Calls.Name_function_global (by rw [En.sc]; exact hk) (by show env.scope.names.lookup _ = _; rw [En.sc]; exact hs rfl) (Calls.loadGlobal_builtin (by rw [En.gl]; exact hg) (mT rfl) (by rw [En.bl]; exact hb) ((hbb _ (by decide)).trans (by decide +kernel : bootBuiltins ("str" : Str) = some (.type "str"))) ?_) (by decide)
    refine PyProof.Rows.callWith_type1 (Calls.spliced_cons (ldf rfl (Calls.spliced_nil ?_)))
    refine PySem.P.str_of_int hz ?_
    exact add_str (fun t' tk => h _ _ _) (by have := sizeLine_eq; omega)
theorem super_ok {env : Env} {scope : Scope} {L cda cc x t0 : Addr} (En : EnvI env scope L fI cda cc) {body : List Stmt} {pre : Str} {k0 : Nat} {pc pn ps pk pb p0 p1 p2 p3 : Pos} {v : Value} {vv : V} {m : Str → Option Value} {Q : Value → Shared → Prop} (hl : (p2.endLine == p3.line) = true)
    (X : K.In s.heap) (hg : s.heap.Ns mainGlobals mg) (hb : s.heap.Ns builtinsNs mb) (hbb : ∀ x : Str, x ≠ "__name__" → mb x = bootBuiltins x) (hns : s.heap.Ns L m) (hm : m f = some v) (hself : m "self" = some (.ref x)) (hx : s.heap.get? x = some (excO C t0)) (hnx : K.lookup x = none)
    (hk : scope.kind = .function) (n1 : scope.names.lookup ("super" : Str) = some .globalImplicit) (n2 : scope.names.lookup ("__class__" : Str) = some .free) (n3 : scope.names.lookup ("self" : Str) = some .local) (hf : scope.names.lookup f = some .local) (hd : (f == ("__debug__" : Str)) = false)
    (hs : isI = true → scope.names.lookup ("str" : Str) = some .globalImplicit) (mS : mg "super" = none) (mT : isI = true → mg "str" = none) (hp : pre.length ≤ 1000) (rv : RelV vv v) (hv : okArg isI vv)
    {of oc : Obj} {fd : FuncData} {ar : Arg} {vs : Array Value} {file : Str} {tf : Tok} {cdC : ClassData}
    (h1 : s.heap.get? fI = some of) (h2 : of.data = .func fd) (h3 : (fd.params.posonlyargs ++ fd.params.args).head? = some ar) (h3b : ar.arg = ("self" : Str)) (h4 : s.heap.get? cda = some oc) (h5 : oc.data = .fields vs) (h6 : vs[2]? = some (.str file tf)) (h7 : ((prog.main.file : Str) == file) = true)
    (h8 : (prog.main.scope.names.lookup ("super" : Str)).isSome = false) (h9 : s.heap.IsCell cc (some (.ref C))) (h10 : clsIn K C = some cdC) (h11 : mroIn K C (.ref C) = some true) (h12 : ks_superIn K C C "__init__" = some (some (.builtin "ValueError.__init__")))
    (h13 : nsIn K cStatics "thirdparty.any" = some none) (h14 : subIn K (.ref C) (.type "ValueError") = some true)
    {nm q : Str} {N : Addr} {bs bm : List Value} {sn : List Str} {sub : List Value} {ab : Bool} {col : Option Bool} {dd : Option Addr} {k0' k1 k2 k3 k5 : Option Value} (hC : s.heap.get? C = some (excClassObj nm q C N bs bm true sn sub ab col dd k0' k1 k2 k3 k5 "ValueError.__new__"))
    (hq : ∀ u h' t1 tk, (∀ b o, b ≠ x → s.heap.get? b = some o → h'.get? b = some o) → h'.get? x = some (excO C t1) → Q u { s with heap := h', toks := tk }) :
    PySem.wpAt (model prog w) A (.func body env) (eval (.Call (.Attribute (.Call (.Name "super" p0) [] [] p1) "__init__" p2) [initArg f pre isI k0 pc pn ps pk pb] [] p3) env) Q E s := by
  have kd : ∀ y, env.kindOf y = scope.names.lookup y := fun y => by show env.scope.names.lookup y = _; rw [En.sc]
  have hkE : env.scope.kind = .function := by rw [En.sc]; exact hk
  have he : eval (.Call (.Attribute (.Call (.Name "super" p0) [] [] p1) "__init__" p2) [initArg f pre isI k0 pc pn ps pk pb] [] p3) env = (do
      let ov ← attributeBase (.Call (.Name "super" p0) [] [] p1) "__init__" env (eval (.Call (.Name "super" p0) [] [] p1) env)
      standAt p2.atName
      let (fn, first) ← holding [ov] (getMethod ov "__init__" (do return (← importBound (.Call (.Name "super" p0) [] [] p1) env).getD true))
      callWith p3 fn first (backTo p3 (starEach [initArg f pre isI k0 pc pn ps pk pb] env)) []) := by
    have hfm : methodCallForm 1 (backTo p3 (starEach [initArg f pre isI k0 pc pn ps pk pb] env)) [] = true := rfl
    show (do
      let ov ← attributeBase (.Call (.Name "super" p0) [] [] p1) "__init__" env (eval (.Call (.Name "super" p0) [] [] p1) env)
      standAt p2.atName
      methodCall (.Call (.Name "super" p0) [] [] p1) "__init__" p2 p3 env ov 1 (backTo p3 (starEach [initArg f pre isI k0 pc pn ps pk pb] env)) []) = _
    unfold methodCall calleeOf methodCallPos
    simp only [hfm, hl, Bool.or_true, if_true, Bool.not_true, Bool.false_or, pure_bind]
  refine ks_wpAt_MethodCall (he := he) (ks_wpAt_super_base (by rw [kd]; exact n1) (by rw [kd]; exact n2) (by decide) En.fu h1 h2 h3 En.co h4 h5 h6 h7 h8 ?_)
  refine ks_loadName_global hkE (by rw [kd]; exact n1) (Calls.loadGlobal_builtin (by rw [En.gl]; exact hg) mS (by rw [En.bl]; exact hb) ((hbb _ (by decide)).trans (by decide +kernel : bootBuiltins ("super" : Str) = some (.type "super"))) ⟨rfl, ?_⟩)
  refine wpAny_loadName_free hkE (by rw [kd]; exact n2) En.ce h9 ?_
  rw [h3b]
  refine wpAny_loadName_local hkE (by rw [kd]; exact n3) (by rw [En.lo]; exact hns) hself ?_
  obtain ⟨oD, hD1, hD2⟩ : ∃ oD, s.heap.get? C = some oD ∧ oD.data = .cls cdC := by
    unfold clsIn at h10
    split at h10
    · rename_i c d cd' sl ho
      cases h10
      exact ⟨_, X _ _ ho, rfl⟩
    · cases h10
  refine ks_wpAny_isType_cls hD1 hD2 ⟨rfl, ?_⟩
  obtain ⟨hp0, g, d, t, os⟩ := s
  refine ks_wpAny_call_super hD1 hD2 hx rfl (fun c e => by cases e) (looks_mroIn X h11) fun h' e' kk => ?_
  have X' : K.In h' := X.keeps kk
  have hx' := kk _ _ hx
  have I' : InstAt h' x (excO C t0) C none := ⟨hx', rfl, rfl, trivial⟩
  have hI : Looks (model prog w) h' (isInstance (.ref x) (.type "ValueError")) true := I'.type.andThen (looks_subIn X' h14)
  unfold ks_superIn at h12
  rw [h10] at h12
  refine kxs_getMethod kxs_ValueError e' (looks_opaque X' h13) (l₀ := cdC.mro) (fun A Q E s k q => wpAny_bind ((looks_clsIn X' h10) A _ E s k (wpAny_pure q))) rfl X' h12 hI (ks_ne X' I' h10) (by decide) ?_
  generalize hhu : h'.objs.size = u
  have hu : (h'.push (kxs_mw "ValueError.__init__" x)).get? u = some (kxs_mw "ValueError.__init__" x) := by rw [← hhu]; exact Heap.get?_push_size _ rfl
  have kk2 : ∀ b o, hp0.get? b = some o → (h'.push (kxs_mw "ValueError.__init__" x)).get? b = some o := fun b o e => Heap.get?_push_of_some _ (kk b o e)
  generalize hh2 : h'.push (kxs_mw "ValueError.__init__" x) = h2' at hu kk2 ⊢
  have hx2 := kk2 _ _ hx
  have hC2 := kk2 _ _ hC
  refine kxs_callWith (i := "ValueError.__init__") (x := x) rfl (Calls.evalArgs_plain (Calls.spliced_cons ?_))
  refine arg_ok (s := ⟨h2', g, d, t + 1, os⟩) En (hg.keeps kk2) (hb.keeps kk2) hbb (hns.keeps kk2) hm hk hf hd hs mT hp rv hv fun z tz tk => Calls.spliced_nil ⟨hu, ?_⟩
  show wpAny (model prog w) A (call (.ref u) [.str z tz]) Q E _
  refine wpAny_call (codeAny_of_tree ?_)
  show wpAny _ A.in1 (callAny (.ref u) ⟨[.str z tz], []⟩) _ _ _
  simp only [callAny]
  refine wpAny_bind (wpAny_load hu ?_)
  simp only [kxs_mw, show (Value.type "method-wrapper" == Value.type "method" || Value.type "method-wrapper" == Value.type "builtin_function_or_method" || Value.type "method-wrapper" == Value.type "method-wrapper") = true by decide, if_true]
  refine KFB.if_so (by decide) ?_
  refine wpAny_bind (check_bound_init F.excBase_ValueError.toExcCallFacts hC2 hx2 rfl ?_)
  refine wpAny_bind (wpAny_pure (wpAny_pure ?_))
  refine ⟨plainId_quiet F.excBase_ValueError.init.plain _, codeAny_builtin F.excBase_ValueError.initEntry ?_⟩
  refine exc_init_tree (cls := .ref C) (t0 := t0) (dv := none) (c2 := .none) (c3 := .none) (b4 := .bool false) hx2 (one_size _) fun h3 k3 e3 t3 => ?_
  exact hq _ _ _ _ (fun b o hb e => k3 b o hb (kk2 b o e)) e3
theorem kept_but {K : Frag} {h h' : Heap} {x : Addr} (X : K.In h) (hx : K.lookup x = none) (k : ∀ b o, b ≠ x → h.get? b = some o → h'.get? b = some o) : K.In h' := fun a o e =>
  k a o (fun z => by rw [z, hx] at e; cases e) (X a o e)
theorem x_init (T : XTxt prog K mg f isI C fI) {x t0 : Addr} {v : Value} {vv : V} (X : K.In s.heap) (hg : s.heap.Ns mainGlobals mg) (hb : s.heap.Ns builtinsNs mb) (hbb : ∀ x : Str, x ≠ "__name__" → mb x = bootBuiltins x) (hlim : s.heap.NoLimit)
    (hx : s.heap.get? x = some (excO C t0)) (hnx : K.lookup x = none) (hroom : A.depth < recursionLimit) (rv : RelV vv v) (hv : okArg isI vv)
    (hq : ∀ h' tk dx t1, InitEnd f s.heap h' x C dx t1 v → R (.ok (.ret .none)) { s with heap := h', toks := tk }) :
    codeAny (model prog w) A (.call (.ref fI) ⟨[.ref x, v], []⟩) R s := by
  obtain ⟨oc, od, qual, params, body, scope, dV, kV, doc, pm, an, cda, ct, cc, osl, ho, hcd, ⟨ccl, cdd, vs, ccs, file, tf, hcode, hvs, hfile⟩, ⟨cl, cld, csl, hcell⟩, ⟨pre, k0, pc, pn, ps, pk, pb, p0, p1, p2, p3, p4, q1, q2, q3, q4, a1, a2, rfl, rfl, hpre, n1, n2, n3, n4, n5, n6, n7, n8, n9, n10, n11, n12⟩, hbind⟩ := T.fn
  obtain ⟨nm, q, N, bs, bm, sn, sub, ab, col, dd, k0', k1, k2, k3, k5, hC, hbm⟩ := T.cls
  have hcl : clsIn K C = some { name := nm, bases := bs, mro := .ref C :: bm, ns := N, qualname := q, hasDict := true, slotNames := sn, subclasses := sub, abstract := ab, collection := col, hasDel := false } := by unfold clsIn; rw [hC] <;> rfl
  refine ks_codeAny_call_defAt (binds := [("self", .ref x), (f, v)]) hroom (X _ _ ho) rfl hlim (codeRec_of X hcd) rfl (hbind s _ _) n6 ?_ (fun h₁ hns k => ?_) n7 n8 n9
  · intro y hy
    rcases List.mem_cons.mp hy with rfl | hy
    · exact n3
    · rw [List.mem_singleton.mp hy]; exact n4
  have X₁ : K.In h₁ := X.keeps k
  have hx₁ := k _ _ hx
  have hxL : s.heap.objs.size ≠ x := Nat.ne_of_gt (Heap.lt_size hx)
  have lSelf : (fun y => ([("self", Value.ref x), (f, v)] : List (Str × Value)).reverse.lookup y) "self" = some (.ref x) := by
    show List.lookup ("self" : Str) [(f, v), ("self", Value.ref x)] = _
    have : (("self" : Str) == f) = false := by rw [BEq.comm]; exact n10
    simp [List.lookup, this]
  have lF : (fun y => ([("self", Value.ref x), (f, v)] : List (Str × Value)).reverse.lookup y) f = some v := by
    show List.lookup f [(f, v), ("self", Value.ref x)] = _
    simp [List.lookup]
  have En : EnvI (callEnv (ksFn "__init__" qual { posonlyargs := [], args := [{ arg := "self", annotation := none, pos := a1 }, { arg := f, annotation := none, pos := a2 }], vararg := none, kwonlyargs := [], kw_defaults := [], kwarg := none, defaults := [] }
      [.Expr (.Call (.Attribute (.Call (.Name "super" p0) [] [] p1) "__init__" p2) [initArg f pre isI k0 pc pn ps pk pb] [] p3) p4, .Assign [.Attribute (.Name "self" q1) f q2] (.Name f q3) q4] scope dV kV doc pm an (.ref cda) ct cc) s.heap.objs.size fI) scope s.heap.objs.size fI cda cc :=
    ⟨rfl, rfl, rfl, rfl, rfl, rfl, rfl⟩
  generalize callEnv _ _ _ = env at En ⊢
  have hint : interactive env = false := by
    unfold interactive
    rw [En.sc, n9]
    rfl
  refine ks_wpAt_execs_cons (ks_wpAt_Expr_any ?_ hint rfl)
  refine super_ok (s := { s with heap := h₁, toks := _ }) (fI := fI) En n12 X₁ (hg.keeps k) (hb.keeps k) hbb hns lF lSelf hx₁ hnx n9 n1 n2 n3 n4 n11 n5 T.mS T.mT hpre rv hv (k _ _ (X _ _ ho)) rfl rfl rfl (k _ _ (X _ _ hcode)) rfl hvs hfile T.top ⟨_, k _ _ (X _ _ hcell), rfl⟩ hcl T.mro T.sup T.any T.subV (k _ _ (X _ _ hC)) ?_
  intro u h₂ t1 tk k₂ hx₂
  have X₂ : K.In h₂ := kept_but X₁ hnx k₂
  have oL := hns
  have hns₂ : h₂.Ns s.heap.objs.size (fun y => ([("self", Value.ref x), (f, v)] : List (Str × Value)).reverse.lookup y) := by
    obtain ⟨o, es, ep, e, r⟩ := hns
    exact ⟨o, es, ep, k₂ _ _ hxL e, r⟩
  have kd : ∀ y, env.kindOf y = scope.names.lookup y := fun y => by show env.scope.names.lookup y = _; rw [En.sc]
  have hkE : env.scope.kind = .function := by rw [En.sc]; exact n9
  refine wpAt_of_wpAny ?_
  show wpAny _ _ (execs _ _) _ _ _
  refine wpAny_execs_cons (plainObj_wpAny_Assign_Attribute ?_)
  refine wpAny_Name (wpAny_loadName_local hkE (by rw [kd]; exact n4) (by rw [En.lo]; exact hns₂) lF ?_) n11
  refine wpAny_Name (wpAny_loadName_local hkE (by rw [kd]; exact n3) (by rw [En.lo]; exact hns₂) lSelf ?_) (by decide)
  refine set_plain X₂ (ox := excO C t1) (od := none) ⟨hx₂, rfl, rfl, trivial⟩ T.sa ?_
  refine exc_osa X₂ hx₂ hcl (show refsVE (.ref C :: bm) = true from hbm) rfl T.noN (fun h₃ tk₃ dx k₃ dn dne hx₃ hn₃ => ?_)
  show wpAny _ _ (execs _ _) _ _ _
  have z : s.heap.objs.size < h₂.objs.size := hns₂.lt
  exact wpAny_execs_nil (hq h₃ tk₃ dx t1 ⟨fun b o hb e => k₃ b o hb (k₂ b o hb (k b o e)), hx₃, Nat.le_of_lt (Nat.lt_of_lt_of_le z dn), dne, hn₃⟩)
theorem x_made (T : XTxt prog K mg f isI C fI) {v : Value} {vv : V} (X : K.In s.heap) (hg : s.heap.Ns mainGlobals mg) (hb : s.heap.Ns builtinsNs mb) (hbb : ∀ x : Str, x ≠ "__name__" → mb x = bootBuiltins x) (hlim : s.heap.NoLimit) (hroom : A.depth + 1 < recursionLimit) (rv : RelV vv v) (hv : okArg isI vv)
    (hq : ∀ h' tk e d, OwnMade f s.heap h' e C d v → R (.ok (.ret (.ref e))) { s with heap := h', toks := tk }) :
    codeAny (model prog w) A (.call (.ref C) ⟨[v], []⟩) R s := by
  obtain ⟨nm, q, N, bs, bm, sn, sub, ab, col, dd, k0, k1, k2, k3, k5, hC, hbm⟩ := T.cls
  obtain ⟨hp, g, dr, tk, os⟩ := s
  have k : ∀ b o, hp.get? b = some o → ((hp.push (kdv_tup [v])).push (excO C hp.objs.size)).get? b = some o := fun b o e => Heap.get?_push_of_some _ (Heap.get?_push_of_some _ e)
  have hget : ((hp.push (kdv_tup [v])).push (excO C hp.objs.size)).get? (hp.objs.size + 1) = some (excO C hp.objs.size) := by heap_get
  have hnx : K.lookup (hp.objs.size + 1) = none := by
    cases e : K.lookup (hp.objs.size + 1) with
    | none => rfl
    | some o =>
      have z : hp.get? (hp.objs.size + 1) = some o := X _ _ e
      exact absurd (Nat.lt_of_succ_lt (Heap.lt_size z)) (Nat.lt_irrefl _)
  refine call_own F.excBase_ValueError (fun X => refsVE_contains X bm hbm) (X _ _ hC) (looks_findIn X T.iC) (fun self => bind_fn X self T.tC) (one_size v) ?_
  refine x_init (s := ⟨(hp.push (kdv_tup [v])).push (excO C hp.objs.size), g, dr, tk, os⟩) T (X.keeps k) (hg.keeps k) (hb.keeps k) hbb (hlim.keeps k) hget hnx ?_ rv hv fun h' tk' dx t1 ⟨k', hx, dn, dne, hns⟩ => ?_
  · show A.depth + 1 < recursionLimit
    exact hroom
  · have old : ∀ b o, hp.get? b = some o → h'.get? b = some o := fun b o e => k' b o (Nat.ne_of_lt (Nat.lt_succ_of_lt (Heap.lt_size e))) (k b o e)
    have z : hp.objs.size + 1 + 1 ≤ dx := by
      first
        | (simpa only [Heap.size_push] using dn)
        | exact dn
        | (have q := dn; rw [Heap.size_push, Heap.size_push] at q; exact q)
    exact ⟨rfl, hq h' tk' (hp.objs.size + 1) dx ⟨old, Nat.le_succ _, ⟨_, _, hx, rfl, rfl, rfl, rfl⟩, Nat.le_trans (Nat.le_trans (Nat.le_succ _) (Nat.le_succ _)) z, dne, hns⟩⟩
end
end
section
variable {X : Cx} {C fI : Addr} {f : Str} {isI : Bool}
theorem relO_x {v : V} {v' : Value} (r : RelV v v') (g : Str) : RelO (List.lookup g [(f, v)]) (if g = f then some v' else none) := by
  by_cases hw : g = f
  · subst hw
    rw [if_pos rfl]
    have q : List.lookup g [(g, v)] = some v := by simp [List.lookup]
    rw [q]
    exact r
  · rw [if_neg hw]
    have qw : (g == f) = false := by simpa using hw
    have q2 : List.lookup g [(f, v)] = none := by simp [List.lookup, qw]
    rw [q2]
    trivial
/-- C(e) -/
def tMkX (C : Addr) (f : Str) (isI : Bool) (ta : TA) : L2.St → Hp → XK → Prop := fun σ H Q => ta σ H fun vs H1 => ∃ v, vs = [v] ∧ okArg isI v ∧ ∀ d, H1 d = none → Q (.ref C) (some d) (upd H1 d (.xd [(f, v)]))
theorem pmk_x {a : Expr} {ta : TA} {x : Str} {p pos : Pos} {k : Nat} (T : XTxt X.prog X.K X.mg f isI C fI) (hr : Room k X.A) (hk : 1 ≤ k) (ha : PA X [a] ta) (hg : Gl X x) (hm : X.mg x = some (.ref C)) (hdb : (x == ("__debug__" : Str)) = false)
    (he : starEach (a :: []) X.env = (false, eval a X.env) :: starEach [] X.env) (hpl : (backTo pos (starEach [] X.env)).any (·.1) = false) :
    PMk X (.Call (.Name x p) [a] [] pos) (tMkX C f isI ta) := by
  intro pins s σ H Q I h
  refine wpAny_Call_Name_kw (ld_glob I hg hm ?_ hdb)
  refine PySem.W.callWith_K (h₀ := X.base) I.ok.mod.kin T.kC (thn (ha.run pos pins s σ H _ I h) fun us s1 hh => ?_) he hpl
  obtain ⟨vs, H1, I1, r1, v, ev, okv, q1⟩ := hh
  subst ev
  refine ⟨I1.kIn, ?_⟩
  cases r1 with
  | cons rv rn =>
    rename_i v' us'
    cases rn
    show wpAny _ _ (call (.ref C) [v']) _ _ _
    have hlim := I1.nolimit
    obtain ⟨mb, b1, b2⟩ := I1.mod.blt
    have hgl := I1.mod.glob.keeps I1.bk
    have hbl := b1.keeps I1.bk
    obtain ⟨hp, g, dr, tk, os⟩ := s1
    refine wpAny_call (x_made T I1.kIn hgl hbl b2 hlim (by have := hr.dp; omega) rv okv fun h' tk' e d M => ?_)
    show MkP X pins σ Q (.ref e) ⟨h', g, dr, tk', os⟩
    obtain ⟨oe, fv, hoe, hc, hd, hdat, h1⟩ := M.obj
    have hns := M.ns
    obtain ⟨G', g1, g2⟩ := restrict h' fun b => decide (b ≠ e)
    have gk : ∀ b, b ≠ e → G'.get? b = h'.get? b := fun b hb => g1 b (decide_eq_true hb)
    have ge : G'.get? e = none := g2 e (by simp)
    have old : ∀ b o, hp.get? b = some o → G'.get? b = some o := fun b o q => (gk b (Nat.ne_of_lt (Nat.lt_of_lt_of_le (Heap.lt_size q) M.new))).trans (M.keep b o q)
    have ob : ObjOk X.prog X.w (upd H1 d (.xd [(f, v)])) G' d (.xd [(f, v)]) :=
      ⟨_, hns.at (fun o q => (gk d M.dne).trans q), fun g => relO_x rv g⟩
    have J : Inv X pins σ (upd H1 d (.xd [(f, v)])) ⟨G', g, dr, tk', os⟩ := I1.laid (t' := tk') old M.dbig ob
    refine ⟨e, oe, fv, ⟨G', g, dr, tk', os⟩, _, .ref C, some d, rfl, J, fun b o q => ?_, ge, hoe, ⟨hc, hd⟩, hdat, h1, ?_, rfl, I1.bare, raises_own T.exC T.tyC, q1 d (I1.hok.fresh M.dbig)⟩
    · by_cases hb : b = e
      · have q' : G'.get? b = some o := q
        rw [hb, ge] at q'; cases q'
      · exact (gk b hb).symm.trans q
    · rw [upd_ne (Ne.symm M.dne)]
      exact I1.hok.fresh M.new
/-- what is told of a class whose exceptions' field is read -/
structure ExfC (K : PySem.W.Frag) (C : Addr) (f : Str) : Prop where
  ga : PySem.W.findIn K (.ref C) "__getattribute__" = some (some (.builtin "BaseException.__getattribute__"))
  gg : PySem.W.findIn K (.ref C) "__getattr__" = some none
  noN : PySem.W.findIn K (.ref C) f = some none
  hdC : PySem.W.hasDictIn K C = true
  exC : PySem.W.subIn K (.ref C) (.type "BaseException") = some true
/-- e.f, e the exception that the suite holds (at a, its dict at p) -/
def tXF (a p : Addr) (f : Str) (te : TE) : TE := fun σ H Q => te σ H fun x H1 => x = .ref a ∧ ∃ (fv : List (Str × V)) (v : V), H1 p = some (.xd fv) ∧ fv.lookup f = some v ∧ Q v H1
def XFR (X : Cx) (a p : Addr) (f : Str) : Prop := ∀ (e : Expr) (te : TE) (pos : Pos), PE X e te → attributeBase e f X.env (eval e X.env) = eval e X.env → PE X (.Attribute e f pos) (tXF a p f te)
theorem xfr_of {a p : Addr} {oe : Obj} {pn : List (Addr × Obj)} (T : ExfC X.K C f) (hz : Zc (.ref C) (some p) oe) (hf : ∃ vs, oe.data = .fields vs) : XFR (X.suite a ((a, oe) :: pn)) a p f := by
  intro e te pos he hb
  refine ⟨fun pins s σ H Q I h => ?_⟩
  refine attr_of hb (thn (he.run pins s σ H _ I h) fun u s1 hh => ?_)
  obtain ⟨x, H1, I1, rx, ex, fv, v, ea, l, q⟩ := hh
  subst ex
  obtain rfl : u = Value.ref a := rx
  obtain ⟨ha, _⟩ := I1.pin (a, oe) (List.mem_append_left _ List.mem_cons_self)
  obtain ⟨vs, hd⟩ := hf
  have hx : ObjOk X.prog X.w H1 s1.heap p (.xd fv) := I1.hok p _ ea
  obtain ⟨mA, hns, hr⟩ := hx
  obtain ⟨od, ho, hl⟩ := L2.lookIn_ns hns
  obtain ⟨u, hu, ru⟩ := RelO.some_of (v := v) (o := mA f) (by rw [← l]; exact hr f)
  have J : PySem.W.InstAt s1.heap a oe C (some od) := ⟨ha, hz.1, by unfold PySem.W.notCls; rw [hd] <;> rfl, by rw [hz.2]; exact ho⟩
  exact PySem.HandSPX.exc_get I1.kIn J T.ga T.gg T.exC (PySem.W.findObj_own T.hdC T.noN rfl (by rw [hl, hu])) (handed_of ru) ⟨v, H1, I1.tok _, ru, q⟩
end
end Ev

/-! A form that passes the check says what the text does: expressions. -/
namespace Ev
open PySem PySem.Spec PyProof.Rows L2

/-- a def's promise by the evaluator -/
def LF (K : PySem.W.Frag) (mg : Str → Option Value) (C : CallS) (f : Str) : Sp := fun vs H Q E => ∃ ds S Qd Ed, Rvs K H ds vs ∧ RS K H S ∧ C f ds S Qd Ed ∧ Post K H Qd Q ∧
  ∀ c d H' x S', Ext H H' → RX K mg H' x c d → RS K H' S' → Ed x S' → E c d H'
/-- what the library's big division asks -/
structure PyOk (X : Cx) : Prop where
  seer : X.base.NoSeer
  tree : X.prog.given.tree = none
  fr : ∃ env l, X.stack = env :: l ∧ env.scope.isGenerator = false ∧ env.scope.isCoroutine = false ∧ env.builtins = builtinsNs ∧ env.globals = mainGlobals
  dp : X.A.depth + Builtin.pylongFrames < recursionLimit
theorem PyOk.room {X : Cx} (p : PyOk X) {pins : List (Addr × Obj)} {σ : L2.St} {H : Hp} {s : Shared} (I : Inv X pins σ H s) : PylongRoom (model X.prog X.w) X.A s := by
  obtain ⟨env, l, h1, h2, h3, h4, h5⟩ := p.fr
  exact PylongRoom.of I.nolimit p.dp (SeerAt.of (p.seer.keeps I.bk) p.tree (by rw [I.ok.frames, h1]) h2 h3 h4 h5)
/-- the class of a name that is raised -/
def ExcW (K : PySem.W.Frag) (mg : Str → Option Value) (x : Str) : Prop := ∃ a : Addr, mg x = some (.ref a) ∧ PySem.W.keepIn K (.ref a) = true ∧
  PySem.W.excIn K a [.type "ValueError", .type "Exception", .type "BaseException", .type "object"] "ValueError.__new__" = true ∧ PySem.W.subIn K (.ref a) (.type "BaseException") = some true ∧ PySem.W.typeIn K (.ref a) = some (.type "type")
/-- the class of a name that a clause catches -/
def ExnW (G : Gl0) (K : PySem.W.Frag) (mg : Str → Option Value) (x : Str) : Prop := ∃ v : Value, (mg x = some v ∨ (mg x = none ∧ bootBuiltins x = some v ∧ x ≠ "__name__")) ∧
  ∀ c b, G.sub c x = some b → ∃ u, mg c = some u ∧ PySem.W.exmOne K u v = some b
/-- a class that is asked of a caught exception -/
def ExiW (G : Gl0) (K : PySem.W.Frag) (mg : Str → Option Value) (x : Str) : Prop := ∃ (c : V) (v : Value), ClsV c v ∧ (mg x = some v ∨ (mg x = none ∧ bootBuiltins x = some v ∧ x ≠ "__name__")) ∧
  ∀ k b, G.sub k x = some b → ∃ D : Addr, mg k = some (.ref D) ∧ ExcC K D ∧ PySem.W.kitOne K (.ref D) v = some b
/-- a class of the text -/
def ClsAt (K : PySem.W.Frag) (x : Str) (cls : Addr) : Prop := PySem.W.nsIn K mainGlobals x = some (some (.ref cls))
theorem ClsAt.eq {K : PySem.W.Frag} {x : Str} {c d : Addr} (h : ClsAt K x c) (g : PySem.W.nsIn K mainGlobals x = some (some (.ref d))) : d = c := by
  unfold ClsAt at h
  rw [h] at g
  cases g
  rfl
structure Good (G : Gl0) (C : CallS) (X : Cx) (W : WX) (A : Sc) : Prop where
  hN : X.N = A.N
  nd : X.N.Nodup
  sc : X.env.scope = A.sc
  fnc : ∀ x, A.stl.lookup x = some .cell → X.fn x = true
  stl : ∀ x k, k ≠ .free → A.stl.lookup x = some k → A.sc.names.lookup x = some k
  calm : A.cm = true → X.calm = true
  tk : Takes X W
  po : PassesOwn (model X.prog X.w) X.A X.env X.xe
  hu : X.A.units + 65 < cLine
  blt : ∀ x, A.blt.contains x = true → X.mg x = none
  gcd : A.gcd = true → X.mg "gcd" = some (.builtin "math.gcd")
  lcm : A.lcm = true → X.mg "lcm" = some (.builtin "math.lcm")
  cst : ∀ x, A.cst.contains x = true → ∃ d u v, G.cs x = some d ∧ X.mg x = some u ∧ RelV v u ∧ ∀ H, Rv X.K H d v
  fns : A.cm = true → ∀ f n, A.fns.lookup f = some n → ∃ (a : Addr) (fd : FuncData) (ps : List Str) (k : Nat), X.mg f = some (.ref a) ∧ PySem.W.keepIn X.K (.ref a) = true ∧ Binds X.K fd ps [] ∧ Room k X.A ∧
    FnOk X.prog X.w X.K X.mg X.base (CX X.prog X.w) k a fd ps (LF X.K X.mg C f)
  py : G.PY → PyOk X
  stk : A.tp = true → X.stack = X.env :: X.outer ∧ X.env.frame = some X.env.locals
  exc : ∀ x, A.exc.contains x = true → ExcW X.K X.mg x
  exn : ∀ x, A.exn.contains x = true → ExnW G X.K X.mg x
  mts : A.cm = true → ∀ x m key, G.mt x m = some key → ∃ (cls a : Addr) (fd : FuncData) (ps : List Str) (k : Nat), ClsAt X.K x cls ∧ Cls X.K cls ∧ Meth X.K cls m a ∧ Binds X.K fd ps [] ∧ Room k X.A ∧
    FnOk X.prog X.w X.K X.mg X.base (CX X.prog X.w) k a fd ps (LF X.K X.mg C key)
  mk0 : A.cm = true → ∀ x, A.mks.lookup x = some false → G.it x = some none ∧ ∃ cls : Addr, ClsAt X.K x cls ∧ X.mg x = some (.ref cls) ∧ PySem.W.keepIn X.K (.ref cls) = true ∧ PySem.W.makesIn X.K cls = true ∧
    PySem.W.findIn X.K (.ref cls) "__init__" = some (some (.builtin "object.__init__"))
  mk1 : A.cm = true → ∀ x, A.mks.lookup x = some true → ∃ (key : Str) (cls a : Addr) (fd : FuncData) (ps : List Str) (k : Nat), G.it x = some (some key) ∧ ClsAt X.K x cls ∧ X.mg x = some (.ref cls) ∧ Mk X.K cls a ∧ Binds X.K fd ps [] ∧ Room (k + 1) X.A ∧
    FnOk X.prog X.w X.K X.mg X.base (CX X.prog X.w) k a fd ps (LF X.K X.mg C key)
  fds : ∀ x f, G.fd x f = true → ∃ cls : Addr, ClsAt X.K x cls ∧ Cls X.K cls ∧ NoAttr X.K cls f
  exi : ∀ x, A.xis.contains x = true → ExiW G X.K X.mg x
  xcg : ∀ a e, G.xc = some (a, e) → A.cm = false ∧ A.tp = false ∧ ∃ D : Addr, X.mg e.cls = some (.ref D) ∧ (e.fs = [] → CallR X (.builtin "isinstance") (rIsE X.K D a) ∧ CallR X (.builtin "isinstance") (rIsET X.K D a)) ∧
    ∀ p, xpl e.fs = some p → ∀ f b, G.xf e.cls = some (f, b) → XFR X a p f
  xff : ∀ x f b, G.xf x = some (f, b) → ∃ C fI : Addr, X.mg x = some (.ref C) ∧ XTxt X.prog X.K X.mg f b C fI ∧ ExfC X.K C f
  xfs : ∀ x, A.xfs.contains x = true → ∃ f b, G.xf x = some (f, b)
  rm : A.cm = true → ∃ k, 1 ≤ k ∧ Room k X.A
  kdt : ∀ x, A.kds.contains x = true → ∃ kvs, G.kd x = some kvs ∧ ∃ p : Addr, X.mg x = some (.ref p) ∧ ∀ z d, lookS kvs z = some d → ∃ v, KDct X.K X.w p z v ∧ ∀ H, Rv X.K H d v

/-! ### what stands written -/
theorem kind_of {X : Cx} {A : Sc} (h : X.env.scope = A.sc) (x : Str) : X.env.kindOf x = A.sc.names.lookup x := by
  show X.env.scope.names.lookup x = _
  rw [h]
theorem vis_of {X : Cx} {A : Sc} {i : Nat} {x : Str} (hN : X.N = A.N) (hs : X.env.scope = A.sc) (h : A.vis i x = true) :
    X.N[i]? = some x ∧ Vis X.env.scope x ∧ (x == ("__debug__" : Str)) = false ∧ (x == ("__classdict__" : Str)) = false := by
  unfold Sc.vis at h
  simp only [Bool.and_eq_true, decide_eq_true_eq, Bool.not_eq_true'] at h
  obtain ⟨⟨⟨h1, h2⟩, h3⟩, h4⟩ := h
  refine ⟨by rw [hN]; exact h1, ?_, h3, h4⟩
  unfold Vis
  rw [hs]
  split at h2 <;> first | exact .inl ‹_› | exact .inr (.inl ‹_›) | exact .inr (.inr ‹_›) | cases h2
theorem loc_of {X : Cx} {A : Sc} {i : Nat} {x : Str} (hN : X.N = A.N) (hs : X.env.scope = A.sc) (stl : ∀ x k, k ≠ .free → A.stl.lookup x = some k → A.sc.names.lookup x = some k) (fnc : ∀ x, A.stl.lookup x = some .cell → X.fn x = true) (h : A.loc i x = true) :
    X.N[i]? = some x ∧ L2.Loc X.env.scope x ∧ (X.fn x = true ∨ X.env.scope.names.lookup x = some .local) := by
  unfold Sc.loc at h
  simp only [Bool.and_eq_true, decide_eq_true_eq] at h
  obtain ⟨h1, h2⟩ := h
  refine ⟨by rw [hN]; exact h1, ?_⟩
  unfold L2.Loc
  rw [hs]
  split at h2
  · rename_i e; exact ⟨.inl (stl _ _ (by decide) e), .inr (stl _ _ (by decide) e)⟩
  · rename_i e; exact ⟨.inr (stl _ _ (by decide) e), .inl (fnc x e)⟩
  · cases h2
theorem lcl_of {X : Cx} {A : Sc} {i : Nat} {x : Str} (hN : X.N = A.N) (hs : X.env.scope = A.sc) (h : A.lcl i x = true) : X.N[i]? = some x ∧ X.env.scope.names.lookup x = some .local := by
  unfold Sc.lcl at h
  simp only [Bool.and_eq_true, decide_eq_true_eq] at h
  obtain ⟨h1, h2⟩ := h
  refine ⟨by rw [hN]; exact h1, ?_⟩
  rw [hs]
  split at h2
  · assumption
  · cases h2
theorem glb_of {X : Cx} {A : Sc} {x : Str} (hs : X.env.scope = A.sc) (h : A.glb x = true) : Gl X x ∧ (x == ("__debug__" : Str)) = false := by
  unfold Sc.glb at h
  simp only [Bool.and_eq_true, Bool.not_eq_true'] at h
  obtain ⟨h1, h2⟩ := h
  refine ⟨?_, h2⟩
  unfold Gl
  rw [kind_of hs]
  split at h1
  · assumption
  · cases h1
theorem bn_of {G : Gl0} {C : CallS} {X : Cx} {W : WX} {A : Sc} {x : Str} (g : Good G C X W A) (h : A.bn x = true) : Gl X x ∧ (x == ("__debug__" : Str)) = false ∧ X.mg x = none ∧ x ≠ "__name__" := by
  unfold Sc.bn at h
  simp only [Bool.and_eq_true, Bool.not_eq_true'] at h
  obtain ⟨⟨h1, h2⟩, h3⟩ := h
  obtain ⟨q1, q2⟩ := glb_of g.sc h1
  exact ⟨q1, q2, g.blt x h2, fun e => by rw [e] at h3; exact absurd h3 (by decide)⟩
theorem star_cons {e : Expr} {es : List Expr} {env : Env} (h : nst e = true) : starEach (e :: es) env = (false, eval e env) :: starEach es env := by
  cases e <;> first | rfl | cases h
theorem chkE_nst {A : Sc} {ie : IE} {e : Expr} (h : chkE A ie e = true) : nst e = true := by
  cases e <;> first | rfl | (cases ie <;> cases h)
theorem chkE_nsl {A : Sc} {ie : IE} {e : Expr} (h : chkE A ie e = true) : nsl e = true := by
  cases e <;> first | rfl | (cases ie <;> cases h)
theorem chkE_nset {A : Sc} {ie : IE} {e : Expr} (h : chkE A ie e = true) : nset e = true := by
  cases e <;> first | rfl | (cases ie <;> cases h)
theorem chkEs_star {A : Sc} {env : Env} : ∀ {ies : IEs} {es : List Expr}, chkEs A ies es = true → (starEach es env).all (fun x => !x.1) = true ∧ (starEach es env).length = es.length
  | .nil, [], _ => ⟨rfl, rfl⟩
  | .nil, _ :: _, h => by cases h
  | .cons _ _, [], h => by cases h
  | .cons e r, x :: t, h => by
    simp only [chkEs, Bool.and_eq_true] at h
    obtain ⟨q1, q2⟩ := chkEs_star (env := env) h.2
    rw [star_cons (chkE_nst h.1)]
    exact ⟨by rw [List.all_cons, q1]; rfl, by rw [List.length_cons, q2, List.length_cons]⟩
theorem back_all {pos : Pos} {l : List (Bool × Sem Value)} (h : l.all (fun x => !x.1) = true) : (backTo pos l).all (fun x => !x.1) = true := by
  unfold backTo
  rw [List.all_map]
  exact h
theorem back_any {pos : Pos} {l : List (Bool × Sem Value)} (h : l.all (fun x => !x.1) = true) : (backTo pos l).any (·.1) = false := by
  unfold backTo
  rw [List.any_map]
  induction l with
  | nil => rfl
  | cons x r ih =>
    simp only [List.all_cons, Bool.and_eq_true, Bool.not_eq_true'] at h
    rw [List.any_cons, ih h.2]
    simp [h.1]
theorem base_ok {o : Expr} {f : Str} {env : Env} (h : ncl o = true) : attributeBase o f env (eval o env) = eval o env := by
  cases o <;> first
    | rfl
    | (rename_i fn args kw pos
       cases args with
       | nil => cases h
       | cons a r => cases fn <;> rfl)
theorem mark_ok {A : Sc} {ie : IE} {e : Expr} {op : CmpOp} (h : chkE A ie e = true) : behindInMarks op e = false := by
  have h := chkE_nset h
  cases e <;> first | rfl | cases h
theorem marks_ok {A : Sc} {ib : IE} {a b : Expr} {o1 o2 : CmpOp} (h : chkE A ib b = true) : lastMarks [o1, o2] [a, b] = false := mark_ok (op := o2) h
theorem fold_ok {env : Env} {e : Expr} (h : nset e = true) : ∀ x, foldedSetIterable e env x = pure x := by
  intro x
  cases e <;> first | rfl | cases h
theorem ix_ok {b : Expr} (h : nsl b = true) : PlainIx b := by
  intro o i
  cases b <;> first | rfl | cases h
theorem plt_ok {e : Expr} {env : Env} (h : plt e = true) : ∀ whole, isTrue e env whole = (do let v ← whole; standAt e.pos; holding [v] (truthy v)) := by
  intro whole
  cases e with
  | UnaryOp op x p => cases op <;> first | rfl | cases h
  | BoolOp => cases h
  | IfExp => cases h
  | Compare => cases h
  | _ => rfl

/-! ### lifting -/
section
variable {X : Cx} {W : WX}
/-- one part, then what is done with its value -/
theorem LE.then1 {fa : FE} {f : FE} {r : V → Hp → VK → Prop} (hf : ∀ E σ S Q, f E σ S Q → ∃ R : DK, fa E σ S R ∧ ∀ σ0 v H x S1 Qv, RS X.K H S1 → Rv X.K H x v → R x S1 → Post X.K H Q Qv → XP X W E σ0 H → r v H Qv) :
    ∀ σ H Q, LE X W f σ H Q → LE X W fa σ H fun v H1 => r v H1 Q := by
  rintro σ H Q ⟨σd, S, Qd, E, rn, rs, h, p, xp⟩
  obtain ⟨R, ha, hr⟩ := hf _ _ _ _ h
  exact ⟨σd, S, R, E, rn, rs, ha, fun v H1 x S1 e1 rx rs1 h1 => hr σ v H1 x S1 Q rs1 rx h1 (fun v' H' d S' e => p v' H' d S' (e1.trans e)) (xp.ext e1), xp⟩
theorem LE.bin {fa fb : FE} {R : D → D → Sto → DK → Prop} {r : R2} (hr : ∀ v w H Q, (∃ x y S Qd, RS X.K H S ∧ Rv X.K H x v ∧ Rv X.K H y w ∧ R x y S Qd ∧ Post X.K H Qd Q) → r v w H Q) :
    ∀ σ H Q, LE X W (fun E σ S Q => fa E σ S fun x S1 => fb E σ S1 fun y S2 => R x y S2 Q) σ H Q → tOp r (LE X W fa) (LE X W fb) σ H Q := by
  rintro σ H Q ⟨σd, S, Qd, E, rn, rs, h, p, xp⟩
  refine ⟨σd, S, _, E, rn, rs, h, fun v H1 x S1 e1 rx rs1 h1 => ⟨σd, S1, _, E, rn.ext e1, rs1, h1, fun w H2 y S2 e2 ry rs2 h2 => ?_, xp.ext e1⟩, xp⟩
  exact hr _ _ _ _ ⟨x, y, S2, Qd, rs2, rx.ext e2, ry, h2, fun v' H' d S' e => p v' H' d S' ((e1.trans e2).trans e)⟩
theorem LE.cmp {fa fb : FE} {op : CmpOp} : ∀ σ H Q, LE X W (fun E σ S Q => fa E σ S fun x S1 => fb E σ S1 fun y S2 => cmpS op x y S2 fun k => Q (.bl k) S2) σ H Q → tOp (RC X.K op) (LE X W fa) (LE X W fb) σ H Q := by
  refine LE.bin (R := fun x y S2 Q => cmpS op x y S2 fun k => Q (.bl k) S2) ?_
  rintro v w H Q ⟨x, y, S, Qd, rs, rx, ry, h, p⟩
  exact ⟨x, y, S, fun k => Qd (.bl k) S, rs, rx, ry, h, fun k hk => p.now rs (.bl k) hk⟩
theorem LT.cmp {fa fb : FE} {op : CmpOp} : ∀ σ H Q, LT X W (fun E σ S Q => fa E σ S fun x S1 => fb E σ S1 fun y S2 => cmpS op x y S2 fun k => Q k S2) σ H Q → tTest (tOp (RC X.K op) (LE X W fa) (LE X W fb)) σ H Q := by
  rintro σ H Q ⟨σd, S, Qd, E, rn, rs, h, p, xp⟩
  refine ⟨σd, S, _, E, rn, rs, h, fun v H1 x S1 e1 rx rs1 h1 => ⟨σd, S1, _, E, rn.ext e1, rs1, h1, fun w H2 y S2 e2 ry rs2 h2 => ?_, xp.ext e1⟩, xp⟩
  exact ⟨x, y, S2, fun k => Qd k S2, rs2, rx.ext e2, ry, h2, fun k hk => ⟨k, rfl, p k H2 S2 (e1.trans e2) rs2 hk⟩⟩
theorem LA.nil : ∀ σ H Q, LA X W 0 (fun E σ S Q => Q [] S) σ H Q → tNil σ H Q := by
  rintro σ H Q ⟨σd, S, Qd, E, rn, rs, h, p, xp⟩
  exact p [] H [] S (Ext.refl H) rfl .nil rs h
theorem LA.cons {n : Nat} {fa : FE} {fr : XS → En → Sto → (List D → Sto → Prop) → Prop} :
    ∀ σ H Q, LA X W (n + 1) (fun E σ S Q => fa E σ S fun d S1 => fr E σ S1 fun ds S2 => Q (d :: ds) S2) σ H Q → tCons (LE X W fa) (LA X W n fr) σ H Q := by
  rintro σ H Q ⟨σd, S, Qd, E, rn, rs, h, p, xp⟩
  refine ⟨σd, S, _, E, rn, rs, h, fun v H1 x S1 e1 rx rs1 h1 => ⟨σd, S1, _, E, rn.ext e1, rs1, h1, fun vs H2 ds S2 e2 hl rd rs2 h2 => ?_, xp.ext e1⟩, xp⟩
  exact p (v :: vs) H2 (x :: ds) S2 (e1.trans e2) (by rw [List.length_cons, hl]) (.cons (rx.ext e2) rd) rs2 h2
/-- a list of parts, then what is done with their values -/
theorem LE.args {n : Nat} {fs : XS → En → Sto → (List D → Sto → Prop) → Prop} {R : XS → List D → Sto → DK → Prop} {r : L2.St → List V → Hp → VK → Prop}
    (hr : ∀ σ vs H Q, (∃ ds S Qd E, RS X.K H S ∧ vs.length = n ∧ Rvs X.K H ds vs ∧ R E ds S Qd ∧ Post X.K H Qd Q ∧ XP X W E σ H) → r σ vs H Q) :
    ∀ σ H Q, LE X W (fun E σ S Q => fs E σ S fun ds S1 => R E ds S1 Q) σ H Q → LA X W n fs σ H fun vs H1 => r σ vs H1 Q := by
  rintro σ H Q ⟨σd, S, Qd, E, rn, rs, h, p, xp⟩
  refine ⟨σd, S, _, E, rn, rs, h, fun vs H1 ds S1 e1 hl rd rs1 h1 => ?_, xp⟩
  exact hr σ _ _ _ ⟨ds, S1, Qd, E, rs1, hl, rd, h1, fun v' H' d S' e => p v' H' d S' (e1.trans e), xp.ext e1⟩
end
end Ev

/-! Rules of one's own over the layer: an instance of a class without an __init__, enumerate of a tuple. -/
namespace Ev
open PySem PySem.Spec PyProof.Rows L2
section
variable {X : Cx} {cls : Addr} {x : Str} {p pos : Pos}
/-- a new instance of a class that has no __init__ but object's -/
def tNewI (cls : Addr) : TE := fun _ H Q => ∀ a dx, H a = none → H dx = none → dx ≠ a → Q (.ref a) (upd (upd H dx (.own a)) a (.ins cls dx []))
theorem pe_newI (hg : Gl X x) (hm : X.mg x = some (.ref cls)) (kp : PySem.W.keepIn X.K (.ref cls) = true) (mk : PySem.W.makesIn X.K cls = true) (hi : PySem.W.findIn X.K (.ref cls) "__init__" = some (some (.builtin "object.__init__")))
    (hdb : (x == ("__debug__" : Str)) = false) : PE X (.Call (.Name x p) [] [] pos) (tNewI cls) := by
  refine ⟨fun pins s σ H Q I h => ?_⟩
  refine wpAny_Call_Name_kw (ld_glob I hg hm ?_ hdb)
  refine PySem.W.callWith_K0 I.kIn kp (wpAny_call ?_)
  have q := h (s.heap.objs.size + 1) s.heap.objs.size (I.hok.fresh (Nat.le_succ _)) (I.hok.fresh (Nat.le_refl _)) (Nat.ne_of_lt (Nat.lt_succ_self _))
  have J := Inv.made (C := cls) I
  have Y := PySem.W.makes_of (M := model X.prog X.w) I.kIn mk
  have up : ∀ b o, s.heap.get? b = some o → ((s.heap.push PySem.W.emptyDict).push (PySem.W.instObj cls s.heap.objs.size)).get? b = some o := fun b o e => Heap.get?_push_of_some _ (Heap.get?_push_of_some _ e)
  have at_ : ((s.heap.push PySem.W.emptyDict).push (PySem.W.instObj cls s.heap.objs.size)).get? (s.heap.objs.size + 1) = some (PySem.W.instObj cls s.heap.objs.size) := by
    have z := Heap.get?_push_size (s.heap.push PySem.W.emptyDict) (o := PySem.W.instObj cls s.heap.objs.size) rfl
    rwa [Heap.size_push] at z
  have ty : PySem.W.Looks (model X.prog X.w) ((s.heap.push PySem.W.emptyDict).push (PySem.W.instObj cls s.heap.objs.size)) (isInstance (.ref (s.heap.objs.size + 1)) (.type "object")) true :=
    ((PySem.W.Looks.ld at_).andThen .now).andThen (Y.top.keeps up)
  refine make_map0 I.kIn mk hi (fun self => PySem.W.Looks.of_pure (PySem.W.oi_bind self)) ?_
  refine codeAny_call_builtin PySem.W.oi_plain PySem.W.entry_oi (PySem.W.check_slot (s := { s with heap := (s.heap.push PySem.W.emptyDict).push (PySem.W.instObj cls s.heap.objs.size) }) PySem.W.oi_kind PySem.W.oi_split ty (PySem.W.oi_args (.ref (s.heap.objs.size + 1))) ?_)
  rw [PySem.W.oi_run]
  exact wpAny_pure (And.intro rfl ⟨V.ref (s.heap.objs.size + 1), _, J, rfl, q⟩)
end
/-- a method's call, written out -/
theorem meth_eq {o : Expr} {m : Str} {apos pos : Pos} {es : List Expr} {env : Env} (hb : attributeBase o m env (eval o env) = eval o env) (hf : methodCallForm (es.length + ([] : List Keyword).length) (backTo pos (starEach es env)) (backToKw pos (keywordEach [] env)) = true)
    (hl : (apos.endLine == pos.line) = true) : eval (.Call (.Attribute o m apos) es [] pos) env = (do
      let ov ← eval o env
      standAt apos.atName
      let (f, first) ← holding [ov] (getMethod ov m (do return (← importBound o env).getD true))
      callWith pos f first (backTo pos (starEach es env)) (backToKw pos (keywordEach [] env))) := by
  show (attributeBase o m env (eval o env) >>= fun ov => standAt apos.atName >>= fun _ => methodCall o m apos pos env ov (es.length + ([] : List Keyword).length) (backTo pos (starEach es env)) (backToKw pos (keywordEach [] env))) = _
  rw [hb]
  refine bind_congr fun ov => bind_congr fun _ => ?_
  unfold methodCall calleeOf methodCallPos
  rw [hf, hl]
  rfl
/-! ### enumerate of a tuple -/
/-- a tuple's iterator, step by step -/
theorem draws_tuple {P : Program} {w : World} {A : Around} (hh : A.handled = none) (it l : Addr) (ne : l ≠ it) (items : Array Value) :
    Draws P w A it [it, l] items.size (fun i x => items[i]? = some x) (fun i h => h.IsTupleIter it l i ∧ h.IsTuple l items) where
  live := fun i h st => by
    obtain ⟨⟨o, e, _⟩, _⟩ := st
    exact ⟨o, e⟩
  frame := fun i h h' st k => by
    obtain ⟨⟨o, e, q⟩, ⟨u, e2, q2⟩⟩ := st
    exact ⟨⟨o, k it (by simp) o e, q⟩, ⟨u, k l (by simp) u e2, q2⟩⟩
  item := fun i s Q E hi st hQ => by
    obtain ⟨h1, h2⟩ := st
    refine RZ.nextOf_tuple_item h1 h2 (x := items[i]) (by simp [hi]) fun h' h1' sb => ?_
    exact hQ _ h' s.toks (by simp [hi]) ⟨h1', h2.extBut sb.extBut ne⟩ sb
  done := fun s Q E st hE => by
    obtain ⟨h1, h2⟩ := st
    exact RZ.nextOf_tuple_end hh h1 h2 (by simp) hE
/-- enumerate(t) is made -/
theorem enum_made (l : Addr) (items : Array Value) (n : Nat) (dct : Option Addr) (sl : Array (Option Value)) : Meets (Builtin.«enumerate.__new__» ⟨[.type "enumerate", .ref l], []⟩) (fun _ R s =>
      s.heap.get? l = some { cls := .type "tuple", dict := dct, data := .seq items n, slots := sl } ∧ R (.ok (.ret (.ref (s.heap.push { cls := .type "tuple_iterator", data := .fields #[.ref l, .int 0 0] }).objs.size)))
        { s with heap := (s.heap.push { cls := .type "tuple_iterator", data := .fields #[.ref l, .int 0 0] }).push { cls := .type "enumerate", data := .fields #[.none, .bool false, .ref s.heap.objs.size, rawInt 0, .none, .none] } }) :=
  .of_wp fun prog w A R s h => by
    obtain ⟨hp, g, d, tk, os⟩ := s
    obtain ⟨hl, h⟩ := h
    have sub := sub_enumerate
    have ht : (Shared.heap ⟨hp, g, d, tk, os⟩).IsTuple l items := ⟨_, hl, rfl, n, rfl⟩
    wp_walk using PySem.AutoSeq1.wpAny_loadPart' hl
    refine wpAny_stack_any fun st => ?_
    refine wpAny_pure ?_
    split
    · rename_i c _ _ _ _ _
      cases (c == Value.type "enumerate") <;> wp_walk using PySem.AutoSeq1.wpAny_loadPart' hl, wpAny_pyIter_tuple ht <;> exact ⟨_, rfl, h⟩
    · wp_walk using PySem.AutoSeq1.wpAny_loadPart' hl, wpAny_pyIter_tuple ht
      exact ⟨_, rfl, h⟩
theorem call_enum_tuple {prog : Program} {w : World} {A : Around} {E : Value → Shared → Prop} {s : Shared} {l : Addr} {items : Array Value} {Q : Value → Shared → Prop} (hL : s.heap.IsTuple l items)
    (h : ∀ h', IsEnum h' (s.heap.objs.size + 1) s.heap.objs.size 0 .none → h'.IsTupleIter s.heap.objs.size l 0 → (∀ b o, s.heap.get? b = some o → h'.get? b = some o) → Q (.ref (s.heap.objs.size + 1)) { s with heap := h' }) :
    wpAny (model prog w) A (call (.type "enumerate") [.ref l]) Q E s := by
  obtain ⟨⟨c, dct, dt, sl⟩, hl, hc, n, hd⟩ := hL
  obtain rfl : c = .type "tuple" := hc
  obtain rfl : dt = .seq items n := hd
  have made := enum_made l items n dct sl
  refine callType_new F.called_enumerate (by decide) (F.typeCall_enumerate_1 _) (F.newCall_enumerate_1 _) (fun obj => F.args_object_init_2 obj _) F.entry_enumerate_new made ⟨hl, ?_⟩
  have hz : (s.heap.push { cls := .type "tuple_iterator", data := .fields #[.ref l, .int 0 0] }).objs.size = s.heap.objs.size + 1 := Heap.size_push ..
  show _ ∧ _
  rw [hz]
  have he := Heap.get?_push_size (s.heap.push { cls := .type "tuple_iterator", data := .fields #[.ref l, .int 0 0] }) (o := { cls := .type "enumerate", data := .fields #[.none, .bool false, .ref s.heap.objs.size, rawInt 0, .none, .none] }) rfl
  rw [hz] at he
  refine ⟨⟨_, he, rfl⟩, h _ he ⟨_, Heap.get?_push_of_some _ (Heap.get?_push_size _ rfl), rfl, rfl⟩ fun b o x => ?_⟩
  exact Heap.get?_push_of_some _ (Heap.get?_push_of_some _ x)
theorem next_enumT_end {prog : Program} {w : World} {A : Around} {E : Value → Shared → Prop} {s : Shared} {e it l : Addr} {i : Nat} {items : Array Value} {old : Value} {Q : Option Value → Shared → Prop} (hh : A.in1.handled = none)
    (he : IsEnum s.heap e it i old) (hit : s.heap.IsTupleIter it l i) (hl : s.heap.IsTuple l items) (hx : items[i]? = none) (hQ : ∀ h', Heap.ExtBut it s.heap h' → Q none { s with heap := h' }) : wpAny (model prog w) A (pyNext (.ref e)) Q E s := by
  have ty : s.TypeIs (.ref e) "enumerate" := ⟨_, he, rfl⟩
  unfold pyNext
  have nx := F.slot_enumerate_next
  refine wpAny_bind (wpAny_attempt (wpAny_callSpecial?_slot (name := Str.ofString "__next__") ty nx (wpAny_call_entry nx ty F.entry_enumerate_next ?_ (F.args_enumerate_next_1 _))))
  show wpAny _ _ (field (.ref e) 2 >>= _) _ _ _
  refine wpAny_bind (wpAny_field he rfl (x := .ref it) rfl (wpAny_bind (RZ.nextOf_tuple_end hh hit hl hx fun h' y eb hy => ?_)))
  obtain ⟨o, ho, hc⟩ := hy
  exact wpAny_bind (wpAny_isInstance (T := "StopIteration") (b := true) ⟨o, ho, hc⟩ isSubtype_stop (wpAny_pure (hQ _ eb)))
/-- the tuple at a, each item in a new pair -/
def IteT (K : PySem.W.Frag) (a : Addr) : It where
  go := fun i H => ∃ (xs : List V) (x : V), SqT K H a xs ∧ xs[i]? = some x
  yld := fun i H v H' => ∃ p x, v = .ref p ∧ H p = none ∧ H' = upd H p (.tup [.int (i : Nat), x]) ∧ ∀ xs, SqT K H a xs → xs[i]? = some x
  stop := fun i H => ∃ xs : List V, SqT K H a xs ∧ xs.length ≤ i
theorem turn_enumT {P : Program} {w : World} {K : PySem.W.Frag} {elts : List Expr} {kk : Nat} {tpos : Pos} (a e it : Addr) :
    Turn P w K (.Tuple elts kk tpos) (IteT K a) [e, it] e (fun i h => (∃ old, IsEnum h e it ((i : Nat) : Int) old) ∧ h.IsTupleIter it a i ∧ e ≠ it ∧ e ≠ a ∧ a ≠ it) where
  mem := List.mem_cons_self
  obj := fun i h st b hb => by
    obtain ⟨⟨old, he⟩, ⟨o, ho, hc, hd⟩, _⟩ := st
    rcases List.mem_cons.mp hb with z | z
    · subst z
      exact ⟨_, he, fun v q => nomatch q⟩
    · have z := List.mem_singleton.mp z
      subst z
      exact ⟨o, ho, fun v q => by rw [hd] at q; cases q⟩
  keep := fun i h h' st k => by
    obtain ⟨⟨old, he⟩, ⟨o, ho, q⟩, r⟩ := st
    exact ⟨⟨old, k e (by simp) _ he⟩, ⟨o, k it (by simp) o ho, q⟩, r⟩
  item := by
    intro X hP hw hK hc i pins s σ H E I hf st hg
    subst hP hw hK
    obtain ⟨⟨old, he⟩, hit, ne1, ne2, ne3⟩ := st
    obtain ⟨xs, x, hq, hx⟩ := hg
    obtain ⟨its, rv, p, hz⟩ := I.tuple hq
    obtain ⟨u, hu, ru⟩ := rv.get hx
    have el : e < s.heap.objs.size := Heap.lt_size he
    have il : it < s.heap.objs.size := by obtain ⟨_, q, _⟩ := hit; exact Heap.lt_size q
    have hi : i < its.toArray.size := by
      have := (List.getElem?_eq_some_iff.mp hu).1
      simpa using this
    have hh : X.A.in1.handled = none := I.ok.hd hc
    refine wpAny_pyNext_enum_itemD (draws_tuple hh it a ne3 its.toArray) he ⟨hit, show s.heap.IsTuple a its.toArray from p⟩ hi ne1 (by simp [ne1, ne2]) fun y h' tk hy ho st' hT hsz hk => ?_
    have hy : its[i]? = some y := by simpa using hy
    have ey : u = y := by rw [hu] at hy; exact Option.some.inj hy
    subst ey
    refine ⟨_, rfl, wpAny_letOwnedTupleGo_enum (s := { s with heap := h', toks := tk + 1 }) ho fun h'' he' sb => ?_⟩
    have hT2 : h''.get? s.heap.objs.size = some { cls := .type "tuple", data := .seq #[.int i tk, u] } := (sb.2 _ (Nat.ne_of_gt el)).trans hT
    have new : ObjOk X.prog X.w (upd H s.heap.objs.size (.tup [.int (i : Nat), x])) h'' s.heap.objs.size (.tup [.int (i : Nat), x]) :=
      ⟨(by decide : (2 : Nat) ≤ sizeLine), [.int i tk, u], .cons ⟨_, rfl⟩ (.cons ru .nil), _, hT2, rfl, _, rfl⟩
    have I1 : Inv X pins σ (upd H s.heap.objs.size (.tup [.int (i : Nat), x])) { s with heap := h'', toks := tk + 1 } := by
      refine I.turnedNew (ch := [e, it]) (fun b ob hb q => ?_) hf (Nat.le_refl _) new
      have b1 : b ≠ e := fun z => hb (by simp [z])
      have b2 : b ≠ it := fun z => hb (by simp [z])
      exact (sb.2 b b1).trans (hk b ob b1 b2 q)
    refine ⟨.ref s.heap.objs.size, _, I1, rfl, ⟨_, x, rfl, I.hok.fresh (Nat.le_refl _), rfl, fun ys hys => by rw [I.tuple_inj hys hq]; exact hx⟩, ⟨⟨u, ?_⟩, st'.1.at fun o q => (sb.2 it (Ne.symm ne1)).trans q, ne1, ne2, ne3⟩, fun b hb => ?_⟩
    · rw [show ((i + 1 : Nat) : Int) = (i : Int) + 1 by omega]
      exact he'
    · have bl : b < s.heap.objs.size := by
        rcases List.mem_cons.mp hb with z | z
        · rw [z]; exact el
        · rw [List.mem_singleton.mp z]; exact il
      rw [upd_ne (Nat.ne_of_lt bl)]
      exact (hf b hb).1
  done := by
    intro X hP hw hK hc i pins s σ H E I hf st hg
    subst hP hw hK
    obtain ⟨⟨old, he⟩, hit, ne1, ne2, ne3⟩ := st
    obtain ⟨xs, hq, hx⟩ := hg
    obtain ⟨its, rv, p, hz⟩ := I.tuple hq
    have f := hf it (by simp)
    have hl := rv.length
    have hh : X.A.in1.handled = none := I.ok.hd hc
    obtain ⟨f0, f1, f2, f3, f4, f5⟩ := f
    exact next_enumT_end hh he hit (show s.heap.IsTuple a its.toArray from p) (by simp; omega) fun h' eb => ⟨rfl, I.turned (t' := s.toks) (fun b o hb q => eb b o hb q) f0 f1 f3 f4 f5⟩
  self := fun A i s Q E st h => by
    obtain ⟨⟨_, he⟩, _⟩ := st
    exact wpAny_pyIter_enum he h
/-- enumerate(x), x a list or a tuple -/
def iEnumA (K : PySem.W.Frag) (ta : TA) : TI := fun σ H R => ta σ H fun vs H1 => ∃ a, vs = [.ref a] ∧ (((∃ xs, SqL K H1 a xs) ∧ R (Ite K a) H1) ∨ ((∃ xs, SqT K H1 a xs) ∧ R (IteT K a) H1))
theorem pi_enumA {X : Cx} {e : Expr} {ta : TA} {p pos tpos : Pos} {elts : List Expr} {kk : Nat} (hg : Gl X "enumerate") (hm : X.mg "enumerate" = none) (ha : PA X [e] ta) (hs : starEach [e] X.env = [(false, eval e X.env)]) :
    PI X (.Tuple elts kk tpos) (.Call (.Name "enumerate" p) [e] [] pos) (iEnumA X.K ta) := by
  refine ⟨fun pins s σ H R I h => ?_⟩
  refine Call_ (ld_blt I hg hm boot_enumerate (PyProof.Rows.callWith_type1 (thn (ha.run pos pins s σ H _ I h) fun us s1 ⟨vs, H1, I1, r1, q1⟩ => ?_) hs rfl))
  obtain ⟨a, rfl, q⟩ := q1
  cases r1 with
  | cons r rr =>
    cases rr
    cases r
    have fp : ∀ b, b ∈ [s1.heap.objs.size + 1, s1.heap.objs.size] → FpOk X pins H1 b := fun b hb => by
      have le : s1.heap.objs.size ≤ b := by
        rcases List.mem_cons.mp hb with z | z
        · rw [z]; exact Nat.le_succ _
        · rw [List.mem_singleton.mp z]; exact Nat.le_refl _
      exact I1.fpOk le (I1.hok.fresh le)
    rcases q with ⟨⟨xs, hq⟩, q⟩ | ⟨⟨xs, hq⟩, q⟩
    · obtain ⟨its, rv, p', hz⟩ := I1.list hq
      refine call_enumerate_list p'.isList fun h' he hit hsz hk => wpAny_pyIter_enum he ?_
      have I2 : Inv X pins σ H1 { s1 with heap := h' } := I1.kept (t' := s1.toks) hk
      exact ⟨s1.heap.objs.size + 1, _, _, _, H1, rfl, I2, turn_enum a (s1.heap.objs.size + 1) s1.heap.objs.size, ⟨⟨.none, he⟩, hit, Nat.succ_ne_self _⟩, fp, q⟩
    · obtain ⟨its, rv, p', hz⟩ := I1.tuple hq
      have ht : s1.heap.IsTuple a its.toArray := p'
      have al : a < s1.heap.objs.size := by obtain ⟨_, z, _⟩ := ht; exact Heap.lt_size z
      refine call_enum_tuple ht fun h' he hit hk => wpAny_pyIter_enum he ?_
      have I2 : Inv X pins σ H1 { s1 with heap := h' } := I1.kept (t' := s1.toks) hk
      exact ⟨s1.heap.objs.size + 1, _, _, _, H1, rfl, I2, turn_enumT a (s1.heap.objs.size + 1) s1.heap.objs.size, ⟨⟨.none, he⟩, hit, Nat.succ_ne_self _, Nat.ne_of_gt (Nat.lt_succ_of_lt al), Nat.ne_of_lt al⟩, fp, q⟩
/-! ### calls whose exceptions are wished for at the caller's slots -/
section
variable {X : Cx} {W : WX} {k : Nat} {f cls : Addr} {fd : FuncData} {ps : List Str} {sp : Sp} {x m : Str} {p pos apos : Pos} {e o : Expr} {es : List Expr} {ta : TE} {t : TA}
theorem pe_call0S (F : FnOk X.prog X.w X.K X.mg X.base (CX X.prog X.w) k f fd ps sp) (hr : Room k X.A) (hg : Gl X x) (hm : X.mg x = some (.ref f)) (hk : PySem.W.keepIn X.K (.ref f) = true) (hb : Binds X.K fd ps []) (tk : Takes X W) (hdb : (x == ("__debug__" : Str)) = false) :
    PE X (.Call (.Name x p) [] [] pos) (fun σ H Q => sp [] H Q (WE W σ)) := by
  refine ⟨fun pins s σ H Q I h => ?_⟩
  refine wpAny_Call_Name_kw (ld_glob I hg hm ?_ hdb)
  exact PySem.W.callWith_K0 I.kIn hk (run_fnS (E := WE W) (us := []) F hr hb (passAt tk σ) I .nil h)
/-- o.m(..), the class as the instance says -/
def tMethG (X : Cx) (W : WX) (m : Str) (ta : TE) (t : TA) : TE := fun σ H Q => ta σ H fun x H1 => ∃ (a cls dx : Addr) (fs : List (Str × V)) (f : Addr) (fd : FuncData) (ps : List Str) (k : Nat) (sp : Sp), x = .ref a ∧ H1 a = some (.ins cls dx fs) ∧ fs.lookup m = none ∧
  Cls X.K cls ∧ Meth X.K cls m f ∧ FnOk X.prog X.w X.K X.mg X.base (CX X.prog X.w) k f fd ps sp ∧ Room k X.A ∧ Binds X.K fd ps [] ∧ t σ H1 fun vs H2 => sp (x :: vs) H2 Q (WE W σ)
theorem pe_methG (he : PE X o ta) (ha : PA X (e :: es) t) (tk : Takes X W) (hb : attributeBase o m X.env (eval o X.env) = eval o X.env) (hf : methodCallForm ((e :: es).length + ([] : List Keyword).length) (backTo pos (starEach (e :: es) X.env)) (backToKw pos (keywordEach [] X.env)) = true)
    (hl : (apos.endLine == pos.line) = true) (hst : starEach (e :: es) X.env = (false, eval e X.env) :: starEach es X.env) (hpl : (backTo pos (starEach es X.env)).any (·.1) = false) :
    PE X (.Call (.Attribute o m apos) (e :: es) [] pos) (tMethG X W m ta t) := by
  refine ⟨fun pins s σ H Q I h => ?_⟩
  refine PySem.W.methodCall_KW (thn (he.run pins s σ H _ I h) fun u s1 ⟨x, H1, I1, rx, a, cls, dx, fs, f, fd, ps, k, sp, ex, ea, l, c, hm, F, hr, hbd, q⟩ => ?_) (meth_eq hb hf hl)
  subst ex
  obtain rfl : u = Value.ref a := rx
  refine getmeth_ok I1 ea c hm l ?_
  refine PySem.W.callWith_K (first := [.ref a]) (h₀ := X.base) I.ok.mod.kin hm.kp (thn (ha.run pos pins s1 σ H1 _ I1 q) fun us s2 ⟨vs, H2, I2, r, q2⟩ => ⟨I2.kIn, ?_⟩) hst hpl
  exact run_fnS (E := WE W) (us := .ref a :: us) (vs := .ref a :: vs) F hr hbd (passAt tk σ) I2 (.cons rfl r) q2
theorem pe_methG0 (he : PE X o ta) (tk : Takes X W) (hb : attributeBase o m X.env (eval o X.env) = eval o X.env) (hl : (apos.endLine == pos.line) = true) :
    PE X (.Call (.Attribute o m apos) [] [] pos) (tMethG X W m ta tNil) := by
  refine ⟨fun pins s σ H Q I h => ?_⟩
  refine PySem.W.methodCall_KW (thn (he.run pins s σ H _ I h) fun u s1 ⟨x, H1, I1, rx, a, cls, dx, fs, f, fd, ps, k, sp, ex, ea, l, c, hm, F, hr, hbd, q⟩ => ?_) (meth_eq hb (by rfl) hl)
  subst ex
  obtain rfl : u = Value.ref a := rx
  refine getmeth_ok I1 ea c hm l ?_
  exact PySem.W.callWith_K0 (first := [.ref a]) I1.kIn hm.kp (run_fnS (E := WE W) (us := [.ref a]) (vs := [.ref a]) F hr hbd (passAt tk σ) I1 (.cons rfl .nil) q)
/-- C(..) with an __init__ of its own -/
def tMakeS (W : WX) (cls : Addr) (sp : Sp) (t : TA) : TE := fun σ H Q => t σ H fun vs H1 => ∀ a dx, H1 a = none → H1 dx = none → dx ≠ a →
  sp (.ref a :: vs) (upd (upd H1 dx (.own a)) a (.ins cls dx [])) (fun v H2 => v = .non ∧ Q (.ref a) H2) (WE W σ)
theorem run_makeS {pins : List (Addr × Obj)} {σ : L2.St} {H : Hp} {s : Shared} {Q : VK} {us : List Value} {vs : List V} (M : Mk X.K cls f) (F : FnOk X.prog X.w X.K X.mg X.base (CX X.prog X.w) k f fd ps sp) (hr : Room (k + 1) X.A) (hb : Binds X.K fd ps []) (tk : Takes X W)
    (I : Inv X pins σ H s) (r : Vals vs us) (h : ∀ a dx, H a = none → H dx = none → dx ≠ a → sp (.ref a :: vs) (upd (upd H dx (.own a)) a (.ins cls dx [])) (fun v H2 => v = .non ∧ Q (.ref a) H2) (WE W σ)) :
    wpAny (model X.prog X.w) X.A (call (.ref cls) us) (EP X pins σ Q) X.xe s := by
  have n1 := I.hok.fresh (Nat.le_succ s.heap.objs.size)
  have n2 := I.hok.fresh (Nat.le_refl s.heap.objs.size)
  have hq := h (s.heap.objs.size + 1) s.heap.objs.size n1 n2 (Nat.ne_of_lt (Nat.lt_succ_self _))
  have J := Inv.made (C := cls) I
  have r2 : Vals (V.ref (s.heap.objs.size + 1) :: vs) (Value.ref (s.heap.objs.size + 1) :: us) := .cons rfl r
  have hl : (Value.ref (s.heap.objs.size + 1) :: us).length = ps.length := by rw [← r2.length]; exact F.len _ _ _ _ hq
  have b := hb _ (Value.ref (s.heap.objs.size + 1) :: us) J.kIn (by rw [List.append_nil]; exact hl)
  rw [List.append_nil] at b
  refine wpAny_call (make_map (f := f) I.kIn M.makes M.init (beq_iff_eq.mp M.fn) (codeAny_mono (F.run _ X.stack _ _ _ _ _ _ (WE W σ) (hr.make cls us []) (J.env0.make cls us []) b r2 hq) fun r s' hq' => ?_))
  cases r with
  | error e => exact passAt tk σ pins _ _ e s' J hq'
  | ok fl =>
    cases fl with
    | ret u =>
      obtain ⟨v, H', J3, rv, ev, q3⟩ := J.after hq'
      subst ev
      exact ⟨rv, ⟨V.ref (s.heap.objs.size + 1), H', J3, rfl, q3⟩⟩
    | next => exact hq'.elim
    | brk => exact hq'.elim
    | cont => exact hq'.elim
theorem pe_makeS (M : Mk X.K cls f) (F : FnOk X.prog X.w X.K X.mg X.base (CX X.prog X.w) k f fd ps sp) (hr : Room (k + 1) X.A) (hg : Gl X x) (hm : X.mg x = some (.ref cls)) (hb : Binds X.K fd ps []) (tk : Takes X W) (ha : PA X (e :: es) t) (hdb : (x == ("__debug__" : Str)) = false)
    (he : starEach (e :: es) X.env = (false, eval e X.env) :: starEach es X.env) (hpl : (backTo pos (starEach es X.env)).any (·.1) = false) : PE X (.Call (.Name x p) (e :: es) [] pos) (tMakeS W cls sp t) := by
  refine ⟨fun pins s σ H Q I h => ?_⟩
  refine wpAny_Call_Name_kw (ld_glob I hg hm ?_ hdb)
  refine PySem.W.callWith_K (h₀ := X.base) I.ok.mod.kin M.kp (thn (ha.run pos pins s σ H _ I h) fun us s1 ⟨vs, H1, I1, r, q⟩ => ⟨I1.kIn, ?_⟩) he hpl
  exact run_makeS M F hr hb tk I1 r q
theorem pe_makeS0 (M : Mk X.K cls f) (F : FnOk X.prog X.w X.K X.mg X.base (CX X.prog X.w) k f fd ps sp) (hr : Room (k + 1) X.A) (hg : Gl X x) (hm : X.mg x = some (.ref cls)) (hb : Binds X.K fd ps []) (tk : Takes X W) (hdb : (x == ("__debug__" : Str)) = false) :
    PE X (.Call (.Name x p) [] [] pos) (tMakeS W cls sp tNil) := by
  refine ⟨fun pins s σ H Q I h => ?_⟩
  refine wpAny_Call_Name_kw (ld_glob I hg hm ?_ hdb)
  exact PySem.W.callWith_K0 I.kIn M.kp (run_makeS (us := []) M F hr hb tk I .nil h)
end
end Ev

/-! A form that passes the check says what the text does: expressions. -/
namespace Ev
open PySem PySem.Spec PyProof.Rows L2
section
variable (G : Gl0) (C : CallS)
def OkE (ie : IE) : Prop := ∀ (X : Cx) (W : WX) (A : Sc), Good G C X W A → ∀ e, chkE A ie e = true → PE X e (LE X W fun E => semE G C E ie)
def OkEs (ies : IEs) : Prop := ∀ (X : Cx) (W : WX) (A : Sc), Good G C X W A → ∀ es, chkEs A ies es = true → PA X es (LA X W es.length fun E => semEs G C E ies)
def OkO (io : IO) : Prop := ∀ (X : Cx) (W : WX) (A : Sc), Good G C X W A → ∀ o, chkO A io o = true → PO X o (LO X W fun E => semO G C E io)
def OkC (ic : IC) : Prop := ∀ (X : Cx) (W : WX) (A : Sc), Good G C X W A → ∀ e, chkC A ic e = true → PT X e (LT X W fun E => semC G C E ic)
end
section
variable {G : Gl0} {C : CallS}
theorem ok_var (i : Nat) : OkE G C (.var i) := by
  intro X W A g e h
  unfold chkE at h
  split at h
  · obtain ⟨h1, h2, h3, h4⟩ := vis_of g.hN g.sc h
    refine (pe_var h1 h2 h3 h4).imp ?_
    rintro σ H Q ⟨σd, S, Qd, E, rn, rs, h, p, xp⟩
    simp only [semE] at h
    split at h
    · rename_i d e
      obtain ⟨v, q1, q2⟩ := rn.gt e
      exact ⟨v, q1, p v H d S (Ext.refl H) q2 rs h⟩
    · exact h.elim
  · cases h
theorem ok_int (i : Int) : OkE G C (.int i) := by
  intro X W A g e h
  unfold chkE at h
  split at h
  · have e := of_decide_eq_true h
    subst e
    refine pe_int.imp ?_
    rintro σ H Q ⟨σd, S, Qd, E, rn, rs, h, p, xp⟩
    exact p _ H _ S (Ext.refl H) (.int _) rs h
  · cases h
theorem ok_bl (i : Bool) : OkE G C (.bl i) := by
  intro X W A g e h
  unfold chkE at h
  split at h
  · have e := of_decide_eq_true h
    subst e
    refine pe_bl.imp ?_
    rintro σ H Q ⟨σd, S, Qd, E, rn, rs, h, p, xp⟩
    exact p _ H _ S (Ext.refl H) (.bl _) rs h
  · cases h
theorem ok_non : OkE G C .non := by
  intro X W A g e h
  unfold chkE at h
  split at h
  · refine pe_non.imp ?_
    rintro σ H Q ⟨σd, S, Qd, E, rn, rs, h, p, xp⟩
    exact p _ H _ S (Ext.refl H) .non rs h
  · cases h
theorem ok_str (i : Str) : OkE G C (.str i) := by
  intro X W A g e h
  unfold chkE at h
  split at h
  · have e := of_decide_eq_true h
    subst e
    refine pe_str.imp ?_
    rintro σ H Q ⟨σd, S, Qd, E, rn, rs, h, p, xp⟩
    exact p _ H _ S (Ext.refl H) (.str _) rs h
  · cases h
theorem ok_glo (i : Str) : OkE G C (.glo i) := by
  intro X W A g e h
  unfold chkE at h
  split at h
  · simp only [Bool.and_eq_true, decide_eq_true_eq] at h
    obtain ⟨⟨h1, h2⟩, h3⟩ := h
    subst h1
    obtain ⟨q1, q2⟩ := glb_of g.sc h2
    obtain ⟨d, u, v, c1, c2, c3, c4⟩ := g.cst _ h3
    refine (pe_glob q1 c2 c3 q2).imp ?_
    rintro σ H Q ⟨σd, S, Qd, E, rn, rs, h, p, xp⟩
    simp only [semE, c1] at h
    exact p _ H _ S (Ext.refl H) (c4 H) rs h
  · cases h
theorem ok_tup {es : IEs} (ih : OkEs G C es) : OkE G C (.tup es) := by
  intro X W A g e h
  unfold chkE at h
  split at h
  · simp only [Bool.and_eq_true, decide_eq_true_eq] at h
    refine (pe_tup (ih X W A g _ h.1)).imp ?_
    refine LE.args (R := fun E ds S Q => Q (.tup ds) S) (r := fun σ vs H Q => vs.length ≤ sizeLine ∧ ∀ p, H p = none → Q (.ref p) (upd H p (.tup vs))) ?_
    rintro σ vs H Q ⟨ds, S, Qd, E, rs, hl, rd, h1, p, xp⟩
    exact ⟨Nat.le_of_lt (small1000 (by rw [hl]; exact h.2)), p.tup rs rd h1⟩
  · cases h
theorem ok_lst {es : IEs} (ih : OkEs G C es) : OkE G C (.lst es) := by
  intro X W A g e h
  unfold chkE at h
  split at h
  · simp only [Bool.and_eq_true, decide_eq_true_eq] at h
    refine (pe_lst (ih X W A g _ h.1)).imp ?_
    refine LE.args (R := fun E ds S Q => ∀ a, S a = none → Q (.ref a) (put S a (.lst ds))) (r := fun σ vs H Q => vs.length ≤ sizeLine ∧ ∀ p, H p = none → Q (.ref p) (upd H p (.lst vs))) ?_
    rintro σ vs H Q ⟨ds, S, Qd, E, rs, hl, rd, h1, p, xp⟩
    exact ⟨Nat.le_of_lt (small1000 (by rw [hl]; exact h.2)), p.lst rs rd h1⟩
  · cases h
theorem ok_bin {op : Operator} {a b : IE} (iha : OkE G C a) (ihb : OkE G C b) : OkE G C (.bin op a b) := by
  intro X W A g e h
  unfold chkE at h
  split at h
  · simp only [Bool.and_eq_true, decide_eq_true_eq] at h
    obtain ⟨⟨h1, h2⟩, h3⟩ := h
    subst h1
    exact (pe_op (bin_ok (fun z pins σ H s I => (g.py z).room I) op) (iha X W A g _ h2) (ihb X W A g _ h3)).imp (LE.bin fun v w H Q z => z)
  · cases h
theorem ok_neg {a : IE} (iha : OkE G C a) : OkE G C (.neg a) := by
  intro X W A g e h
  unfold chkE at h
  split at h
  · refine (pe_un un_neg (iha X W A g _ h)).imp ?_
    rintro σ H Q ⟨σd, S, Qd, E, rn, rs, h, p, xp⟩
    refine ⟨σd, S, _, E, rn, rs, h, fun v H1 x S1 e1 rx rs1 h1 => ?_, xp⟩
    split at h1
    · cases rx
      exact ⟨_, rfl, p _ H1 _ S1 e1 (.int _) rs1 h1⟩
    · exact h1.elim
  · cases h
theorem ok_cmp {op : CmpOp} {a b : IE} (iha : OkE G C a) (ihb : OkE G C b) : OkE G C (.cmp op a b) := by
  intro X W A g e h
  unfold chkE at h
  split at h
  · simp only [Bool.and_eq_true, decide_eq_true_eq] at h
    obtain ⟨⟨h1, h2⟩, h3⟩ := h
    subst h1
    exact (pe_cmpR (cmpR_ok (Nat.lt_of_succ_lt g.hu) op) (iha X W A g _ h2) (ihb X W A g _ h3) (mark_ok h3)).imp LE.cmp
  · cases h
theorem LE.chain {X : Cx} {W : WX} {fa fb fc : FE} {op op2 : CmpOp} : ∀ σ H Q, LE X W (fun E σ S Q => fa E σ S fun x S1 => fb E σ S1 fun y S2 => cmpS op x y S2 fun k =>
      if k = true then fc E σ S2 fun z S3 => cmpS op2 y z S3 fun k2 => Q (.bl k2) S3 else Q (.bl false) S2) σ H Q → tChain (RC X.K op) (RC X.K op2) (LE X W fa) (LE X W fb) (LE X W fc) σ H Q := by
  rintro σ H Q ⟨σd, S, Qd, E, rn, rs, h, p, xp⟩
  refine ⟨σd, S, _, E, rn, rs, h, fun v H1 x S1 e1 rx rs1 h1 => ⟨σd, S1, _, E, rn.ext e1, rs1, h1, fun w H2 y S2 e2 ry rs2 h2 => ?_, xp.ext e1⟩, xp⟩
  refine ⟨x, y, S2, _, rs2, rx.ext e2, ry, h2, fun k hk => ⟨k, rfl, ?_⟩⟩
  cases k with
  | true =>
    have hk : fc E σd S2 _ := hk
    refine ⟨σd, S2, _, E, rn.ext (e1.trans e2), rs2, hk, fun u H3 z S3 e3 rz rs3 h3 => ?_, xp.ext (e1.trans e2)⟩
    exact ⟨y, z, S3, _, rs3, ry.ext e3, rz, h3, fun k hk => p _ H3 _ S3 ((e1.trans e2).trans e3) (.bl k) rs3 hk⟩
  | false =>
    have hk : Qd (.bl false) S2 := hk
    exact p _ H2 _ S2 (e1.trans e2) (.bl false) rs2 hk
theorem ok_chn {op op2 : CmpOp} {a b c : IE} (iha : OkE G C a) (ihb : OkE G C b) (ihc : OkE G C c) : OkE G C (.chn op op2 a b c) := by
  intro X W A g e h
  unfold chkE at h
  split at h
  · simp only [Bool.and_eq_true, decide_eq_true_eq] at h
    obtain ⟨⟨⟨⟨h1, h2⟩, h3⟩, h4⟩, h5⟩ := h
    subst h1
    subst h2
    have hu := Nat.lt_of_succ_lt g.hu
    exact (pe_chain (cmpR_ok hu op) (cmpR_ok hu op2) (iha X W A g _ h3) (ihb X W A g _ h4) (ihc X W A g _ h5) (marks_ok h5)).imp LE.chain
  · cases h
theorem ok_and {a b : IE} (iha : OkE G C a) (ihb : OkE G C b) : OkE G C (.and a b) := by
  intro X W A g e h
  unfold chkE at h
  split at h
  · simp only [Bool.and_eq_true] at h
    refine (pe_andT (iha X W A g _ h.1) (ihb X W A g _ h.2)).imp ?_
    rintro σ H Q ⟨σd, S, Qd, E, rn, rs, h, p, xp⟩
    refine ⟨σd, S, _, E, rn, rs, h, fun v H1 x S1 e1 rx rs1 h1 => ?_, xp⟩
    obtain ⟨k, k1, k2⟩ := tru_rel rs1 rx h1
    refine ⟨k, k1, ?_⟩
    cases k with
    | true => exact ⟨σd, S1, Qd, E, rn.ext e1, rs1, k2, fun v H' d S' e => p v H' d S' (e1.trans e), xp.ext e1⟩
    | false => exact p v H1 x S1 e1 rx rs1 k2
  · cases h
theorem ok_or {a b : IE} (iha : OkE G C a) (ihb : OkE G C b) : OkE G C (.or a b) := by
  intro X W A g e h
  unfold chkE at h
  split at h
  · simp only [Bool.and_eq_true] at h
    refine (pe_orT (iha X W A g _ h.1) (ihb X W A g _ h.2)).imp ?_
    rintro σ H Q ⟨σd, S, Qd, E, rn, rs, h, p, xp⟩
    refine ⟨σd, S, _, E, rn, rs, h, fun v H1 x S1 e1 rx rs1 h1 => ?_, xp⟩
    obtain ⟨k, k1, k2⟩ := tru_rel rs1 rx h1
    refine ⟨k, k1, ?_⟩
    cases k with
    | false => exact ⟨σd, S1, Qd, E, rn.ext e1, rs1, k2, fun v H' d S' e => p v H' d S' (e1.trans e), xp.ext e1⟩
    | true => exact p v H1 x S1 e1 rx rs1 k2
  · cases h
theorem ok_one {a : IE} (iha : OkE G C a) : OkE G C (.one a) := by
  intro X W A g e h
  unfold chkE at h
  split at h
  · exact (pe_one (iha X W A g _ h)).imp fun σ H Q z => z
  · cases h
theorem ok_not {a : IE} (iha : OkE G C a) : OkE G C (.not a) := by
  intro X W A g e h
  unfold chkE at h
  split at h
  · refine (pe_notT (iha X W A g _ h)).imp ?_
    rintro σ H Q ⟨σd, S, Qd, E, rn, rs, h, p, xp⟩
    refine ⟨σd, S, _, E, rn, rs, h, fun v H1 x S1 e1 rx rs1 h1 => ?_, xp⟩
    obtain ⟨k, k1, k2⟩ := tru_rel rs1 rx h1
    exact ⟨k, k1, p _ H1 _ S1 e1 (.bl _) rs1 k2⟩
  · cases h
theorem ok_ifx {c : IC} {a b : IE} (ihc : OkC G C c) (iha : OkE G C a) (ihb : OkE G C b) : OkE G C (.ifx c a b) := by
  intro X W A g e h
  unfold chkE at h
  split at h
  · simp only [Bool.and_eq_true] at h
    refine (pe_ifExp (ihc X W A g _ h.1.1) (iha X W A g _ h.1.2) (ihb X W A g _ h.2)).imp ?_
    rintro σ H Q ⟨σd, S, Qd, E, rn, rs, h, p, xp⟩
    refine ⟨σd, S, _, E, rn, rs, h, fun k H1 S1 e1 rs1 h1 => ?_, xp⟩
    cases k with
    | true => exact ⟨σd, S1, Qd, E, rn.ext e1, rs1, h1, fun v H' d S' e => p v H' d S' (e1.trans e), xp.ext e1⟩
    | false => exact ⟨σd, S1, Qd, E, rn.ext e1, rs1, h1, fun v H' d S' e => p v H' d S' (e1.trans e), xp.ext e1⟩
  · cases h
theorem ok_idx {a i : IE} (iha : OkE G C a) (ihi : OkE G C i) : OkE G C (.idx a i) := by
  intro X W A g e h
  unfold chkE at h
  split at h
  · simp only [Bool.and_eq_true] at h
    exact (pe_ix (idx_ok (Nat.lt_of_succ_lt g.hu)) (iha X W A g _ h.1) (ihi X W A g _ h.2) (ix_ok (chkE_nsl h.2))).imp (LE.bin fun v w H Q z => z)
  · cases h
theorem ok_slc {a : IE} {lo hi : IO} (iha : OkE G C a) (ihl : OkO G C lo) (ihh : OkO G C hi) : OkE G C (.slc a lo hi) := by
  intro X W A g e h
  unfold chkE at h
  split at h
  · simp only [Bool.and_eq_true] at h
    refine (pe_slice slc_ok (iha X W A g _ h.1.1) (ihl X W A g _ h.1.2) (ihh X W A g _ h.2)).imp ?_
    rintro σ H Q ⟨σd, S, Qd, E, rn, rs, h, p, xp⟩
    refine ⟨σd, S, _, E, rn, rs, h, fun v H1 x S1 e1 rx rs1 h1 => ⟨σd, S1, _, E, rn.ext e1, rs1, h1, fun l H2 S2 e2 rs2 h2 => ⟨σd, S2, _, E, rn.ext (e1.trans e2), rs2, h2, fun u H3 S3 e3 rs3 h3 => ?_, xp.ext (e1.trans e2)⟩, xp.ext e1⟩, xp⟩
    exact ⟨x, S3, Qd, rs3, rx.ext (e2.trans e3), h3, fun v' H' d S' e => p v' H' d S' (((e1.trans e2).trans e3).trans e)⟩
  · cases h
theorem ok_call {f : Str} {es : IEs} (ih : OkEs G C es) : OkE G C (.call f es) := by
  intro X W A g e h
  unfold chkE at h
  split at h
  · rename_i x p1 args p2
    simp only [Bool.and_eq_true, decide_eq_true_eq, Bool.not_eq_true'] at h
    obtain ⟨⟨⟨⟨h1, h2⟩, h3⟩, h4⟩, h5⟩ := h
    subst h1
    obtain ⟨q1, q2⟩ := glb_of g.sc h2
    obtain ⟨a, fd, ps, k, m1, m2, m3, m4, m5⟩ := g.fns h4 _ _ h3
    cases args with
    | nil =>
      cases es with
      | cons _ _ => cases h5
      | nil =>
        refine (pe_call0S (W := W) m5 m4 q1 m1 m2 m3 g.tk q2).imp ?_
        rintro σ H Q ⟨σd, S, Qd, E, rn, rs, h, p, xp⟩
        have h : C x [] S Qd E := h
        exact ⟨[], S, Qd, E, .nil, rs, h, p, xp⟩
    | cons e0 er =>
      have hp := ih X W A g _ h5
      have hst := chkEs_star (env := X.env) h5
      cases es with
      | nil => cases h5
      | cons ie0 ier =>
      simp only [chkEs, Bool.and_eq_true] at h5
      have hs := star_cons (es := er) (env := X.env) (chkE_nst h5.1)
      have ht := (chkEs_star (env := X.env) h5.2).1
      refine (pe_callSD (E := WE W) m5 m4 q1 m1 m2 m3 .nil (fun σ => passAt g.tk σ) hp q2 hs (back_any ht)).imp ?_
      refine LE.args (R := fun E ds S Q => C x ds S Q E) (r := fun σ vs H Q => LF X.K X.mg C x (vs ++ []) H Q (WE W σ)) ?_
      rintro σ vs H Q ⟨ds, S, Qd, E, rs, hl, rd, h1, p, xp⟩
      rw [List.append_nil]
      exact ⟨ds, S, Qd, E, rd, rs, h1, p, xp⟩
  · cases h
theorem boot_bi : ∀ b : Bi, b ≠ .gcd → b ≠ .lcm → bootBuiltins (biNm b) = some (biV b)
  | .len, _, _ => by decide +kernel
  | .abs, _, _ => by decide +kernel
  | .int, _, _ => by decide +kernel
  | .min2, _, _ => by decide +kernel
  | .max2, _, _ => by decide +kernel
  | .tuple, _, _ => by decide +kernel
  | .list, _, _ => by decide +kernel
  | .str, _, _ => by decide +kernel
  | .ord, _, _ => by decide +kernel
  | .divmod, _, _ => by decide +kernel
  | .sorted, _, _ => by decide +kernel
  | .dict, _, _ => by decide +kernel
  | .gcd, h, _ => absurd rfl h
  | .lcm, _, h => absurd rfl h
theorem boot_ty : ∀ t : Ty, (match t with | .own _ => false | _ => true) = true → bootBuiltins (tyNm t) = some (tyV1 t)
  | .int, _ => by decide +kernel
  | .bool, _ => by decide +kernel
  | .str, _ => by decide +kernel
  | .tuple, _ => by decide +kernel
  | .list, _ => by decide +kernel
  | .own _, h => by cases h
theorem ok_bi {b : Bi} {es : IEs} (ih : OkEs G C es) : OkE G C (.bi b es) := by
  intro X W A g e h
  unfold chkE at h
  split at h
  · rename_i x p1 args p2
    simp only [Bool.and_eq_true, decide_eq_true_eq, Bool.not_eq_true'] at h
    obtain ⟨⟨⟨⟨h1, h2⟩, h4⟩, h5⟩, h6⟩ := h
    cases args with
    | nil => cases h6
    | cons e0 er =>
    have hp := ih X W A g _ h5
    cases es with
    | nil => cases h5
    | cons ie0 ier =>
    simp only [chkEs, Bool.and_eq_true] at h5
    have hs := star_cons (es := er) (env := X.env) (chkE_nst h5.1)
    have ht := back_any (pos := p2) (chkEs_star (env := X.env) h5.2).1
    have go : ∀ σ H Q, LE X W (fun E => semE G C E (.bi b (.cons ie0 ier))) σ H Q → tCB (RBi X.K b) (LA X W (e0 :: er).length fun E => semEs G C E (.cons ie0 ier)) σ H Q := by
      refine LE.args (R := fun E ds S Q => biS b ds S Q) (r := fun σ vs H Q => RBi X.K b vs H Q) ?_
      rintro σ vs H Q ⟨ds, S, Qd, E, rs, hl, rd, h1, p, xp⟩
      exact ⟨ds, S, Qd, rs, rd, h1, p⟩
    have hb := bi_ok (X := X) (g.calm h4) b
    have blt : b ≠ .gcd → b ≠ .lcm → A.bn x = true := fun z z2 => by cases b <;> first | exact h2 | exact absurd rfl z | exact absurd rfl z2
    cases b with
    | gcd =>
      simp only [Bool.and_eq_true] at h2
      obtain ⟨q1, q2⟩ := glb_of g.sc h2.1
      subst h1
      exact (pe_callBfun hb q1 (g.gcd h2.2) hp q2 hs ht).imp go
    | lcm =>
      simp only [Bool.and_eq_true] at h2
      obtain ⟨q1, q2⟩ := glb_of g.sc h2.1
      subst h1
      exact (pe_callBfun hb q1 (g.lcm h2.2) hp q2 hs ht).imp go
    | len =>
      obtain ⟨q1, q2, q3, q4⟩ := bn_of g (blt (by decide) (by decide))
      exact (pe_callB hb q1 q3 (by rw [h1]; exact boot_bi _ (by decide) (by decide)) hp q4 q2 hs ht).imp go
    | abs =>
      obtain ⟨q1, q2, q3, q4⟩ := bn_of g (blt (by decide) (by decide))
      exact (pe_callB hb q1 q3 (by rw [h1]; exact boot_bi _ (by decide) (by decide)) hp q4 q2 hs ht).imp go
    | min2 =>
      obtain ⟨q1, q2, q3, q4⟩ := bn_of g (blt (by decide) (by decide))
      exact (pe_callB hb q1 q3 (by rw [h1]; exact boot_bi _ (by decide) (by decide)) hp q4 q2 hs ht).imp go
    | max2 =>
      obtain ⟨q1, q2, q3, q4⟩ := bn_of g (blt (by decide) (by decide))
      exact (pe_callB hb q1 q3 (by rw [h1]; exact boot_bi _ (by decide) (by decide)) hp q4 q2 hs ht).imp go
    | int =>
      obtain ⟨q1, q2, q3, q4⟩ := bn_of g (blt (by decide) (by decide))
      exact (pe_callTy hb q1 q3 (by rw [h1]; exact boot_bi _ (by decide) (by decide)) hp q4 q2 hs ht).imp go
    | str =>
      obtain ⟨q1, q2, q3, q4⟩ := bn_of g (blt (by decide) (by decide))
      exact (pe_callTy hb q1 q3 (by rw [h1]; exact boot_bi _ (by decide) (by decide)) hp q4 q2 hs ht).imp go
    | tuple =>
      obtain ⟨q1, q2, q3, q4⟩ := bn_of g (blt (by decide) (by decide))
      exact (pe_callTy hb q1 q3 (by rw [h1]; exact boot_bi _ (by decide) (by decide)) hp q4 q2 hs ht).imp go
    | list =>
      obtain ⟨q1, q2, q3, q4⟩ := bn_of g (blt (by decide) (by decide))
      exact (pe_callTy hb q1 q3 (by rw [h1]; exact boot_bi _ (by decide) (by decide)) hp q4 q2 hs ht).imp go
    | ord =>
      obtain ⟨q1, q2, q3, q4⟩ := bn_of g (blt (by decide) (by decide))
      exact (pe_callB hb q1 q3 (by rw [h1]; exact boot_bi _ (by decide) (by decide)) hp q4 q2 hs ht).imp go
    | divmod =>
      obtain ⟨q1, q2, q3, q4⟩ := bn_of g (blt (by decide) (by decide))
      exact (pe_callB hb q1 q3 (by rw [h1]; exact boot_bi _ (by decide) (by decide)) hp q4 q2 hs ht).imp go
    | sorted =>
      obtain ⟨q1, q2, q3, q4⟩ := bn_of g (blt (by decide) (by decide))
      exact (pe_callB hb q1 q3 (by rw [h1]; exact boot_bi _ (by decide) (by decide)) hp q4 q2 hs ht).imp go
    | dict =>
      obtain ⟨q1, q2, q3, q4⟩ := bn_of g (blt (by decide) (by decide))
      exact (pe_callTy hb q1 q3 (by rw [h1]; exact boot_bi _ (by decide) (by decide)) hp q4 q2 hs ht).imp go
  · cases h
end
end Ev

/-! A form that passes the check says what the text does: isinstance, methods, what is walked, comprehensions. -/
namespace Ev
open PySem PySem.Spec PyProof.Rows L2
def tyS : Ty → String
  | .int => "int"
  | .bool => "bool"
  | .str => "str"
  | .tuple => "tuple"
  | .list => "list"
  | .own _ => ""
theorem tyV1_S {t : Ty} (h : (match t with | .own _ => false | _ => true) = true) : tyV1 t = .type (tyS t) := by
  cases t <;> first | rfl | cases h
theorem boot_isi : bootBuiltins "isinstance" = some (.builtin "isinstance") := by decide +kernel
section
variable {G : Gl0} {C : CallS} {X : Cx} {W : WX} {A : Sc}
theorem ty1_pe (g : Good G C X W A) {t : Ty} {e : Expr} (h : A.ty1 t e = true) : PE X e (tC (.ty (tyS t))) ∧ nst e = true ∧ tyV1 t = .type (tyS t) := by
  unfold Sc.ty1 at h
  split at h
  · simp only [Bool.and_eq_true, decide_eq_true_eq] at h
    obtain ⟨⟨h1, h2⟩, h3⟩ := h
    obtain ⟨q1, q2, q3, q4⟩ := bn_of g h2
    have q5 := tyV1_S h3
    exact ⟨pe_bltn q1 q3 (by rw [h1, boot_ty t h3, q5]) rfl q4 q2, rfl, q5⟩
  · cases h
theorem tys_pa (g : Good G C X W A) : ∀ {ts : List Ty} {es : List Expr}, A.tys ts es = true → PA X es (fun _ H Q => Q (ts.map fun t => V.ty (tyS t)) H) ∧ (ts.map tyV1 = ts.map fun t => Value.type (tyS t)) ∧ es.length = ts.length
  | [], [], _ => ⟨pa_nil, rfl, rfl⟩
  | [], _ :: _, h => by cases h
  | _ :: _, [], h => by cases h
  | t :: r, e :: es, h => by
    unfold Sc.tys at h
    simp only [Bool.and_eq_true] at h
    obtain ⟨p1, p2, p3⟩ := ty1_pe g h.1
    obtain ⟨q1, q2, q3⟩ := tys_pa g h.2
    exact ⟨(pa_cons p1 q1 (star_cons p2)), by rw [List.map_cons, List.map_cons, p3, q2], by rw [List.length_cons, List.length_cons, q3]⟩
theorem cls_all : ∀ ts : List Ty, Paired ClsV (ts.map fun t => V.ty (tyS t)) (ts.map fun t => Value.type (tyS t))
  | [] => .nil
  | _ :: r => .cons (.ty _) (cls_all r)
theorem isTs_one {S : Sto} {x : D} {t : Ty} {k : Bool} (h : isTs S x [t] = some k) : isT S x t = some k := by
  unfold isTs at h
  split at h
  · rename_i e; cases h; exact e
  · rename_i e; cases h; exact e
  · cases h
theorem ok_isi {a : IE} {ts : List Ty} (iha : OkE G C a) : OkE G C (.isi a ts) := by
  intro X W A g e h
  unfold chkE at h
  split at h
  · rename_i x p1 y t p2
    simp only [Bool.and_eq_true, decide_eq_true_eq] at h
    obtain ⟨⟨⟨h1, h2⟩, h3⟩, h4⟩ := h
    obtain ⟨q1, q2, q3, q4⟩ := bn_of g h2
    have hy := iha X W A g _ h3
    have hs : ∀ l, starEach (y :: l) X.env = (false, eval y X.env) :: starEach l X.env := fun l => star_cons (chkE_nst h3)
    split at h4
    · rename_i xs kk pp
      simp only [Bool.and_eq_true, decide_eq_true_eq, Bool.not_eq_true'] at h4
      obtain ⟨⟨h5, h6⟩, h7⟩ := h4
      obtain ⟨r1, r2, r3⟩ := tys_pa g h5
      refine (pe_callB call_isiT q1 q3 (by rw [h1]; exact boot_isi) (pa_cons hy (pa_cons (pe_tup r1) pa_nil rfl) (hs _)) q4 q2 (hs _) rfl).imp ?_
      rintro σ H Q ⟨σd, S, Qd, E, rn, rs, h, p, xp⟩
      refine ⟨σd, S, _, E, rn, rs, h, fun v H1 x' S1 e1 rx rs1 h1' => ?_, xp⟩
      have h1' : (match isTs S1 x' ts with | some k => Qd (.bl k) S1 | none => False) := h1'
      split at h1'
      · rename_i k ek
        obtain ⟨k1, k2⟩ := isTs_kit (K := X.K) ek
        have tn : ts ≠ [] := fun z => by
          rw [z] at r3
          cases xs with
          | nil => cases h6
          | cons _ _ => cases r3
        refine ⟨Nat.le_of_lt (small1000 (by rw [List.length_map, ← r3]; exact h7)), fun tp np => ?_⟩
        refine ⟨v, tp, _, .type (tyD x'), ts.map fun t => Value.type (tyS t), k, rfl, upd_same, ?_, ?_, by rw [← r2]; exact k1, ?_⟩
        · exact cls_all ts
        · exact tyD_ok (rs1.new np) (Rv.ext (Ext.new np) rx) (k2 tn)
        · exact p _ _ (.bl k) S1 (e1.trans (Ext.new np)) (.bl k) (rs1.new np) h1'
      · exact h1'.elim
    · split at h4
      · rename_i t1
        obtain ⟨r1, r2, r3⟩ := ty1_pe g h4
        refine (pe_callB call_isi q1 q3 (by rw [h1]; exact boot_isi) (pa_cons hy (pa_cons r1 pa_nil (star_cons r2)) (hs _)) q4 q2 (hs _) (by rw [star_cons r2] <;> rfl)).imp ?_
        rintro σ H Q ⟨σd, S, Qd, E, rn, rs, h, p, xp⟩
        refine ⟨σd, S, _, E, rn, rs, h, fun v H1 x' S1 e1 rx rs1 h1' => ?_, xp⟩
        have h1' : (match isTs S1 x' [t1] with | some k => Qd (.bl k) S1 | none => False) := h1'
        split at h1'
        · rename_i k ek
          obtain ⟨k1, k2, k3⟩ := isT_kit (K := X.K) (isTs_one ek)
          exact ⟨v, _, .type (tyD x'), .type (tyS t1), k, rfl, .ty _, tyD_ok rs1 rx k2, by rw [← r3]; exact k1, p _ H1 (.bl k) S1 e1 (.bl k) rs1 h1'⟩
        · exact h1'.elim
      · cases h4
  · cases h

theorem clsRel {c : V} {v : Value} (h : ClsV c v) : RelV c v := by
  cases h <;> rfl
theorem xn1_pe (g : Good G C X W A) {c : Str} {e : Expr} (h : A.xn1 c e = true) : nst e = true ∧ ∃ (cv : V) (v : Value), PE X e (tC cv) ∧ ClsV cv v ∧ ∀ k b, G.sub k c = some b → ∃ D : Addr, X.mg k = some (.ref D) ∧ ExcC X.K D ∧ PySem.W.kitOne X.K (.ref D) v = some b := by
  unfold Sc.xn1 at h
  split at h
  · simp only [Bool.and_eq_true, decide_eq_true_eq] at h
    obtain ⟨⟨h1, h2⟩, h3⟩ := h
    subst h1
    obtain ⟨q1, q2⟩ := glb_of g.sc h2
    obtain ⟨cv, v, k1, k2, k3⟩ := g.exi _ h3
    refine ⟨rfl, cv, v, ?_, k1, k3⟩
    rcases k2 with k2 | ⟨k2, k4, k5⟩
    · exact pe_glob q1 k2 (clsRel k1) q2
    · exact pe_bltn q1 k2 k4 (clsRel k1) k5 q2
  · cases h
theorem xns_pa (g : Good G C X W A) : ∀ {cs : List Str} {es : List Expr}, A.xns cs es = true → ∃ (cv : List V) (vs : List Value), PA X es (fun _ H Q => Q cv H) ∧ Paired ClsV cv vs ∧ es.length = cv.length ∧
    ∀ k b, isXs G.sub k cs = some b → ∀ D : Addr, X.mg k = some (.ref D) → PySem.W.kitAny X.K (.ref D) vs = some b
  | [], [], _ => ⟨[], [], pa_nil, .nil, rfl, fun k b h D _ => by cases h; rfl⟩
  | [], _ :: _, h => by cases h
  | _ :: _, [], h => by cases h
  | t :: r, e :: es, h => by
    unfold Sc.xns at h
    simp only [Bool.and_eq_true] at h
    obtain ⟨p1, cv, v, p2, p3, p4⟩ := xn1_pe g h.1
    obtain ⟨cvs, vs, q1, q2, q3, q4⟩ := xns_pa g h.2
    refine ⟨cv :: cvs, v :: vs, pa_cons p2 q1 (star_cons p1), .cons p3 q2, by rw [List.length_cons, List.length_cons, q3], fun k b hb D hD => ?_⟩
    unfold isXs at hb
    split at hb
    · rename_i ek
      cases hb
      obtain ⟨D', d1, d2, d3⟩ := p4 _ _ ek
      rw [hD] at d1
      cases d1
      exact kitAny_cons d3 (fun z => by cases z) (fun _ => rfl)
    · rename_i ek
      obtain ⟨D', d1, d2, d3⟩ := p4 _ _ ek
      rw [hD] at d1
      cases d1
      exact kitAny_cons d3 (fun _ => q4 _ _ hb D hD) (fun z => by cases z)
    · cases hb
theorem ok_isx {a : IE} {c : Str} (iha : OkE G C a) : OkE G C (.isx a c) := by
  intro X W A g e h
  unfold chkE at h
  split at h
  · rename_i x p1 y t p2
    simp only [Bool.and_eq_true, decide_eq_true_eq] at h
    obtain ⟨⟨⟨h1, h2⟩, h3⟩, h4⟩ := h
    obtain ⟨q1, q2, q3, q4⟩ := bn_of g h2
    have hy := iha X W A g _ h3
    have hs : ∀ l, starEach (y :: l) X.env = (false, eval y X.env) :: starEach l X.env := fun l => star_cons (chkE_nst h3)
    obtain ⟨r1, cv, v, r2, r3, r4⟩ := xn1_pe g h4
    rcases hxc : G.xc with _ | ⟨ba, ex⟩
    · refine ⟨fun pins s σ H Q I hh => ?_⟩
      obtain ⟨σd, S, Qd, E, rn, rs, h, p, xp⟩ := hh
      simp only [semE, hxc] at h
    · obtain ⟨_, _, D, d1, d23, _⟩ := g.xcg _ _ hxc
      have d2 : CallR X (.builtin "isinstance") (fun xs H Q => ex.fs = [] ∧ rIsE X.K D ba xs H Q) := fun pins s σ H xs us Q I r h => (d23 h.1).1 pins s σ H xs us Q I r h.2
      refine (pe_callB d2 q1 q3 (by rw [h1]; exact boot_isi) (pa_cons hy (pa_cons r2 pa_nil (star_cons r1)) (hs _)) q4 q2 (hs _) (by rw [star_cons r1] <;> rfl)).imp ?_
      rintro σ H Q ⟨σd, S, Qd, E, rn, rs, h, p, xp⟩
      simp only [semE, hxc] at h
      refine ⟨σd, S, _, E, rn, rs, h, fun w H1 x' S1 e1 rx rs1 h1' => ?_, xp⟩
      obtain ⟨h0, hfs, h1'⟩ := h1'
      subst h0
      cases rx
      split at h1'
      · rename_i k ek
        obtain ⟨D', k1, k2, k3⟩ := r4 _ _ ek
        rw [d1] at k1
        cases k1
        exact ⟨hfs, cv, v, k, rfl, fun u => r3.eq, k3, p _ H1 (.bl k) S1 e1 (.bl k) rs1 h1'⟩
      · exact h1'.elim
  · cases h
theorem ok_isxs {a : IE} {cs : List Str} (iha : OkE G C a) : OkE G C (.isxs a cs) := by
  intro X W A g e h
  unfold chkE at h
  split at h
  · rename_i x p1 y xs kk pp p2
    simp only [Bool.and_eq_true, decide_eq_true_eq] at h
    obtain ⟨⟨⟨⟨h1, h2⟩, h3⟩, h4⟩, h7⟩ := h
    obtain ⟨q1, q2, q3, q4⟩ := bn_of g h2
    have hy := iha X W A g _ h3
    have hs : ∀ l, starEach (y :: l) X.env = (false, eval y X.env) :: starEach l X.env := fun l => star_cons (chkE_nst h3)
    obtain ⟨cv, vs, r1, r2, r3, r4⟩ := xns_pa g h4
    rcases hxc : G.xc with _ | ⟨ba, ex⟩
    · refine ⟨fun pins s σ H Q I hh => ?_⟩
      obtain ⟨σd, S, Qd, E, rn, rs, h, p, xp⟩ := hh
      simp only [semE, hxc] at h
    · obtain ⟨_, _, D, d1, d23, _⟩ := g.xcg _ _ hxc
      have d3 : CallR X (.builtin "isinstance") (fun xs H Q => ex.fs = [] ∧ rIsET X.K D ba xs H Q) := fun pins s σ H xs us Q I r h => (d23 h.1).2 pins s σ H xs us Q I r h.2
      refine (pe_callB d3 q1 q3 (by rw [h1]; exact boot_isi) (pa_cons hy (pa_cons (pe_tup r1) pa_nil rfl) (hs _)) q4 q2 (hs _) rfl).imp ?_
      rintro σ H Q ⟨σd, S, Qd, E, rn, rs, h, p, xp⟩
      simp only [semE, hxc] at h
      refine ⟨σd, S, _, E, rn, rs, h, fun w H1 x' S1 e1 rx rs1 h1' => ?_, xp⟩
      obtain ⟨h0, hfs, h1'⟩ := h1'
      subst h0
      cases rx
      split at h1'
      · rename_i k ek
        refine ⟨Nat.le_of_lt (small1000 (by rw [← r3]; exact h7)), fun tp np => ?_⟩
        exact ⟨hfs, tp, cv, vs, k, rfl, upd_same, r2, r4 _ _ ek D d1, p _ _ (.bl k) S1 (e1.trans (Ext.new np)) (.bl k) (rs1.new np) h1'⟩
      · exact h1'.elim
  · cases h

/-! ### texts, dicts, a caught exception's field -/
inductive AllE (G : Gl0) (C : CallS) : IEs → Prop
  | nil : AllE G C .nil
  | cons {e : IE} {r : IEs} (h : OkE G C e) (t : AllE G C r) : AllE G C (.cons e r)
theorem slot_sm : ∀ m : Sm, Slot "str" (smNm m) (smId m) ∧ typeOf (.builtin (smId m)) = pure (.type "method_descriptor")
  | .join => ⟨PySem.F.slot_str_join, PySem.F.type_str_join⟩
  | .partition => ⟨PySem.F.slot_str_partition, PySem.F.type_str_partition⟩
  | .startswith => ⟨PySem.F.slot_str_startswith, PySem.F.type_str_startswith⟩
  | .strip => ⟨PySem.F.slot_str_strip, PySem.F.type_str_strip⟩
  | .lstrip => ⟨PySem.F.slot_str_lstrip, PySem.F.type_str_lstrip⟩
  | .zfill => ⟨PySem.F.slot_str_zfill, PySem.F.type_str_zfill⟩
  | .split => ⟨PySem.F.slot_str_split, PySem.F.type_str_split⟩
  | .isdigit => ⟨PySem.F.slot_str_isdigit, PySem.F.type_str_isdigit⟩
  | .isalnum => ⟨PySem.F.slot_str_isalnum, PySem.F.type_str_isalnum⟩
theorem ok_smt {m : Sm} {o : IE} {es : IEs} (iho : OkE G C o) (ih : OkEs G C es) (ihe : AllE G C es) : OkE G C (.smt m o es) := by
  intro X W A g e h
  unfold chkE at h
  split at h
  · rename_i x nm ap args cp
    simp only [Bool.and_eq_true, decide_eq_true_eq] at h
    obtain ⟨⟨⟨⟨⟨h1, h2⟩, h3⟩, h4⟩, h5⟩, h6⟩ := h
    subst h1
    have ho := iho X W A g _ h2
    obtain ⟨s1, s2⟩ := slot_sm m
    have ty : ∀ {H : Hp} {x : D} {v : V}, Rv X.K H x v → (∃ a, x = .str a) → ∃ a, v = .str a := fun {H x v} rx q => by
      obtain ⟨a, rfl⟩ := q
      cases rx
      exact ⟨a, rfl⟩
    cases args with
    | nil =>
      cases es with
      | cons _ _ => cases h4
      | nil =>
        refine (pe_m0 s1 s2 (smt_ok m) ho (base_ok h3) h6).imp ?_
        rintro σ H Q ⟨σd, S, Qd, E, rn, rs, h, p, xp⟩
        refine ⟨σd, S, _, E, rn, rs, h, fun v H1 x' S1 e1 rx rs1 h1' => ?_, xp⟩
        obtain ⟨t1, h1'⟩ := h1'
        exact ⟨ty rx t1, x', [], S1, Qd, rs1, rx, .nil, h1', fun v' H' d S' e => p v' H' d S' (e1.trans e)⟩
    | cons e0 er =>
      cases er with
      | cons _ _ => simp at h5
      | nil =>
      cases es with
      | nil => cases h4
      | cons ie0 ier =>
      cases ier with
      | cons _ _ => simp [chkEs] at h4
      | nil =>
      simp only [chkEs, Bool.and_eq_true] at h4
      have ihe0 : OkE G C ie0 := by cases ihe; assumption
      refine (pe_m1 s1 s2 (smt_ok m) ho (ihe0 X W A g _ h4.1) (star_cons (chkE_nst h4.1)) (base_ok h3) h6).imp ?_
      rintro σ H Q ⟨σd, S, Qd, E, rn, rs, h, p, xp⟩
      refine ⟨σd, S, _, E, rn, rs, h, fun v H1 x' S1 e1 rx rs1 h1' => ?_, xp⟩
      obtain ⟨t1, h1'⟩ := h1'
      have h1' : semE G C E ie0 σd S1 (fun d S2 => smtS m x' [d] S2 Qd) := h1'
      refine ⟨ty rx t1, σd, S1, _, E, rn.ext e1, rs1, h1', fun w H2 d S2 e2 rd rs2 h2 => ?_, xp.ext e1⟩
      exact ⟨x', [d], S2, Qd, rs2, rx.ext e2, .cons rd .nil, h2, fun v' H' d S' e => p v' H' d S' ((e1.trans e2).trans e)⟩
  · cases h
theorem ok_fldx {o : IE} {f : Str} (iho : OkE G C o) : OkE G C (.fldx o f) := by
  intro X W A g e h
  unfold chkE at h
  split at h
  · rename_i x nm p
    simp only [Bool.and_eq_true, decide_eq_true_eq] at h
    obtain ⟨⟨h1, h2⟩, h3⟩ := h
    subst h1
    have ho := iho X W A g _ h2
    rcases hxc : G.xc with _ | ⟨ba, ex⟩
    · refine ⟨fun pins s σ H Q I hh => ?_⟩
      obtain ⟨σd, S, Qd, E, rn, rs, h, p, xp⟩ := hh
      simp only [semE, hxc] at h
    · by_cases hp : ∃ q b, xpl ex.fs = some q ∧ G.xf ex.cls = some (nm, b)
      · obtain ⟨q, b, hq, hf⟩ := hp
        obtain ⟨_, _, D, d1, _, d3⟩ := g.xcg _ _ hxc
        refine (d3 q hq nm b hf x _ _ ho (base_ok h3)).imp ?_
        rintro σ H Q ⟨σd, S, Qd, E, rn, rs, h, p, xp⟩
        simp only [semE, hxc] at h
        refine ⟨σd, S, _, E, rn, rs, h, fun v H1 y S1 e1 rx rs1 h1 => ?_, xp⟩
        obtain ⟨h0, h1⟩ := h1
        subst h0
        cases rx
        simp only [fldxS, hf, hq] at h1
        obtain ⟨_, h1⟩ := h1
        split at h1
        · rename_i fs e2
          obtain ⟨fv, k1, k2⟩ := rs1.xget e2
          split at h1
          · rename_i d e3
            obtain ⟨w, w1, w2⟩ := look_rel k2 e3
            exact ⟨rfl, fv, w, k1, w1, p w H1 d S1 e1 w2 rs1 h1⟩
          · exact h1.elim
        · exact h1.elim
      · refine ⟨fun pins s σ H Q I hh => ?_⟩
        obtain ⟨σd, S, Qd, E, rn, rs, h, p, xp⟩ := hh
        simp only [semE, hxc] at h
        refine attr_of (base_ok h3) (thn (ho.run pins s σ H (fun _ _ => False) I ⟨σd, S, _, E, rn, rs, h, fun v H1 y S1 e1 rx rs1 h1 => ?_, xp⟩) fun u s1 hh => ?_)
        · obtain ⟨h0, h1⟩ := h1
          unfold fldxS at h1
          split at h1
          · rename_i g' b e1
            obtain ⟨h4, h1⟩ := h1
            split at h1
            · rename_i q e2
              exact hp ⟨q, b, e2, by rw [e1, h4]⟩
            · exact h1
          · exact h1
        · obtain ⟨_, _, _, _, hh⟩ := hh
          exact hh.elim
  · cases h
def prs (ks : List Str) (vs : List V) : List (V × V) := (ks.zip vs).map fun p => (V.str p.1, p.2)
theorem pairs_ok {X : Cx} {W : WX} {A : Sc} (g : Good G C X W A) {pos : Pos} : ∀ {es : IEs}, AllE G C es → ∀ {ks : List Str} {keys : List (Option Expr)} {vals : List Expr}, keysW ks keys = true → chkEs A es vals = true → ks.length = vals.length →
    ∃ trs, PPs X pos keys vals trs ∧ keys.all (·.isSome) = true ∧ keys.length = vals.length ∧ ∀ σ H Qp, LA X W vals.length (fun E => semEs G C E es) σ H (fun vs H' => Qp (prs ks vs) H') → tPairs trs σ H Qp
  | .nil, _, ks, keys, [], hk, hc, hl => by
    cases ks with
    | cons _ _ => cases hl
    | nil =>
      cases keys with
      | cons _ _ => cases hk
      | nil => exact ⟨[], pps_nil, rfl, rfl, fun σ H Qp h => LA.nil σ H _ h⟩
  | .nil, _, ks, keys, _ :: _, hk, hc, hl => by cases hc
  | .cons e r, .cons he hr, ks, keys, [], hk, hc, hl => by cases hc
  | .cons e r, .cons he hr, ks, keys, v :: vals, hk, hc, hl => by
    cases ks with
    | nil => cases hl
    | cons k ks =>
      simp only [chkEs, Bool.and_eq_true] at hc
      have hkk : ∃ kk pp rest, keys = some (.Constant (.str k) kk pp) :: rest ∧ keysW ks rest = true := by
        cases keys with
        | nil => cases hk
        | cons q rest =>
          unfold keysW at hk
          split at hk
          · rename_i a1 a2
            cases a1
          · rename_i a1 a2 a3 a4 a5 a6 a7 a8
            cases a7
            cases a8
            simp only [Bool.and_eq_true, decide_eq_true_eq] at hk
            obtain ⟨h1, h2⟩ := hk
            subst h1
            exact ⟨_, _, _, rfl, h2⟩
          · cases hk
      obtain ⟨kk, pp, rest, rfl, hk2⟩ := hkk
      obtain ⟨trs, t1, t2, t3, t4⟩ := pairs_ok g (pos := pos) hr hk2 hc.2 (by simpa using hl)
      refine ⟨(tC (.str k), LE X W fun E => semE G C E e) :: trs, pps_cons pe_str (he X W A g _ hc.1) t1, by rw [List.all_cons, t2]; rfl, by rw [List.length_cons, List.length_cons, t3], fun σ H Qp h => ?_⟩
      obtain ⟨σd, S, Qd, E, rn, rs, h, p, xp⟩ := h
      refine ⟨σd, S, _, E, rn, rs, h, fun v' H1 x S1 e1 rx rs1 h1 => t4 σ H1 _ ⟨σd, S1, _, E, rn.ext e1, rs1, h1, fun vs H2 ds S2 e2 hl2 rd rs2 h2 => ?_, xp.ext e1⟩, xp⟩
      exact p (v' :: vs) H2 (x :: ds) S2 (e1.trans e2) (by rw [List.length_cons, hl2, List.length_cons]) (.cons (rx.ext e2) rd) rs2 h2
theorem merge_new : ∀ (kvs acc : List (Str × V)), (acc ++ kvs).map (·.1) |>.Nodup → mergeK (acc.map keyS) (kvs.map keyS) = (acc ++ kvs).map keyS
  | [], acc, _ => by
    rw [List.append_nil]
    rfl
  | p :: kvs, acc, h => by
    show mergeK (putK (acc.map keyS) (keyS p).1 (keyS p).2) (kvs.map keyS) = _
    have hn : (acc.map keyS).any (fun kv => decide (kv.1 = (keyS p).1)) = false := by
      rw [List.any_eq_false]
      intro q hq
      obtain ⟨r, hr, rfl⟩ := List.mem_map.mp hq
      intro z
      have z : (Sum.inr r.1 : Key) = Sum.inr p.1 := of_decide_eq_true z
      have z := Sum.inr.inj z
      rw [List.map_append, List.nodup_append] at h
      exact h.2.2 r.1 (List.mem_map_of_mem hr) p.1 (by simp) z
    unfold putK
    rw [hn, if_neg (by decide)]
    have := merge_new kvs (acc ++ [p]) (by rw [List.append_assoc]; exact h)
    rw [List.map_append] at this
    have e : acc ++ p :: kvs = acc ++ [p] ++ kvs := by simp
    rw [e]
    exact this
theorem pr_zip {K : PySem.W.Frag} {H : Hp} : ∀ {ks : List Str} {ds : List D} {vs : List V}, Rvs K H ds vs → PR K H (ks.zip ds) (ks.zip vs)
  | [], _, _, _ => .nil
  | _ :: _, [], _, h => by cases h; exact .nil
  | k :: ks, d :: ds, _, h => by
    cases h with
    | cons h t => exact .cons ⟨rfl, h⟩ (pr_zip t)
theorem ok_dct {ks : List Str} {es : IEs} (ih : AllE G C es) : OkE G C (.dct ks es) := by
  intro X W A g e h
  unfold chkE at h
  split at h
  · rename_i keys vals pos
    simp only [Bool.and_eq_true, decide_eq_true_eq] at h
    obtain ⟨⟨⟨⟨h1, h2⟩, h3⟩, h4⟩, h5⟩ := h
    obtain ⟨trs, t1, t2, t3, t4⟩ := pairs_ok g (pos := pos) ih h1 h2 h3
    by_cases h0 : keys = []
    · subst h0
      cases vals with
      | cons _ _ => cases t3
      | nil =>
        cases ks with
        | cons _ _ => cases h3
        | nil =>
        cases es with
        | cons _ _ => cases h2
        | nil =>
        refine pe_dnewK.imp ?_
        rintro σ H Q ⟨σd, S, Qd, E, rn, rs, h, p, xp⟩
        intro a na
        have h : ∀ a, S a = none → put S a (.dct []) a = some (.dct []) ∧ Qd (.ref a) (put (put S a (.dct [])) a (.dct [])) := h
        have h := (h a (rs.none na)).2
        have e : put (put S a (Ob.dct [])) a (.dct []) = put S a (.dct []) := by funext b; unfold put; split <;> rfl
        rw [e] at h
        exact p (.ref a) _ (.ref a) _ (Ext.new na) (.ref a) (rs.over (ob := .dct []) (Ext.new na) ⟨[], upd_same, .nil⟩) h
    · refine (pe_disp t1 t2 t3 h0 (by rw [t3, ← h3]; exact h4)).imp ?_
      rintro σ H Q ⟨σd, S, Qd, E, rn, rs, h, p, xp⟩
      intro a na
      have x := Ext.new (o := .dK []) na
      refine t4 σ _ _ ⟨σd, _, _, E, rn.ext x, rs.over (ob := .dct []) x ⟨[], upd_same, .nil⟩, h a (rs.none na), fun vs H2 ds S2 e2 hl rd rs2 h2 => ?_, xp.ext x⟩
      obtain ⟨q1, q2⟩ := h2
      obtain ⟨kv, k1, k2⟩ := rs2 _ _ q1
      have : kv = [] := by cases k2; rfl
      subst this
      refine ⟨k1, (ks.zip vs).map keyS, ?_, ?_, ?_⟩
      · unfold prs
        rw [List.map_map]
        rfl
      · rw [List.length_map, List.length_zip]
        omega
      · have hm := merge_new (ks.zip vs) [] (by
          rw [List.nil_append, List.map_fst_zip (by omega)]
          exact h5)
        have hm : mergeK [] ((ks.zip vs).map keyS) = (ks.zip vs).map keyS := hm
        rw [hm]
        have x2 := Ext.dK (o := .dK ((ks.zip vs).map keyS)) k1
        exact p (.ref a) _ (.ref a) _ ((x.trans e2).trans x2) (.ref a) (rs2.over (ob := .dct (ks.zip ds)) x2 ⟨_, upd_same, pr_zip (Rvs.ext x2 rd)⟩) q2
  · cases h
theorem ok_rsl {a : IE} (iha : OkE G C a) : OkE G C (.rsl a) := by
  intro X W A g e h
  unfold chkE at h
  split at h
  · refine (pe_revL (iha X W A g _ h)).imp ?_
    rintro σ H Q ⟨σd, S, Qd, E, rn, rs, h, p, xp⟩
    refine ⟨σd, S, _, E, rn, rs, h, fun v H1 x S1 e1 rx rs1 h1 => ?_, xp⟩
    unfold rslS at h1
    split at h1
    · split at h1
      · rename_i xs e
        cases rx
        obtain ⟨vs, q1, q2⟩ := rs1.lget e
        have p1 : Post _ H1 Qd Q := fun v' H' d S' e => p v' H' d S' (e1.trans e)
        exact ⟨_, _, rfl, q1, p1.lst rs1 q2.reverse h1⟩
      · exact h1.elim
    · exact h1.elim
  · cases h
theorem ok_gix {y : Str} {a : IE} (iha : OkE G C a) : OkE G C (.gix y a) := by
  intro X W A g e h
  unfold chkE at h
  split at h
  · rename_i x p1 sl p2
    simp only [Bool.and_eq_true, decide_eq_true_eq] at h
    obtain ⟨⟨⟨⟨h1, h2⟩, h3⟩, h4⟩, h5⟩ := h
    subst h1
    obtain ⟨q1, q2⟩ := glb_of g.sc h2
    have ha := iha X W A g _ h4
    obtain ⟨kvs, hk, p, m1, m2⟩ := g.kdt _ h5
    · skip
      refine (pe_ix ix_kdict (pe_glob q1 m1 (v := .ref p) rfl q2) ha (ix_ok h3)).imp ?_
      rintro σ H Q ⟨σd, S, Qd, E, rn, rs, h, pq, xp⟩
      refine ⟨σd, S, _, E, rn, rs, h, fun v H1 y S1 e1 rx rs1 h1 => ?_, xp⟩
      unfold gixS at h1
      rw [hk] at h1
      simp only at h1
      split at h1
      · rename_i z
        cases rx
        split at h1
        · rename_i d e2
          obtain ⟨v, v1, v2⟩ := m2 z d e2
          exact ⟨p, z, v, rfl, rfl, v1, pq v H1 d S1 e1 (v2 H1) rs1 h1⟩
        · exact h1.elim
      · exact h1.elim
  · cases h
theorem lck_red {X : Cx} {W : WX} {a : IE} {i : Nat} : ∀ σ H Q, LE X W (fun E => semE G C E (.lck a i)) σ H Q → tLockE (LE X W fun E => semE G C E a) σ H Q := by
  rintro σ H Q ⟨σd, S, Qd, E, rn, rs, h, p, xp⟩
  have h : lckS S (gt σd i) (fun S1 Q1 => semE G C E a σd S1 Q1) Qd := h
  unfold lckS at h
  split at h
  · rename_i ad eg
    split at h
    · rename_i kvs ek
      obtain ⟨kv, k1, k2⟩ := rs _ _ ek
      refine ⟨ad, _, k1, trivial, fun od => ?_⟩
      have x := Ext.dK (o := .frz od (.dK (kv.map keyS))) k1
      refine ⟨σd, _, _, E, rn.ext x, rs.over (ob := .dcl od kvs) x ⟨kv, upd_same, Paired.mono (fun p q z => ⟨z.1, Rv.ext x z.2⟩) k2⟩, h od, fun v H1 d S1 e1 rv rs1 h1 => ?_, xp.ext x⟩
      obtain ⟨q1, q2⟩ := h1
      obtain ⟨kv2, l1, l2⟩ := rs1 _ _ q1
      have l3 := e1.frzK _ _ _ (upd_same (H := H) (a := ad) (o := .frz od (.dK (kv.map keyS))))
      have l4 : kv2 = kv := by
        rw [l3] at l1
        injection l1 with l1
        injection l1 with _ l1
        injection l1 with z
        exact keyS_inj z.symm
      subst l4
      have xw : ExtW H1 (upd H1 ad (.dK (kv2.map keyS))) := ExtW.over l3 (fun _ z => by cases z) (fun _ _ z => by cases z) (fun _ _ z => by cases z)
      have xf : Ext H (upd H1 ad (.dK (kv2.map keyS))) := by
        have ne : ∀ {b : Addr} {u : HO}, H b = some u → (∀ w, u ≠ .dK w) → b ≠ ad := fun {b u} e z q => by
          rw [q, k1] at e
          cases e
          exact z _ rfl
        refine ⟨⟨fun b ys e => ?_, fun b o ys e => ?_, fun b o ys e => ?_⟩, fun b o ys e => ?_⟩
        · have n := ne e (fun _ z => by cases z)
          rw [upd_ne n]
          exact e1.w.tup _ _ (by rw [upd_ne n]; exact e)
        · have n := ne e (fun _ z => by cases z)
          rw [upd_ne n]
          exact e1.w.frzL _ _ _ (by rw [upd_ne n]; exact e)
        · have n := ne e (fun _ z => by cases z)
          rw [upd_ne n]
          exact e1.w.frzT _ _ _ (by rw [upd_ne n]; exact e)
        · have n := ne e (fun _ z => by cases z)
          rw [upd_ne n]
          exact e1.frzK _ _ _ (by rw [upd_ne n]; exact e)
      exact ⟨l3, p v _ d _ xf (Rv.extW xw rv) (rs1.overW (ob := .dct kvs) xw ⟨kv2, upd_same, Paired.mono (fun p q z => ⟨z.1, Rv.extW xw z.2⟩) l2⟩) q2⟩
    · exact h.elim
  · exact h.elim
theorem ok_lck {a : IE} {i : Nat} (iha : OkE G C a) : OkE G C (.lck a i) := by
  intro X W A g e h
  unfold chkE at h
  split at h
  · rename_i el gs sc p
    simp only [Bool.and_eq_true] at h
    refine (pe_lock (iha X W A g _ h.1)).imp ?_
    exact lck_red
  · cases h
/-! ### methods -/
theorem slot_me : ∀ m : Me, Slot "list" (meNm m) (meId m) ∧ typeOf (.builtin (meId m)) = pure (.type "method_descriptor")
  | .append => ⟨PySem.F.slot_list_append, PySem.F.type_list_append⟩
  | .pop => ⟨PySem.F.slot_list_pop, PySem.F.type_list_pop⟩
  | .popat => ⟨PySem.F.slot_list_pop, PySem.F.type_list_pop⟩
  | .reverse => ⟨PySem.F.slot_list_reverse, PySem.F.type_list_reverse⟩
theorem ok_mth {m : Me} {o : IE} {es : IEs} (iho : OkE G C o) (ih : OkEs G C es) : OkE G C (.mth m o es) := by
  intro X W A g e h
  unfold chkE at h
  split at h
  · rename_i x nm ap args cp
    simp only [Bool.and_eq_true, decide_eq_true_eq] at h
    obtain ⟨⟨⟨⟨⟨h1, h2⟩, h3⟩, h4⟩, h5⟩, h6⟩ := h
    subst h1
    have ho := iho X W A g _ h2
    have hp := ih X W A g _ h4
    obtain ⟨s1, s2⟩ := slot_me m
    have ty : ∀ {H : Hp} {S : Sto} {x : D} {v : V}, RS X.K H S → Rv X.K H x v → mthT m x S → tyV X.K "list" v H := fun {H S x v} rs rx q => by
      unfold mthT at q
      split at q
      · obtain ⟨xs, e⟩ := q
        cases rx
        obtain ⟨vs, h1, _⟩ := rs.lget e
        exact .inl ⟨rfl, vs, h1⟩
      · exact q.elim
    cases args with
    | nil =>
      cases es with
      | cons _ _ => cases h4
      | nil =>
        refine (pe_bm0 PySem.F.plainAttrs_list s1 s2 (mth_ok m) ho (base_ok h3) h6).imp ?_
        rintro σ H Q ⟨σd, S, Qd, E, rn, rs, h, p, xp⟩
        refine ⟨σd, S, _, E, rn, rs, h, fun v H1 x' S1 e1 rx rs1 h1' => ?_, xp⟩
        obtain ⟨t1, h1'⟩ := h1'
        exact ⟨ty rs1 rx t1, x', [], S1, Qd, rs1, rx, .nil, h1', fun v' H' d S' e => p v' H' d S' (e1.trans e)⟩
    | cons e0 er =>
      cases es with
      | nil => cases h4
      | cons ie0 ier =>
      have hst := (chkEs_star (env := X.env) h4)
      have h4' := h4
      simp only [chkEs, Bool.and_eq_true] at h4'
      have hs := star_cons (es := er) (env := X.env) (chkE_nst h4'.1)
      have ht := back_any (pos := cp) (chkEs_star (env := X.env) h4'.2).1
      refine (pe_bm PySem.F.plainAttrs_list s1 s2 (mth_ok m) ho hp (base_ok h3) ?_ h6 hs ht).imp ?_
      · rw [back_all hst.1]
        simp only [Bool.true_and, Bool.and_eq_true, decide_eq_true_eq]
        refine ⟨rfl, ?_⟩
        simp only [List.length_cons, List.length_nil, List.isEmpty_nil, if_true] at h5 ⊢
        omega
      · rintro σ H Q ⟨σd, S, Qd, E, rn, rs, h, p, xp⟩
        refine ⟨σd, S, _, E, rn, rs, h, fun v H1 x' S1 e1 rx rs1 h1' => ?_, xp⟩
        obtain ⟨t1, h1'⟩ := h1'
        refine ⟨ty rs1 rx t1, σd, S1, _, E, rn.ext e1, rs1, h1', fun vs H2 ds S2 e2 hl rd rs2 h2 => ?_, xp.ext e1⟩
        exact ⟨x', ds, S2, Qd, rs2, rx.ext e2, rd, h2, fun v' H' d S' e => p v' H' d S' ((e1.trans e2).trans e)⟩
  · cases h
/-! ### instances -/
theorem ok_fld {o : IE} {f : Str} (iho : OkE G C o) : OkE G C (.fld o f) := by
  intro X W A g e h
  unfold chkE at h
  split at h
  · rename_i x nm p
    simp only [Bool.and_eq_true, decide_eq_true_eq] at h
    obtain ⟨⟨h1, h2⟩, h3⟩ := h
    subst h1
    refine (pe_fld (iho X W A g _ h2) (base_ok h3)).imp ?_
    rintro σ H Q ⟨σd, S, Qd, E, rn, rs, h, p, xp⟩
    refine ⟨σd, S, _, E, rn, rs, h, fun v H1 y S1 e1 rx rs1 h1 => ?_, xp⟩
    split at h1
    · split at h1
      · rename_i C0 fs ei
        cases rx
        obtain ⟨cls, dx, fv, q1, q2, q3⟩ := rs1.iget ei
        obtain ⟨hf, h1⟩ := h1
        obtain ⟨cls', c1, c2, c3⟩ := g.fds _ _ hf
        have := c1.eq q1
        subst this
        split at h1
        · rename_i d ed
          obtain ⟨w, w1, w2⟩ := look_rel q3 ed
          exact ⟨_, _, dx, fv, w, rfl, q2, c2, c3, w1, p w H1 d S1 e1 w2 rs1 h1⟩
        · exact h1.elim
      · exact h1.elim
    · exact h1.elim
  · cases h
theorem form_ok {A : Sc} {es : IEs} {args : List Expr} {pos : Pos} {env : Env} (h : chkEs A es args = true) (hl : args.length < 29) : methodCallForm (args.length + ([] : List Keyword).length) (backTo pos (starEach args env)) (backToKw pos (keywordEach [] env)) = true := by
  unfold methodCallForm
  rw [back_all (chkEs_star (env := env) h).1]
  simp only [Bool.true_and, Bool.and_eq_true, decide_eq_true_eq]
  refine ⟨rfl, ?_⟩
  have e : (backToKw pos (keywordEach [] env)).isEmpty = true := rfl
  simp only [List.length_nil, e, if_true]
  omega
theorem ok_mcl {o : IE} {m : Str} {es : IEs} (iho : OkE G C o) (ih : OkEs G C es) : OkE G C (.mcl o m es) := by
  intro X W A g e h
  unfold chkE at h
  split at h
  · rename_i x nm ap args cp
    simp only [Bool.and_eq_true, decide_eq_true_eq] at h
    obtain ⟨⟨⟨⟨⟨⟨h1, h2⟩, h3⟩, h4⟩, h5⟩, h6⟩, h7⟩ := h
    subst h1
    have ho := iho X W A g _ h2
    have hp := ih X W A g _ h4
    have go : ∀ σ H Q, LE X W (fun E => semE G C E (.mcl o nm es)) σ H Q → tMethG X W nm (LE X W fun E => semE G C E o) (LA X W args.length fun E => semEs G C E es) σ H Q := by
      rintro σ H Q ⟨σd, S, Qd, E, rn, rs, h, p, xp⟩
      refine ⟨σd, S, _, E, rn, rs, h, fun v H1 y S1 e1 rx rs1 h1 => ?_, xp⟩
      split at h1
      · rename_i a
        split at h1
        · rename_i C0 fs ei
          cases rx
          obtain ⟨cls, dx, fv, q1, q2, q3⟩ := rs1.iget ei
          obtain ⟨hf, h1⟩ := h1
          split at h1
          · rename_i key ek
            obtain ⟨cls', f, fd, ps, k, c1, c2, c3, c4, c5, c6⟩ := g.mts h7 _ _ _ ek
            have := c1.eq q1
            subst this
            refine ⟨_, _, dx, fv, f, fd, ps, k, _, rfl, q2, look_none q3 hf, c2, c3, c6, c5, c4, ?_⟩
            refine ⟨σd, S1, _, E, rn.ext e1, rs1, h1, fun vs H2 ds S2 e2 hl rd rs2 h2 => ?_, xp.ext e1⟩
            exact ⟨.ref a :: ds, S2, Qd, E, .cons (.ref a) rd, rs2, h2, fun v' H' d S' e => p v' H' d S' ((e1.trans e2).trans e), xp.ext (e1.trans e2)⟩
          · exact h1.elim
        · exact h1.elim
      · exact h1.elim
    cases args with
    | nil =>
      cases es with
      | cons _ _ => cases h4
      | nil =>
        refine (pe_methG0 ho g.tk (base_ok h3) h6).imp fun σ H Q z => ?_
        have z := go σ H Q z
        obtain ⟨σd, S, R, E, rn, rs, h, p, xp⟩ := z
        refine ⟨σd, S, R, E, rn, rs, h, fun v H1 y S1 e1 rx rs1 h1 => ?_, xp⟩
        obtain ⟨a, cls, dx, fs, f, fd, ps, k, sp, b1, b2, b3, b4, b5, b6, b7, b8, b9⟩ := p v H1 y S1 e1 rx rs1 h1
        refine ⟨a, cls, dx, fs, f, fd, ps, k, sp, b1, b2, b3, b4, b5, b6, b7, b8, ?_⟩
        exact LA.nil _ _ _ b9
    | cons e0 er =>
      cases es with
      | nil => cases h4
      | cons ie0 ier =>
      have h4' := h4
      simp only [chkEs, Bool.and_eq_true] at h4'
      have hs := star_cons (es := er) (env := X.env) (chkE_nst h4'.1)
      have ht := back_any (pos := cp) (chkEs_star (env := X.env) h4'.2).1
      exact (pe_methG ho hp g.tk (base_ok h3) (form_ok h4 h5) h6 hs ht).imp go
  · cases h
theorem ok_mk {y : Str} {es : IEs} (ih : OkEs G C es) : OkE G C (.mk y es) := by
  intro X W A g e h
  unfold chkE at h
  split at h
  · rename_i x p1 args p2
    simp only [Bool.and_eq_true, decide_eq_true_eq] at h
    obtain ⟨⟨⟨⟨h1, h2⟩, h3⟩, h4⟩, h5⟩ := h
    subst h1
    obtain ⟨q1, q2⟩ := glb_of g.sc h2
    have hp := ih X W A g _ h5
    have go : ∀ (cls a : Addr) (fd : FuncData) (ps : List Str) (k : Nat) (key : Str), G.it x = some (some key) → ClsAt X.K x cls → ∀ σ H Q, LE X W (fun E => semE G C E (.mk x es)) σ H Q → tMakeS W cls (LF X.K X.mg C key) (LA X W args.length fun E => semEs G C E es) σ H Q := by
      rintro cls a fd ps k key ei hc σ H Q ⟨σd, S, Qd, E, rn, rs, h, p, xp⟩
      refine ⟨σd, S, _, E, rn, rs, h, fun vs H1 ds S1 e1 hl rd rs1 h1 => ?_, xp⟩
      rw [ei] at h1
      intro b dx nb nd ne
      have e2 : Ext H1 (upd (upd H1 dx (.own b)) b (.ins cls dx [])) := Ext.newI nb nd ne
      refine ⟨.ref b :: ds, _, _, E, .cons (.ref b) (Rvs.ext e2 rd), rs1.newI hc nb nd ne, h1 b (rs1.none nb), fun v' H' d S' e3 rv rs' hq => ?_, xp.ext (e1.trans e2)⟩
      obtain ⟨hq1, hq2⟩ := hq
      subst hq1
      cases rv
      exact ⟨rfl, p _ H' _ S' ((e1.trans e2).trans e3) (.ref b) rs' hq2⟩
    cases hb : A.mks.lookup x with
    | none => rw [hb] at h3; cases h3
    | some own =>
    rw [hb] at h3
    cases own with
    | true =>
      obtain ⟨key, cls, a, fd, ps, k, ei, c1, c2, c3, c4, c5, c6⟩ := g.mk1 h4 x hb
      cases args with
      | nil =>
        cases es with
        | cons _ _ => cases h5
        | nil =>
          refine (pe_makeS0 c3 c6 c5 q1 c2 c4 g.tk q2).imp fun σ H Q z => ?_
          exact LA.nil _ _ _ (go cls a fd ps k key ei c1 σ H Q z)
      | cons e0 er =>
        cases es with
        | nil => cases h5
        | cons ie0 ier =>
        have h5' := h5
        simp only [chkEs, Bool.and_eq_true] at h5'
        have hs := star_cons (es := er) (env := X.env) (chkE_nst h5'.1)
        have ht := back_any (pos := p2) (chkEs_star (env := X.env) h5'.2).1
        exact (pe_makeS c3 c6 c5 q1 c2 c4 g.tk hp q2 hs ht).imp (go cls a fd ps k key ei c1)
    | false =>
      obtain ⟨ei, cls, c1, c2, c3, c4, c5⟩ := g.mk0 h4 x hb
      cases args with
      | cons _ _ => cases h3
      | nil =>
        cases es with
        | cons _ _ => cases h5
        | nil =>
          refine (pe_newI q1 c2 c3 c4 c5 q2).imp ?_
          rintro σ H Q ⟨σd, S, Qd, E, rn, rs, hz, p, xp⟩
          simp only [semE, semEs, ei] at hz
          intro b dx nb nd ne
          exact p _ _ _ _ (Ext.newI nb nd ne) (.ref b) (rs.newI c1 nb nd ne) (hz.2 b (rs.none nb))
  · cases h
theorem ok_nil : OkEs G C .nil := by
  intro X W A g es h
  cases es with
  | nil => exact pa_nil.imp LA.nil
  | cons _ _ => cases h
theorem ok_cons {e : IE} {r : IEs} (ihe : OkE G C e) (ihr : OkEs G C r) : OkEs G C (.cons e r) := by
  intro X W A g es h
  cases es with
  | nil => cases h
  | cons x t =>
    simp only [chkEs, Bool.and_eq_true] at h
    exact (pa_cons (ihe X W A g _ h.1) (ihr X W A g _ h.2) (star_cons (chkE_nst h.1))).imp LA.cons
theorem ok_ono : OkO G C .no := by
  intro X W A g o h
  cases o with
  | none =>
    refine po_none.imp ?_
    rintro σ H Q ⟨σd, S, Qd, E, rn, rs, h, p, xp⟩
    exact p none H S (Ext.refl H) rs h
  | some _ => cases h
theorem ok_osome {e : IE} (ihe : OkE G C e) : OkO G C (.some e) := by
  intro X W A g o h
  cases o with
  | none => cases h
  | some x =>
    refine (po_some (ihe X W A g _ h)).imp ?_
    rintro σ H Q ⟨σd, S, Qd, E, rn, rs, h, p, xp⟩
    refine ⟨σd, S, _, E, rn, rs, h, fun v H1 x S1 e1 rx rs1 h1 => ?_, xp⟩
    split at h1
    · cases rx
      exact ⟨_, rfl, p _ H1 S1 e1 rs1 h1⟩
    · exact h1.elim

/-! ### tests -/
theorem pw_bool {op : BoolOp} {vs : List Expr} {p : Pos} {t : TT} (h : PT X (.BoolOp op vs p) t) : PW X (.BoolOp op vs p) t := ⟨fun wh pins s σ H Q I q => h.run pins s σ H Q I q⟩
theorem ok_cand {a b : IC} (iha : OkC G C a) (ihb : OkC G C b) : OkC G C (.and a b) := by
  intro X W A g e h
  unfold chkC at h
  split at h
  · simp only [Bool.and_eq_true] at h
    refine (pw_and (iha X W A g _ h.1) (pw_bool (ihb X W A g _ h.2))).pt.imp ?_
    rintro σ H Q ⟨σd, S, Qd, E, rn, rs, h, p, xp⟩
    refine ⟨σd, S, _, E, rn, rs, h, fun k H1 S1 e1 rs1 h1 => ?_, xp⟩
    cases k with
    | true => exact ⟨σd, S1, Qd, E, rn.ext e1, rs1, h1, fun v H' S' e => p v H' S' (e1.trans e), xp.ext e1⟩
    | false => exact p false H1 S1 e1 rs1 h1
  · cases h
theorem ok_cor {a b : IC} (iha : OkC G C a) (ihb : OkC G C b) : OkC G C (.or a b) := by
  intro X W A g e h
  unfold chkC at h
  split at h
  · simp only [Bool.and_eq_true] at h
    refine (pw_or (iha X W A g _ h.1) (pw_bool (ihb X W A g _ h.2))).pt.imp ?_
    rintro σ H Q ⟨σd, S, Qd, E, rn, rs, h, p, xp⟩
    refine ⟨σd, S, _, E, rn, rs, h, fun k H1 S1 e1 rs1 h1 => ?_, xp⟩
    cases k with
    | false => exact ⟨σd, S1, Qd, E, rn.ext e1, rs1, h1, fun v H' S' e => p v H' S' (e1.trans e), xp.ext e1⟩
    | true => exact p true H1 S1 e1 rs1 h1
  · cases h
theorem ok_cone {a : IC} (iha : OkC G C a) : OkC G C (.one a) := by
  intro X W A g e h
  unfold chkC at h
  split at h
  · rename_i op x p
    cases op with
    | And => exact (pw_and1 (iha X W A g _ h)).pt.imp fun σ H Q z => z
    | Or => exact (pw_or1 (iha X W A g _ h)).pt.imp fun σ H Q z => z
  · cases h
theorem ok_cnot {a : IC} (iha : OkC G C a) : OkC G C (.not a) := by
  intro X W A g e h
  unfold chkC at h
  split at h
  · refine (pt_not (iha X W A g _ h)).imp ?_
    rintro σ H Q ⟨σd, S, Qd, E, rn, rs, h, p, xp⟩
    exact ⟨σd, S, _, E, rn, rs, h, fun k H1 S1 e1 rs1 h1 => p _ H1 S1 e1 rs1 h1, xp⟩
  · cases h
theorem ok_ccmp {op : CmpOp} {a b : IE} (iha : OkE G C a) (ihb : OkE G C b) : OkC G C (.cmp op a b) := by
  intro X W A g e h
  unfold chkC at h
  split at h
  · simp only [Bool.and_eq_true, decide_eq_true_eq] at h
    obtain ⟨⟨h1, h2⟩, h3⟩ := h
    subst h1
    exact (pt_cmpR (cmpR_ok (Nat.lt_of_succ_lt g.hu) op) (iha X W A g _ h2) (ihb X W A g _ h3) (mark_ok h3)).imp LT.cmp
  · cases h
theorem LT.chain {fa fb fc : FE} {op op2 : CmpOp} : ∀ σ H Q, LT X W (fun E σ S Q => fa E σ S fun x S1 => fb E σ S1 fun y S2 => cmpS op x y S2 fun k =>
      if k = true then fc E σ S2 fun z S3 => cmpS op2 y z S3 fun k2 => Q k2 S3 else Q false S2) σ H Q → tTest (tChain (RC X.K op) (RC X.K op2) (LE X W fa) (LE X W fb) (LE X W fc)) σ H Q := by
  rintro σ H Q ⟨σd, S, Qd, E, rn, rs, h, p, xp⟩
  refine ⟨σd, S, _, E, rn, rs, h, fun v H1 x S1 e1 rx rs1 h1 => ⟨σd, S1, _, E, rn.ext e1, rs1, h1, fun w H2 y S2 e2 ry rs2 h2 => ?_, xp.ext e1⟩, xp⟩
  refine ⟨x, y, S2, _, rs2, rx.ext e2, ry, h2, fun k hk => ⟨k, rfl, ?_⟩⟩
  cases k with
  | true =>
    have hk : fc E σd S2 _ := hk
    refine ⟨σd, S2, _, E, rn.ext (e1.trans e2), rs2, hk, fun u H3 z S3 e3 rz rs3 h3 => ?_, xp.ext (e1.trans e2)⟩
    exact ⟨y, z, S3, _, rs3, ry.ext e3, rz, h3, fun k hk => ⟨k, rfl, p _ H3 S3 ((e1.trans e2).trans e3) rs3 hk⟩⟩
  | false =>
    have hk : Qd false S2 := hk
    exact ⟨false, rfl, p _ H2 S2 (e1.trans e2) rs2 hk⟩
theorem ok_cchn {op op2 : CmpOp} {a b c : IE} (iha : OkE G C a) (ihb : OkE G C b) (ihc : OkE G C c) : OkC G C (.chn op op2 a b c) := by
  intro X W A g e h
  unfold chkC at h
  split at h
  · simp only [Bool.and_eq_true, decide_eq_true_eq] at h
    obtain ⟨⟨⟨⟨h1, h2⟩, h3⟩, h4⟩, h5⟩ := h
    subst h1
    subst h2
    have hu := Nat.lt_of_succ_lt g.hu
    exact (pt_chain (cmpR_ok hu op) (cmpR_ok hu op2) (iha X W A g _ h3) (ihb X W A g _ h4) (ihc X W A g _ h5) (marks_ok h5)).imp LT.chain
  · cases h
theorem ok_cv {a : IE} (iha : OkE G C a) : OkC G C (.v a) := by
  intro X W A g e h
  unfold chkC at h
  simp only [Bool.and_eq_true] at h
  refine (pt_truth (iha X W A g _ h.1) (plt_ok h.2)).imp ?_
  rintro σ H Q ⟨σd, S, Qd, E, rn, rs, h, p, xp⟩
  refine ⟨σd, S, _, E, rn, rs, h, fun v H1 x S1 e1 rx rs1 h1 => ?_, xp⟩
  obtain ⟨k, k1, k2⟩ := tru_rel rs1 rx h1
  exact ⟨k, k1, p k H1 S1 e1 rs1 k2⟩
end
end Ev

/-! zip of a list with a tuple of the same length: over the library's zip of two iterators of any kind. -/
namespace Ev
open PySem PySem.Spec PyProof.Rows L2
theorem zipSep {z TI TO i1 i2 a b : Addr} (D : ZipApart z TI TO i1 i2 a b) (h : i1 ≠ b ∧ i2 ≠ a) : ZipSep2 z TI TO i1 i2 [i1, a] [i2, b] where
  TIz := D.TIz
  TOz := D.TOz
  TITO := D.TITO
  TIi1 := D.TIi1
  mem1 := by simp
  zf1 := by simp; exact ⟨D.i1z.symm, D.l1z.symm⟩
  Tf1 := by simp; exact ⟨D.TOi1, D.l1TO.symm⟩
  TIi2 := D.TIi2
  mem2 := by simp
  zf2 := by simp; exact ⟨D.i2z.symm, D.l2z.symm⟩
  Tf2 := by simp; exact ⟨D.TOi2, D.l2TO.symm⟩
  sep1_2 := by simp; exact ⟨D.i12, h.1⟩
  sep2_1 := by simp; exact ⟨D.i12.symm, h.2⟩
/-- the list at a and the tuple at b, of one length, as they stand at each turn -/
def ItM (K : PySem.W.Frag) (a b : Addr) : L2.It :=
  ⟨fun i H => ∃ (xs ys : List V) (x y : V), SqL K H a xs ∧ SqT K H b ys ∧ xs[i]? = some x ∧ ys[i]? = some y,
    fun i H v H' => ∃ T x y, v = .ref T ∧ H T = none ∧ H' = upd H T (.tup [x, y]) ∧ (∀ xs, SqL K H a xs → xs[i]? = some x) ∧ ∀ ys, SqT K H b ys → ys[i]? = some y,
    fun i H => ∃ xs ys : List V, SqL K H a xs ∧ SqT K H b ys ∧ i = xs.length ∧ i = ys.length⟩
theorem turn_zipM {P : Program} {w : World} {K : PySem.W.Frag} {elts : List Expr} {kk : Nat} {tpos : Pos} {a b z TI TO i1 i2 : Addr} (D : ZipApart z TI TO i1 i2 a b) :
    Turn P w K (.Tuple elts kk tpos) (ItM K a b) [z, TI, TO, i1, i2] z (fun i h => IsZip h z TI TO .none ∧ IsTupOf2 h TI (.ref i1) (.ref i2) ∧ (∃ x y, IsTupOf2 h TO x y) ∧ h.IsListIter i1 a i ∧ h.IsTupleIter i2 b i) where
  mem := by simp
  obj := fun i h st c hc => by
    obtain ⟨hz, hTI, ⟨x, y, hTO⟩, ⟨o1, e1, _, d1⟩, ⟨o2, e2, _, d2⟩⟩ := st
    have e' : c = z ∨ c = TI ∨ c = TO ∨ c = i1 ∨ c = i2 := by simpa using hc
    rcases e' with q | q | q | q | q
    · rw [q]; exact ⟨_, hz, fun v q => nomatch q⟩
    · rw [q]; exact ⟨_, hTI, fun v q => nomatch q⟩
    · rw [q]; exact ⟨_, hTO, fun v q => nomatch q⟩
    · rw [q]; exact ⟨o1, e1, fun v q => by rw [d1] at q; cases q⟩
    · rw [q]; exact ⟨o2, e2, fun v q => by rw [d2] at q; cases q⟩
  keep := fun i h h' st k => by
    obtain ⟨hz, hTI, ⟨x, y, hTO⟩, h1, h2⟩ := st
    exact ⟨k z (by simp) _ hz, k TI (by simp) _ hTI, ⟨x, y, k TO (by simp) _ hTO⟩, h1.at fun o q => k i1 (by simp) o q, h2.at fun o q => k i2 (by simp) o q⟩
  item := by
    intro X hP hw hK hc i pins s σ H E I hf st hg
    subst hP hw hK
    obtain ⟨hz, hTI, ⟨x0, y0, hTO⟩, h1, h2⟩ := st
    obtain ⟨xs, ys, x, y, hqx, hqy, hx, hy⟩ := hg
    obtain ⟨its, rv, p, _⟩ := I.list hqx
    obtain ⟨its2, rv2, p2, _⟩ := I.tuple hqy
    obtain ⟨u, hu, ru⟩ := rv.get hx
    obtain ⟨u2, hu2, ru2⟩ := rv2.get hy
    have hzl : z < s.heap.objs.size := Heap.lt_size hz
    have n1 : i < its.toArray.size := by simpa using (List.getElem?_eq_some_iff.mp hu).1
    have n2 : i < its2.toArray.size := by simpa using (List.getElem?_eq_some_iff.mp hu2).1
    have i1b : i1 ≠ b := fun e => by
      obtain ⟨o1, e1, c1, _⟩ := h1
      obtain ⟨o2, e2, c2, _⟩ := p2
      rw [e, e2] at e1
      cases e1
      rw [c2] at c1
      revert c1; decide
    have i2a : i2 ≠ a := fun e => by
      obtain ⟨o1, e1, c1, _⟩ := h2
      obtain ⟨o2, e2, c2, _⟩ := p.isList
      rw [e, e2] at e1
      cases e1
      rw [c2] at c1
      revert c1; decide
    refine wpAny_pyNext_zipD2_item (zipSep D ⟨i1b, i2a⟩) (Draws.list (A := Around.in1 _) (show Around.handled _ = none from I.ok.hd hc) i1 a D.l1i1 its.toArray) (Draws.tuple (A := Around.in1 _) (show Around.handled _ = none from I.ok.hd hc) i2 b D.l2i2 its2.toArray) hz hTI hTO ⟨h1, p.isList⟩ ⟨h2, p2⟩ n1 n2 fun w1 w2 h' tk hw1 hw2 z' TO' h1' h2' hT hsz hk => ?_
    have ew1 : w1 = u := by
      have : some w1 = some u := by rw [← hw1, ← hu]; simp
      injection this
    have ew2 : w2 = u2 := by
      have : some w2 = some u2 := by rw [← hw2, ← hu2]; simp
      injection this
    subst ew1 ew2
    refine ⟨_, rfl, wpAny_letOwnedTupleGo_zip (s := { s with heap := h', toks := tk }) z' fun h'' z'' sb => ?_⟩
    have hT2 : h''.get? s.heap.objs.size = some { cls := .type "tuple", data := .seq #[w1, w2] } := (sb.2 _ (Nat.ne_of_gt hzl)).trans hT
    have new : ObjOk X.prog X.w (upd H s.heap.objs.size (.tup [x, y])) h'' s.heap.objs.size (.tup [x, y]) :=
      ⟨by show 2 ≤ sizeLine; decide, [w1, w2], .cons ru (.cons ru2 .nil), ⟨_, hT2, rfl, _, rfl⟩⟩
    have I1 : Inv X pins σ (upd H s.heap.objs.size (.tup [x, y])) { s with heap := h'', toks := tk } :=
      I.turnedNew (t' := tk) (ch := [z, TI, TO, i1, i2]) (fun c o hb q => (sb.2 c (fun q' => hb (by simp [q']))).trans (hk c o (fun q' => hb (by simp [q'])) (fun q' => hb (by simp [q'])) (fun q' => hb (by simp [q'])) (fun q' => hb (by simp [q'])) q)) hf (Nat.le_refl _) new
    refine ⟨.ref s.heap.objs.size, _, I1, rfl, ⟨_, x, y, rfl, I.hok.fresh (Nat.le_refl _), rfl, fun l hl => by rw [I.list_inj hl hqx]; exact hx, fun l hl => by rw [I.tuple_inj hl hqy]; exact hy⟩, ⟨z'', ?_, ⟨w1, w2, ?_⟩, ?_, ?_⟩, fun c hcm => ?_⟩
    · exact (sb.2 _ D.TIz).trans (hk _ _ D.TIz D.TITO D.TIi1 D.TIi2 hTI)
    · exact (sb.2 _ D.TOz).trans TO'
    · exact h1'.1.at fun o q => (sb.2 _ D.i1z).trans q
    · exact h2'.1.at fun o q => (sb.2 _ D.i2z).trans q
    · have hlt : c < s.heap.objs.size := by
        have e' : c = z ∨ c = TI ∨ c = TO ∨ c = i1 ∨ c = i2 := by simpa using hcm
        rcases e' with q | q | q | q | q
        · rw [q]; exact hzl
        · rw [q]; exact Heap.lt_size hTI
        · rw [q]; exact Heap.lt_size hTO
        · rw [q]; obtain ⟨_, e1, _⟩ := h1; exact Heap.lt_size e1
        · rw [q]; obtain ⟨_, e2, _⟩ := h2; exact Heap.lt_size e2
      rw [upd_ne (Nat.ne_of_lt hlt)]
      exact (hf c hcm).1
  done := by
    intro X hP hw hK hc i pins s σ H E I hf st hg
    subst hP hw hK
    obtain ⟨hz, hTI, ⟨x0, y0, hTO⟩, h1, h2⟩ := st
    obtain ⟨xs, ys, hqx, hqy, e1, e2⟩ := hg
    obtain ⟨its, rv, p, _⟩ := I.list hqx
    obtain ⟨its2, rv2, p2, _⟩ := I.tuple hqy
    have l1 := rv.length
    have l2 := rv2.length
    have n1 : i = its.toArray.size := by simp; omega
    have n2 : i = its2.toArray.size := by simp; omega
    have i1b : i1 ≠ b := fun e => by
      obtain ⟨o1, e1, c1, _⟩ := h1
      obtain ⟨o2, e2, c2, _⟩ := p2
      rw [e, e2] at e1
      cases e1
      rw [c2] at c1
      revert c1; decide
    have i2a : i2 ≠ a := fun e => by
      obtain ⟨o1, e1, c1, _⟩ := h2
      obtain ⟨o2, e2, c2, _⟩ := p.isList
      rw [e, e2] at e1
      cases e1
      rw [c2] at c1
      revert c1; decide
    exact wpAny_pyNext_zipD2_end (zipSep D ⟨i1b, i2a⟩) (Draws.list (A := Around.in1 _) (show Around.handled _ = none from I.ok.hd hc) i1 a D.l1i1 its.toArray) (Draws.tuple (A := Around.in1 _) (show Around.handled _ = none from I.ok.hd hc) i2 b D.l2i2 its2.toArray) hz hTI hTO ⟨h1, p.isList⟩ ⟨h2, p2⟩ (Nat.le_of_eq n1) (Nat.le_of_eq n2) (.inl n1) fun h' tk hk => ⟨rfl, I.turnedL (t' := tk) (ch := [z, TI, TO, i1, i2]) (fun c o hb q =>
      hk c o (fun q' => hb (by simp [q'])) (fun q' => hb (by simp [q'])) (fun q' => hb (by simp [q'])) (fun q' => hb (by simp [q'])) q) hf⟩
  self := fun A i s Q E st h => wpAny_pyIter_zip st.1 h

/-- zip of two values: two lists, two tuples, or a list and a tuple -/
def iZipB (K : PySem.W.Frag) (ta : TA) : TI := fun σ H R => ta σ H fun vs H1 => ∃ a b xs ys, vs = [.ref a, .ref b] ∧ ((SqL K H1 a xs ∧ SqL K H1 b ys ∧ R (Itz K a b) H1) ∨ (SqT K H1 a xs ∧ SqT K H1 b ys ∧ R (RZ.ItzT K a b) H1) ∨ (SqL K H1 a xs ∧ SqT K H1 b ys ∧ R (ItM K a b) H1))
theorem pi_zipB {X : Cx} {e e2 : Expr} {ta : TA} {p pos tpos : Pos} {elts : List Expr} {kk : Nat} (hg : Gl X "zip") (hm : X.mg "zip" = none) (ha : PA X [e, e2] ta)
    (hs : starEach [e, e2] X.env = (false, eval e X.env) :: starEach [e2] X.env := by rfl) (hpl : (backTo pos (starEach [e2] X.env)).any (·.1) = false := by rfl) :
    PI X (.Tuple elts kk tpos) (.Call (.Name "zip" p) [e, e2] [] pos) (iZipB X.K ta) := by
  refine ⟨fun pins s σ H R I h => ?_⟩
  refine Call_ (ld_blt I hg hm PyProof.Rows.boot_zip (PyProof.Rows.callWith_type1 (thn (ha.run pos pins s σ H _ I h) fun us s1 ⟨vs, H1, I1, r1, q1⟩ => ?_) hs hpl))
  obtain ⟨a, b, xs, ys, ex, q1⟩ := q1
  subst ex
  cases r1 with
  | cons r rr =>
    cases rr with
    | cons r' rr =>
      cases rr
      cases r
      cases r'
      have fresh5 : ∀ c, c ∈ [s1.heap.objs.size + 4, s1.heap.objs.size + 2, s1.heap.objs.size + 3, s1.heap.objs.size, s1.heap.objs.size + 1] → FpOk X pins H1 c := fun c hcm => by
        have e' : c = s1.heap.objs.size + 4 ∨ c = s1.heap.objs.size + 2 ∨ c = s1.heap.objs.size + 3 ∨ c = s1.heap.objs.size ∨ c = s1.heap.objs.size + 1 := by simpa using hcm
        have hle : s1.heap.objs.size ≤ c := by
          rcases e' with z | z | z | z | z <;> rw [z] <;> first | exact Nat.le_refl _ | exact Nat.le_add_right _ _
        exact I1.fpOk hle (I1.hok.fresh hle)
      rcases q1 with ⟨hqx, hqy, q⟩ | ⟨hqx, hqy, q⟩ | ⟨hqx, hqy, q⟩
      · obtain ⟨its, rv, p1, _⟩ := I1.list hqx
        obtain ⟨its2, rv2, p2, _⟩ := I1.list hqy
        refine call_zip_2 p1.isList p2.isList fun h' hz hTI hTO h1 h2 hsz hk => wpAny_pyIter_zip hz ?_
        have I2 : Inv X pins σ H1 { s1 with heap := h' } := I1.kept (t' := s1.toks) hk
        exact ⟨s1.heap.objs.size + 4, [s1.heap.objs.size + 4, s1.heap.objs.size + 2, s1.heap.objs.size + 3, s1.heap.objs.size, s1.heap.objs.size + 1], _, _, H1, rfl, I2, turn_zip (PySem.W.ktu_apart s1.heap.objs.size a b p1.lt p2.lt), ⟨hz, hTI, ⟨_, _, hTO⟩, h1, h2⟩, fresh5, q⟩
      · obtain ⟨its, rv, p1, _⟩ := I1.tuple hqx
        obtain ⟨its2, rv2, p2, _⟩ := I1.tuple hqy
        obtain ⟨o1, ho1, _⟩ := id p1
        obtain ⟨o2, ho2, _⟩ := id p2
        refine RZ.call_zipT (show s1.heap.IsTuple a its.toArray from p1) (show s1.heap.IsTuple b its2.toArray from p2) fun h' hz hTI hTO h1 h2 hsz hk => wpAny_pyIter_zip hz ?_
        have I2 : Inv X pins σ H1 { s1 with heap := h' } := I1.kept (t' := s1.toks) hk
        exact ⟨s1.heap.objs.size + 4, [s1.heap.objs.size + 4, s1.heap.objs.size + 2, s1.heap.objs.size + 3, s1.heap.objs.size, s1.heap.objs.size + 1], _, _, H1, rfl, I2, RZ.turn_zipT (PySem.W.ktu_apart s1.heap.objs.size a b (Heap.lt_size ho1) (Heap.lt_size ho2)), ⟨hz, hTI, ⟨_, _, hTO⟩, h1, h2⟩, fresh5, q⟩
      · obtain ⟨its, rv, p1, _⟩ := I1.list hqx
        obtain ⟨its2, rv2, p2, _⟩ := I1.tuple hqy
        obtain ⟨o2, ho2, _⟩ := id p2
        refine zip_begins2 (begins_list a its.toArray) (begins_tuple b its2.toArray) p1.isList (show s1.heap.IsTuple b its2.toArray from p2) fun h' hz hTI hTO h1 h2 hsz hk => wpAny_pyIter_zip hz ?_
        have I2 : Inv X pins σ H1 { s1 with heap := h' } := I1.kept (t' := s1.toks) hk
        exact ⟨s1.heap.objs.size + 4, [s1.heap.objs.size + 4, s1.heap.objs.size + 2, s1.heap.objs.size + 3, s1.heap.objs.size, s1.heap.objs.size + 1], _, _, H1, rfl, I2, turn_zipM (PySem.W.ktu_apart s1.heap.objs.size a b p1.lt (Heap.lt_size ho2)), ⟨hz, hTI, ⟨_, _, hTO⟩, ⟨_, h1, rfl, rfl⟩, ⟨_, h2, rfl, rfl⟩⟩, fresh5, q⟩
end Ev

/-! A form that passes the check says what the text does: what is walked, targets, comprehensions. -/
namespace Ev
open PySem PySem.Spec PyProof.Rows L2
/-- the iterator of the layer and that of the evaluator -/
def RelIt (K : PySem.W.Frag) (J' : Ev.Itr) (J : L2.It) (H0 : Hp) : Prop := ∀ H S i, Ext H0 H → RS K H S → ∀ (stop : Prop) (go : D → Prop), nxt J' i S stop go →
  (J.stop i H ∧ stop) ∨ (J.go i H ∧ ∀ v H', J.yld i H v H' → Ext H H' ∧ RS K H' S ∧ ∃ d, Rv K H' d v ∧ go d)
section
variable {K : PySem.W.Frag} {H0 : Hp}
theorem Rvs.getN {H : Hp} {ds : List D} {vs : List V} (r : Rvs K H ds vs) {i : Nat} (h : ds[i]? = none) : vs.length ≤ i := by
  rw [← r.length]
  exact List.getElem?_eq_none_iff.mp h
theorem rel_tup {a : Addr} {ds : List D} {vs : List V} (h : SqT K H0 a vs) (r : Rvs K H0 ds vs) : RelIt K (.tup ds) (L2.Itt K a) H0 := by
  intro H S i e rs stop go q
  have r' := Rvs.ext e r
  simp only [nxt] at q
  split at q
  · rename_i d ed
    obtain ⟨v, hv, rv⟩ := r'.get ed
    refine .inr ⟨⟨vs, v, e.sqT h, hv⟩, fun w H' y => ?_⟩
    obtain ⟨y1, y2⟩ := y
    subst y1
    have := y2 vs (e.sqT h)
    rw [hv] at this
    cases this
    exact ⟨Ext.refl _, rs, d, rv, q⟩
  · rename_i ed
    exact .inl ⟨⟨vs, e.sqT h, r'.getN ed⟩, q⟩
theorem rel_rol {a : Addr} {ds : List D} {vs : List V} (h : SqF K H0 a vs) (r : Rvs K H0 ds vs) : RelIt K (.rol ds) (L2.Itl K a) H0 := by
  intro H S i e rs stop go q
  have r' := Rvs.ext e r
  simp only [nxt] at q
  split at q
  · rename_i d ed
    obtain ⟨v, hv, rv⟩ := r'.get ed
    refine .inr ⟨⟨vs, v, (e.sqF h).l, hv⟩, fun w H' y => ?_⟩
    obtain ⟨y1, y2⟩ := y
    subst y1
    have := y2 vs (e.sqF h).l
    rw [hv] at this
    cases this
    exact ⟨Ext.refl _, rs, d, rv, q⟩
  · rename_i ed
    exact .inl ⟨⟨vs, (e.sqF h).l, r'.getN ed⟩, q⟩
theorem rel_lst {a : Addr} : RelIt K (.lst a) (L2.Itl K a) H0 := by
  intro H S i e rs stop go q
  simp only [nxt] at q
  split at q
  · rename_i ds el
    obtain ⟨vs, h, r'⟩ := rs.lget el
    split at q
    · rename_i d ed
      obtain ⟨v, hv, rv⟩ := r'.get ed
      refine .inr ⟨⟨vs, v, h, hv⟩, fun w H' y => ?_⟩
      obtain ⟨y1, y2⟩ := y
      subst y1
      have := y2 vs h
      rw [hv] at this
      cases this
      exact ⟨Ext.refl _, rs, d, rv, q⟩
    · rename_i ed
      exact .inl ⟨⟨vs, h, r'.getN ed⟩, q⟩
  · exact q.elim
theorem rel_rng {lo : Int} {n : Nat} : RelIt K (.rng lo n) (L2.Itr lo n) H0 := by
  intro H S i e rs stop go q
  simp only [nxt] at q
  split at q
  · rename_i hi
    refine .inr ⟨hi, fun w H' y => ?_⟩
    obtain ⟨y1, y2⟩ := y
    subst y1 y2
    exact ⟨Ext.refl _, rs, _, .int _, q⟩
  · rename_i hi
    exact .inl ⟨Nat.le_of_not_lt hi, q⟩
theorem rel_rngc {lo c : Int} {n : Nat} : RelIt K (.rngc lo c n) (L2.Itc lo c n) H0 := by
  intro H S i e rs stop go q
  simp only [nxt] at q
  split at q
  · rename_i hi
    refine .inr ⟨hi, fun w H' y => ?_⟩
    obtain ⟨y1, y2⟩ := y
    subst y1 y2
    exact ⟨Ext.refl _, rs, _, .int _, q⟩
  · rename_i hi
    exact .inl ⟨Nat.le_of_not_lt hi, q⟩
theorem rel_enu {a : Addr} : RelIt K (.enu a) (L2.Ite K a) H0 := by
  intro H S i e rs stop go q
  simp only [nxt] at q
  split at q
  · rename_i ds el
    obtain ⟨vs, h, r'⟩ := rs.lget el
    split at q
    · rename_i d ed
      obtain ⟨v, hv, rv⟩ := r'.get ed
      refine .inr ⟨⟨vs, v, h, hv⟩, fun w H' y => ?_⟩
      obtain ⟨T, x, rfl, nT, rfl, y2⟩ := y
      have := y2 vs h
      rw [hv] at this
      cases this
      refine ⟨Ext.new nT, rs.new nT, _, .tup (.of upd_same) (.cons (.int _) (.cons (Rv.ext (Ext.new nT) rv) .nil)), q⟩
    · rename_i ed
      exact .inl ⟨⟨vs, h, r'.getN ed⟩, q⟩
  · exact q.elim
theorem rel_enuT {a : Addr} {ds : List D} {vs : List V} (h : SqT K H0 a vs) (r : Rvs K H0 ds vs) : RelIt K (.enuT ds) (IteT K a) H0 := by
  intro H S i e rs stop go q
  have r' := Rvs.ext e r
  simp only [nxt] at q
  split at q
  · rename_i d ed
    obtain ⟨v, hv, rv⟩ := r'.get ed
    refine .inr ⟨⟨vs, v, e.sqT h, hv⟩, fun w H' y => ?_⟩
    obtain ⟨p, x, rfl, np, rfl, y2⟩ := y
    have := y2 vs (e.sqT h)
    rw [hv] at this
    cases this
    refine ⟨Ext.new np, rs.new np, _, .tup (.of upd_same) (.cons (.int _) (.cons (Rv.ext (Ext.new np) rv) .nil)), q⟩
  · rename_i ed
    exact .inl ⟨⟨vs, e.sqT h, r'.getN ed⟩, q⟩
theorem rel_zip {a b : Addr} : RelIt K (.zip a b) (L2.Itz K a b) H0 := by
  intro H S i e rs stop go q
  simp only [nxt] at q
  split at q
  · rename_i ds es el el2
    obtain ⟨vs, h, r'⟩ := rs.lget el
    obtain ⟨ws, h2, r2'⟩ := rs.lget el2
    split at q
    · rename_i d ed
      obtain ⟨v, hv, rv⟩ := r'.get ed
      split at q
      · rename_i d2 ed2
        obtain ⟨v2, hv2, rv2⟩ := r2'.get ed2
        refine .inr ⟨⟨vs, ws, v, v2, h, h2, hv, hv2⟩, fun w H' y => ?_⟩
        obtain ⟨T, x, y0, rfl, nT, rfl, y2, y3⟩ := y
        have t1 := y2 vs h
        rw [hv] at t1
        cases t1
        have t2 := y3 ws h2
        rw [hv2] at t2
        cases t2
        exact ⟨Ext.new nT, rs.new nT, _, .tup (.of upd_same) (.cons (Rv.ext (Ext.new nT) rv) (.cons (Rv.ext (Ext.new nT) rv2) .nil)), q⟩
      · rename_i ed2
        exact .inl ⟨⟨vs, ws, h, h2, .inr (r2'.getN ed2)⟩, q⟩
    · rename_i ed
      exact .inl ⟨⟨vs, ws, h, h2, .inl (r'.getN ed)⟩, q⟩
  · exact q.elim
theorem rel_zipM {a b : Addr} {es : List D} {ws : List V} (h2 : SqT K H0 b ws) (r2 : Rvs K H0 es ws) : RelIt K (.zipM a es) (ItM K a b) H0 := by
  intro H S i e rs stop go q
  have r2' := Rvs.ext e r2
  simp only [nxt] at q
  split at q
  · rename_i ds el
    obtain ⟨vs, h, r'⟩ := rs.lget el
    obtain ⟨hl, hi, q⟩ := q
    split at q
    · rename_i d ed
      obtain ⟨v, hv, rv⟩ := r'.get ed
      split at q
      · rename_i d2 ed2
        obtain ⟨v2, hv2, rv2⟩ := r2'.get ed2
        refine .inr ⟨⟨vs, ws, v, v2, h, e.sqT h2, hv, hv2⟩, fun w H' y => ?_⟩
        obtain ⟨T, x, y0, rfl, nT, rfl, y2, y3⟩ := y
        have t1 := y2 vs h
        rw [hv] at t1
        cases t1
        have t2 := y3 ws (e.sqT h2)
        rw [hv2] at t2
        cases t2
        exact ⟨Ext.new nT, rs.new nT, _, .tup (.of upd_same) (.cons (Rv.ext (Ext.new nT) rv) (.cons (Rv.ext (Ext.new nT) rv2) .nil)), q⟩
      · exact q.elim
    · rename_i ed
      have l1 := r'.getN ed
      have l2 := r'.length
      have l3 := r2'.length
      have l4 := List.getElem?_eq_none_iff.mp ed
      exact .inl ⟨⟨vs, ws, h, e.sqT h2, by omega, by omega⟩, q⟩
  · exact q.elim
theorem rel_zipt {a b : Addr} {ds es : List D} {vs ws : List V} (h : SqT K H0 a vs) (r : Rvs K H0 ds vs) (h2 : SqT K H0 b ws) (r2 : Rvs K H0 es ws) : RelIt K (.tup (zipD ds es)) (RZ.ItzT K a b) H0 := by
  intro H S i e rs stop go q
  have r' := Rvs.ext e r
  have r2' := Rvs.ext e r2
  simp only [nxt, zipD, List.getElem?_zipWith] at q
  cases ed : ds[i]? with
  | none =>
    rw [ed] at q
    exact .inl ⟨⟨vs, ws, e.sqT h, e.sqT h2, .inl (r'.getN ed)⟩, q⟩
  | some d =>
    cases ed2 : es[i]? with
    | none =>
      rw [ed, ed2] at q
      exact .inl ⟨⟨vs, ws, e.sqT h, e.sqT h2, .inr (r2'.getN ed2)⟩, q⟩
    | some d2 =>
      rw [ed, ed2] at q
      have q : go (.tup [d, d2]) := q
      obtain ⟨v, hv, rv⟩ := r'.get ed
      obtain ⟨v2, hv2, rv2⟩ := r2'.get ed2
      refine .inr ⟨⟨vs, ws, v, v2, e.sqT h, e.sqT h2, hv, hv2⟩, fun w H' y => ?_⟩
      obtain ⟨T, x, y0, rfl, nT, rfl, y2, y3⟩ := y
      have t1 := y2 vs (e.sqT h)
      rw [hv] at t1
      cases t1
      have t2 := y3 ws (e.sqT h2)
      rw [hv2] at t2
      cases t2
      exact ⟨Ext.new nT, rs.new nT, _, .tup (.of upd_same) (.cons (Rv.ext (Ext.new nT) rv) (.cons (Rv.ext (Ext.new nT) rv2) .nil)), q⟩
theorem rel_revt {a : Addr} {ds : List D} {vs : List V} (h : SqT K H0 a vs) (r : Rvs K H0 ds vs) : RelIt K (.tup ds.reverse) (RT.ItvT K a vs.length) H0 := by
  intro H S i e rs stop go q
  have r' := Rvs.ext e r
  have hl := r.length
  simp only [nxt] at q
  split at q
  · rename_i d ed
    have hi : i < ds.length := by
      have := (List.getElem?_eq_some_iff.mp ed).1
      rwa [List.length_reverse] at this
    rw [List.getElem?_reverse hi] at ed
    obtain ⟨v, hv, rv⟩ := r'.get ed
    rw [hl] at hv
    refine .inr ⟨⟨by rw [← hl]; exact hi, vs, v, e.sqT h, hv⟩, fun w H' y => ?_⟩
    obtain ⟨y1, y2⟩ := y
    subst y1
    have := y2 vs (e.sqT h)
    rw [hv] at this
    cases this
    exact ⟨Ext.refl _, rs, d, rv, q⟩
  · rename_i ed
    have := List.getElem?_eq_none_iff.mp ed
    rw [List.length_reverse, hl] at this
    exact .inl ⟨this, q⟩
theorem rel_rev {a : Addr} {n : Nat} : RelIt K (.rev a n) (L2.Itv K a n) H0 := by
  intro H S i e rs stop go q
  simp only [nxt] at q
  split at q
  · rename_i ds el
    obtain ⟨vs, h, r'⟩ := rs.lget el
    split at q
    · rename_i hi
      split at q
      · rename_i d ed
        obtain ⟨v, hv, rv⟩ := r'.get ed
        refine .inr ⟨⟨hi, vs, v, h, hv⟩, fun w H' y => ?_⟩
        obtain ⟨y1, y2⟩ := y
        subst y1
        have := y2 vs h
        rw [hv] at this
        cases this
        exact ⟨Ext.refl _, rs, d, rv, q.2⟩
      · exact q.elim
    · rename_i hi
      exact .inl ⟨Nat.le_of_not_lt hi, q⟩
  · exact q.elim
end

theorem rel_stri {K : PySem.W.Frag} {H0 : Hp} {z : Str} : RelIt K (.stri z) (L2.Its z) H0 := by
  intro H S i e rs stop go q
  simp only [nxt] at q
  split at q
  · rename_i c ec
    have hi := (Array.getElem?_eq_some_iff.mp ec).1
    refine .inr ⟨hi, fun w H' y => ?_⟩
    obtain ⟨y1, c', y2, y3⟩ := y
    subst y1 y3
    rw [ec] at y2
    cases y2
    exact ⟨Ext.refl _, rs, _, .str _, q⟩
  · rename_i ec
    exact .inl ⟨Array.getElem?_eq_none_iff.mp ec, q⟩
theorem pr_get {K : PySem.W.Frag} {H : Hp} {kvs : List (Str × D)} {kv : List (Str × V)} (h : PR K H kvs kv) : ∀ i : Nat, (kvs[i]? = none ∧ kv.length ≤ i) ∨ ∃ p v, kvs[i]? = some p ∧ kv[i]? = some (p.1, v) := by
  induction h with
  | nil => intro i; exact .inl ⟨by simp, Nat.zero_le _⟩
  | @cons p q ps qs h t ih =>
    intro i
    cases i with
    | zero => exact .inr ⟨p, q.2, rfl, by show some q = some (p.1, q.2); rw [h.1]⟩
    | succ i =>
      rcases ih i with ⟨a, b⟩ | ⟨p', v, a, b⟩
      · exact .inl ⟨by simpa using a, by rw [List.length_cons]; omega⟩
      · exact .inr ⟨p', v, by simpa using a, by simpa using b⟩
theorem rel_dky {K : PySem.W.Frag} {H0 : Hp} {a : Addr} {o : Obj} {kv : List (Str × V)} (h0 : H0 a = some (.frz o (.dK (kv.map keyS)))) : RelIt K (.dky a o) (L2.Itk a o (kv.map keyS)) H0 := by
  intro H S i e rs stop go q
  have hH := e.frzK _ _ _ h0
  simp only [nxt] at q
  split at q
  · rename_i o' kvs es
    obtain ⟨rfl, q⟩ := q
    obtain ⟨kv2, k1, k2⟩ := rs _ _ es
    have l4 : kv2 = kv := by
      rw [hH] at k1
      injection k1 with l1
      injection l1 with _ l1
      injection l1 with z
      exact keyS_inj z.symm
    subst l4
    rcases pr_get k2 i with ⟨g1, g2⟩ | ⟨p, v, g1, g2⟩
    · rw [g1] at q
      exact .inl ⟨⟨hH, by rw [List.length_map]; exact g2⟩, q⟩
    · rw [g1] at q
      have hl := (List.getElem?_eq_some_iff.mp g2).1
      refine .inr ⟨⟨hH, by rw [List.length_map]; exact hl⟩, fun w H' y => ?_⟩
      obtain ⟨y1, k, v', y2, y3⟩ := y
      subst y1 y3
      rw [List.getElem?_map, g2] at y2
      cases y2
      exact ⟨Ext.refl _, rs, _, .str _, q⟩
  · exact q.elim
def LI (X : Cx) (W : WX) (f : XS → En → Sto → (Ev.Itr → Sto → Prop) → Prop) : TI := fun σ H R => ∃ (σd : En) (S : Sto) (R' : Ev.Itr → Sto → Prop) (E : XS), Rn X.K H σd σ ∧ RS X.K H S ∧ f E σd S R' ∧
  (∀ J J' H' S', Ext H H' → RS X.K H' S' → RelIt X.K J' J H' → R' J' S' → R J H') ∧ XP X W E σ H
theorem _root_.L2.PI.imp {X : Cx} {tg it : Expr} {t t' : TI} (h : PI X tg it t) (i : ∀ σ H Q, t' σ H Q → t σ H Q) : PI X tg it t' := ⟨fun pins s σ H Q I q => h.run pins s σ H Q I (i _ _ _ q)⟩
/-- a list or a tuple, walked -/
def iSeq (K : PySem.W.Frag) (tl : TE) : TI := fun σ H R => tl σ H fun x H1 => ∃ a, x = .ref a ∧ (((∃ xs, SqL K H1 a xs) ∧ R (L2.Itl K a) H1) ∨ ((∃ xs, SqT K H1 a xs) ∧ R (L2.Itt K a) H1))
/-- .. or a text, or a dict that is locked -/
def iSeqA (K : PySem.W.Frag) (tl : TE) : TI := fun σ H R => tl σ H fun x H1 => (∃ a, x = .ref a ∧ (((∃ xs, SqL K H1 a xs) ∧ R (L2.Itl K a) H1) ∨ ((∃ xs, SqT K H1 a xs) ∧ R (L2.Itt K a) H1) ∨ ∃ o kvs, H1 a = some (.frz o (.dK kvs)) ∧ R (L2.Itk a o kvs) H1)) ∨ ∃ z, x = .str z ∧ R (L2.Its z) H1
theorem pi_seqA {X : Cx} {tg l : Expr} {tl : TE} (hl : PE X l tl) : PI X tg l (iSeqA X.K tl) := by
  refine ⟨fun pins s σ H R I h => ?_⟩
  refine thn (hl.run pins s σ H _ I h) fun v s1 ⟨x, H1, I1, r1, q1⟩ => ?_
  rcases q1 with ⟨a, e, q⟩ | ⟨z, e, q⟩
  · subst e
    obtain rfl : v = Value.ref a := r1
    rcases q with ⟨⟨xs, hq⟩, q⟩ | ⟨⟨xs, hq⟩, q⟩ | ⟨o, kvs, hd, q⟩
    · obtain ⟨its, rv, p, hz⟩ := I1.list hq
      refine wpAny_pyIter_list p.isList ?_
      refine ⟨s1.heap.objs.size, [s1.heap.objs.size], _, _, H1, rfl, I1.kept (t' := s1.toks) fun b o e => Heap.get?_push_of_some _ e, turn_list a _, ⟨_, Heap.get?_push_size _ rfl, rfl, rfl⟩, fun b hb => ?_, q⟩
      have e : b = s1.heap.objs.size := by simpa using hb
      subst e
      exact I1.fpOk (Nat.le_refl _) (I1.hok.fresh (Nat.le_refl _))
    · obtain ⟨its, rv, p, hz⟩ := I1.tuple hq
      refine wpAny_pyIter_tuple (show s1.heap.IsTuple a its.toArray from p) ?_
      refine ⟨s1.heap.objs.size, [s1.heap.objs.size], _, _, H1, rfl, I1.kept (t' := s1.toks) fun b o e => Heap.get?_push_of_some _ e, turn_tuple a _, ⟨_, Heap.get?_push_size _ rfl, rfl, rfl⟩, fun b hb => ?_, q⟩
      have e : b = s1.heap.objs.size := by simpa using hb
      subst e
      exact I1.fpOk (Nat.le_refl _) (I1.hok.fresh (Nat.le_refl _))
    · obtain ⟨hs, hgd, hx, es, ep, vs, hdt, hsz, kv, hm⟩ := I1.frzK hd
      refine iter_keys hs hgd hx hdt (pi_one (tk := s1.toks) I1 _ (turn_keys _ hdt) ⟨_, Heap.get?_push_size _ rfl, rfl, ?_⟩ q)
      rw [hsz] <;> rfl
  · subst e
    obtain ⟨t, rfl⟩ := r1
    cases ha : z.cps.all (· < 128)
    · exact wpAny_pyIter_wide ha (pi_one (tk := s1.toks) I1 _ (turn_str _ z t "str_iterator" (.inr rfl)) ⟨_, Heap.get?_push_size _ rfl, rfl, rfl⟩ q)
    · exact wpAny_pyIter_ascii ha (pi_one (tk := s1.toks) I1 _ (turn_str _ z t "str_ascii_iterator" (.inl rfl)) ⟨_, Heap.get?_push_size _ rfl, rfl, rfl⟩ q)
section
variable {G : Gl0} {C : CallS}
def OkI (G : Gl0) (C : CallS) (ii : II) : Prop := ∀ (X : Cx) (W : WX) (A : Sc), Good G C X W A → ∀ tg e, chkI A ii tg e = true → PI X tg e (LI X W fun E => semI G C E ii) ∧ nset e = true
theorem bnm {G : Gl0} {C : CallS} {X : Cx} {W : WX} {A : Sc} (g : Good G C X W A) {n m : Str} (e : n = m) (h : A.bn n = true) : Gl X m ∧ X.mg m = none := by
  subst e
  obtain ⟨q1, q2, q3, q4⟩ := bn_of g h
  exact ⟨q1, q3⟩
theorem ok_iseq {e : IE} (ih : OkE G C e) : OkI G C (.seq e) := by
  intro X W A g tg x h
  simp only [chkI, Bool.and_eq_true] at h
  refine ⟨(pi_seqA (ih X W A g _ h.1)).imp ?_, h.2⟩
  rintro σ H R ⟨σd, S, R', E, rn, rs, h, p, xp⟩
  refine ⟨σd, S, _, E, rn, rs, h, fun v H1 x S1 e1 rx rs1 h1 => ?_, xp⟩
  split at h1
  · cases rx with
    | tup q1 q2 => exact .inl ⟨_, rfl, .inr (.inl ⟨⟨_, q1⟩, p _ _ H1 S1 e1 rs1 (rel_tup q1 q2) h1⟩)⟩
  · cases rx with
    | rol q1 q2 => exact .inl ⟨_, rfl, .inl ⟨⟨_, q1.l⟩, p _ _ H1 S1 e1 rs1 (rel_rol q1 q2) h1⟩⟩
  · cases rx
    exact .inr ⟨_, rfl, p _ _ H1 S1 e1 rs1 rel_stri h1⟩
  · cases rx
    unfold seqRS at h1
    split at h1
    · rename_i es
      obtain ⟨vs, h2, _⟩ := rs1 _ _ es
      exact .inl ⟨_, rfl, .inl ⟨⟨_, .of h2⟩, p _ _ H1 S1 e1 rs1 rel_lst h1⟩⟩
    · exact h1.elim
    · exact h1.elim
    · rename_i o kvs es
      obtain ⟨kv, h2, _⟩ := rs1 _ _ es
      exact .inl ⟨_, rfl, .inr (.inr ⟨o, _, h2, p _ _ H1 S1 e1 rs1 (rel_dky h2) h1⟩)⟩
    · exact h1.elim
    · exact h1.elim
  · exact h1.elim
theorem ok_irng1 {a : IE} (iha : OkE G C a) : OkI G C (.rng1 a) := by
  intro X W A g tg x h
  unfold chkI at h
  split at h
  · rename_i n p1 y p2
    simp only [Bool.and_eq_true, decide_eq_true_eq] at h
    obtain ⟨⟨h1, h2⟩, h3⟩ := h
    obtain ⟨b1, b2⟩ := bnm g h1 h2
    subst h1
    refine ⟨(pi_range1 b1 b2 (pa_cons (iha X W A g _ h3) pa_nil (star_cons (chkE_nst h3))) (star_cons (chkE_nst h3))).imp ?_, rfl⟩
    rintro σ H R ⟨σd, S, R', E, rn, rs, h, p, xp⟩
    refine ⟨σd, S, _, E, rn, rs, h, fun v H1 x S1 e1 rx rs1 h1 => ?_, xp⟩
    split at h1
    · cases rx
      exact ⟨_, rfl, h1.1, h1.2.1, p _ _ H1 S1 e1 rs1 rel_rng h1.2.2⟩
    · exact h1.elim
  · cases h
theorem ok_irng2 {a b : IE} (iha : OkE G C a) (ihb : OkE G C b) : OkI G C (.rng2 a b) := by
  intro X W A g tg x h
  unfold chkI at h
  split at h
  · rename_i n p1 y z p2
    simp only [Bool.and_eq_true, decide_eq_true_eq] at h
    obtain ⟨⟨⟨h1, h2⟩, h3⟩, h4⟩ := h
    obtain ⟨b1, b2⟩ := bnm g h1 h2
    subst h1
    refine ⟨(pi_range2 b1 b2 (pa_cons (iha X W A g _ h3) (pa_cons (ihb X W A g _ h4) pa_nil (star_cons (chkE_nst h4))) (star_cons (chkE_nst h3))) (by rw [star_cons (chkE_nst h3), star_cons (chkE_nst h4)]; rfl) (star_cons (chkE_nst h4))).imp ?_, rfl⟩
    rintro σ H R ⟨σd, S, R', E, rn, rs, h, p, xp⟩
    refine ⟨σd, S, _, E, rn, rs, h, fun v H1 x S1 e1 rx rs1 h1 => ⟨σd, S1, _, E, rn.ext e1, rs1, h1, fun w H2 y S2 e2 ry rs2 h2 => ?_, xp.ext e1⟩, xp⟩
    split at h2
    · cases rx; cases ry
      exact ⟨_, _, rfl, h2.1, p _ _ H2 S2 (e1.trans e2) rs2 rel_rng h2.2⟩
    · exact h2.elim
  · cases h
theorem ok_irng3 {a b c : IE} (iha : OkE G C a) (ihb : OkE G C b) (ihc : OkE G C c) : OkI G C (.rng3 a b c) := by
  intro X W A g tg x h
  unfold chkI at h
  split at h
  · rename_i n p1 y z u p2
    simp only [Bool.and_eq_true, decide_eq_true_eq] at h
    obtain ⟨⟨⟨⟨h1, h2⟩, h3⟩, h4⟩, h5⟩ := h
    obtain ⟨b1, b2⟩ := bnm g h1 h2
    subst h1
    have s3 := fun l => star_cons (es := l) (env := X.env) (chkE_nst h3)
    have s4 := fun l => star_cons (es := l) (env := X.env) (chkE_nst h4)
    have s5 := fun l => star_cons (es := l) (env := X.env) (chkE_nst h5)
    refine ⟨(pi_range3 b1 b2 (pa_cons (iha X W A g _ h3) (pa_cons (ihb X W A g _ h4) (pa_cons (ihc X W A g _ h5) pa_nil (s5 _)) (s4 _)) (s3 _)) (s3 _) (by rw [s4, s5]; rfl)).imp ?_, rfl⟩
    rintro σ H R ⟨σd, S, R', E, rn, rs, h, p, xp⟩
    refine ⟨σd, S, _, E, rn, rs, h, fun v H1 x S1 e1 rx rs1 h1 => ⟨σd, S1, _, E, rn.ext e1, rs1, h1, fun w H2 y S2 e2 ry rs2 h2 => ⟨σd, S2, _, E, rn.ext (e1.trans e2), rs2, h2, fun w3 H3 z S3 e3 rz rs3 h3 => ?_, xp.ext (e1.trans e2)⟩, xp.ext e1⟩, xp⟩
    split at h3
    · cases rx; cases ry; cases rz
      obtain ⟨n, h3, h4⟩ := h3
      exact ⟨_, _, _, n, rfl, h3, p _ _ H3 S3 ((e1.trans e2).trans e3) rs3 rel_rngc h4⟩
    · exact h3.elim
  · cases h
theorem ok_ienu {a : IE} (iha : OkE G C a) : OkI G C (.enu a) := by
  intro X W A g tg x h
  unfold chkI at h
  split at h
  · split at h
    · rename_i n p1 y p2
      simp only [Bool.and_eq_true, decide_eq_true_eq] at h
      obtain ⟨⟨h1, h2⟩, h3⟩ := h
      obtain ⟨b1, b2⟩ := bnm g h1 h2
      subst h1
      refine ⟨(pi_enumA b1 b2 (pa_cons (iha X W A g _ h3) pa_nil (star_cons (chkE_nst h3))) (star_cons (chkE_nst h3))).imp ?_, rfl⟩
      rintro σ H R ⟨σd, S, R', E, rn, rs, h, p, xp⟩
      refine ⟨σd, S, _, E, rn, rs, h, fun v H1 x S1 e1 rx rs1 h1 => ?_, xp⟩
      split at h1
      · split at h1
        · rename_i el
          cases rx
          obtain ⟨vs, h2, _⟩ := rs1.lget el
          exact ⟨_, rfl, .inl ⟨⟨vs, h2⟩, p _ _ H1 S1 e1 rs1 rel_enu h1⟩⟩
        · exact h1.elim
      · cases rx with
        | tup q1 q2 => exact ⟨_, rfl, .inr ⟨⟨_, q1⟩, p _ _ H1 S1 e1 rs1 (rel_enuT q1 q2) h1⟩⟩
      · exact h1.elim
    · cases h
  · cases h
theorem ok_izip {a b : IE} (iha : OkE G C a) (ihb : OkE G C b) : OkI G C (.zip a b) := by
  intro X W A g tg x h
  unfold chkI at h
  split at h
  · split at h
    · rename_i n p1 y z p2
      simp only [Bool.and_eq_true, decide_eq_true_eq] at h
      obtain ⟨⟨⟨h1, h2⟩, h3⟩, h4⟩ := h
      obtain ⟨b1, b2⟩ := bnm g h1 h2
      subst h1
      refine ⟨(pi_zipB b1 b2 (pa_cons (iha X W A g _ h3) (pa_cons (ihb X W A g _ h4) pa_nil (star_cons (chkE_nst h4))) (star_cons (chkE_nst h3))) (star_cons (chkE_nst h3)) (by rw [star_cons (chkE_nst h4)]; rfl)).imp ?_, rfl⟩
      rintro σ H R ⟨σd, S, R', E, rn, rs, h, p, xp⟩
      refine ⟨σd, S, _, E, rn, rs, h, fun v H1 x S1 e1 rx rs1 h1 => ⟨σd, S1, _, E, rn.ext e1, rs1, h1, fun w H2 y S2 e2 ry rs2 h2 => ?_, xp.ext e1⟩, xp⟩
      split at h2
      · split at h2
        · rename_i el el2
          cases rx; cases ry
          obtain ⟨vs, q2, _⟩ := rs2.lget el
          obtain ⟨ws, q3, _⟩ := rs2.lget el2
          exact ⟨_, _, vs, ws, rfl, .inl ⟨q2, q3, p _ _ H2 S2 (e1.trans e2) rs2 rel_zip h2⟩⟩
        · exact h2.elim
      · cases ry with
        | tup ht hr =>
          cases rx with
          | tup gt gr => exact ⟨_, _, _, _, rfl, .inr (.inl ⟨e2.sqT gt, ht, p _ _ H2 S2 (e1.trans e2) rs2 (rel_zipt (e2.sqT gt) (Rvs.ext e2 gr) ht hr) h2⟩)⟩
      · split at h2
        · rename_i el
          cases rx
          cases ry with
          | tup ht hr =>
            obtain ⟨vs, q2, _⟩ := rs2.lget el
            exact ⟨_, _, vs, _, rfl, .inr (.inr ⟨q2, ht, p _ _ H2 S2 (e1.trans e2) rs2 (rel_zipM ht hr) h2⟩)⟩
        · exact h2.elim
      · exact h2.elim
    · cases h
  · cases h
theorem ok_irev {a : IE} (iha : OkE G C a) : OkI G C (.rev a) := by
  intro X W A g tg x h
  unfold chkI at h
  split at h
  · rename_i n p1 y p2
    simp only [Bool.and_eq_true, decide_eq_true_eq] at h
    obtain ⟨⟨h1, h2⟩, h3⟩ := h
    obtain ⟨b1, b2⟩ := bnm g h1 h2
    subst h1
    refine ⟨(RT.pi_revA b1 b2 (iha X W A g _ h3) (star_cons (chkE_nst h3))).imp ?_, rfl⟩
    rintro σ H R ⟨σd, S, R', E, rn, rs, h, p, xp⟩
    refine ⟨σd, S, _, E, rn, rs, h, fun v H1 x S1 e1 rx rs1 h1 => ?_, xp⟩
    split at h1
    · split at h1
      · rename_i xs el
        cases rx
        obtain ⟨vs, h2, h3⟩ := rs1.lget el
        refine ⟨_, vs, rfl, .inl ⟨h2, p _ _ H1 S1 e1 rs1 ?_ h1⟩⟩
        rw [h3.length]
        exact rel_rev
      · exact h1.elim
    · cases rx with
      | tup ht hr => exact ⟨_, _, rfl, .inr ⟨ht, p _ _ H1 S1 e1 rs1 (rel_revt ht hr) h1⟩⟩
    · exact h1.elim
  · cases h

/-! ### targets -/
theorem wipe_at {σ : L2.St} {i : Nat} {x : Option V} : ∀ {l : List Nat}, i ∉ l → wipe (σ.set i x) l = (wipe σ l).set i x
  | [], _ => rfl
  | j :: r, h => by
    show (wipe (σ.set i x) r).set j none = ((wipe σ r).set j none).set i x
    rw [wipe_at fun q => h (List.mem_cons_of_mem _ q), List.set_comm _ _ (fun e => h (by rw [e]; exact List.mem_cons_self))]
theorem wipe_in {σ : L2.St} {i : Nat} {x : Option V} : ∀ {l : List Nat}, i ∈ l → wipe (σ.set i x) l = wipe σ l
  | [], h => by cases h
  | j :: r, h => by
    show (wipe (σ.set i x) r).set j none = (wipe σ r).set j none
    by_cases hr : i ∈ r
    · rw [wipe_in hr]
    · have e : i = j := by
        rcases List.mem_cons.mp h with e | e
        · exact e
        · exact absurd e hr
      rw [wipe_at hr, e, List.set_set]
def LG (X : Cx) (own : List Nat) (ig : IG) : TG := fun v σ H Q => ∃ (d : D) (σd : En) (S : Sto) (Qd : En → Prop), Rv X.K H d v ∧ Rn X.K H σd σ ∧ RS X.K H S ∧ asgS ig d σd S Qd ∧
  ∀ σ' σd', Rn X.K H σd' σ' → wipe σ' own = wipe σ own → Qd σd' → Q σ' H
def LGs (X : Cx) (own : List Nat) (ig : IGs) : TGs := fun vs σ H Q => ∃ (ds : List D) (σd : En) (S : Sto) (Qd : En → Prop), Rvs X.K H ds vs ∧ Rn X.K H σd σ ∧ RS X.K H S ∧ asgsS ig ds σd S Qd ∧
  ∀ σ' σd', Rn X.K H σd' σ' → wipe σ' own = wipe σ own → Qd σd' → Q σ' H
theorem _root_.L2.PG.imp {X : Cx} {tg : Expr} {t t' : TG} (h : PG X tg t) (i : ∀ v σ H Q, t' v σ H Q → t v σ H Q) : PG X tg t' := ⟨fun pins s σ H v u Q I r q => h.run pins s σ H v u Q I r (i _ _ _ _ q)⟩
theorem _root_.L2.PGs.imp {X : Cx} {tg : List Expr} {t t' : TGs} (h : PGs X tg t) (i : ∀ v σ H Q, t' v σ H Q → t v σ H Q) : PGs X tg t' := ⟨fun pins s σ H v u Q I r q => h.run pins s σ H v u Q I r (i _ _ _ _ q)⟩
/-- (a, b, ..) = a tuple or a list of that length -/
def gSeq (K : PySem.W.Frag) (n : Nat) (t : TGs) : TG := fun v σ H Q => ∃ a xs, v = .ref a ∧ (SqL K H a xs ∨ SqT K H a xs) ∧ xs.length = n ∧ t xs σ H Q
theorem pg_seq {X : Cx} {es : List Expr} {k : Nat} {t : TGs} {n : Nat} {pos : Pos} (hc : X.calm = true) (h : PGs X es t) (hn : (assignEach es X.env).length = n) (hst : (assignEach es X.env).findIdx? (·.1) = none) : PG X (.Tuple es k pos) (gSeq X.K n t) := by
  refine ⟨fun pins s σ H v u Q I r hw => ?_⟩
  obtain ⟨a, xs, e1, hq, hl, hw⟩ := hw
  rcases hq with hq | hq
  · exact (pg_lst hc h hn hst).run pins s σ H v u Q I r ⟨a, xs, e1, hq, hl, hw⟩
  · exact (pg_tup hc h hn hst).run pins s σ H v u Q I r ⟨a, xs, e1, hq, hl, hw⟩
theorem asg_cons {e : Expr} {es : List Expr} {env : Env} (h : nst e = true) : assignEach (e :: es) env = (false, assign e env) :: assignEach es env := by
  cases e <;> first | rfl | cases h
def gsl : IGs → Nat
  | .nil => 0
  | .cons _ r => gsl r + 1
mutual
theorem asgS_ex : ∀ (g : IG) {d : D} {σ : En} {S : Sto} {Q : En → Prop}, asgS g d σ S Q → ∃ σ', Q σ'
  | .nm i, d, σ, S, Q, h => ⟨_, h⟩
  | .tup gs, d, σ, S, Q, h => by
    simp only [asgS] at h
    split at h
    · exact (asgsS_ex gs h).2
    · exact h.elim
theorem asgsS_ex : ∀ (gs : IGs) {ds : List D} {σ : En} {S : Sto} {Q : En → Prop}, asgsS gs ds σ S Q → ds.length = gsl gs ∧ ∃ σ', Q σ'
  | .nil, ds, σ, S, Q, h => by
    cases ds with
    | nil => exact ⟨rfl, _, h⟩
    | cons _ _ => exact h.elim
  | .cons g r, ds, σ, S, Q, h => by
    cases ds with
    | nil => exact h.elim
    | cons d t =>
      obtain ⟨σ', h'⟩ := asgS_ex g h
      obtain ⟨h1, h2⟩ := asgsS_ex r h'
      exact ⟨by show t.length + 1 = gsl r + 1; rw [h1], h2⟩
end
theorem chkGs_asg {A : Sc} {own : List Nat} {env : Env} : ∀ {gs : IGs} {es : List Expr}, chkGs A own gs es = true → (assignEach es env).length = gsl gs ∧ (assignEach es env).findIdx? (·.1) = none
  | .nil, [], _ => ⟨rfl, rfl⟩
  | .nil, _ :: _, h => by cases h
  | .cons _ _, [], h => by cases h
  | .cons g r, x :: t, h => by
    simp only [chkGs, Bool.and_eq_true] at h
    obtain ⟨q1, q2⟩ := chkGs_asg (env := env) h.2
    rw [asg_cons h.1.2]
    refine ⟨by rw [List.length_cons, q1]; rfl, ?_⟩
    rw [List.findIdx?_cons, q2]
    rfl
mutual
theorem ok_g (own : List Nat) : ∀ (ig : IG) (X : Cx) (W : WX) (A : Sc), Good G C X W A → ∀ e, chkG A own ig e = true → PG X e (LG X own ig)
  | .nm i, X, W, A, g, e, h => by
    unfold chkG at h
    split at h
    · simp only [Bool.and_eq_true] at h
      obtain ⟨h1, h2, h3⟩ := loc_of g.hN g.sc g.stl g.fnc h.1
      refine (pg_name g.nd h1 h2 h3).imp ?_
      rintro v σ H Q ⟨d, σd, S, Qd, rv, rn, rs, h4, p⟩
      exact p _ _ (rn.set rv i) (wipe_in (by simpa using h.2)) h4
    · cases h
  | .tup gs, X, W, A, g, e, h => by
    unfold chkG at h
    split at h
    · simp only [Bool.and_eq_true] at h
      obtain ⟨q1, q2⟩ := chkGs_asg (env := X.env) h.2
      refine (pg_seq (g.calm h.1) (ok_gs own gs X W A g _ h.2) q1 q2).imp ?_
      rintro v σ H Q ⟨d, σd, S, Qd, rv, rn, rs, h4, p⟩
      simp only [asgS] at h4
      split at h4
      · rename_i xs ex
        obtain ⟨a, vs, rfl, hq, hr⟩ := rs.sget rv ex
        exact ⟨a, vs, rfl, hq, by rw [← hr.length]; exact (asgsS_ex gs h4).1, xs, σd, S, Qd, hr, rn, rs, h4, p⟩
      · exact h4.elim
    · cases h
theorem ok_gs (own : List Nat) : ∀ (igs : IGs) (X : Cx) (W : WX) (A : Sc), Good G C X W A → ∀ es, chkGs A own igs es = true → PGs X es (LGs X own igs)
  | .nil, X, W, A, g, es, h => by
    cases es with
    | cons _ _ => cases h
    | nil =>
      refine pgs_nil.imp ?_
      rintro vs σ H Q ⟨ds, σd, S, Qd, rv, rn, rs, h4, p⟩
      cases ds with
      | cons _ _ => exact h4.elim
      | nil =>
        cases rv
        exact ⟨rfl, p σ σd rn rfl h4⟩
  | .cons ig r, X, W, A, g, es, h => by
    cases es with
    | nil => cases h
    | cons x t =>
      simp only [chkGs, Bool.and_eq_true] at h
      refine (pgs_cons (ok_g own ig X W A g _ h.1.1) (ok_gs own r X W A g _ h.2) (by rw [asg_cons h.1.2]; rfl)).imp ?_
      rintro vs σ H Q ⟨ds, σd, S, Qd, rv, rn, rs, h4, p⟩
      cases ds with
      | nil => exact h4.elim
      | cons d ds =>
        cases rv with
        | @cons _ _ v vs rv1 rv2 =>
          exact ⟨v, vs, rfl, d, σd, S, _, rv1, rn, rs, h4, fun σ1 σd1 rn1 w1 h5 => ⟨ds, σd1, S, Qd, rv2, rn1, rs, h5, fun σ2 σd2 rn2 w2 h6 => p σ2 σd2 rn2 (w2.trans w1) h6⟩⟩
end

/-! ### comprehensions -/
theorem Good.blk {X : Cx} {W : WX} {A : Sc} (g : Good G C X W A) (hcm : A.cm = true) (s : Shared) (H : Hp) (scope : Scope) (Ca : Addr) (cl : List (Str × Addr)) (fp : List Addr) :
    Good G C (X.blk s H scope (compEnvC scope cl Ca X.env) fp) (fun _ _ _ _ => False) (A.inn scope) where
  hN := g.hN
  nd := g.nd
  sc := by
    show relabel scope X.env = relS scope A.sc
    rw [← g.sc]
    rfl
  fnc := fun x h => by
    show (scope.names.lookup x == some NameKind.cell) = true
    have h : scope.names.lookup x = some .cell := h
    rw [h]; rfl
  stl := fun x k hk h => lookup_relS_keep hk h
  calm := g.calm
  tk := fun u s' ⟨_, _, _, _, _, _, _, _, _, _, _, _, _, _, _, _, h⟩ => h
  po := PassesOwn.never
  hu := g.hu
  blt := g.blt
  gcd := g.gcd
  lcm := g.lcm
  cst := g.cst
  fns := g.fns
  py := fun hp => ⟨(g.py hp).seer, (g.py hp).tree, (g.py hp).fr, (g.py hp).dp⟩
  stk := fun z => by cases z
  exc := g.exc
  exn := g.exn
  mts := g.mts
  mk0 := g.mk0
  mk1 := g.mk1
  fds := g.fds
  exi := g.exi
  xcg := fun a e h => absurd ((g.xcg a e h).1.symm.trans hcm) (by decide)
  xff := g.xff
  xfs := g.xfs
  rm := g.rm
  kdt := g.kdt
theorem wipe_wipe (σ : L2.St) (l : List Nat) : wipe (wipe σ l) l = wipe σ l := by
  have key : ∀ (r : List Nat) (σ : L2.St), (∀ i ∈ r, i ∈ l) → wipe (wipe σ r) l = wipe σ l := by
    intro r
    induction r with
    | nil => intro σ _; rfl
    | cons j r ih =>
      intro σ h
      show wipe ((wipe σ r).set j none) l = wipe σ l
      rw [wipe_in (h j List.mem_cons_self), ih σ fun i hi => h i (List.mem_cons_of_mem _ hi)]
  exact key l σ fun _ h => h
theorem own_snd (N : List Str) (l : List Nat) : (ownOf N l).map (·.2) = l := by
  unfold ownOf
  rw [List.map_map]
  exact List.map_id l
theorem _root_.L2.PTs.imp {X : Cx} {e : List Expr} {t t' : TT} (h : PTs X e t) (i : ∀ σ H Q, t' σ H Q → t σ H Q) : PTs X e t' := ⟨fun pins s σ H Q I q => h.run pins s σ H Q I (i _ _ _ q)⟩
def OkQ (G : Gl0) (C : CallS) (iq : IQ) : Prop := ∀ (X : Cx) (W : WX) (A : Sc), Good G C X W A → ∀ es, chkQ A iq es = true → PTs X es (LT X W fun E => semQ G C E iq)
theorem ok_qno : OkQ G C .no := by
  intro X W A g es h
  cases es with
  | cons _ _ => cases h
  | nil =>
    refine pts_nil.imp ?_
    rintro σ H Q ⟨σd, S, Qd, E, rn, rs, h, p, xp⟩
    exact p true H S (Ext.refl H) rs h
theorem ok_qc {c : IC} (ih : OkC G C c) : OkQ G C (.c c) := by
  intro X W A g es h
  unfold chkQ at h
  split at h
  · exact (pts_one (ih X W A g _ h)).imp fun σ H Q z => z
  · cases h
/-- the wish of a block: nothing is raised -/
abbrev W0 : WX := fun _ _ _ _ => False
abbrev E0' : XS := fun _ _ => False
theorem lc_red {X : Cx} {W : WX} {elt : IE} {tg : IG} {it : II} {ifs : IQ} {own : List Nat} : ∀ σ H Q, LE X W (fun E => semE G C E (.lc elt tg it ifs own)) σ H Q →
    tLc (LI X W fun E => semI G C E it) (LG X own tg) (LT X W0 fun E => semQ G C E ifs) (LE X W0 fun E => semE G C E elt) own σ H Q := by
  rintro σ H Q ⟨σd, S, Qd, E, rn, rs, h, p, xp⟩
  have xp0 : ∀ σ H, XP X W0 E0' σ H := fun σ H c d H' x S' _ _ _ z => z
  refine ⟨σd, S, _, E, rn, rs, h, fun J J' H1 S1 e1 rs1 rel h1 a na => ?_, xp⟩
  obtain ⟨Wd, ⟨m0, w0⟩, turn⟩ := h1 a (rs1.none na)
  refine ⟨fun i m H => ∃ S, Ext H1 H ∧ RS X.K H S ∧ Wd i m S, ⟨m0, _, Ext.new na, rs1.newL na .nil, w0⟩, ?_⟩
  rintro i m H2 ⟨S2, e2, rs2, w2⟩
  rcases rel H2 S2 i e2 rs2 _ _ (turn i m S2 w2) with ⟨st, q⟩ | ⟨go, q⟩
  · exact .inl ⟨st, p (.ref a) H2 (.ref a) S2 (e1.trans e2) (.ref a) rs2 q⟩
  · refine .inr ⟨go, fun H' => ∃ m', m' < m ∧ ∃ S, Ext H1 H' ∧ RS X.K H' S ∧ Wd (i + 1) m' S, fun H' z => z, fun v H3 y => ?_⟩
    obtain ⟨e3, rs3, d, rv, hd⟩ := q v H3 y
    have rnw : Rn X.K H3 (wips σd own) (wipe σ own) := (rn.ext ((e1.trans e2).trans e3)).wips own
    refine ⟨d, wips σd own, S2, _, rv, rnw, rs3, hd, fun σ' σd' rn' w' hq => ⟨?_, ?_⟩⟩
    · rw [w']
      exact wipe_wipe σ own
    · refine ⟨σd', S2, _, E0', rn', rs3, hq, fun b H4 S4 e4 rs4 h4 => ?_, xp0 _ _⟩
      have e14 : Ext H1 H4 := (e2.trans e3).trans e4
      cases b with
      | true =>
        have h4 : semE G C E0' elt σd' S4 _ := h4
        refine ⟨σd', S4, _, E0', rn'.ext e4, rs4, h4, fun v5 H5 d5 S5 e5 rv5 rs5 h5 => ?_, xp0 _ _⟩
        obtain ⟨acc, a1, a2, m', hm, w5⟩ := h5
        obtain ⟨xs, x1, x2⟩ := rs5 _ _ a1
        refine ⟨xs, x1, by rw [← x2.length]; exact a2, m', hm, _, (e14.trans e5).trans (Ext.lst x1), rs5.write x1 a1 (x2.append (.cons rv5 .nil)), w5⟩
      | false =>
        have h4 : ∃ m', m' < m ∧ Wd (i + 1) m' S4 := h4
        obtain ⟨m', hm, w5⟩ := h4
        exact ⟨m', hm, S4, e14, rs4, w5⟩
end
end Ev

/-! try: .. with several except clauses, each with or without a name for the exception. -/
namespace Ev
open PySem PySem.Spec PyProof.Rows L2
abbrev HdS := Value × Option Nat × (Addr → Value → Option Addr → TS)
def endsA (i : Option Nat) (D : Ends) : Ends := match i with
  | none => D
  | some i => { nx := fun σ' H' => D.nx (σ'.set i none) H', rt := D.rt, bk := fun σ' H' => D.bk (σ'.set i none) H', ct := fun σ' H' => D.ct (σ'.set i none) H' }
def setA (i : Option Nat) (σ : L2.St) (a : Addr) : L2.St := match i with
  | none => σ
  | some i => σ.set i (some (.ref a))
def wManyA (K : PySem.W.Frag) (Wout : WX) (D : Ends) : List HdS → WX
  | [] => Wout
  | (c, i, ts) :: r => fun cls d σ H => ∃ b, PySem.W.exmOne K cls c = some b ∧ (b = true → ∀ a, H a = none → ts a cls d (endsA i D) (setA i σ a) H) ∧ (b = false → wManyA K Wout D r cls d σ H)
inductive HdsA (X : Cx) : List ExceptHandler → List HdS → Prop
  | nil : HdsA X [] []
  | cons0 {x : Str} {c : Value} {ts : Addr → Value → Option Addr → TS} {b₀ : Stmt} {suite : List Stmt} {np pos' : Pos} {hds : List ExceptHandler} {l : List HdS} (hc : Names X x c)
      (hsu : ∀ (a : Addr) (oe : Obj) (cls : Value) (d : Option Addr) (pn : List (Addr × Obj)), Zc cls d oe → (∃ vs, oe.data = .fields vs) → PSs (X.suite a ((a, oe) :: pn)) (b₀ :: suite) (ts a cls d)) (r : HdsA X hds l) :
      HdsA X (.ExceptHandler (some (.Name x np)) none (b₀ :: suite) pos' :: hds) ((c, none, ts) :: l)
  | cons1 {x n : Str} {i : Nat} {c : Value} {ts : Addr → Value → Option Addr → TS} {b₀ : Stmt} {suite : List Stmt} {np pos' : Pos} {hds : List ExceptHandler} {l : List HdS} (hi : X.N[i]? = some n) (hln : X.env.kindOf n = some .local) (hc : Names X x c)
      (hsu : ∀ (a : Addr) (oe : Obj) (cls : Value) (d : Option Addr) (pn : List (Addr × Obj)), Zc cls d oe → (∃ vs, oe.data = .fields vs) → PSs (X.suite a ((a, oe) :: pn)) (b₀ :: suite) (ts a cls d)) (r : HdsA X hds l) :
      HdsA X (.ExceptHandler (some (.Name x np)) (some n) (b₀ :: suite) pos' :: hds) ((c, some i, ts) :: l)
section
variable {X : Cx} {body : List Stmt} {h₀ : ExceptHandler} {hds : List ExceptHandler} {l : List HdS} {pos : Pos} {tb : WX → TS} {Wout : WX}
theorem ps_try_manyA (hs : X.stack = X.env :: X.outer) (hf : X.env.frame = some X.env.locals) (hN : X.N.Nodup) (tk : Takes X Wout)
    (hb : ∀ (W : WX) (pn : List (Addr × Obj)) (xe : Value → Shared → Prop), Takes (X.tr pn xe) W → PassesOwn (model X.prog X.w) X.A X.env xe → PSs (X.tr pn xe) body (tb W))
    (hh : HdsA X (h₀ :: hds) l) : PS X (.Try body (h₀ :: hds) [] [] pos) (fun D σ H => tb (wManyA X.K Wout D l) D σ H) := by
  refine ⟨fun pins s σ H D I h => ?_⟩
  have ok := I.ok
  have hfr : X.A.frames = some (X.env :: X.outer) := by rw [ok.frames, hs]
  refine wpAny_Try_except ?_
  refine wpAny_mono ((hb (wManyA X.K Wout D l) (X.pn ++ pins) (fun e s₁ => wpAny (model X.prog X.w) X.A (noteFrame e X.env) (fun _ s₂ => wpAny (model X.prog X.w) X.A (setFlight e none) (fun _ s₃ =>
    wpAny (model X.prog X.w) X.A (handleBy e X.env (h₀ :: hds)) (SP X pins D) X.xe s₃) X.xe s₂) X.xe s₁) (fun u s' xx => ?_) PassesOwn.looking).run [] s σ H D (I.toTry _) h) (fun f s1 hsp => ?_) (fun e s1 he => he)
  · -- the catch
    obtain ⟨a, B, sI, pins', σ', H', cls, d, rfl, J', nb, up, sky, na, os, ag, w⟩ := xx
    have J : Inv X pins σ' H' sI := J'.ofTry ok
    have sky' : Sky B (X.env :: X.outer) a (Zc cls d) X.env.locals s'.heap := by rw [← hs]; exact sky
    show wpAny (model X.prog X.w) X.A (noteFrame (.ref a) X.env) _ _ _
    refine Sky.land Zc.steady hfr hf sky' fun h3 fl3 up3 => ?_
    have J3 : Inv X pins σ' H' { s' with heap := h3 } := J.landed nb fl3.1 (up.trans up3) os ag
    obtain ⟨oe3, vs3, he3, hz3, hd3⟩ := fl3.there
    have notFr : ∀ {h : Heap} {o : Obj} {vs : Array Value}, h.FunFrames B (X.env :: X.outer) → h.get? a = some o → o.data = .fields vs → a ∉ frs (X.env :: X.outer) := fun {h o vs} ff e dd hm => by
      obtain ⟨_, o', e', hnf⟩ := ff.mem hm
      rw [e] at e'; cases e'
      exact hnf _ dd
    have nfr := notFr fl3.2.2.1 he3 hd3
    have nL : a ≠ X.env.locals := fun z => nfr (List.mem_filterMap.mpr ⟨X.env, List.mem_cons_self, by rw [hf, z]⟩)
    have nF : a ∉ X.fs := fun hm => by
      obtain ⟨e, he, q⟩ := List.mem_filterMap.mp hm
      exact nfr (List.mem_filterMap.mpr ⟨e, List.mem_cons_of_mem _ he, q⟩)
    have S3 := J3.suite he3 hd3 na nL nF
    have LT : PySem.W.Looks (model X.prog X.w) h3 (typeOf (.ref a)) cls := fun A Q E s k q => wpAny_typeOf_ref (k _ _ he3) (by rw [hz3.1]; exact q)
    have test : ∀ {x : Str} {c : Value} {np : Pos} {Q : Value → Shared → Prop} {E : Value → Shared → Prop}, Names X x c → Q c { s' with heap := h3 } → wpAny (model X.prog X.w) (X.A.mark (some (.ref a))) (eval (.Name x np) X.env) Q E { s' with heap := h3 } := fun {x c np Q E} hc q => by
      obtain ⟨hg, hdbg, hm | ⟨hm, hv, hnn⟩⟩ := hc
      · exact ld_glob (X := X.suite a ((a, oe3) :: (X.pn ++ pins))) S3 hg hm q hdbg
      · exact ld_blt (X := X.suite a ((a, oe3) :: (X.pn ++ pins))) S3 hg hm hv q hnn hdbg
    have go : ∀ {hds' : List ExceptHandler} {l' : List HdS}, HdsA X hds' l' → wManyA X.K Wout D l' cls d σ' H' →
        wpAny (model X.prog X.w) X.A (handleBy (.ref a) X.env hds') (SP X pins D) X.xe { s' with heap := h3 } := by
      intro hds' l' hk
      induction hk with
      | nil =>
        intro w
        refine wpAny_handleBy_nil ?_
        obtain ⟨k1, k2, k3, oe, vs, T, oT, ts', he, hz, hd, h1, hr⟩ := id fl3
        unfold PySem.passOn
        refine wpAny_bind (wpAny_field he hd h1 ?_)
        rw [if_neg (show ¬ ((Value.ref T == Value.none) = true) from by simp)]
        have fin : wpAny (model X.prog X.w) X.A (setFlight (.ref a) X.env.frame) (fun _ s4 => wpAny (model X.prog X.w) X.A (throw (.ref a) : Sem Flow) (SP X pins D) X.xe s4) X.xe { s' with heap := h3 } := by
          rw [hf]
          refine PySem.HandSPX.setFlight_upZ fl3 fun h4 hh4 up4 => wpAny_throw (tk _ _ ?_)
          exact ⟨a, B, sI, pins, σ', H', cls, d, rfl, J, nb, (up.trans up3).trans up4, .inr (.inr (by rw [hs]; exact hh4)), na, os, ag, w⟩
        first
          | exact wpAny_bind (wpAny_pure (wpAny_bind fin))
          | exact wpAny_bind fin
      | @cons0 x c ts b₀ suite np pos' hds2 l2 hc hsu r ih =>
        intro w
        obtain ⟨b, hb1, hyes, hno⟩ := w
        refine wpAny_handleBy_cons (codeAny_handlers_test ?_) (by intro q; cases q)
        have LM := PySem.W.exm_one (M := model X.prog X.w) (J3.kIn) LT hb1
        refine test hc (LM.here ?_)
        cases b with
        | true =>
          refine codeAny_handlers_suite ?_
          refine PySem.HandSPX.lands_againZ fl3 fun h4 fl4 up4 => ?_
          have J4 : Inv X pins σ' H' { s' with heap := h4 } := J.landed nb fl4.1 ((up.trans up3).trans up4) os ag
          obtain ⟨oe4, vs4, he4, hz4, hd4⟩ := fl4.there
          have S4 := J4.suite he4 hd4 na nL nF
          refine wpAny_mono ((hsu a oe4 cls d (X.pn ++ pins) hz4 ⟨_, hd4⟩).run [] _ _ H' _ S4 (hyes rfl a na)) (fun f s6 hsp => ?_) (fun _ _ z => False.elim z)
          cases f with
          | next =>
            obtain ⟨σ6, H6, S6, q6⟩ := hsp
            exact ⟨_, _, S6.unsuite ok, q6⟩
          | brk =>
            obtain ⟨σ6, H6, S6, q6⟩ := hsp
            exact ⟨_, _, S6.unsuite ok, q6⟩
          | cont =>
            obtain ⟨σ6, H6, S6, q6⟩ := hsp
            exact ⟨_, _, S6.unsuite ok, q6⟩
          | ret u =>
            obtain ⟨v6, σ6, H6, S6, r6, q6⟩ := hsp
            exact ⟨_, _, _, S6.unsuite ok, r6, q6⟩
        | false =>
          show wpAny _ X.A (handleBy (.ref a) X.env hds2) _ _ _
          exact ih (hno rfl)
      | @cons1 x n i c ts b₀ suite np pos' hds2 l2 hi hln hc hsu r ih =>
        intro w
        obtain ⟨b, hb1, hyes, hno⟩ := w
        have hloc : Loc X.env.scope n := .inl hln
        refine wpAny_handleBy_cons (codeAny_handlers_test ?_) (by intro q; cases q)
        have LM := PySem.W.exm_one (M := model X.prog X.w) (J3.kIn) LT hb1
        refine test hc (LM.here ?_)
        cases b with
        | true =>
          refine codeAny_handlers_suite_as ?_
          refine PySem.HandSPX.lands_againZ fl3 fun h4 fl4 up4 => ?_
          have J4 : Inv X pins σ' H' { s' with heap := h4 } := J.landed nb fl4.1 ((up.trans up3).trans up4) os ag
          obtain ⟨oe4, vs4, he4, hz4, hd4⟩ := fl4.there
          have S4 := J4.suite he4 hd4 na nL nF
          refine store_ok (X := X.suite a ((a, oe4) :: (X.pn ++ pins))) (v := .ref a) S4 hN hi hloc rfl (fun s5 S5 => ?_) (.inr hln)
          refine wpAny_mono ((hsu a oe4 cls d (X.pn ++ pins) hz4 ⟨_, hd4⟩).run [] s5 _ H' _ S5 (hyes rfl a na)) (fun f s6 hsp => ?_) (fun _ _ z => False.elim z)
          have end_ : ∀ {σ6 : L2.St} {H6 : Hp} {Q : Shared → Prop}, Inv (X.suite a ((a, oe4) :: (X.pn ++ pins))) [] σ6 H6 s6 → (∀ s7, Inv X pins (σ6.set i none) H6 s7 → Q s7) →
              wpAny (model X.prog X.w) X.A (do bindName X.env n .none; unbindBehindTheSuite X.env n pos') (fun _ s7 => Q s7) X.xe s6 := fun {σ6 H6 Q} S6 hq => gone_ok (S6.unsuite ok) hN hi hln hq
          cases f with
          | next =>
            obtain ⟨σ6, H6, S6, q6⟩ := hsp
            exact end_ S6 fun s7 J7 => ⟨_, _, J7, q6⟩
          | brk =>
            obtain ⟨σ6, H6, S6, q6⟩ := hsp
            exact end_ S6 fun s7 J7 => ⟨_, _, J7, q6⟩
          | cont =>
            obtain ⟨σ6, H6, S6, q6⟩ := hsp
            exact end_ S6 fun s7 J7 => ⟨_, _, J7, q6⟩
          | ret u =>
            obtain ⟨v6, σ6, H6, S6, r6, q6⟩ := hsp
            exact end_ S6 fun s7 J7 => ⟨_, _, _, J7, r6, q6⟩
        | false =>
          show wpAny _ X.A (handleBy (.ref a) X.env hds2) _ _ _
          exact ih (hno rfl)
    exact go hh w
  · cases f with
    | next =>
      obtain ⟨σ', H', J', q⟩ := hsp
      exact wpAny_execs_nil ⟨σ', H', J'.ofTry ok, q⟩
    | brk =>
      obtain ⟨σ', H', J', q⟩ := hsp
      exact ⟨σ', H', J'.ofTry ok, q⟩
    | cont =>
      obtain ⟨σ', H', J', q⟩ := hsp
      exact ⟨σ', H', J'.ofTry ok, q⟩
    | ret u =>
      obtain ⟨v, σ', H', J', r, q⟩ := hsp
      exact ⟨v, σ', H', J'.ofTry ok, r, q⟩
end
end Ev

/-! A form that passes the check says what the text does: all expressions; statements. -/
namespace Ev
open PySem PySem.Spec PyProof.Rows L2
section
variable {G : Gl0} {C : CallS}
theorem ok_lc {elt : IE} {tg : IG} {it : II} {ifs : IQ} {own : List Nat} (ihe : OkE G C elt) (ihi : OkI G C it) (ihq : OkQ G C ifs) : OkE G C (.lc elt tg it ifs own) := by
  intro X W A g e h
  unfold chkE at h
  split at h
  · rename_i el t i cs scope pos
    simp only [Bool.and_eq_true] at h
    obtain ⟨⟨⟨⟨⟨h1, h2⟩, h3⟩, h4⟩, h5⟩, h6⟩ := h
    obtain ⟨hi, hs⟩ := ihi X W A g t i h3
    have ok : BlkOk X.N X.env.scope scope (ownOf A.N own) := by rw [g.hN, g.sc]; exact blkOk_by h2
    have hp := pe_lc (own := ownOf A.N own) (pos := pos) (g := LG X own tg) (tt := LT X W0 fun E => semQ G C E ifs) (te := LE X W0 fun E => semE G C E elt) (g.calm h1) g.nd hi ok (fun s H Ca cl fp => ok_g own tg _ _ _ (g.blk h1 s H scope Ca cl fp) t h4) (fun s H Ca cl fp => ihq _ _ _ (g.blk h1 s H scope Ca cl fp) cs h6)
      (fun s H Ca cl fp => ihe _ _ _ (g.blk h1 s H scope Ca cl fp) el h5) (fold_ok hs)
    rw [own_snd] at hp
    exact hp.imp lc_red
  · cases h
mutual
theorem okE : ∀ ie, OkE G C ie
  | .var i => ok_var i
  | .int i => ok_int i
  | .bl b => ok_bl b
  | .non => ok_non
  | .str x => ok_str x
  | .glo x => ok_glo x
  | .tup es => ok_tup (okEs es)
  | .lst es => ok_lst (okEs es)
  | .bin op a b => ok_bin (okE a) (okE b)
  | .neg a => ok_neg (okE a)
  | .cmp op a b => ok_cmp (okE a) (okE b)
  | .chn op op2 a b c => ok_chn (okE a) (okE b) (okE c)
  | .and a b => ok_and (okE a) (okE b)
  | .or a b => ok_or (okE a) (okE b)
  | .one a => ok_one (okE a)
  | .not a => ok_not (okE a)
  | .ifx c a b => ok_ifx (okC c) (okE a) (okE b)
  | .idx a i => ok_idx (okE a) (okE i)
  | .slc a lo hi => ok_slc (okE a) (okO lo) (okO hi)
  | .call f es => ok_call (okEs es)
  | .bi b es => ok_bi (okEs es)
  | .isi e ts => ok_isi (okE e)
  | .isx e c => ok_isx (okE e)
  | .isxs e cs => ok_isxs (okE e)
  | .mth m o es => ok_mth (okE o) (okEs es)
  | .fld o f => ok_fld (okE o)
  | .mcl o m es => ok_mcl (okE o) (okEs es)
  | .mk x es => ok_mk (okEs es)
  | .lc elt tg it ifs own => ok_lc (okE elt) (okI it) (okQ ifs)
  | .smt m o es => ok_smt (okE o) (okEs es) (okAll es)
  | .fldx o f => ok_fldx (okE o)
  | .dct ks es => ok_dct (okAll es)
  | .rsl e => ok_rsl (okE e)
  | .gix x e => ok_gix (okE e)
  | .lck e i => ok_lck (okE e)
theorem okAll : ∀ ies, AllE G C ies
  | .nil => .nil
  | .cons e r => .cons (okE e) (okAll r)
theorem okEs : ∀ ies, OkEs G C ies
  | .nil => ok_nil
  | .cons e r => ok_cons (okE e) (okEs r)
theorem okO : ∀ io, OkO G C io
  | .no => ok_ono
  | .some e => ok_osome (okE e)
theorem okQ : ∀ iq, OkQ G C iq
  | .no => ok_qno
  | .c c => ok_qc (okC c)
theorem okC : ∀ ic, OkC G C ic
  | .and a b => ok_cand (okC a) (okC b)
  | .or a b => ok_cor (okC a) (okC b)
  | .one a => ok_cone (okC a)
  | .not a => ok_cnot (okC a)
  | .cmp op a b => ok_ccmp (okE a) (okE b)
  | .chn op op2 a b c => ok_cchn (okE a) (okE b) (okE c)
  | .v e => ok_cv (okE e)
theorem okI : ∀ ii, OkI G C ii
  | .seq e => ok_iseq (okE e)
  | .rng1 a => ok_irng1 (okE a)
  | .rng2 a b => ok_irng2 (okE a) (okE b)
  | .rng3 a b c => ok_irng3 (okE a) (okE b) (okE c)
  | .enu e => ok_ienu (okE e)
  | .zip a b => ok_izip (okE a) (okE b)
  | .rev e => ok_irev (okE e)
end

/-! ### statements -/
structure KP (X : Cx) (W : WX) (k : Kt) (D : Ends) (H : Hp) : Prop where
  nx : ∀ σ' H' σd S, Ext H H' → Rn X.K H' σd σ' → RS X.K H' S → k.nx σd S → D.nx σ' H'
  rt : Post X.K H k.rt D.rt
  bk : ∀ σ' H' σd S, Ext H H' → Rn X.K H' σd σ' → RS X.K H' S → k.bk σd S → D.bk σ' H'
  ct : ∀ σ' H' σd S, Ext H H' → Rn X.K H' σd σ' → RS X.K H' S → k.ct σd S → D.ct σ' H'
  ex : ∀ c dd σ' H' x σd S, Ext H H' → Rn X.K H' σd σ' → RX X.K X.mg H' x c dd → RS X.K H' S → k.ex x σd S → W c dd σ' H'
def LS (X : Cx) (W : WX) (f : Kt → En → Sto → Prop) : TS := fun D σ H => ∃ (σd : En) (S : Sto) (k : Kt), Rn X.K H σd σ ∧ RS X.K H S ∧ f k σd S ∧ KP X W k D H
section
variable {X : Cx} {W : WX} {k : Kt} {D : Ends} {H H' : Hp} {σ : L2.St} {σd : En}
theorem KP.ext (e : Ext H H') (p : KP X W k D H) : KP X W k D H' :=
  ⟨fun σ' H2 σd S x => p.nx σ' H2 σd S (e.trans x), fun v H2 d S x => p.rt v H2 d S (e.trans x), fun σ' H2 σd S x => p.bk σ' H2 σd S (e.trans x), fun σ' H2 σd S x => p.ct σ' H2 σd S (e.trans x), fun c dd σ' H2 y σd S x => p.ex c dd σ' H2 y σd S (e.trans x)⟩
theorem KP.xp (p : KP X W k D H) (rn : Rn X.K H σd σ) : XP X W (fun x S => k.ex x σd S) σ H := fun c d H' x S' e rx rs h => p.ex c d σ H' x σd S' e (rn.ext e) rx rs h
end
def OkS (G : Gl0) (C : CallS) (s : IS) : Prop := ∀ (X : Cx) (W : WX) (A : Sc), Good G C X W A → ∀ st, chkS A s st = true → PS X st (LS X W (semS G C s))
def OkSs (G : Gl0) (C : CallS) (s : ISs) : Prop := ∀ (X : Cx) (W : WX) (A : Sc), Good G C X W A → ∀ st, chkSs A s st = true → PSs X st (LS X W (semSs G C s))
theorem sw_nc {v : Expr} {t : Option Expr} {l : Nat} {env : Env} (h : ncomp v = true) : swapsWith v t l env = pure false := by
  cases v <;> first | rfl | cases h
theorem sw_lc {G : Gl0} {C : CallS} {X : Cx} {W : WX} {A : Sc} (g : Good G C X W A) {elt : Expr} {gs : List Comprehension} {scope : Scope} {pos py : Pos} {y : Str} {l : Nat} (hk : X.env.scope.kind = .function) :
    swapsWith (.ListComp elt gs scope pos) (some (.Name y py)) l X.env = pure (swB A y py (.ListComp elt gs scope pos)) := by
  have ky : X.env.kindOf y = A.sc.names.lookup y := kind_of g.sc y
  have hb : X.env.blockKind = .function := by unfold Env.blockKind; rw [hk]; rfl
  unfold swapsWith swB
  simp only [hb, ky, Expr.pos]
  by_cases h : A.sc.names.lookup y = some .local
  · rw [h]; rfl
  · have e : (A.sc.names.lookup y == some NameKind.local) = false := by
      cases q : A.sc.names.lookup y with
      | none => rfl
      | some z => rw [q] at h; cases z <;> first | rfl | exact absurd rfl h
    rw [e, decide_eq_false h]
    rfl
theorem sw_any {v t : Expr} {l : Nat} {env : Env} (h : ncomp v = true) : swapsWithSole [t] v l env = pure false := by
  unfold swapsWithSole
  exact sw_nc h
theorem LS.set {X : Cx} {W : WX} {i : Nat} {e : IE} : ∀ D σ H, LS X W (semS G C (.set i e)) D σ H → tAsg (LE X W fun E => semE G C E e) (gName i) D σ H := by
  rintro D σ H ⟨σd, S, k, rn, rs, h, p⟩
  exact ⟨σd, S, _, _, rn, rs, h, fun v H1 d S1 e1 rv rs1 h1 => p.nx _ H1 _ S1 e1 ((rn.ext e1).set rv i) rs1 h1, p.xp rn⟩
theorem ok_set {i : Nat} {e : IE} : OkS G C (.set i e) := by
  intro X W A g st h
  unfold chkS at h
  split at h
  · rename_i x py v pp
    simp only [Bool.and_eq_true] at h
    obtain ⟨⟨h1, h2⟩, h3⟩ := h
    obtain ⟨q1, q2, q3⟩ := loc_of g.hN g.sc g.stl g.fnc h1
    have hv := okE e X W A g v h2
    by_cases hn : ncomp v = true
    · exact (ps_set g.nd q1 q2 hv (sw_nc hn) q3).imp LS.set
    · have hk : X.env.scope.kind = .function ∨ True := .inr trivial
      refine ⟨fun pins s σ H D I hh => ?_⟩
      have hk : X.env.scope.kind = .function := I.ok.kind
      cases v with
      | ListComp elt gs scope pos =>
        by_cases hb : swB A x py (.ListComp elt gs scope pos) = true
        · have hl : X.env.scope.names.lookup x = some .local := by
            unfold swB at hb
            simp only [Bool.and_eq_true, decide_eq_true_eq] at hb
            rw [g.sc]
            exact hb.1.1
          have hsw : swapsWith (.ListComp elt gs scope pos) (some (.Name x py)) pp.line X.env = pure true := by rw [sw_lc g hk, hb]
          cases e with
          | lc elt' tg it ifs own =>
            unfold chkE at h2
            split at h2
            · rename_i ee el t it' cs sc' ps heq
              cases heq
              simp only [Bool.and_eq_true] at h2
              obtain ⟨⟨⟨⟨⟨c1, c2⟩, c3⟩, c4⟩, c5⟩, c6⟩ := h2
              obtain ⟨hi, hs⟩ := okI it X W A g t it' c3
              have ok : BlkOk X.N X.env.scope scope (ownOf A.N own) := by rw [g.hN, g.sc]; exact blkOk_by c2
              have hp := ps_setLc (own := ownOf A.N own) (g := LG X own tg) (tt := LT X W0 fun E => semQ G C E ifs) (te := LE X W0 fun E => semE G C E elt') (g.calm c1) g.nd q1 hl hsw hi ok (fun s H Ca cl fp => ok_g own tg _ _ _ (g.blk c1 s H scope Ca cl fp) t c4) (fun s H Ca cl fp => okQ ifs _ _ _ (g.blk c1 s H scope Ca cl fp) cs c6)
                (fun s H Ca cl fp => okE elt' _ _ _ (g.blk c1 s H scope Ca cl fp) elt c5) (fold_ok hs)
              rw [own_snd] at hp
              refine hp.run pins s σ H D I ?_
              have z := LS.set D σ H hh
              exact lc_red σ H _ z
            · cases h2
          | lck e' jj =>
            unfold chkE at h2
            simp only [Bool.and_eq_true] at h2
            obtain ⟨h2, h2b⟩ := h2
            cases e' with
            | lc elt' tg it ifs own =>
              unfold chkE at h2
              split at h2
              · rename_i ee el t it' cs sc' ps heq
                cases heq
                simp only [Bool.and_eq_true] at h2
                obtain ⟨⟨⟨⟨⟨c1, c2⟩, c3⟩, c4⟩, c5⟩, c6⟩ := h2
                obtain ⟨hi, hs⟩ := okI it X W A g t it' c3
                have ok : BlkOk X.N X.env.scope scope (ownOf A.N own) := by rw [g.hN, g.sc]; exact blkOk_by c2
                have hp := ps_setLc (own := ownOf A.N own) (g := LG X own tg) (tt := LT X W0 fun E => semQ G C E ifs) (te := LE X W0 fun E => semE G C E elt') (g.calm c1) g.nd q1 hl hsw hi ok (fun s H Ca cl fp => ok_g own tg _ _ _ (g.blk c1 s H scope Ca cl fp) t c4) (fun s H Ca cl fp => okQ ifs _ _ _ (g.blk c1 s H scope Ca cl fp) cs c6)
                  (fun s H Ca cl fp => okE elt' _ _ _ (g.blk c1 s H scope Ca cl fp) elt c5) (fold_ok hs)
                rw [own_snd] at hp
                refine (ps_lock hp).run pins s σ H D I ?_
                have z := LS.set D σ H hh
                obtain ⟨d, u, z1, z2, z3⟩ := lck_red σ H _ z
                exact ⟨d, u, z1, z2, fun od => lc_red σ _ _ (z3 od)⟩
              · cases h2
            | _ => cases h2b
          | _ => cases h2
        · have hsw : swapsWith (.ListComp elt gs scope pos) (some (.Name x py)) pp.line X.env = pure false := by
            rw [sw_lc g hk]
            cases q : swB A x py (.ListComp elt gs scope pos) with
            | false => rfl
            | true => exact absurd q hb
          exact (ps_set g.nd q1 q2 hv hsw q3).run pins s σ H D I (LS.set D σ H hh)
      | SetComp => cases e <;> cases h2
      | DictComp => cases e <;> cases h2
      | _ => exact absurd rfl hn
  · cases h
theorem sw_none {G : Gl0} {C : CallS} {X : Cx} {W : WX} {A : Sc} (g : Good G C X W A) {xs : List Expr} {kk pp} {v : Expr} (h : nsw A xs v = true) : swappedStores [.Tuple xs kk pp] v X.env = pure none := by
  cases v <;> first | (cases h; done) | skip
  rename_i vs k2 p2
  have h : ((swNames A xs).length != xs.length || vs.all (foldedForSure 8)) = true := h
  unfold swappedStores
  simp only [pure_bind, kind_of g.sc]
  generalize hn : List.filterMap _ xs = ns
  have e : ns = swNames A xs := hn.symm
  rw [e]
  rcases Bool.or_eq_true _ _ ▸ h with h | h
  · rw [h]
    simp only [Bool.true_or, if_true]
    split
    · rfl
    · split <;> rfl
  · rw [h]
    simp only [if_true]
    split
    · rfl
    · split
      · rfl
      · split <;> rfl
theorem ok_asg {ig : IG} {e : IE} : OkS G C (.asg ig e) := by
  intro X W A g st h
  unfold chkS at h
  split at h
  · rename_i xs kk pp v ps
    simp only [Bool.and_eq_true] at h
    obtain ⟨⟨⟨h1, h2⟩, h3⟩, h4⟩ := h
    have hv := okE e X W A g v h2
    have hg := ok_g (List.range A.N.length) ig X W A g _ h1
    refine (ps_asg hv hg (sw_any h4) ?_ rfl).imp ?_
    · rcases Bool.or_eq_true _ _ ▸ h3 with h3 | h3
      · cases v <;> first | rfl | cases h3
      · exact sw_none g h3
    · rintro D σ H ⟨σd, S, k, rn, rs, h, p⟩
      refine ⟨σd, S, _, _, rn, rs, h, fun v H1 d S1 e1 rv rs1 h1 => ⟨d, σd, S1, _, rv, rn.ext e1, rs1, h1, fun σ' σd' rn' _ h5 => p.nx _ H1 _ S1 e1 rn' rs1 h5⟩, p.xp rn⟩
  · cases h
/-- a store to a list or a dict -/
theorem set_any {X : Cx} (hu : X.A.units + 1 < cLine) : PSet X (fun o i v H Q => rSetL o i v H Q ∨ ∃ a H2, o = .ref a ∧ DPut H a i v H2 ∧ Q H2) := by
  intro pins s σ H o i v ov iv u Q I ro ri rv h
  rcases h with h | ⟨a, H2, rfl, g, q⟩
  · exact set_list pins s σ H o i v ov iv u Q I ro ri rv h
  · obtain rfl : ov = Value.ref a := ro
    exact d_setItem hu I g ri rv fun s4 I4 => ⟨H2, I4, q⟩
theorem ok_sub {o i e : IE} : OkS G C (.sub o i e) := by
  intro X W A g st h
  unfold chkS at h
  split at h
  · rename_i x y pp v ps
    simp only [Bool.and_eq_true] at h
    obtain ⟨⟨⟨⟨h1, h2⟩, h3⟩, h4⟩, h5⟩ := h
    refine (ps_asg (okE e X W A g v h4) (pg_sub (okE o X W A g x h1) (okE i X W A g y h2) (set_any (Nat.lt_of_le_of_lt (Nat.add_le_add_left (by decide) _) g.hu)) ?_) (sw_any h5) rfl rfl).imp ?_
    · intro v
      cases y <;> first | rfl | cases h3
    · rintro D σ H ⟨σd, S, k, rn, rs, h, p⟩
      refine ⟨σd, S, _, _, rn, rs, h, fun v H1 d S1 e1 rv rs1 h1 => ⟨σd, S1, _, _, rn.ext e1, rs1, h1, fun ov H2 od S2 e2 ro rs2 h2 => ⟨σd, S2, _, _, rn.ext (e1.trans e2), rs2, h2, fun iv H3 id S3 e3 ri rs3 h3 => ?_, ((p.xp rn).ext (e1.trans e2))⟩, (p.xp rn).ext e1⟩, p.xp rn⟩
      have e123 : Ext H H3 := (e1.trans e2).trans e3
      split at h3
      · split at h3
        · rename_i xs ex
          split at h3
          · rename_i j ej
            cases ro; cases ri
            obtain ⟨vs, v1, v2⟩ := rs3 _ _ ex
            rw [v2.length] at ej
            refine .inl ⟨_, vs, _, j, rfl, rfl, v1, ej, ?_⟩
            exact p.nx σ _ σd _ (e123.trans (Ext.lst v1)) (rn.ext (e123.trans (Ext.lst v1))) (rs3.write v1 ex (v2.set j (Rv.ext (e2.trans e3) rv))) h3
          · exact h3.elim
        · exact h3.elim
      · split at h3
        · rename_i kvs ex
          cases ro; cases ri
          obtain ⟨hl, h3⟩ := h3
          obtain ⟨kv, k1, k2⟩ := rs3 _ _ ex
          obtain ⟨kv2, l1, l2⟩ := pr_put k2 (Rv.ext (e2.trans e3) rv) _
          refine .inr ⟨_, _, rfl, .inl ⟨_, Sum.inr _, k1, rfl, ?_, rfl⟩, ?_⟩
          · rw [List.length_map, ← Paired.length k2]
            exact hl
          · rw [l1]
            have x2 := Ext.dK (o := .dK (kv2.map keyS)) k1
            exact p.nx σ _ σd _ (e123.trans x2) (rn.ext (e123.trans x2)) (rs3.over (ob := .dct _) x2 ⟨kv2, upd_same, Paired.mono (fun p q z => ⟨z.1, Rv.ext x2 z.2⟩) l2⟩) h3
        · exact h3.elim
      · exact h3.elim
  · cases h
theorem ok_setf {o e : IE} {f : Str} : OkS G C (.setf o f e) := by
  intro X W A g st h
  unfold chkS at h
  split at h
  · rename_i x nm ap v ps
    simp only [Bool.and_eq_true, decide_eq_true_eq] at h
    obtain ⟨⟨⟨⟨h1, h2⟩, h3⟩, h4⟩, h5⟩ := h
    subst h1
    refine (ps_fld (okE o X W A g x h2) (okE e X W A g v h4) (sw_nc h5)).imp ?_
    rintro D σ H ⟨σd, S, k, rn, rs, h, p⟩
    refine ⟨σd, S, _, _, rn, rs, h, fun v H1 d S1 e1 rv rs1 h1 => ⟨σd, S1, _, _, rn.ext e1, rs1, h1, fun ov H2 od S2 e2 ro rs2 h2 => ?_, (p.xp rn).ext e1⟩, p.xp rn⟩
    split at h2
    · rename_i a
      split at h2
      · rename_i C0 fs ei
        cases ro
        obtain ⟨cls, dx, fv, q1, q2, q3⟩ := rs2.iget ei
        obtain ⟨hf, hl, h2⟩ := h2
        obtain ⟨cls', c1, c2, c3⟩ := g.fds _ _ hf
        have := c1.eq q1
        subst this
        have e12 := e1.trans e2
        refine ⟨_, _, dx, fv, rfl, q2, c2, c3, by rw [← Paired.length q3]; exact hl, ?_⟩
        refine p.nx σ _ σd _ (e12.trans (Ext.ins q2)) (rn.ext (e12.trans (Ext.ins q2))) (rs2.writeI2 q1 q2 (put_rel (fun _ _ z => z.1) (fun g => ⟨rfl, Rv.ext e2 rv⟩) q3)) h2
      · exact h2.elim
    · exact h2.elim
  · cases h
theorem ok_par2 {i j : Nat} {a b : IE} : OkS G C (.par2 i j a b) := by
  intro X W A g st h
  unfold chkS at h
  split at h
  · rename_i x px y py kt tp u v k2 pt2 pos
    simp only [Bool.and_eq_true, decide_eq_true_eq, Bool.not_eq_true', bne_iff_ne] at h
    obtain ⟨⟨⟨⟨⟨⟨⟨⟨⟨h1, h2⟩, h3⟩, h4⟩, h5⟩, h6⟩, h7⟩, h8⟩, hf0⟩, h9⟩ := h
    obtain ⟨q1, q2⟩ := lcl_of g.hN g.sc h2
    obtain ⟨r1, r2⟩ := lcl_of g.hN g.sc h3
    refine ⟨fun pins s σ H D I hh => ?_⟩
    have hk : X.env.scope.kind = .function := I.ok.kind
    have hb : X.env.blockKind = .function := by unfold Env.blockKind; rw [hk]; rfl
    have kx : X.env.kindOf x = some .local := by rw [kind_of g.sc, ← g.sc]; exact q2
    have ky : X.env.kindOf y = some .local := by rw [kind_of g.sc, ← g.sc]; exact r2
    have su := chkE_nst h4
    have sv := chkE_nst h5
    have hf : ([u, v].all (foldedForSure 8)) = false := by
      simp only [List.all_cons, List.all_nil, Bool.and_true]
      exact hf0
    have hc : ([u, v].all (constantsAlone 8)) = false := by
      simp only [List.all_cons, List.all_nil, Bool.and_true]
      exact h8
    have hw : swappedStores [.Tuple [.Name x px, .Name y py] kt tp] (.Tuple [u, v] k2 pt2) X.env = pure (some [x, y]) := by
      have e1 : (px.line == px.line) = true := by simp
      have e2 : (py.line == px.line) = true := by rw [BEq.comm]; exact h7
      have hxy : (y == x) = false := by rw [BEq.comm]; exact h9
      unfold swappedStores
      simp only [hb, kx, ky, List.length_cons, List.length_nil, List.filterMap_cons, List.filterMap_nil, hf, hc, e1, e2, List.head?_cons, Option.map_some, Expr.pos, Option.getD_some, Bool.and_self, beq_self_eq_true, if_true, List.eraseDups_cons, List.eraseDups_nil, List.filter_cons, List.filter_nil, hxy, bne_self_eq_false, Bool.true_or, Bool.not_true, Bool.or_self, Bool.false_eq_true, if_false, Bool.not_false, Bool.false_or]
      cases u <;> cases v <;> first | rfl | (cases su; done) | (cases sv; done)
    refine (ps_par (g.calm h1) g.nd q1 r1 h6 q2 r2 (pa_cons (okE a X W A g u h4) (pa_cons (okE b X W A g v h5) pa_nil (star_cons sv)) (star_cons su)) hw rfl).run pins s σ H D I ?_
    obtain ⟨σd, S, k, rn, rs, h, p⟩ := hh
    refine ⟨σd, S, _, _, rn, rs, h, fun v1 H1 d1 S1 e1 rv1 rs1 h1 => ⟨σd, S1, _, _, rn.ext e1, rs1, h1, fun v2 H2 d2 S2 e2 rv2 rs2 h2 => ⟨v1, v2, rfl, ?_⟩, (p.xp rn).ext e1⟩, p.xp rn⟩
    exact p.nx _ H2 _ S2 (e1.trans e2) (((rn.ext (e1.trans e2)).set (Rv.ext e2 rv1) i).set rv2 j) rs2 h2
  · cases h
theorem ok_expr {e : IE} : OkS G C (.expr e) := by
  intro X W A g st h
  unfold chkS at h
  split at h
  · simp only [Bool.and_eq_true] at h
    refine (ps_expr (okE e X W A g _ h.1) (sw_nc h.2)).imp ?_
    rintro D σ H ⟨σd, S, k, rn, rs, h, p⟩
    exact ⟨σd, S, _, _, rn, rs, h, fun v H1 d S1 e1 rv rs1 h1 => p.nx σ H1 σd S1 e1 (rn.ext e1) rs1 h1, p.xp rn⟩
  · cases h
theorem ok_ret {e : IE} : OkS G C (.ret e) := by
  intro X W A g st h
  unfold chkS at h
  split at h
  · refine (ps_ret (okE e X W A g _ h)).imp ?_
    rintro D σ H ⟨σd, S, k, rn, rs, h, p⟩
    exact ⟨σd, S, _, _, rn, rs, h, p.rt, p.xp rn⟩
  · cases h
theorem ok_retN : OkS G C .retN := by
  intro X W A g st h
  unfold chkS at h
  split at h
  · refine ps_retN.imp ?_
    rintro D σ H ⟨σd, S, k, rn, rs, h, p⟩
    exact p.rt .non H .non S (Ext.refl H) .non rs h
  · cases h
theorem ok_brk : OkS G C .brk := by
  intro X W A g st h
  unfold chkS at h
  split at h
  · refine ps_break.imp ?_
    rintro D σ H ⟨σd, S, k, rn, rs, h, p⟩
    exact p.bk σ H σd S (Ext.refl H) rn rs h
  · cases h
theorem ok_cnt : OkS G C .cnt := by
  intro X W A g st h
  unfold chkS at h
  split at h
  · refine ps_continue.imp ?_
    rintro D σ H ⟨σd, S, k, rn, rs, h, p⟩
    exact p.ct σ H σd S (Ext.refl H) rn rs h
  · cases h
theorem ok_pass : OkS G C .pass := by
  intro X W A g st h
  unfold chkS at h
  split at h
  · refine ps_pass.imp ?_
    rintro D σ H ⟨σd, S, k, rn, rs, h, p⟩
    exact p.nx σ H σd S (Ext.refl H) rn rs h
  · cases h
theorem ok_ifs {c : IC} {a b : ISs} (iha : OkSs G C a) (ihb : OkSs G C b) : OkS G C (.ifs c a b) := by
  intro X W A g st h
  unfold chkS at h
  split at h
  · simp only [Bool.and_eq_true] at h
    refine (ps_if (okC c X W A g _ h.1.1) (iha X W A g _ h.1.2) (ihb X W A g _ h.2)).imp ?_
    rintro D σ H ⟨σd, S, k, rn, rs, h, p⟩
    refine ⟨σd, S, _, _, rn, rs, h, fun b H1 S1 e1 rs1 h1 => ?_, p.xp rn⟩
    cases b with
    | true => exact ⟨σd, S1, k, rn.ext e1, rs1, h1, p.ext e1⟩
    | false => exact ⟨σd, S1, k, rn.ext e1, rs1, h1, p.ext e1⟩
  · cases h
theorem ok_whl {c : IC} {b : ISs} (ihb : OkSs G C b) : OkS G C (.whl c b) := by
  intro X W A g st h
  unfold chkS at h
  split at h
  · simp only [Bool.and_eq_true] at h
    refine (ps_while g.po (okC c X W A g _ h.1) (ihb X W A g _ h.2)).imp ?_
    rintro D σ H ⟨σd, S, k, rn, rs, h, p⟩
    obtain ⟨Wd, ⟨m0, w0⟩, turn⟩ := h
    refine ⟨fun m σ H' => ∃ σd S, Ext H H' ∧ Rn X.K H' σd σ ∧ RS X.K H' S ∧ Wd m σd S, ⟨m0, σd, S, Ext.refl H, rn, rs, w0⟩, ?_⟩
    rintro m σ1 H1 ⟨σd1, S1, e1, rn1, rs1, w1⟩
    refine ⟨σd1, S1, _, _, rn1, rs1, turn m σd1 S1 w1, fun b H2 S2 e2 rs2 h2 => ?_, (p.ext e1).xp rn1⟩
    cases b with
    | true =>
      have h2 : semSs G C _ _ σd1 S2 := h2
      refine ⟨fun σ' H' => ∃ m', m' < m ∧ ∃ σd S, Ext H H' ∧ Rn X.K H' σd σ' ∧ RS X.K H' S ∧ Wd m' σd S, fun σ' H' z => z, σd1, S2, _, rn1.ext e2, rs2, h2, ?_⟩
      refine ⟨?_, (p.ext (e1.trans e2)).rt, (p.ext (e1.trans e2)).nx, ?_, (p.ext (e1.trans e2)).ex⟩
      · rintro σ' H' σd' S' e rn' rs' ⟨m', hm, w'⟩
        exact ⟨m', hm, σd', S', (e1.trans e2).trans e, rn', rs', w'⟩
      · rintro σ' H' σd' S' e rn' rs' ⟨m', hm, w'⟩
        exact ⟨m', hm, σd', S', (e1.trans e2).trans e, rn', rs', w'⟩
    | false => exact p.nx σ1 H2 σd1 S2 (e1.trans e2) (rn1.ext e2) rs2 h2
  · cases h
theorem ok_for {ig : IG} {it : II} {b : ISs} (ihb : OkSs G C b) : OkS G C (.for_ ig it b) := by
  intro X W A g st h
  unfold chkS at h
  split at h
  · rename_i t i x pos
    simp only [Bool.and_eq_true] at h
    obtain ⟨⟨⟨⟨h1, h2⟩, h3⟩, h4⟩, h5⟩ := h
    obtain ⟨hi, hs⟩ := okI it X W A g t i h3
    refine (ps_for g.po (g.calm h1) hi (ok_g (List.range A.N.length) ig X W A g _ h2) (ihb X W A g _ h5) (fold_ok h4)).imp ?_
    rintro D σ H ⟨σd, S, k, rn, rs, h, p⟩
    refine ⟨σd, S, _, _, rn, rs, h, fun J J' H1 S1 e1 rs1 rel h1 => ?_, p.xp rn⟩
    obtain ⟨Wd, ⟨m0, w0⟩, turn⟩ := h1
    refine ⟨fun i m σ H' => ∃ σd S, Ext H1 H' ∧ Rn X.K H' σd σ ∧ RS X.K H' S ∧ Wd i m σd S, ⟨m0, σd, S1, Ext.refl H1, rn.ext e1, rs1, w0⟩, ?_⟩
    rintro i m σ2 H2 ⟨σd2, S2, e2, rn2, rs2, w2⟩
    rcases rel H2 S2 i e2 rs2 _ _ (turn i m σd2 S2 w2) with ⟨st, q⟩ | ⟨go, q⟩
    · exact .inl ⟨st, p.nx σ2 H2 σd2 S2 (e1.trans e2) rn2 rs2 q⟩
    · refine .inr ⟨go, fun σ' H' => ∃ m', m' < m ∧ ∃ σd S, Ext H1 H' ∧ Rn X.K H' σd σ' ∧ RS X.K H' S ∧ Wd (i + 1) m' σd S, fun σ' H' z => z, fun v H3 y => ?_⟩
      obtain ⟨e3, rs3, d, rv, hd⟩ := q v H3 y
      have e13 : Ext H1 H3 := e2.trans e3
      refine ⟨d, σd2, S2, _, rv, rn2.ext e3, rs3, hd, fun σ' σd' rn' w' hq => ⟨σd', S2, _, rn', rs3, hq, ?_⟩⟩
      have p3 := p.ext (e1.trans e13)
      refine ⟨?_, p3.rt, p3.nx, ?_, p3.ex⟩
      · rintro σ5 H5 σd5 S5 e5 rn5 rs5 ⟨m', hm, w5⟩
        exact ⟨m', hm, σd5, S5, e13.trans e5, rn5, rs5, w5⟩
      · rintro σ5 H5 σd5 S5 e5 rn5 rs5 ⟨m', hm, w5⟩
        exact ⟨m', hm, σd5, S5, e13.trans e5, rn5, rs5, w5⟩
  · cases h
theorem ok_snil : OkSs G C .nil := by
  intro X W A g st h
  cases st with
  | cons _ _ => cases h
  | nil =>
    refine pss_nil.imp ?_
    rintro D σ H ⟨σd, S, k, rn, rs, h, p⟩
    exact p.nx σ H σd S (Ext.refl H) rn rs h
theorem ok_scons {s : IS} {r : ISs} (ihs : OkS G C s) (ihr : OkSs G C r) : OkSs G C (.cons s r) := by
  intro X W A g st h
  cases st with
  | nil => cases h
  | cons x t =>
    simp only [chkSs, Bool.and_eq_true] at h
    refine (pss_cons (ihs X W A g _ h.1) (ihr X W A g _ h.2)).imp ?_
    rintro D σ H ⟨σd, S, k, rn, rs, h, p⟩
    refine ⟨σd, S, _, rn, rs, h, ?_, p.rt, p.bk, p.ct, p.ex⟩
    intro σ' H' σd' S' e rn' rs' h'
    exact ⟨σd', S', k, rn', rs', h', p.ext e⟩
theorem ok_never : OkS G C .never := by
  intro X W A g st h
  refine (ps_never (X := X)).imp ?_
  rintro D σ H ⟨σd, S, k, rn, rs, h, p⟩
  exact h.elim
theorem ok_raise {x : Str} {es : IEs} : OkS G C (.raise x es) := by
  intro X W A g st h
  unfold chkS at h
  split at h
  · rename_i y p a r p2 p3
    simp only [Bool.and_eq_true, decide_eq_true_eq] at h
    obtain ⟨⟨⟨⟨rfl, h2⟩, h3⟩, h4⟩, h5⟩ := h
    obtain ⟨q1, q2⟩ := glb_of g.sc h4
    obtain ⟨c, w1, w2, w3, w4, w5⟩ := g.exc _ h3
    cases es with
    | nil => cases h5
    | cons e es =>
      have hz := chkEs_star (env := X.env) h5
      have h6 := h5
      simp only [chkEs, Bool.and_eq_true] at h6
      have h7 := chkEs_star (env := X.env) h6.2
      refine (ps_raise (g.calm h2) g.tk (pmk_ownA PySem.F.excBase_ValueError w3 w1 w2 (raises_own w4 w5) q1 (okEs _ X W A g _ h5) q2 (star_cons (chkE_nst h6.1)) (back_any h7.1))).imp ?_
      rintro D σ H ⟨σd, S, k, rn, rs, h, p⟩
      have h : semEs G C (fun x S => k.ex x σd S) (.cons e es) σd S (fun ds S1 => ds.length ≤ sizeLine ∧ k.ex ⟨x, []⟩ σd S1) := h
      refine ⟨σd, S, _, _, rn, rs, h, fun vs H1 ds S1 e1 hl rv rs1 h1 => ⟨by rw [← rv.length]; exact h1.1, p.ex _ none σ H1 ⟨x, []⟩ σd S1 e1 (rn.ext e1) ⟨w1, rfl⟩ rs1 h1.2⟩, p.xp rn⟩
  · cases h
/-- a try's body, a clause's suite -/
theorem Good.tr {X : Cx} {W W1 : WX} {A : Sc} (g : Good G C X W A) (ht : A.tp = true) (pn : List (Addr × Obj)) (xe : Value → Shared → Prop) (tk : Takes (X.tr pn xe) W1) (po : PassesOwn (model X.prog X.w) X.A X.env xe) : Good G C (X.tr pn xe) W1 A where
  hN := g.hN
  nd := g.nd
  sc := g.sc
  fnc := g.fnc
  stl := g.stl
  calm := g.calm
  tk := tk
  po := po
  hu := g.hu
  blt := g.blt
  gcd := g.gcd
  lcm := g.lcm
  cst := g.cst
  fns := g.fns
  py := fun hp => ⟨(g.py hp).seer, (g.py hp).tree, (g.py hp).fr, (g.py hp).dp⟩
  stk := g.stk
  exc := g.exc
  exn := g.exn
  mts := g.mts
  mk0 := g.mk0
  mk1 := g.mk1
  fds := g.fds
  exi := g.exi
  xcg := fun a e h => absurd ((g.xcg a e h).2.1.symm.trans ht) (by decide)
  xff := g.xff
  xfs := g.xfs
  rm := g.rm
  kdt := g.kdt
theorem Good.su {X : Cx} {W : WX} {A : Sc} (g : Good G C X W A) (ht : A.tp = true) (a : Addr) (pn : List (Addr × Obj)) : Good G C (X.suite a pn) (fun _ _ _ _ => False) { A with cm := false, tp := false } where
  hN := g.hN
  nd := g.nd
  sc := g.sc
  fnc := g.fnc
  stl := g.stl
  calm := fun z => by cases z
  tk := fun u s' ⟨_, _, _, _, _, _, _, _, _, _, _, _, _, _, _, _, h⟩ => h
  po := PassesOwn.never
  hu := g.hu
  blt := g.blt
  gcd := g.gcd
  lcm := g.lcm
  cst := g.cst
  fns := fun z => by cases z
  py := fun hp => ⟨(g.py hp).seer, (g.py hp).tree, (g.py hp).fr, (g.py hp).dp⟩
  stk := fun z => by cases z
  exc := g.exc
  exn := g.exn
  mts := fun z => by cases z
  mk0 := fun z => by cases z
  mk1 := fun z => by cases z
  fds := g.fds
  exi := g.exi
  xcg := fun a e h => absurd ((g.xcg a e h).2.1.symm.trans ht) (by decide)
  xff := g.xff
  xfs := g.xfs
  rm := fun z => by cases z
  kdt := g.kdt
/-- the suite of a clause that holds the exception -/
theorem Good.sux {X : Cx} {W : WX} {A : Sc} (g : Good G C X W A) (e : Exn) {D a : Addr} {oe : Obj} {pn : List (Addr × Obj)} {d : Option Addr} (hD : X.mg e.cls = some (.ref D)) (hE : ExcC X.K D) (hz : Zc (.ref D) d oe) (hd : (d = none ∧ e.fs = []) ∨ ∃ p, d = some p ∧ e.fs = [(("" : Str), Ev.D.ref p)]) (hf : ∃ vs, oe.data = .fields vs) :
    Good { G with xc := some (a, e) } C (X.suite a ((a, oe) :: pn)) (fun _ _ _ _ => False) { A with cm := false, tp := false } where
  hN := g.hN
  nd := g.nd
  sc := g.sc
  fnc := g.fnc
  stl := g.stl
  calm := fun z => by cases z
  tk := fun u s' ⟨_, _, _, _, _, _, _, _, _, _, _, _, _, _, _, _, h⟩ => h
  po := PassesOwn.never
  hu := g.hu
  blt := g.blt
  gcd := g.gcd
  lcm := g.lcm
  cst := g.cst
  fns := fun z => by cases z
  py := fun hp => ⟨(g.py hp).seer, (g.py hp).tree, (g.py hp).fr, (g.py hp).dp⟩
  stk := fun z => by cases z
  exc := g.exc
  exn := g.exn
  mts := fun z => by cases z
  mk0 := fun z => by cases z
  mk1 := fun z => by cases z
  fds := g.fds
  exi := g.exi
  xcg := fun b e' h => by
    cases h
    refine ⟨rfl, rfl, D, hD, fun h0 => ?_, fun p hp f b hb => ?_⟩
    · rcases hd with ⟨rfl, _⟩ | ⟨p, _, h1⟩
      · exact ⟨call_isE hE hz hf, call_isET hE hz hf⟩
      · rw [h0] at h1
        cases h1
    · rcases hd with ⟨_, h1⟩ | ⟨p', rfl, h1⟩
      · rw [h1] at hp
        cases hp
      · rw [h1] at hp
        cases hp
        obtain ⟨C', fI, m1, _, m3⟩ := g.xff _ _ _ hb
        rw [hD] at m1
        cases m1
        exact xfr_of m3 hz hf
  xff := g.xff
  xfs := g.xfs
  rm := fun z => by cases z
  kdt := g.kdt
theorem ok_try {b t : ISs} {x : Str} (ihb : OkSs G C b) (ihs : OkSs G C t) : OkS G C (.tryx b x t) := by
  intro X W A g st h
  unfold chkS at h
  split at h
  · rename_i u y p v w p2 p3
    simp only [Bool.and_eq_true, decide_eq_true_eq] at h
    obtain ⟨⟨⟨⟨⟨rfl, h1⟩, h2⟩, h3⟩, h4⟩, h5⟩ := h
    obtain ⟨q1, q2⟩ := glb_of g.sc h3
    obtain ⟨c, w1, w2⟩ := g.exn _ h2
    have hst := g.stk h1
    refine ⟨fun pins s σ H D I hh => ?_⟩
    refine (ps_try_only (c := c) (Wout := W) (tb := fun W1 => LS X W1 (semSs G C b)) (ts := fun _ _ _ => LS X (fun _ _ _ _ => False) (semSs G C t)) hst.1 hst.2 ⟨q1, q2, w1⟩ g.tk
      (fun W1 pn xe tk po => (ihb _ _ _ (g.tr h1 pn xe tk po) _ h4).imp ?_) (fun a oe cls d pn _ _ => (ihs _ _ _ (g.su h1 a _) _ h5).imp ?_)).run pins s σ H D I ?_
    · rintro D1 σ1 H1 ⟨σd, S, k, rn, rs, h, kp⟩
      exact ⟨σd, S, k, rn, rs, h, ⟨kp.nx, kp.rt, kp.bk, kp.ct, kp.ex⟩⟩
    · rintro D1 σ1 H1 ⟨σd, S, k, rn, rs, h, kp⟩
      exact ⟨σd, S, k, rn, rs, h, ⟨kp.nx, kp.rt, kp.bk, kp.ct, kp.ex⟩⟩
    · obtain ⟨σd, S, k, rn, rs, h, kp⟩ := hh
      refine ⟨σd, S, _, rn, rs, h, kp.nx, kp.rt, kp.bk, kp.ct, ?_⟩
      intro c1 dd σ' H' e σd' S' ex rn' rx rs' he
      have he : (match G.sub e.cls x with
        | some true => semSs G C t { k with ex := fun _ _ _ => False } σd' S'
        | some false => k.ex e σd' S'
        | none => False) := he
      split at he
      · rename_i es
        obtain ⟨u, u1, u2⟩ := w2 _ _ es
        have := rx.1
        rw [u1] at this
        cases this
        refine ⟨true, u2, fun _ a na => ⟨σd', S', _, rn', rs', he, ?_⟩, fun z => by cases z⟩
        have kp' := kp.ext ex
        exact ⟨kp'.nx, kp'.rt, kp'.bk, kp'.ct, fun _ _ _ _ _ _ _ _ _ _ _ z => z⟩
      · rename_i es
        obtain ⟨u, u1, u2⟩ := w2 _ _ es
        have := rx.1
        rw [u1] at this
        cases this
        exact ⟨false, u2, (fun z => Bool.noConfusion z), fun _ => kp.ex _ _ _ _ _ _ _ ex rn' rx rs' he⟩
      · exact he.elim
  · cases h
theorem ok_tryas {b t : ISs} {x : Str} {i : Nat} (ihb : OkSs G C b) (ihs : ∀ G, OkSs G C t) : OkS G C (.tryas b x i t) := by
  intro X W A g st h
  unfold chkS at h
  split at h
  · rename_i u y p n v w p2 p3
    simp only [Bool.and_eq_true, decide_eq_true_eq] at h
    obtain ⟨⟨⟨⟨⟨⟨⟨rfl, h1⟩, h2⟩, h2b⟩, h3⟩, h6⟩, h4⟩, h5⟩ := h
    obtain ⟨q1, q2⟩ := glb_of g.sc h3
    obtain ⟨l1, l2⟩ := lcl_of g.hN g.sc h6
    obtain ⟨c, w1, w2⟩ := g.exn _ h2
    obtain ⟨_, _, _, _, w3⟩ := g.exi _ h2b
    have hst := g.stk h1
    refine ⟨fun pins s σ H D I hh => ?_⟩
    refine (ps_try_as (c := c) (i := i) (Wout := W) (tb := fun W1 => LS X W1 (semSs G C b))
      (ts := fun a cls d D σ H => ∃ e : Exn, (∃ B : Addr, X.mg e.cls = some (.ref B) ∧ ExcC X.K B ∧ cls = .ref B ∧ ((d = none ∧ e.fs = []) ∨ ∃ p, d = some p ∧ e.fs = [(("" : Str), Ev.D.ref p)])) ∧ LS X (fun _ _ _ _ => False) (semSs { G with xc := some (a, e) } C t) D σ H)
      hst.1 hst.2 g.nd l1 (by rw [kind_of g.sc, ← g.sc]; exact l2) ⟨q1, q2, w1⟩ g.tk
      (fun W1 pn xe tk po => (ihb _ _ _ (g.tr h1 pn xe tk po) _ h4).imp ?_) (fun a oe cls d pn hz hf => ⟨fun pins s σ H D I hh => ?_⟩)).run pins s σ H D I ?_
    · rintro D1 σ1 H1 ⟨σd, S, k, rn, rs, h, kp⟩
      exact ⟨σd, S, k, rn, rs, h, ⟨kp.nx, kp.rt, kp.bk, kp.ct, kp.ex⟩⟩
    · obtain ⟨e, ⟨B, b1, b2, rfl, hd⟩, σd, S, k, rn, rs, h, kp⟩ := hh
      exact (ihs _ _ _ _ (g.sux e b1 b2 hz hd hf) _ h5).run pins s σ H D I ⟨σd, S, k, rn, rs, h, ⟨kp.nx, kp.rt, kp.bk, kp.ct, kp.ex⟩⟩
    · obtain ⟨σd, S, k, rn, rs, h, kp⟩ := hh
      refine ⟨σd, S, _, rn, rs, h, kp.nx, kp.rt, kp.bk, kp.ct, ?_⟩
      intro c1 dd σ' H' e σd' S' ex rn' rx rs' he
      have he : (match G.sub e.cls x with
        | some true => okX e.fs = true ∧ ∀ a, S' a = none → semSs { G with xc := some (a, e) } C t { nx := fun σ2 S2 => k.nx (wip1 σ2 i) S2, rt := k.rt, bk := fun σ2 S2 => k.bk (wip1 σ2 i) S2, ct := fun σ2 S2 => k.ct (wip1 σ2 i) S2, ex := fun _ _ _ => False } (stn σd' i (.ref a)) S'
        | some false => k.ex e σd' S'
        | none => False) := he
      split at he
      · rename_i es
        obtain ⟨u, u1, u2⟩ := w2 _ _ es
        obtain ⟨B, b1, b2, _⟩ := w3 _ _ es
        have := rx.1
        rw [u1] at this
        cases this
        rw [b1] at u1
        cases u1
        refine ⟨true, u2, fun _ a na => ⟨e, ⟨B, b1, b2, rfl, ?_⟩, stn σd' i (.ref a), S', _, rn'.set (.ref a) i, rs', he.2 a (RS.none rs' na), ?_⟩, fun z => by cases z⟩
        · have r2 := rx.2
          cases dd with
          | none => exact .inl ⟨rfl, r2⟩
          | some p => exact .inr ⟨p, rfl, r2⟩
        · have kp' := kp.ext ex
          exact ⟨fun σ2 H2 σd2 S2 e2 rn2 rs2 q => kp'.nx _ H2 _ S2 e2 (rn2.wip i) rs2 q, kp'.rt, fun σ2 H2 σd2 S2 e2 rn2 rs2 q => kp'.bk _ H2 _ S2 e2 (rn2.wip i) rs2 q, fun σ2 H2 σd2 S2 e2 rn2 rs2 q => kp'.ct _ H2 _ S2 e2 (rn2.wip i) rs2 q, fun _ _ _ _ _ _ _ _ _ _ _ z => z⟩
      · rename_i es
        obtain ⟨u, u1, u2⟩ := w2 _ _ es
        have := rx.1
        rw [u1] at this
        cases this
        exact ⟨false, u2, (fun z => Bool.noConfusion z), fun _ => kp.ex _ _ _ _ _ _ _ ex rn' rx rs' he⟩
      · exact he.elim
  · cases h
theorem ok_raisef {x : Str} {e : IE} : OkS G C (.raisef x e) := by
  intro X W A g st h
  unfold chkS at h
  split at h
  · rename_i y p a p2 p3
    simp only [Bool.and_eq_true, decide_eq_true_eq] at h
    obtain ⟨⟨⟨⟨rfl, h2⟩, h3⟩, h4⟩, h5⟩ := h
    obtain ⟨q1, q2⟩ := glb_of g.sc h4
    have ha := okE e X W A g a h5
    have hst := star_cons (es := []) (env := X.env) (chkE_nst h5)
    obtain ⟨f, b, hf⟩ := g.xfs _ h3
    · obtain ⟨Cl, fI, m1, m2, m3⟩ := g.xff _ _ _ hf
      obtain ⟨kr, r1, r2⟩ := g.rm h2
      refine (ps_raise (g.calm h2) g.tk (pmk_x m2 r2 r1 (pa_cons ha pa_nil hst) q1 m1 q2 hst rfl)).imp ?_
      rintro D σ H ⟨σd, S, k, rn, rs, h, p⟩
      have h : semE G C (fun x S => k.ex x σd S) e σd S (fun d S1 => xfS (G.xf x) x d S1 fun ex S2 => k.ex ex σd S2) := h
      rw [hf] at h
      refine ⟨σd, S, _, _, rn, rs, h, fun v H1 d S1 e1 rv rs1 h1 => ⟨v, rfl, ?_⟩, p.xp rn⟩
      have fin : ∀ (dd : Addr), H1 dd = none → k.ex ⟨x, [(("" : Str), Ev.D.ref dd)]⟩ σd (put S1 dd (.xd [(f, d)])) → W (.ref Cl) (some dd) σ (upd H1 dd (.xd [(f, v)])) := fun dd nd hk => by
        have x1 := Ext.new (o := .xd [(f, v)]) nd
        exact p.ex _ (some dd) σ _ ⟨x, [(("" : Str), Ev.D.ref dd)]⟩ σd _ (e1.trans x1) (rn.ext (e1.trans x1)) ⟨m1, rfl⟩ (rs1.over (ob := .xd [(f, d)]) x1 ⟨[(f, v)], upd_same, .cons ⟨rfl, Rv.ext x1 rv⟩ .nil⟩) hk
      cases b with
      | true =>
        unfold xfS at h1
        split at h1
        · rename_i hb
          cases hb
          split at h1
          · cases rv
            exact ⟨⟨_, rfl, h1.1.1, h1.1.2⟩, fun dd nd => fin dd nd (h1.2 dd (rs1.none nd))⟩
          · exact h1.elim
        · rename_i hb
          cases hb
        · exact h1.elim
      | false =>
        unfold xfS at h1
        split at h1
        · rename_i hb
          cases hb
        · rename_i hb
          cases hb
          split at h1
          · cases rv
            exact ⟨⟨_, rfl, h1.1⟩, fun dd nd => fin dd nd (h1.2 dd (rs1.none nd))⟩
          · exact h1.elim
        · exact h1.elim
  · cases h
inductive AllH (C : CallS) : IHs → Prop
  | nil : AllH C .nil
  | cons {x : Str} {i : Option Nat} {s : ISs} {r : IHs} (h : ∀ G, OkSs G C s) (t : AllH C r) : AllH C (.cons x i s r)
/-- the wish of the clauses -/
theorem hds_ok {X : Cx} {W : WX} {A : Sc} (g : Good G C X W A) (h1 : A.tp = true) : ∀ {hs : IHs}, AllH C hs → ∀ {l : List ExceptHandler}, chkH A hs l = true → ∃ hl : List HdS, HdsA X l hl ∧
    ∀ (k : Kt) (D : Ends) (H0 : Hp), KP X W k D H0 → ∀ (e : Exn) (c : Value) (dd : Option Addr) (σ' : L2.St) (H' : Hp) (σd : En) (S : Sto), Ext H0 H' → Rn X.K H' σd σ' → RX X.K X.mg H' e c dd → RS X.K H' S → semH G C hs k e σd S → wManyA X.K W D hl c dd σ' H'
  | .nil, _, l, hc => by
    cases l with
    | cons _ _ => cases hc
    | nil => exact ⟨[], .nil, fun k D H0 kp e c dd σ' H' σd S ex rn rx rs h => kp.ex c dd σ' H' e σd S ex rn rx rs h⟩
  | .cons x i s r, .cons hs hr, l, hc => by
    unfold chkH at hc
    split at hc
    · rename_i y py nm v w pp t
      simp only [Bool.and_eq_true, decide_eq_true_eq] at hc
      obtain ⟨⟨⟨⟨⟨rfl, h2⟩, h3⟩, h4⟩, h5⟩, h6⟩ := hc
      obtain ⟨q1, q2⟩ := glb_of g.sc h3
      obtain ⟨c0, w1, w2⟩ := g.exn _ h2
      obtain ⟨hl, r1, r2⟩ := hds_ok g h1 hr h6
      cases i with
      | none =>
        cases nm with
        | some _ => cases h4
        | none =>
        refine ⟨(c0, none, fun _ _ _ => LS X (fun _ _ _ _ => False) (semSs G C s)) :: hl, .cons0 ⟨q1, q2, w1⟩ (fun a oe cls d pn _ _ => (hs G _ _ _ (g.su h1 a _) _ h5).imp ?_) r1, fun k D H0 kp e c dd σ' H' σd S ex rn rx rs h => ?_⟩
        · rintro D1 σ1 H1 ⟨σd, S, k, rn, rs, h, kp⟩
          exact ⟨σd, S, k, rn, rs, h, ⟨kp.nx, kp.rt, kp.bk, kp.ct, kp.ex⟩⟩
        · unfold semH at h
          split at h
          · rename_i es
            obtain ⟨u, u1, u2⟩ := w2 _ _ es
            have := rx.1
            rw [u1] at this
            cases this
            refine ⟨true, u2, fun _ a na => ⟨σd, S, _, rn, rs, h, ?_⟩, fun z => by cases z⟩
            have kp' := kp.ext ex
            exact ⟨kp'.nx, kp'.rt, kp'.bk, kp'.ct, fun _ _ _ _ _ _ _ _ _ _ _ z => z⟩
          · rename_i es
            obtain ⟨u, u1, u2⟩ := w2 _ _ es
            have := rx.1
            rw [u1] at this
            cases this
            exact ⟨false, u2, (fun z => Bool.noConfusion z), fun _ => r2 k D H0 kp e c dd σ' H' σd S ex rn rx rs h⟩
          · exact h.elim
      | some i =>
        cases nm with
        | none => cases h4
        | some n =>
        simp only [Bool.and_eq_true] at h4
        obtain ⟨h2b, h7⟩ := h4
        obtain ⟨l1, l2⟩ := lcl_of g.hN g.sc h7
        obtain ⟨_, _, _, _, w3⟩ := g.exi _ h2b
        refine ⟨(c0, some i, fun a cls d D σ H => ∃ e : Exn, (∃ B : Addr, X.mg e.cls = some (.ref B) ∧ ExcC X.K B ∧ cls = .ref B ∧ ((d = none ∧ e.fs = []) ∨ ∃ p, d = some p ∧ e.fs = [(("" : Str), Ev.D.ref p)])) ∧ LS X (fun _ _ _ _ => False) (semSs { G with xc := some (a, e) } C s) D σ H) :: hl,
          .cons1 l1 (by rw [kind_of g.sc, ← g.sc]; exact l2) ⟨q1, q2, w1⟩ (fun a oe cls d pn hz hf => ⟨fun pins s σ H D I hh => ?_⟩) r1, fun k D H0 kp e c dd σ' H' σd S ex rn rx rs h => ?_⟩
        · obtain ⟨e, ⟨B, b1, b2, rfl, hd⟩, σd, S, k, rn, rs, h, kp⟩ := hh
          exact (hs _ _ _ _ (g.sux e b1 b2 hz hd hf) _ h5).run pins s σ H D I ⟨σd, S, k, rn, rs, h, ⟨kp.nx, kp.rt, kp.bk, kp.ct, kp.ex⟩⟩
        · unfold semH at h
          split at h
          · rename_i es
            obtain ⟨u, u1, u2⟩ := w2 _ _ es
            obtain ⟨B, b1, b2, _⟩ := w3 _ _ es
            have := rx.1
            rw [u1] at this
            cases this
            rw [b1] at u1
            cases u1
            refine ⟨true, u2, fun _ a na => ⟨e, ⟨B, b1, b2, rfl, ?_⟩, stn σd i (.ref a), S, _, rn.set (.ref a) i, rs, h.2 a (RS.none rs na), ?_⟩, fun z => by cases z⟩
            · have r2 := rx.2
              cases dd with
              | none => exact .inl ⟨rfl, r2⟩
              | some p => exact .inr ⟨p, rfl, r2⟩
            · have kp' := kp.ext ex
              exact ⟨fun σ2 H2 σd2 S2 e2 rn2 rs2 q => kp'.nx _ H2 _ S2 e2 (rn2.wip i) rs2 q, kp'.rt, fun σ2 H2 σd2 S2 e2 rn2 rs2 q => kp'.bk _ H2 _ S2 e2 (rn2.wip i) rs2 q, fun σ2 H2 σd2 S2 e2 rn2 rs2 q => kp'.ct _ H2 _ S2 e2 (rn2.wip i) rs2 q, fun _ _ _ _ _ _ _ _ _ _ _ z => z⟩
          · rename_i es
            obtain ⟨u, u1, u2⟩ := w2 _ _ es
            have := rx.1
            rw [u1] at this
            cases this
            exact ⟨false, u2, (fun z => Bool.noConfusion z), fun _ => r2 k D H0 kp e c dd σ' H' σd S ex rn rx rs h⟩
          · exact h.elim
    · cases hc
theorem ok_trym {b : ISs} {hs : IHs} (ihb : OkSs G C b) (ihs : AllH C hs) : OkS G C (.trym b hs) := by
  intro X W A g st h
  unfold chkS at h
  split at h
  · rename_i u h0 r p
    simp only [Bool.and_eq_true] at h
    obtain ⟨⟨h1, h4⟩, h5⟩ := h
    obtain ⟨hl, r1, r2⟩ := hds_ok g h1 ihs h5
    have hst := g.stk h1
    refine (ps_try_manyA (Wout := W) (tb := fun W1 => LS X W1 (semSs G C b)) hst.1 hst.2 g.nd g.tk (fun W1 pn xe tk po => (ihb _ _ _ (g.tr h1 pn xe tk po) _ h4).imp ?_) r1).imp ?_
    · rintro D1 σ1 H1 ⟨σd, S, k, rn, rs, h, kp⟩
      exact ⟨σd, S, k, rn, rs, h, ⟨kp.nx, kp.rt, kp.bk, kp.ct, kp.ex⟩⟩
    · rintro D σ H ⟨σd, S, k, rn, rs, h, kp⟩
      exact ⟨σd, S, _, rn, rs, h, kp.nx, kp.rt, kp.bk, kp.ct, fun c dd σ' H' e σd' S' ex rn' rx rs' he => r2 k D H kp e c dd σ' H' σd' S' ex rn' rx rs' he⟩
  · cases h
theorem ok_aug {i : Nat} {e : IE} : OkS G C (.aug i e) := by
  intro X W A g st h
  unfold chkS at h
  split at h
  · rename_i x px v pp
    simp only [Bool.and_eq_true] at h
    obtain ⟨q1, q2, q3⟩ := loc_of g.hN g.sc g.stl g.fnc h.1
    refine (ps_aug g.nd q1 q2 (okE e X W A g v h.2) ip_add q3).imp ?_
    rintro D σ H ⟨σd, S, k, rn, rs, h, p⟩
    have h : (match gt σd i with
      | some (.int a) => semE G C (fun x S => k.ex x σd S) e σd S fun d S1 => (match d with | .int b => k.nx (stn σd i (.int (a + b))) S1 | _ => False)
      | _ => False) := h
    split at h
    · rename_i a eg
      obtain ⟨v, v1, v2⟩ := rn.gt eg
      cases v2
      refine ⟨_, v1, σd, S, _, _, rn, rs, h, fun w H1 d S1 e1 rw_ rs1 h1 => ?_, p.xp rn⟩
      split at h1
      · cases rw_
        exact ⟨_, _, rfl, rfl, p.nx _ H1 _ S1 e1 ((rn.ext e1).set (.int _) i) rs1 h1⟩
      · exact h1.elim
    · exact h.elim
  · cases h
mutual
theorem okS : ∀ (s : IS) (G : Gl0), OkS G C s
  | .set i e, G => ok_set
  | .asg g e, G => ok_asg
  | .par2 i j a b, G => ok_par2
  | .sub o i e, G => ok_sub
  | .expr e, G => ok_expr
  | .ret e, G => ok_ret
  | .retN, G => ok_retN
  | .ifs c a b, G => ok_ifs (okSs a G) (okSs b G)
  | .whl c b, G => ok_whl (okSs b G)
  | .for_ g it b, G => ok_for (okSs b G)
  | .brk, G => ok_brk
  | .cnt, G => ok_cnt
  | .pass, G => ok_pass
  | .raise x es, G => ok_raise
  | .tryx b x s, G => ok_try (okSs b G) (okSs s G)
  | .tryas b x i s, G => ok_tryas (okSs b G) (fun G => okSs s G)
  | .setf o f e, G => ok_setf
  | .never, G => ok_never
  | .raisef x e, G => ok_raisef
  | .trym b hs, G => ok_trym (okSs b G) (okH hs)
  | .aug i e, G => ok_aug
theorem okH : ∀ (hs : IHs), AllH C hs
  | .nil => .nil
  | .cons x i s r => .cons (fun G => okSs s G) (okH r)
theorem okSs : ∀ (s : ISs) (G : Gl0), OkSs G C s
  | .nil, G => ok_snil
  | .cons s r, G => ok_scons (okS s G) (okSs r G)
end
end
end Ev

/-! The defs of a text by their forms; a law's end. -/
namespace Ev
open PySem PySem.Spec PyProof.Rows L2

/-- what is known of the module -/
structure Md where
  fns : List (Str × Nat)
  blt : List Str
  cst : List Str
  gcd : Bool
  lcm : Bool := false
  exc : List Str := []
  exn : List Str := []
  mks : List (Str × Bool) := []
  meth : List (Str × Str × Str) := []
  xis : List Str := []
  xfs : List Str := []
  kds : List Str := []
def Md.sc (M : Md) (N : List Str) (scope : Scope) : Sc := { N := N, sc := scope, stl := scope.names, fns := M.fns, blt := M.blt, cst := M.cst, gcd := M.gcd, lcm := M.lcm, cm := true, tp := true, exc := M.exc, exn := M.exn, mks := M.mks, xis := M.xis, xfs := M.xfs, kds := M.kds }
/-- a def of the text and its form -/
structure FnT (M : Md) (st : Stmt) (F : Fn) (N ps : List Str) : Prop where
  sc : FnScope N ps (defScope st)
  chk : chkSs (M.sc N (defScope st)) F.body (defBody st) = true
  np : F.ps = ps.length
  ns : F.sl = N.length
/-- where a def stands: a name of the module, or a method of a class -/
def At (M : Md) (K : PySem.W.Frag) (mg : Str → Option Value) (f : Str) (a : Addr) : Prop := match M.meth.lookup f with
  | none => mg f = some (.ref a)
  | some (x, m) => ∃ cls : Addr, ClsAt K x cls ∧ Cls K cls ∧ Meth K cls m a
theorem memL {α β : Type} [BEq α] [LawfulBEq α] : ∀ {l : List (α × β)} {x : α} {y : β}, l.lookup x = some y → (x, y) ∈ l
  | [], x, y, h => by cases h
  | (a, b) :: r, x, y, h => by
    rw [List.lookup_cons] at h
    split at h
    · rename_i e
      cases h
      rw [eq_of_beq e]
      exact List.mem_cons_self
    · exact List.mem_cons_of_mem _ (memL h)
theorem at_f {M : Md} {K : PySem.W.Frag} {mg : Str → Option Value} {f : Str} {a : Addr} (h : M.meth.lookup f = none) (g : mg f = some (.ref a)) : At M K mg f a := by
  unfold At
  rw [h]
  exact g
theorem at_m {M : Md} {K : PySem.W.Frag} {mg : Str → Option Value} {f x m : Str} {a cls : Addr} (h : M.meth.lookup f = some (x, m)) (c : ClsAt K x cls) (l : Cls K cls) (g : Meth K cls m a) : At M K mg f a := by
  unfold At
  rw [h]
  exact ⟨cls, c, l, g⟩
theorem lookS_mem {kvs : List (Str × D)} {z : Str} {d : D} (h : lookS kvs z = some d) : (z, d) ∈ kvs := by
  unfold lookS at h
  cases e : kvs.find? fun p => decide (p.1 = z) with
  | none => rw [e] at h; cases h
  | some p =>
    rw [e] at h
    cases h
    have h1 := List.mem_of_find?_eq_some e
    have h2 := List.find?_some e
    simp only [decide_eq_true_eq] at h2
    subst h2
    exact h1
/-- the module as it stands behind the top -/
structure Mok (M : Md) (G : Gl0) (T : Str → Option Fn) (P : Program) (K : PySem.W.Frag) (mg : Str → Option Value) (base : Heap) (w : World) : Prop where
  blt : ∀ x, M.blt.contains x = true → mg x = none
  gcd : M.gcd = true → mg "gcd" = some (.builtin "math.gcd")
  lcm : M.lcm = true → mg "lcm" = some (.builtin "math.lcm")
  cst : ∀ x, M.cst.contains x = true → ∃ d u v, G.cs x = some d ∧ mg x = some u ∧ RelV v u ∧ ∀ H, Rv K H d v
  fns : ∀ f n, M.fns.lookup f = some n → M.meth.lookup f = none ∧ ∃ F, T f = some F ∧ F.ps = n
  fn : ∀ f F, T f = some F → ∃ (a : Addr) (fd : FuncData) (st : Stmt) (N ps : List Str) (nm qual : Str), At M K mg f a ∧ L2.Fun K nm qual st a fd ∧ FnT M st F N ps ∧ Binds K fd ps []
  py : G.PY → base.NoSeer ∧ P.given.tree = none
  exc : ∀ x, M.exc.contains x = true → ExcW K mg x
  exn : ∀ x, M.exn.contains x = true → ExnW G K mg x
  mts : ∀ x m key, G.mt x m = some key → M.meth.lookup key = some (x, m) ∧ ∃ F, T key = some F
  mk0 : ∀ x, M.mks.lookup x = some false → G.it x = some none ∧ ∃ cls : Addr, ClsAt K x cls ∧ mg x = some (.ref cls) ∧ PySem.W.keepIn K (.ref cls) = true ∧ PySem.W.makesIn K cls = true ∧
    PySem.W.findIn K (.ref cls) "__init__" = some (some (.builtin "object.__init__"))
  mk1 : ∀ x, M.mks.lookup x = some true → ∃ key : Str, G.it x = some (some key) ∧ M.meth.lookup key = some (x, ("__init__" : Str)) ∧ (∃ F, T key = some F) ∧ ∃ cls : Addr, ClsAt K x cls ∧ mg x = some (.ref cls) ∧
    PySem.W.makesIn K cls = true ∧ PySem.W.keepIn K (.ref cls) = true
  fds : ∀ x f, G.fd x f = true → ∃ cls : Addr, ClsAt K x cls ∧ Cls K cls ∧ NoAttr K cls f
  xc : G.xc = none := by rfl
  exi : ∀ x, M.xis.contains x = true → ExiW G K mg x := by intro x h; cases h
  xff : ∀ x f b, G.xf x = some (f, b) → ∃ C fI : Addr, mg x = some (.ref C) ∧ XTxt P K mg f b C fI ∧ ExfC K C f := by intro x f b h; cases h
  xfs : ∀ x, M.xfs.contains x = true → ∃ f b, G.xf x = some (f, b) := by intro x h; cases h
  kdt : ∀ x, M.kds.contains x = true → ∃ kvs, G.kd x = some kvs ∧ ∃ p : Addr, mg x = some (.ref p) ∧ ∀ z d, lookS kvs z = some d → ∃ v, KDct K w p z v ∧ ∀ H, Rv K H d v := by intro x h; cases h
section
variable {M : Md} {G : Gl0} {T : Str → Option Fn} {P : Program} {w : World} {K : PySem.W.Frag} {mg : Str → Option Value} {base : Heap}
theorem Rvs.ent {H : Hp} {ds : List D} {vs : List V} (r : Rvs K H ds vs) (N : List Str) : Rn K H (ent N.length ds) (L2.start N vs) := by
  unfold Ev.ent L2.start
  rw [r.length]
  generalize N.length - vs.length = n
  induction ds generalizing vs with
  | nil =>
    cases r
    induction n with
    | zero => exact .nil
    | succ n ih => exact .cons trivial ih
  | cons d ds ih =>
    cases r with
    | cons h t => exact .cons h (ih t)
theorem fn_all (B : Mok M G T P K mg base w) : ∀ (k : Nat) (f : Str) (F : Fn), T f = some F → ∃ (a : Addr) (fd : FuncData) (ps : List Str), At M K mg f a ∧ PySem.W.keepIn K (.ref a) = true ∧ Binds K fd ps [] ∧ ps.length = F.ps ∧
    FnOk P w K mg base (L2.CX P w) (2 * k + 40) a fd ps (LF K mg (semF G T k) f) := by
  intro k
  induction k with
  | zero =>
    intro f F hF
    obtain ⟨a, fd, st, N, ps, nm, qual, h1, h2, h3, h4⟩ := B.fn f F hF
    refine ⟨a, fd, ps, h1, h2.kp, h4, h3.np.symm, fun vs H Q E h => ?_, fun A outer s H args us vs Q E _ _ _ _ h => ?_⟩
    · obtain ⟨ds, S, Qd, Ed, _, _, h, _⟩ := h
      exact h.elim
    · obtain ⟨ds, S, Qd, Ed, _, _, h, _⟩ := h
      exact h.elim
  | succ k ih =>
    intro f F hF
    obtain ⟨a, fd, st, N, ps, nm, qual, h1, h2, h3, h4⟩ := B.fn f F hF
    refine ⟨a, fd, ps, h1, h2.kp, h4, h3.np.symm, ?_⟩
    obtain ⟨oc, od, kV, doc, pm, an, cdv, ct, osl, rfl, lk, hcd⟩ := h2.ex
    rw [show 2 * (k + 1) + 40 = (2 * k + 41) + 1 by omega]
    refine fn_of lk hcd h3.sc (fun vs H Q E h => ?_) (fun A outer s H vs Q E hr h => ?_)
    · obtain ⟨ds, S, Qd, Ed, rd, _, h, _⟩ := h
      simp only [semF, hF] at h
      rw [← rd.length, h.1, h3.np]
    · obtain ⟨ds, S, Qd, Ed, rd, rs, h, p, ex⟩ := h
      simp only [semF, hF] at h
      have good : Good G (semF G T k) (cxOf (L2.CX P w) P w K mg base N qual (defScope st) a cdv A outer s H E) (fun c d _ H' => E c d H') (M.sc N (defScope st)) := {
        hN := rfl
        nd := h3.sc.nd
        sc := rfl
        fnc := fun x _ => rfl
        stl := fun x k _ h => h
        calm := fun _ => rfl
        tk := takes_of rfl rfl rfl rfl
        po := passes_of rfl
        hu := by
          have := hr.un
          show (A.deeper _).units + 65 < cLine
          omega
        blt := B.blt
        gcd := B.gcd
        lcm := B.lcm
        cst := B.cst
        fns := fun _ f' n hn => by
          obtain ⟨t0, F', t1, t2⟩ := B.fns f' n hn
          obtain ⟨a', fd', ps', q1, q2, q3, q4, q5⟩ := ih f' F' t1
          unfold At at q1
          rw [t0] at q1
          exact ⟨a', fd', ps', 2 * k + 40, q1, q2, q3, hr.mono (Nat.le_succ _), q5⟩
        mts := fun _ x m key hn => by
          obtain ⟨t0, F', t1⟩ := B.mts x m key hn
          obtain ⟨a', fd', ps', q1, q2, q3, q4, q5⟩ := ih key F' t1
          unfold At at q1
          rw [t0] at q1
          obtain ⟨cls, c1, c2, c3⟩ := q1
          exact ⟨cls, a', fd', ps', 2 * k + 40, c1, c2, c3, q3, hr.mono (Nat.le_succ _), q5⟩
        mk0 := fun _ => B.mk0
        mk1 := fun _ x hn => by
          obtain ⟨key, t3, t0, ⟨F', t1⟩, cls, c1, c2, c3, c4⟩ := B.mk1 x hn
          obtain ⟨a', fd', ps', q1, q2, q3, q4, q5⟩ := ih key F' t1
          unfold At at q1
          rw [t0] at q1
          obtain ⟨cls', d1, d2, d3⟩ := q1
          have := c1.eq d1
          subst this
          exact ⟨key, _, a', fd', ps', 2 * k + 40, t3, c1, c2, ⟨c3, d3.at_, d3.fn, c4⟩, q3, hr, q5⟩
        fds := B.fds
        exi := B.exi
        xcg := fun a e h => by rw [B.xc] at h; cases h
        py := fun hp => ⟨(B.py hp).1, (B.py hp).2, ⟨_, _, rfl, h3.sc.gen, h3.sc.co, rfl, rfl⟩, by
          have := hr.dp
          show (A.deeper _).depth + 100 < recursionLimit
          omega⟩
        stk := fun _ => ⟨rfl, rfl⟩
        exc := B.exc
        exn := B.exn
        xff := B.xff
        xfs := B.xfs
        rm := fun _ => ⟨2 * k + 40, by omega, hr.mono (Nat.le_succ _)⟩
        kdt := B.kdt }
      refine ⟨_, okSs F.body G _ _ _ good _ h3.chk, ent F.sl ds, S, kend Qd Ed, ?_, rs, h.2, ?_⟩
      · rw [h3.ns]
        exact rd.ent N
      · exact ⟨fun σ' H' σd S' e rn rs' q => p .non H' .non S' e .non rs' q, p, fun _ _ _ _ _ _ _ q => q.elim, fun _ _ _ _ _ _ _ q => q.elim, fun c dd σ' H' x σd S' e rn rx rs' q => ex c dd H' x S' e rx rs' q⟩
end
/-- the head, with the library's big division -/
theorem law_callP {P : Program} {w : World} {K : PySem.W.Frag} {mg mb : Str → Option Value} {CX : CXT} {k : Nat} {fa a : Addr} {sp : Sp} {s₁ : Shared} {vs : List Value} {ns : List Int}
    (KX : K.In s₁.heap) (hns : s₁.heap.Ns mainGlobals mg) (hb : s₁.heap.Ns builtinsNs mb) (hbb : ∀ x : Str, x ≠ "__name__" → mb x = bootBuiltins x) (hlim : s₁.heap.NoLimit) (hseer : s₁.heap.NoSeer) (hg : s₁.gens = #[])
    (ha : s₁.heap.get? a = some { cls := .type "list", data := .seq vs.toArray }) (hi : IntsAre vs ns) (hl : ns.length ≤ sizeLine) (hr : Room k callerA)
    (F : ∀ base : Heap, K.In base → base.Ns mainGlobals mg → base.NoSeer → ∃ (fd : FuncData) (ps : List Str), Binds K fd ps [] ∧ ps.length = 1 ∧ FnOk P w K mg base CX k fa fd ps sp)
    (hsp : ∀ H : Hp, SqF K H a (ns.map V.int) → sp [.ref a] H (fun v _ => v = .bl true) fun _ _ _ => False)
    (hCX : ∀ H e s', CX [] H s₁ (fun _ _ _ => False) e s' → False) :
    codeAny (model P w) callerA (.call (.ref fa) ⟨[.ref a], []⟩) (fun r s' => r = .ok (.ret (.bool true)) ∧ OldK s₁.heap s'.heap ∧ s'.os = s₁.os ∧ AllBare s'.gens) s₁ := by
  have rv := vals_ints hi
  have lenV := hi.length
  have core : ∀ H : Hp, Only H → SqF K H a (ns.map V.int) → HOk P w H s₁.heap → (∀ b, H b ≠ none → b = a) → (H a ≠ none → K.lookup a = none) →
      codeAny (model P w) callerA (.call (.ref fa) ⟨[.ref a], []⟩) (fun r s' => r = .ok (.ret (.bool true)) ∧ OldK s₁.heap s'.heap ∧ s'.os = s₁.os ∧ AllBare s'.gens) s₁ := by
    intro H hO hS hok hA hK
    have base_of : ∀ {b : Addr} {o : Obj}, s₁.heap.get? b = some o → H b = none → (hidT s₁.heap H).get? b = some o := fun e n => hidT_get e n
    have noA : ∀ {b : Addr} {o : Obj} {es : Array DictEntry} {ep : Nat}, s₁.heap.get? b = some o → o.data = .dict es ep → H b = none := fun {b o es ep} e d => by
      cases q : H b with
      | none => rfl
      | some u =>
        have e' : b = a := hA b (by rw [q]; simp)
        subst e'
        rw [ha] at e; cases e
        have d' : Data.seq vs.toArray _ = Data.dict es ep := d
        cases d'
    have noM : ∀ {b : Addr} {o : Obj}, s₁.heap.get? b = some o → o.cls = .type "module" → H b = none := fun {b o} e d => by
      cases q : H b with
      | none => rfl
      | some u =>
        have e' : b = a := hA b (by rw [q]; simp)
        subst e'
        rw [ha] at e; cases e
        exact absurd (show Value.type "list" = Value.type "module" from d) (by decide)
    have nsK : ∀ {b : Addr} {m : Str → Option Value}, s₁.heap.Ns b m → (hidT s₁.heap H).Ns b m := fun {b m} ⟨o, es, ep, e, d, r⟩ => ⟨o, es, ep, base_of e (noA e d), d, r⟩
    have hKb : K.In (hidT s₁.heap H) := fun b o e => base_of (KX b o e) (by
      cases q : H b with
      | none => rfl
      | some u =>
        have e' : b = a := hA b (by rw [q]; simp)
        subst e'
        rw [hK (by rw [q]; simp)] at e; cases e)
    have hM : Mod K mg (hidT s₁.heap H) := ⟨hKb, nsK hns, ⟨mb, nsK hb, hbb⟩, let ⟨mc, h1, h2⟩ := hlim; ⟨mc, nsK h1, h2⟩⟩
    have hSe : (hidT s₁.heap H).NoSeer := ⟨let ⟨mc, h1, h2⟩ := hseer.statics; ⟨mc, nsK h1, h2⟩, let ⟨mc, h1, h2⟩ := hseer.mods; ⟨mc, nsK h1, h2⟩, let ⟨mc, h1, h2⟩ := hseer.imp; ⟨mc, nsK h1, h2⟩,
      let ⟨mc, bm, ob, h1, h2, h3, h4, h5⟩ := hseer.main; ⟨mc, bm, ob, nsK h1, h2, base_of h3 (noM h3 h4), h4, h5⟩⟩
    have e0 : Env0 P w K mg (hidT s₁.heap H) callerA [] s₁ H := ⟨rfl, hM, fun b o e => of_hidT e, Nat.le_of_eq (hidT_size _ _), trivial, fun b hb => absurd (show b ∈ ([] : List Addr) from hb) (by simp), hok, .of_eq hg⟩
    obtain ⟨fd, ps, b1, b2, F1⟩ := F _ hKb (nsK hns) hSe
    refine codeAny_mono (F1.run callerA [] s₁ H ⟨[.ref a], []⟩ [.ref a] [.ref a] _ _ hr e0 (b1 s₁ [.ref a] KX b2.symm) (.cons rfl .nil) (hsp H hS)) fun r s' h => ?_
    cases r with
    | error e => exact (hCX H e s' h).elim
    | ok fl =>
      cases fl with
      | next => exact False.elim h
      | brk => exact False.elim h
      | cont => exact False.elim h
      | ret u =>
        obtain ⟨v, H', os, bare, un, hok', r', q⟩ := h
        have q' : v = .bl true := q
        subst q'
        obtain rfl : u = Value.bool true := r'
        refine ⟨rfl, OldK.of_keep fun b o e => ?_, os, bare⟩
        cases q : H b with
        | none => exact un.keep b o e q (by intro z; exact absurd (show b ∈ ([] : List Addr) from z) (by simp)) (by simp)
        | some u =>
          rcases hO b with z | ⟨ob, xs, z⟩
          · rw [q] at z; cases z
          · have z2 := un.frzs b ob _ z
            obtain ⟨e1, _⟩ := hok b _ z
            obtain ⟨e2, _⟩ := hok' b _ z2
            rw [e] at e1; cases e1
            exact e2
  cases hk : K.lookup a with
  | some o =>
    have e := KX a o hk
    rw [ha] at e
    cases e
    refine core (fun _ => none) (fun _ => .inl rfl) (.inr ⟨_, vs.toArray, _, hk, rfl, rfl, rfl, by rw [List.size_toArray, lenV]; exact hl, by simpa using rv⟩) (fun b u z => by have z' : (none : Option HO) = some u := z; cases z') (fun b z => absurd rfl z) fun z => absurd rfl z
  | none =>
    refine core (fun b => if b = a then some (.frz { cls := .type "list", data := .seq vs.toArray } (.lst (ns.map V.int))) else none) (fun b => ?_) (.inl ⟨{ cls := .type "list", data := .seq vs.toArray }, if_pos rfl⟩) (fun b u z => ?_) (fun b z => ?_) fun _ => hk
    · by_cases hb : b = a
      · exact .inr ⟨_, _, if_pos hb⟩
      · exact .inl (if_neg hb)
    · by_cases hb : b = a
      · have z' := (if_pos hb).symm.trans z
        cases z'
        subst hb
        exact ⟨ha, by rw [List.length_map]; exact hl, vs, _, rv, ha⟩
      · have z' := (if_neg hb).symm.trans z
        cases z'
    · by_cases hb : b = a
      · exact hb
      · exact absurd (if_neg hb) z
/-- what the law's def is shown to do -/
def spL (G : Gl0) (T : Str → Option Fn) (k : Nat) (K : PySem.W.Frag) : Sp := fun vs H Q _ => ∃ (a : Addr) (ns : List Int), vs = [.ref a] ∧ SqF K H a (ns.map V.int) ∧
  semF G T k "law" [.rol (ns.map D.int)] (fun _ => none) (fun d _ => d = .bl true) (fun _ _ => False) ∧ ∀ H', Q (.bl true) H'
theorem rvs_ints {K : PySem.W.Frag} {H : Hp} : ∀ ns : List Int, Rvs K H (ns.map D.int) (ns.map V.int)
  | [] => .nil
  | _ :: r => .cons (.int _) (rvs_ints r)
theorem spL_ok {G : Gl0} {T : Str → Option Fn} {k : Nat} {K : PySem.W.Frag} {mg : Str → Option Value} (vs : List V) (H : Hp) (Q : VK) (E : XK) (h : spL G T k K vs H Q E) : LF K mg (semF G T k) "law" vs H Q E := by
  obtain ⟨a, ns, rfl, hS, hs, q⟩ := h
  refine ⟨[.rol (ns.map D.int)], fun _ => none, fun d _ => d = .bl true, fun _ _ => False, .cons (.rol hS (rvs_ints ns)) .nil, (fun _ _ e => nomatch e), hs, fun v H' d S' e rv rs hd => ?_, fun _ _ _ _ _ _ _ _ z => z.elim⟩
  subst hd
  cases rv
  exact q H'
/-- THE END: a law by the forms of its text's defs -/
theorem law_by {l : PySem.W.OpenLaw} {q : Program} {loose : List Str} {XP : (Str → Option Value) → Heap → Prop} {YP : World → Heap → Prop} {d : DefRec} {K : Params → PySem.W.Frag} {M : Md} {G : Gl0} {T : Str → Option Fn} {k : Nat} {Fl : Fn}
    (hn : l.most = some 63) (hdf : d.params.defaults = []) (hdn : d.name = "law") (hr : Room (2 * k + 40) callerA) (hq : importsNone q = true) (hL : M.meth.lookup ("law" : Str) = none)
    (hY : ∀ (w : World) (h : Heap), YP w h → (K w.params).In h)
    (hT : T "law" = some Fl) (hT1 : Fl.ps = 1)
    (B : ∀ (w : World) (mg : Str → Option Value) (h : Heap), (K w.params).In h → h.Ns mainGlobals mg → ∀ base : Heap, base.NoSeer → Mok M G T l.prog (K w.params) mg base w)
    (hsp : ∀ ns : List Int, ns.length ≤ 63 → (∀ z ∈ ns, Builtin.Int.intBits z ≤ 1048576) → semF G T k "law" [.rol (ns.map D.int)] (fun _ => none) (fun d _ => d = .bl true) (fun _ _ => False)) :
    PySem.W.WalkO q loose XP YP l.row.toRowW d [] (fun f vs => PySem.call f vs) := by
  refine Att.attach_callB hn hdf fun w s₀ s₁ mg mb fa o pm cd doc a vs ns Gr Y ho hd hcd hmg hobj hints hlen hbits hg => ?_
  have KX := hY w _ Y
  refine law_callP (sp := spL G T k (K w.params)) (CX := L2.CX l.prog w) (k := 2 * k + 40) KX Gr.T.g Gr.T.b Gr.T.builtins Gr.T.nolimit (Gr.T.seer hq) hg hobj hints (Nat.le_trans hlen (by decide)) hr (fun base hb hns hse => ?_) (fun H hS => ⟨a, ns, rfl, hS, hsp ns hlen hbits, fun _ => rfl⟩) fun H e s' h => ?_
  · obtain ⟨a', fd, ps, q1, q2, q3, q4, q5⟩ := fn_all (w := w) (B w mg _ KX Gr.T.g base hse) k "law" Fl hT
    rw [hdn] at hmg
    unfold At at q1
    rw [hL] at q1
    have e := hmg.symm.trans q1
    cases e
    exact ⟨fd, ps, q3, q4.trans hT1, q5.imp spL_ok⟩
  · obtain ⟨_, _, _, _, _, _, _, _, _, _, _, _, z⟩ := h
    exact z
end Ev

/-! Rules over the evaluator alone: calls, loops, comprehensions. -/
namespace Ev
open PySem PySem.Spec PyProof.Rows L2
/-- a continuation record with another next step; a loop's; with other exceptions -/
def kN (k : Kt) (N : En → Sto → Prop) : Kt := { k with nx := N }
def kL (k : Kt) (N : En → Sto → Prop) : Kt := { nx := N, rt := k.rt, bk := k.nx, ct := N, ex := k.ex }
def kX (k : Kt) (X : Exn → En → Sto → Prop) : Kt := { k with ex := X }
section
variable {k : Kt} {N : En → Sto → Prop} {X : Exn → En → Sto → Prop}
theorem kN_nx : (kN k N).nx = N := rfl
theorem kN_rt : (kN k N).rt = k.rt := rfl
theorem kN_bk : (kN k N).bk = k.bk := rfl
theorem kN_ct : (kN k N).ct = k.ct := rfl
theorem kN_ex : (kN k N).ex = k.ex := rfl
theorem kL_nx : (kL k N).nx = N := rfl
theorem kL_rt : (kL k N).rt = k.rt := rfl
theorem kL_bk : (kL k N).bk = k.nx := rfl
theorem kL_ct : (kL k N).ct = N := rfl
theorem kL_ex : (kL k N).ex = k.ex := rfl
theorem kX_nx : (kX k X).nx = k.nx := rfl
theorem kX_rt : (kX k X).rt = k.rt := rfl
theorem kX_bk : (kX k X).bk = k.bk := rfl
theorem kX_ct : (kX k X).ct = k.ct := rfl
theorem kX_ex : (kX k X).ex = X := rfl
end
/-- what stood stands -/
def Sub (S S' : Sto) : Prop := ∀ a o, S a = some o → S' a = some o
theorem Sub.refl (S : Sto) : Sub S S := fun _ _ h => h
theorem Sub.trans {A B C : Sto} (h : Sub A B) (g : Sub B C) : Sub A C := fun a o x => g a o (h a o x)
theorem Sub.new {S : Sto} {a : Addr} {o : Ob} (h : S a = none) : Sub S (put S a o) := fun b u e => by
  have n : b ≠ a := fun z => by rw [z, h] at e; cases e
  rw [put_ne n]; exact e
theorem Sub.none {S S' : Sto} (h : Sub S S') {a : Addr} (e : S' a = Option.none) : S a = Option.none := by
  cases q : S a with
  | none => rfl
  | some o => rw [h a o q] at e; cases e
/-- a write to what is new -/
theorem Sub.write {S S' : Sto} (h : Sub S S') {a : Addr} {o : Ob} (e : S a = Option.none) : Sub S (put S' a o) := fun b u q => by
  have n : b ≠ a := fun z => by rw [z, e] at q; cases q
  rw [put_ne n]; exact h b u q
theorem lget_of {S : Sto} {a : Addr} {xs : List D} (h : S a = some (.lst xs)) : lget S a = some xs := by
  unfold lget; rw [h]
theorem put_lget {S : Sto} {a : Addr} {xs : List D} : lget (put S a (.lst xs)) a = some xs := lget_of put_same
theorem put_put {S : Sto} {a : Addr} {o u : Ob} : put (put S a o) a u = put S a u := by
  funext b; unfold put; split <;> rfl
section
variable {G : Gl0} {T : Str → Option Fn} {C : CallS} {k : Nat} {f : Str} {F : Fn} {ds : List D} {S : Sto} {Q : DK} {E : XS}
theorem call_of (h : T f = some F) (hl : ds.length = F.ps) (hb : semSs G (semF G T k) F.body (kend Q E) (ent F.sl ds) S) : semF G T (k + 1) f ds S Q E := by
  simp only [semF, h]
  exact ⟨hl, hb⟩
/-- while, over a state of one's own -/
theorem whl_by {α : Type} {c : IC} {b : ISs} {kt : Kt} {σ : En} (f : α → En) (I : α → Sto → Prop) (μ : α → Nat) (a0 : α) (h0 : σ = f a0) (hI : I a0 S)
    (step : ∀ a S (N : En → Sto → Prop), I a S → (∀ a' S', I a' S' → μ a' < μ a → N (f a') S') →
      semC G C (fun x S => kt.ex x (f a) S) c (f a) S fun h S1 => if h = true then semSs G C b (kL kt N) (f a) S1 else kt.nx (f a) S1) :
    semS G C (.whl c b) kt σ S := by
  subst h0
  simp only [semS]
  refine ⟨fun m σ S => ∃ a, σ = f a ∧ m = μ a ∧ I a S, ⟨_, a0, rfl, rfl, hI⟩, ?_⟩
  rintro m σ S ⟨a, rfl, rfl, hI⟩
  exact step a S _ hI fun a' S' h1 h2 => ⟨μ a', h2, a', rfl, rfl, h1⟩
/-- a loop over n items -/
theorem turn_by {J : Ev.Itr} {body : (En → Sto → Prop) → D → En → Sto → Prop} {nx : En → Sto → Prop} {σ : En} (n : Nat) (item : Nat → D) (I : Nat → En → Sto → Prop)
    (hJ : ∀ i σ S stop go, i ≤ n → I i σ S → (i < n → go (item i)) → (i = n → stop) → nxt J i S stop go)
    (h0 : I 0 σ S) (step : ∀ i σ S N, i < n → I i σ S → (∀ σ' S', I (i + 1) σ' S' → N σ' S') → body N (item i) σ S) (done : ∀ σ S, I n σ S → nx σ S) :
    ∃ W : Nat → Nat → En → Sto → Prop, (∃ m, W 0 m σ S) ∧ ∀ i m σ S, W i m σ S → nxt J i S (nx σ S) fun d => body (fun σ' S' => ∃ m', m' < m ∧ W (i + 1) m' σ' S') d σ S := by
  refine ⟨fun i m σ S => m = n - i ∧ i ≤ n ∧ I i σ S, ⟨n, rfl, Nat.zero_le _, h0⟩, ?_⟩
  rintro i m σ S ⟨rfl, hi, hI⟩
  refine hJ i σ S _ _ hi hI (fun hlt => ?_) fun e => ?_
  · exact step i σ S _ hlt hI fun σ' S' h => ⟨n - (i + 1), by omega, rfl, hlt, h⟩
  · subst e
    exact done σ S hI
theorem nxt_rng {lo : Int} {n i : Nat} {stop : Prop} {go : D → Prop} (hi : i ≤ n) (h1 : i < n → go (.int (lo + i))) (h2 : i = n → stop) : nxt (.rng lo n) i S stop go := by
  simp only [nxt]
  split
  · exact h1 ‹_›
  · exact h2 (by omega)
theorem nxt_list {xs : List D} {i : Nat} {stop : Prop} {go : D → Prop} (hi : i ≤ xs.length) (h1 : i < xs.length → go (xs.getD i .non)) (h2 : i = xs.length → stop) : (match xs[i]? with | some d => go d | none => stop) := by
  split
  · rename_i d e
    obtain ⟨h, e⟩ := List.getElem?_eq_some_iff.mp e
    have := h1 h
    rw [List.getD_eq_getElem?_getD, List.getElem?_eq_getElem h, e] at this
    exact this
  · rename_i e
    have := List.getElem?_eq_none_iff.mp e
    exact h2 (by omega)
section
variable {g : IG} {b : ISs} {kt : Kt} {σ : En}
def FOR (G : Gl0) (C : CallS) (J : Ev.Itr) (g : IG) (b : ISs) (kt : Kt) (σ : En) (S : Sto) : Prop := ∃ W : Nat → Nat → En → Sto → Prop, (∃ m, W 0 m σ S) ∧ ∀ i m σ S, W i m σ S →
      nxt J i S (kt.nx σ S) fun d => asgS g d σ S fun σ2 =>
        semSs G C b { nx := fun σ' S' => ∃ m', m' < m ∧ W (i + 1) m' σ' S', rt := kt.rt, bk := kt.nx, ct := fun σ' S' => ∃ m', m' < m ∧ W (i + 1) m' σ' S', ex := kt.ex } σ2 S
theorem for_rng {lo : Int} {n : Nat} (I : Nat → En → Sto → Prop) (h0 : I 0 σ S)
    (step : ∀ i σ S N, i < n → I i σ S → (∀ σ' S', I (i + 1) σ' S' → N σ' S') → asgS g (.int (lo + i)) σ S fun σ2 => semSs G C b (kL kt N) σ2 S)
    (done : ∀ σ S, I n σ S → kt.nx σ S) : FOR G C (.rng lo n) g b kt σ S :=
  turn_by (body := fun N d σ S => asgS g d σ S fun σ2 => semSs G C b (kL kt N) σ2 S) n (fun i => .int (lo + i)) I (fun i σ S stop go hi _ h1 h2 => nxt_rng hi h1 h2) h0 step done
theorem for_tup {xs : List D} (I : Nat → En → Sto → Prop) (h0 : I 0 σ S)
    (step : ∀ i σ S N, i < xs.length → I i σ S → (∀ σ' S', I (i + 1) σ' S' → N σ' S') → asgS g (xs.getD i .non) σ S fun σ2 => semSs G C b (kL kt N) σ2 S)
    (done : ∀ σ S, I xs.length σ S → kt.nx σ S) : FOR G C (.tup xs) g b kt σ S :=
  turn_by (body := fun N d σ S => asgS g d σ S fun σ2 => semSs G C b (kL kt N) σ2 S) xs.length (fun i => xs.getD i .non) I (fun i σ S stop go hi _ h1 h2 => nxt_list hi h1 h2) h0 step done
theorem for_enuT {xs : List D} (I : Nat → En → Sto → Prop) (h0 : I 0 σ S)
    (step : ∀ i σ S N, i < xs.length → I i σ S → (∀ σ' S', I (i + 1) σ' S' → N σ' S') → asgS g (.tup [.int i, xs.getD i .non]) σ S fun σ2 => semSs G C b (kL kt N) σ2 S)
    (done : ∀ σ S, I xs.length σ S → kt.nx σ S) : FOR G C (.enuT xs) g b kt σ S :=
  turn_by (body := fun N d σ S => asgS g d σ S fun σ2 => semSs G C b (kL kt N) σ2 S) xs.length (fun i => .tup [.int i, xs.getD i .non]) I (fun i σ S stop go hi _ h1 h2 => by
    simp only [nxt]
    exact nxt_list (go := fun d => go (.tup [.int i, d])) hi h1 h2) h0 step done
theorem for_enuL {a : Addr} {xs : List D} (I : Nat → En → Sto → Prop) (hl : ∀ i σ S, I i σ S → S a = some (.lst xs)) (h0 : I 0 σ S)
    (step : ∀ i σ S N, i < xs.length → I i σ S → (∀ σ' S', I (i + 1) σ' S' → N σ' S') → asgS g (.tup [.int i, xs.getD i .non]) σ S fun σ2 => semSs G C b (kL kt N) σ2 S)
    (done : ∀ σ S, I xs.length σ S → kt.nx σ S) : FOR G C (.enu a) g b kt σ S :=
  turn_by (body := fun N d σ S => asgS g d σ S fun σ2 => semSs G C b (kL kt N) σ2 S) xs.length (fun i => .tup [.int i, xs.getD i .non]) I (fun i σ S stop go hi hI h1 h2 => by
    simp only [nxt, lget_of (hl i σ S hI)]
    exact nxt_list (go := fun d => go (.tup [.int i, d])) hi h1 h2) h0 step done
theorem for_lst {a : Addr} {xs : List D} (I : Nat → En → Sto → Prop) (hl : ∀ i σ S, I i σ S → S a = some (.lst xs)) (h0 : I 0 σ S)
    (step : ∀ i σ S N, i < xs.length → I i σ S → (∀ σ' S', I (i + 1) σ' S' → N σ' S') → asgS g (xs.getD i .non) σ S fun σ2 => semSs G C b (kL kt N) σ2 S)
    (done : ∀ σ S, I xs.length σ S → kt.nx σ S) : FOR G C (.lst a) g b kt σ S :=
  turn_by (body := fun N d σ S => asgS g d σ S fun σ2 => semSs G C b (kL kt N) σ2 S) xs.length (fun i => xs.getD i .non) I (fun i σ S stop go hi hI h1 h2 => by
    simp only [nxt, lget_of (hl i σ S hI)]
    exact nxt_list hi h1 h2) h0 step done
end
end
/-! items of written tuples -/
section
variable {a b c d : D} {r : List D} {S : Sto} {Q : DK}
theorem atI0 {α : Type} {a : α} {r : List α} : atI (a :: r) 0 = some a := by simp [atI, ixN]
theorem atI1 {α : Type} {a b : α} {r : List α} : atI (a :: b :: r) 1 = some b := by
  have : (1 : Int) < ((r.length : Int) + 1 + 1) := by omega
  simp [atI, ixN, this]
theorem atI2 {α : Type} {a b c : α} {r : List α} : atI (a :: b :: c :: r) 2 = some c := by
  have : (2 : Int) < ((r.length : Int) + 1 + 1 + 1) := by omega
  simp [atI, ixN, this]
theorem atI3 {α : Type} {a b c d : α} {r : List α} : atI (a :: b :: c :: d :: r) 3 = some d := by
  have : (3 : Int) < ((r.length : Int) + 1 + 1 + 1 + 1) := by omega
  simp [atI, ixN, this]
end
/-! == of plain data without lists: the data as the comparison reads them -/
mutual
def pd : D → PyData
  | .non => .none
  | .bl b => .bool b
  | .int i => .int i
  | .str x => .str x
  | .tup xs => .tuple (pds xs)
  | .rol xs => .list (pds xs)
  | .ref _ => .none
def pds : List D → List PyData
  | [] => []
  | d :: r => pd d :: pds r
end
mutual
def pure_ : D → Bool
  | .tup xs => pures xs
  | .rol xs => pures xs
  | .ref _ => false
  | _ => true
def pures : List D → Bool
  | [] => true
  | d :: r => pure_ d && pures r
end
mutual
theorem pd_ok (S : Sto) : ∀ d : D, pure_ d = true → Pd S d (pd d)
  | .non, _ => .non
  | .bl b, _ => .bl b
  | .int b, _ => .int b
  | .str b, _ => .str b
  | .tup xs, h => .tup (pds_ok S xs h)
  | .rol xs, h => .rol (pds_ok S xs h)
  | .ref _, h => by cases h
theorem pds_ok (S : Sto) : ∀ ds : List D, pures ds = true → Pds S ds (pds ds)
  | [], _ => .nil
  | d :: r, h => by
    simp only [pures, Bool.and_eq_true] at h
    exact .cons (pd_ok S d h.1) (pds_ok S r h.2)
end
end Ev

/-! Equations for symbolic runs: one step each; what comes behind is not looked at before its turn. -/
namespace Ev
open PySem PySem.Spec PyProof.Rows L2
/-- what comes behind is not looked at before its turn: a covered function -/
inductive Tag {α : Type} (f : α) : Type where
  | mk
def cov {α : Type} (f : α) (_ : Tag f) : α := f
theorem cov1 {α β : Type} (f : α → β) (u : Tag f) (a : α) : cov f u a = f a := rfl
theorem cov2 {α β γ : Type} (f : α → β → γ) (u : Tag f) (a : α) (b : β) : cov f u a b = f a b := rfl
theorem cov3 {α β γ δ : Type} (f : α → β → γ → δ) (u : Tag f) (a : α) (b : β) (c : γ) : cov f u a b c = f a b c := rfl
def exS (o : Option Bool) (f g : Unit → Prop) : Prop := match o with | some true => f () | some false => g () | none => False
def vr (o : Option D) (f : D → Prop) : Prop := match o with | some d => f d | none => False
def vrl (o : Option (List D)) (f : List D → Prop) : Prop := match o with | some d => f d | none => False
def vrn (o : Option Nat) (f : Nat → Prop) : Prop := match o with | some d => f d | none => False
def nxR (o : Option D) (f : D → Prop) (g : Prop) : Prop := match o with | some d => f d | none => g
def vri (o : Option (Str × List (Str × D))) (f : Str → List (Str × D) → Prop) : Prop := match o with | some (x, fs) => f x fs | none => False
def vrk (o : Option Str) (f : Str → Prop) : Prop := match o with | some x => f x | none => False
def fldS (G : Gl0) (x : D) (f : Str) (S1 : Sto) (Q : DK) : Prop := match x with
      | .ref a => vri (iget S1 a) (cov (fun C0 fs => G.fd C0 f = true ∧ vr (fs.lookup f) (cov (fun d => Q d S1) .mk)) .mk)
      | _ => False
def mclS (G : Gl0) (x : D) (m : Str) (S1 : Sto) (Q : Str → D → Sto → Prop) : Prop := match x with
      | .ref a => vri (iget S1 a) (cov (fun C0 fs => fs.lookup m = none ∧ vrk (G.mt C0 m) (cov (fun key => Q key (.ref a) S1) .mk)) .mk)
      | _ => False
def mkS (o : Option (Option Str)) (x : Str) (ds : List D) (S1 : Sto) (C : CallS) (Q : DK) (X : XS) : Prop := match o with
      | some none => ds = [] ∧ ∀ a, S1 a = none → Q (.ref a) (put S1 a (.ins x []))
      | some (some key) => ∀ a, S1 a = none → C key (.ref a :: ds) (put S1 a (.ins x [])) (fun d S2 => d = .non ∧ Q (.ref a) S2) X
      | none => False
def setfS (G : Gl0) (ov : D) (f : Str) (d : D) (S2 : Sto) (R : Sto → Prop) : Prop := match ov with
      | .ref a => vri (iget S2 a) (cov (fun C0 fs => G.fd C0 f = true ∧ fs.length < 1000 ∧ R (put S2 a (.ins C0 (putD f d fs)))) .mk)
      | _ => False
def LCOMP (G : Gl0) (C : CallS) (J : Ev.Itr) (tg : IG) (ifs : IQ) (elt : IE) (own : List Nat) (σ : En) (S1 : Sto) (Q : DK) : Prop := ∀ a, S1 a = none →
      ∃ W : Nat → Nat → Sto → Prop, (∃ m, W 0 m (put S1 a (.lst []))) ∧ ∀ i m S, W i m S →
        nxt J i S (Q (.ref a) S) fun d => asgS tg d (wips σ own) S fun σ2 =>
          semQ G C (fun _ _ => False) ifs σ2 S fun k S3 => if k = true
              then semE G C (fun _ _ => False) elt σ2 S3 fun y S4 => ∃ acc, S4 a = some (.lst acc) ∧ acc.length < sizeLine ∧ ∃ m', m' < m ∧ W (i + 1) m' (put S4 a (.lst (acc ++ [y])))
              else ∃ m', m' < m ∧ W (i + 1) m' S3
def negS (x : D) (S : Sto) (Q : DK) : Prop := match x with | .int i => Q (.int (-i)) S | _ => False
def isiS (o : Option Bool) (S : Sto) (Q : DK) : Prop := match o with | some k => Q (.bl k) S | none => False
def oS (x : D) (S : Sto) (R : Option Int → Sto → Prop) : Prop := match x with | .int i => R (some i) S | _ => False
def seqS (x : D) (S1 : Sto) (R : Ev.Itr → Sto → Prop) : Prop := match x with
      | .tup xs => R (.tup xs) S1
      | .rol xs => R (.rol xs) S1
      | .str z => R (.stri z) S1
      | .ref a => seqRS S1 a R
      | _ => False
def vrC (o : Option Nat) (f : Nat → Prop) : Prop := match o with | some c => f c | none => False
def vlo (o : Option (List D)) (f : List D → Prop) (g : Unit → Prop) : Prop := match o with | some d => f d | none => g ()
def vrp (o : Option (List (Str × D))) (f : List (Str × D) → Prop) : Prop := match o with | some d => f d | none => False
def augS (x d : D) (R : D → Prop) : Prop := match x with
      | .int a => (match d with | .int b => R (.int (a + b)) | _ => False)
      | _ => False
def rng1S (x : D) (S1 : Sto) (R : Ev.Itr → Sto → Prop) : Prop := match x with | .int j => -(2 ^ 62) ≤ j ∧ j < 2 ^ 62 ∧ R (.rng 0 j.toNat) S1 | _ => False
def rng2S (x y : D) (S2 : Sto) (R : Ev.Itr → Sto → Prop) : Prop := match x, y with
      | .int i, .int j => (-(2 ^ 62) ≤ i ∧ i < 2 ^ 62 ∧ -(2 ^ 62) ≤ j ∧ j < 2 ^ 62) ∧ R (.rng i (j - i).toNat) S2
      | _, _ => False
def rng3S (x y z : D) (S3 : Sto) (R : Ev.Itr → Sto → Prop) : Prop := match x, y, z with
      | .int i, .int j, .int k => ∃ n, RgC i j k n ∧ R (.rngc i k n) S3
      | _, _, _ => False
def enuS (x : D) (S1 : Sto) (R : Ev.Itr → Sto → Prop) : Prop := match x with
      | .ref a => (match lget S1 a with | some _ => R (.enu a) S1 | none => False)
      | .tup xs => R (.enuT xs) S1
      | _ => False
def zipS (x y : D) (S2 : Sto) (R : Ev.Itr → Sto → Prop) : Prop := match x, y with
      | .ref a, .ref b => (match lget S2 a, lget S2 b with | some _, some _ => R (.zip a b) S2 | _, _ => False)
      | .tup xs, .tup ys => R (.tup (zipD xs ys)) S2
      | .ref a, .tup ys => (match lget S2 a with | some _ => R (.zipM a ys) S2 | _ => False)
      | _, _ => False
def revS (x : D) (S1 : Sto) (R : Ev.Itr → Sto → Prop) : Prop := match x with
      | .ref a => (match lget S1 a with | some xs => R (.rev a xs.length) S1 | none => False)
      | .tup xs => R (.tup xs.reverse) S1
      | _ => False
def subS (ov iv d : D) (S3 : Sto) (R : Sto → Prop) : Prop := match ov, iv with
      | .ref a, .int n => (match S3 a with
        | some (.lst xs) => (match ixN xs.length n with | some j => R (put S3 a (.lst (xs.set j d))) | none => False)
        | _ => False)
      | .ref a, .str z => (match S3 a with
        | some (.dct kvs) => kvs.length < sizeLine ∧ R (put S3 a (.dct (putS kvs z d)))
        | _ => False)
      | _, _ => False
section
variable {G : Gl0} {C : CallS} {X : XS} {σ : En} {S : Sto} {Q : DK} {k : Kt}
theorem E_var (i : Nat) : semE G C X (.var i) σ S Q = (vr (gt σ i) (cov (fun d => Q d S) .mk)) := rfl
theorem E_int (i : Int) : semE G C X (.int i) σ S Q = (Q (.int i) S) := rfl
theorem E_bl (i : Bool) : semE G C X (.bl i) σ S Q = (Q (.bl i) S) := rfl
theorem E_non  : semE G C X .non σ S Q = (Q .non S) := rfl
theorem E_str (i : Str) : semE G C X (.str i) σ S Q = (Q (.str i) S) := rfl
theorem E_glo (x : Str) : semE G C X (.glo x) σ S Q = (vr (G.cs x) (cov (fun d => Q d S) .mk)) := rfl
theorem E_tup (es : IEs) : semE G C X (.tup es) σ S Q = (semEs G C X es σ S (cov (fun ds S1 => Q (.tup ds) S1) .mk)) := rfl
theorem E_lst (es : IEs) : semE G C X (.lst es) σ S Q = (semEs G C X es σ S (cov (fun ds S1 => ∀ a, S1 a = none → Q (.ref a) (put S1 a (.lst ds))) .mk)) := rfl
theorem E_bin (op : Operator) (a b : IE) : semE G C X (.bin op a b) σ S Q = (semE G C X a σ S (cov (fun x S1 => semE G C X b σ S1 (cov (fun y S2 => binS G.PY op x y S2 Q) .mk)) .mk)) := rfl
theorem E_neg (a : IE) : semE G C X (.neg a) σ S Q = (semE G C X a σ S (cov (fun x S1 => negS x S1 Q) .mk)) := rfl
theorem E_cmp (op : CmpOp) (a b : IE) : semE G C X (.cmp op a b) σ S Q = (semE G C X a σ S (cov (fun x S1 => semE G C X b σ S1 (cov (fun y S2 => cmpS op x y S2 (cov (fun k => Q (.bl k) S2) .mk)) .mk)) .mk)) := rfl
theorem E_chn (op op2 : CmpOp) (a b c : IE) : semE G C X (.chn op op2 a b c) σ S Q = (semE G C X a σ S (cov (fun x S1 => semE G C X b σ S1 (cov (fun y S2 => cmpS op x y S2 (cov (fun k =>
      if k = true then semE G C X c σ S2 (cov (fun z S3 => cmpS op2 y z S3 (cov (fun k2 => Q (.bl k2) S3) .mk)) .mk) else Q (.bl false) S2) .mk)) .mk)) .mk)) := rfl
theorem E_and (a b : IE) : semE G C X (.and a b) σ S Q = (semE G C X a σ S (cov (fun x S1 => truS x S1 (cov (fun k => if k = true then semE G C X b σ S1 Q else Q x S1) .mk)) .mk)) := rfl
theorem E_or (a b : IE) : semE G C X (.or a b) σ S Q = (semE G C X a σ S (cov (fun x S1 => truS x S1 (cov (fun k => if k = true then Q x S1 else semE G C X b σ S1 Q) .mk)) .mk)) := rfl
theorem E_one (a : IE) : semE G C X (.one a) σ S Q = (semE G C X a σ S Q) := rfl
theorem E_not (a : IE) : semE G C X (.not a) σ S Q = (semE G C X a σ S (cov (fun x S1 => truS x S1 (cov (fun k => Q (.bl (!k)) S1) .mk)) .mk)) := rfl
theorem E_ifx (c : IC) (a b : IE) : semE G C X (.ifx c a b) σ S Q = (semC G C X c σ S (cov (fun k S1 => if k = true then semE G C X a σ S1 Q else semE G C X b σ S1 Q) .mk)) := rfl
theorem E_idx (a i : IE) : semE G C X (.idx a i) σ S Q = (semE G C X a σ S (cov (fun x S1 => semE G C X i σ S1 (cov (fun y S2 => idxS x y S2 Q) .mk)) .mk)) := rfl
theorem E_slc (a : IE) (lo hi : IO) : semE G C X (.slc a lo hi) σ S Q = (semE G C X a σ S (cov (fun x S1 => semO G C X lo σ S1 (cov (fun l S2 => semO G C X hi σ S2 (cov (fun u S3 => slcS x l u S3 Q) .mk)) .mk)) .mk)) := rfl
theorem E_call (f : Str) (es : IEs) : semE G C X (.call f es) σ S Q = (semEs G C X es σ S (cov (fun ds S1 => C f ds S1 Q X) .mk)) := rfl
theorem E_bi (b : Bi) (es : IEs) : semE G C X (.bi b es) σ S Q = (semEs G C X es σ S (cov (fun ds S1 => biS b ds S1 Q) .mk)) := rfl
theorem E_isi (e : IE) (ts : List Ty) : semE G C X (.isi e ts) σ S Q = (semE G C X e σ S (cov (fun x S1 => isiS (isTs S1 x ts) S1 Q) .mk)) := rfl
theorem E_mth (m : Me) (o : IE) (es : IEs) : semE G C X (.mth m o es) σ S Q = (semE G C X o σ S (cov (fun x S1 => mthT m x S1 ∧ semEs G C X es σ S1 (cov (fun ds S2 => mthS m x ds S2 Q) .mk)) .mk)) := rfl
theorem E_fld (o : IE) (f : Str) : semE G C X (.fld o f) σ S Q = (semE G C X o σ S (cov (fun x S1 => fldS G x f S1 Q) .mk)) := rfl
theorem E_mcl (o : IE) (m : Str) (es : IEs) : semE G C X (.mcl o m es) σ S Q = (semE G C X o σ S (cov (fun x S1 => mclS G x m S1 (cov (fun key x S1 => semEs G C X es σ S1 (cov (fun ds S2 => C key (x :: ds) S2 Q X) .mk)) .mk)) .mk)) := rfl
theorem E_mk (x : Str) (es : IEs) : semE G C X (.mk x es) σ S Q = (semEs G C X es σ S (cov (fun ds S1 => mkS (G.it x) x ds S1 C Q X) .mk)) := rfl
theorem S_setf (o : IE) (f : Str) (e : IE) : semS G C (.setf o f e) k σ S = (semE G C ((cov (fun x S => k.ex x σ S) .mk)) e σ S (cov (fun d S1 => semE G C ((cov (fun x S => k.ex x σ S) .mk)) o σ S1 (cov (fun ov S2 => setfS G ov f d S2 (cov (fun S3 => k.nx σ S3) .mk)) .mk)) .mk)) := rfl
theorem fld_i (a : Addr) (f : Str) : fldS G (.ref a) f S Q = vri (iget S a) (cov (fun C0 fs => G.fd C0 f = true ∧ vr (fs.lookup f) (cov (fun d => Q d S) .mk)) .mk) := rfl
theorem mcl_i (a : Addr) (m : Str) {R : Str → D → Sto → Prop} : mclS G (.ref a) m S R = vri (iget S a) (cov (fun C0 fs => fs.lookup m = none ∧ vrk (G.mt C0 m) (cov (fun key => R key (.ref a) S) .mk)) .mk) := rfl
theorem setf_i (a : Addr) (f : Str) (d : D) {R : Sto → Prop} : setfS G (.ref a) f d S R = vri (iget S a) (cov (fun C0 fs => G.fd C0 f = true ∧ fs.length < 1000 ∧ R (put S a (.ins C0 (putD f d fs)))) .mk) := rfl
theorem vri_some {f : Str → List (Str × D) → Prop} (x : Str) (fs : List (Str × D)) : vri (some (x, fs)) f = f x fs := rfl
theorem vrk_some {f : Str → Prop} (x : Str) : vrk (some x) f = f x := rfl
theorem mk_0 (x : Str) (ds : List D) : mkS (some none) x ds S C Q X = (ds = [] ∧ ∀ a, S a = none → Q (.ref a) (put S a (.ins x []))) := rfl
theorem mk_1 (x key : Str) (ds : List D) : mkS (some (some key)) x ds S C Q X = (∀ a, S a = none → C key (.ref a :: ds) (put S a (.ins x [])) (fun d S2 => d = .non ∧ Q (.ref a) S2) X) := rfl
theorem E_lc (elt : IE) (tg : IG) (it : II) (ifs : IQ) (own : List Nat) : semE G C X (.lc elt tg it ifs own) σ S Q = (semI G C X it σ S (cov (fun J S1 => LCOMP G C J tg ifs elt own σ S1 Q) .mk)) := rfl
theorem Es_nil  {R : List D → Sto → Prop} : semEs G C X .nil σ S R = (R [] S) := rfl
theorem Es_cons (e : IE) (r : IEs) {R : List D → Sto → Prop} : semEs G C X (.cons e r) σ S R = (semE G C X e σ S (cov (fun d S1 => semEs G C X r σ S1 (cov (fun ds S2 => R (d :: ds) S2) .mk)) .mk)) := rfl
theorem O_no  {R : Option Int → Sto → Prop} : semO G C X .no σ S R = (R none S) := rfl
theorem O_some (e : IE) {R : Option Int → Sto → Prop} : semO G C X (.some e) σ S R = (semE G C X e σ S (cov (fun x S1 => oS x S1 R) .mk)) := rfl
theorem Q_no  {R : Bool → Sto → Prop} : semQ G C X .no σ S R = (R true S) := rfl
theorem Q_c (c : IC) {R : Bool → Sto → Prop} : semQ G C X (.c c) σ S R = (semC G C X c σ S R) := rfl
theorem C_and (a b : IC) {R : Bool → Sto → Prop} : semC G C X (.and a b) σ S R = (semC G C X a σ S (cov (fun k S1 => if k = true then semC G C X b σ S1 R else R false S1) .mk)) := rfl
theorem C_or (a b : IC) {R : Bool → Sto → Prop} : semC G C X (.or a b) σ S R = (semC G C X a σ S (cov (fun k S1 => if k = true then R true S1 else semC G C X b σ S1 R) .mk)) := rfl
theorem C_one (a : IC) {R : Bool → Sto → Prop} : semC G C X (.one a) σ S R = (semC G C X a σ S R) := rfl
theorem C_not (a : IC) {R : Bool → Sto → Prop} : semC G C X (.not a) σ S R = (semC G C X a σ S (cov (fun k S1 => R (!k) S1) .mk)) := rfl
theorem C_cmp (op : CmpOp) (a b : IE) {R : Bool → Sto → Prop} : semC G C X (.cmp op a b) σ S R = (semE G C X a σ S (cov (fun x S1 => semE G C X b σ S1 (cov (fun y S2 => cmpS op x y S2 (cov (fun k => R k S2) .mk)) .mk)) .mk)) := rfl
theorem C_chn (op op2 : CmpOp) (a b c : IE) {R : Bool → Sto → Prop} : semC G C X (.chn op op2 a b c) σ S R = (semE G C X a σ S (cov (fun x S1 => semE G C X b σ S1 (cov (fun y S2 => cmpS op x y S2 (cov (fun k =>
      if k = true then semE G C X c σ S2 (cov (fun z S3 => cmpS op2 y z S3 (cov (fun k2 => R k2 S3) .mk)) .mk) else R false S2) .mk)) .mk)) .mk)) := rfl
theorem C_v (e : IE) {R : Bool → Sto → Prop} : semC G C X (.v e) σ S R = (semE G C X e σ S (cov (fun x S1 => truS x S1 (cov (fun k => R k S1) .mk)) .mk)) := rfl
theorem I_seq (e : IE) {R : Ev.Itr → Sto → Prop} : semI G C X (.seq e) σ S R = (semE G C X e σ S (cov (fun x S1 => seqS x S1 R) .mk)) := rfl
theorem I_rng1 (a : IE) {R : Ev.Itr → Sto → Prop} : semI G C X (.rng1 a) σ S R = (semE G C X a σ S (cov (fun x S1 => rng1S x S1 R) .mk)) := rfl
theorem I_rng2 (a b : IE) {R : Ev.Itr → Sto → Prop} : semI G C X (.rng2 a b) σ S R = (semE G C X a σ S (cov (fun x S1 => semE G C X b σ S1 (cov (fun y S2 => rng2S x y S2 R) .mk)) .mk)) := rfl
theorem I_rng3 (a b c : IE) {R : Ev.Itr → Sto → Prop} : semI G C X (.rng3 a b c) σ S R = (semE G C X a σ S (cov (fun x S1 => semE G C X b σ S1 (cov (fun y S2 => semE G C X c σ S2 (cov (fun z S3 => rng3S x y z S3 R) .mk)) .mk)) .mk)) := rfl
theorem I_enu (a : IE) {R : Ev.Itr → Sto → Prop} : semI G C X (.enu a) σ S R = (semE G C X a σ S (cov (fun x S1 => enuS x S1 R) .mk)) := rfl
theorem I_zip (a b : IE) {R : Ev.Itr → Sto → Prop} : semI G C X (.zip a b) σ S R = (semE G C X a σ S (cov (fun x S1 => semE G C X b σ S1 (cov (fun y S2 => zipS x y S2 R) .mk)) .mk)) := rfl
theorem I_rev (a : IE) {R : Ev.Itr → Sto → Prop} : semI G C X (.rev a) σ S R = (semE G C X a σ S (cov (fun x S1 => revS x S1 R) .mk)) := rfl
theorem S_set (i : Nat) (e : IE) : semS G C (.set i e) k σ S = (semE G C ((cov (fun x S => k.ex x σ S) .mk)) e σ S (cov (fun d S1 => k.nx (stn σ i d) S1) .mk)) := rfl
theorem S_asg (g : IG) (e : IE) : semS G C (.asg g e) k σ S = (semE G C ((cov (fun x S => k.ex x σ S) .mk)) e σ S (cov (fun d S1 => asgS g d σ S1 (cov (fun σ1 => k.nx σ1 S1) .mk)) .mk)) := rfl
theorem S_par2 (i j : Nat) (a b : IE) : semS G C (.par2 i j a b) k σ S = (semE G C ((cov (fun x S => k.ex x σ S) .mk)) a σ S (cov (fun x S1 => semE G C ((cov (fun x S => k.ex x σ S) .mk)) b σ S1 (cov (fun y S2 => k.nx (stn (stn σ i x) j y) S2) .mk)) .mk)) := rfl
theorem S_sub (o i e : IE) : semS G C (.sub o i e) k σ S = (semE G C ((cov (fun x S => k.ex x σ S) .mk)) e σ S (cov (fun d S1 => semE G C ((cov (fun x S => k.ex x σ S) .mk)) o σ S1 (cov (fun ov S2 => semE G C ((cov (fun x S => k.ex x σ S) .mk)) i σ S2 (cov (fun iv S3 => subS ov iv d S3 (cov (fun S4 => k.nx σ S4) .mk)) .mk)) .mk)) .mk)) := rfl
theorem S_expr (e : IE) : semS G C (.expr e) k σ S = (semE G C ((cov (fun x S => k.ex x σ S) .mk)) e σ S (cov (fun _ S1 => k.nx σ S1) .mk)) := rfl
theorem S_ret (e : IE) : semS G C (.ret e) k σ S = (semE G C ((cov (fun x S => k.ex x σ S) .mk)) e σ S k.rt) := rfl
theorem S_retN  : semS G C .retN k σ S = (k.rt .non S) := rfl
theorem S_ifs (c : IC) (a b : ISs) : semS G C (.ifs c a b) k σ S = (semC G C ((cov (fun x S => k.ex x σ S) .mk)) c σ S (cov (fun h S1 => if h = true then semSs G C a k σ S1 else semSs G C b k σ S1) .mk)) := rfl
theorem S_for (g : IG) (it : II) (b : ISs) : semS G C (.for_ g it b) k σ S = (semI G C ((cov (fun x S => k.ex x σ S) .mk)) it σ S (cov (fun J S1 => FOR G C J g b k σ S1) .mk)) := rfl
theorem S_brk  : semS G C .brk k σ S = (k.bk σ S) := rfl
theorem S_cnt  : semS G C .cnt k σ S = (k.ct σ S) := rfl
theorem S_pass  : semS G C .pass k σ S = (k.nx σ S) := rfl
theorem S_nil  : semSs G C .nil k σ S = (k.nx σ S) := rfl
theorem S_cons (s : IS) (r : ISs) : semSs G C (.cons s r) k σ S = (semS G C s (kN k (cov (fun σ1 S1 => semSs G C r k σ1 S1 ) .mk)) σ S) := rfl
theorem S_raise (x : Str) (es : IEs) : semS G C (.raise x es) k σ S = (semEs G C ((cov (fun x S => k.ex x σ S) .mk)) es σ S (cov (fun ds S1 => ds.length ≤ sizeLine ∧ k.ex ⟨x, []⟩ σ S1) .mk)) := rfl
theorem S_try (b : ISs) (x : Str) (t : ISs) : semS G C (.tryx b x t) k σ S = (semSs G C b (kX k (cov (fun e σ' S' => exS (G.sub e.cls x) (cov (fun _ => semSs G C t (kX k fun _ _ _ => False) σ' S') .mk) (cov (fun _ => k.ex e σ' S') .mk)) .mk)) σ S) := rfl
theorem S_never : semS G C .never k σ S = False := rfl
/-- what goes on behind a clause that held its exception in slot i -/
def kW (k : Kt) (i : Nat) : Kt := { nx := fun σ2 S2 => k.nx (wip1 σ2 i) S2, rt := k.rt, bk := fun σ2 S2 => k.bk (wip1 σ2 i) S2, ct := fun σ2 S2 => k.ct (wip1 σ2 i) S2, ex := fun _ _ _ => False }
theorem kW_nx {i : Nat} {σ : En} : (kW k i).nx σ S = k.nx (wip1 σ i) S := rfl
theorem kW_rt {i : Nat} : (kW k i).rt = k.rt := rfl
theorem kW_bk {i : Nat} {σ : En} : (kW k i).bk σ S = k.bk (wip1 σ i) S := rfl
theorem kW_ct {i : Nat} {σ : En} : (kW k i).ct σ S = k.ct (wip1 σ i) S := rfl
theorem kW_ex {i : Nat} {σ : En} {e : Exn} : (kW k i).ex e σ S = False := rfl
def Gx (G : Gl0) (a : Addr) (e : Exn) : Gl0 := { G with xc := some (a, e) }
theorem gx_sub {a : Addr} {e : Exn} : (Gx G a e).sub = G.sub := rfl
theorem gx_cs {a : Addr} {e : Exn} : (Gx G a e).cs = G.cs := rfl
theorem gx_PY {a : Addr} {e : Exn} : (Gx G a e).PY = G.PY := rfl
theorem S_tryas (b : ISs) (x : Str) (i : Nat) (t : ISs) : semS G C (.tryas b x i t) k σ S = (semSs G C b (kX k (cov (fun e σ' S' => exS (G.sub e.cls x) (cov (fun _ => okX e.fs = true ∧ ∀ a, S' a = none → semSs (Gx G a e) C t (kW k i) (stn σ' i (.ref a)) S') .mk) (cov (fun _ => k.ex e σ' S') .mk)) .mk)) σ S) := rfl
theorem E_isx {a : Addr} {ex : Exn} (e : IE) (c : Str) : semE (Gx G a ex) C X (.isx e c) σ S Q = (semE (Gx G a ex) C X e σ S (cov (fun x S1 => x = .ref a ∧ ex.fs = [] ∧ isiS (G.sub ex.cls c) S1 Q) .mk)) := rfl
theorem E_isxs {a : Addr} {ex : Exn} (e : IE) (cs : List Str) : semE (Gx G a ex) C X (.isxs e cs) σ S Q = (semE (Gx G a ex) C X e σ S (cov (fun x S1 => x = .ref a ∧ ex.fs = [] ∧ isiS (isXs G.sub ex.cls cs) S1 Q) .mk)) := rfl
theorem E_smt (m : Sm) (o : IE) (es : IEs) : semE G C X (.smt m o es) σ S Q = (semE G C X o σ S (cov (fun x S1 => (∃ a, x = .str a) ∧ semEs G C X es σ S1 (cov (fun ds S2 => smtS m x ds S2 Q) .mk)) .mk)) := rfl
theorem E_fldx {a : Addr} {ex : Exn} (o : IE) (f : Str) : semE (Gx G a ex) C X (.fldx o f) σ S Q = (semE (Gx G a ex) C X o σ S (cov (fun x S1 => x = .ref a ∧ fldxS (G.xf ex.cls) (xpl ex.fs) f S1 Q) .mk)) := rfl
theorem E_dct (ks : List Str) (es : IEs) : semE G C X (.dct ks es) σ S Q = (∀ a, S a = none → semEs G C X es σ (put S a (.dct [])) (cov (fun ds S1 => S1 a = some (.dct []) ∧ Q (.ref a) (put S1 a (.dct (ks.zip ds)))) .mk)) := rfl
theorem E_rsl (e : IE) : semE G C X (.rsl e) σ S Q = (semE G C X e σ S (cov (fun y S1 => rslS y S1 Q) .mk)) := rfl
theorem E_gix (x : Str) (e : IE) : semE G C X (.gix x e) σ S Q = (semE G C X e σ S (cov (fun y S1 => gixS (G.kd x) y S1 Q) .mk)) := rfl
theorem E_lck (e : IE) (i : Nat) : semE G C X (.lck e i) σ S Q = lckS S (gt σ i) (cov (fun S1 Q1 => semE G C X e σ S1 Q1) .mk) Q := rfl
theorem S_raisef (x : Str) (e : IE) : semS G C (.raisef x e) k σ S = (semE G C ((cov (fun x S => k.ex x σ S) .mk)) e σ S (cov (fun d S1 => xfS (G.xf x) x d S1 (cov (fun ex S2 => k.ex ex σ S2) .mk)) .mk)) := rfl
theorem S_trym (b : ISs) (hs : IHs) : semS G C (.trym b hs) k σ S = (semSs G C b (kX k (cov (fun e σ' S' => semH G C hs k e σ' S') .mk)) σ S) := rfl
theorem S_aug (i : Nat) (e : IE) : semS G C (.aug i e) k σ S = vr (gt σ i) (cov (fun a => match a with | .int a => semE G C ((cov (fun x S => k.ex x σ S) .mk)) e σ S (cov (fun d S1 => match d with | .int b => k.nx (stn σ i (.int (a + b))) S1 | _ => False) .mk) | _ => False) .mk) := by
  cases e1 : gt σ i with
  | none => simp only [semS, e1, vr]
  | some d => cases d <;> simp only [semS, e1, vr, cov] <;> rfl
theorem H_nil (e : Exn) : semH G C .nil k e σ S = k.ex e σ S := rfl
theorem H_cons0 (x : Str) (s : ISs) (r : IHs) (e : Exn) : semH G C (.cons x none s r) k e σ S = exS (G.sub e.cls x) (cov (fun _ => semSs G C s (kX k (fun _ _ _ => False)) σ S) .mk) (cov (fun _ => semH G C r k e σ S) .mk) := rfl
theorem H_cons1 (x : Str) (i : Nat) (s : ISs) (r : IHs) (e : Exn) : semH G C (.cons x (some i) s r) k e σ S = exS (G.sub e.cls x) (cov (fun _ => okX e.fs = true ∧ ∀ a, S a = none → semSs (Gx G a e) C s (kW k i) (stn σ i (.ref a)) S) .mk) (cov (fun _ => semH G C r k e σ S) .mk) := rfl
theorem gx_xf {a : Addr} {e : Exn} : (Gx G a e).xf = G.xf := rfl
theorem gx_kd {a : Addr} {e : Exn} : (Gx G a e).kd = G.kd := rfl
theorem okx_nil : okX [] = true := rfl
theorem okx_ref (p : Addr) (n : Str) : okX [(n, .ref p)] = true := rfl
theorem xpl_ref (p : Addr) (n : Str) : xpl [(n, .ref p)] = some p := rfl
theorem xfS_i (f x : Str) (i : Int) {R : Exn → Sto → Prop} : xfS (some (f, true)) x (.int i) S R = ((i.natAbs.log2 < 1920 ∧ (Str.ofString (toString i)).length ≤ 1000) ∧ ∀ p, S p = none → R ⟨x, [("", .ref p)]⟩ (put S p (.xd [(f, .int i)]))) := rfl
theorem xfS_s (f x : Str) (z : Str) {R : Exn → Sto → Prop} : xfS (some (f, false)) x (.str z) S R = (z.length ≤ 1000 ∧ ∀ p, S p = none → R ⟨x, [("", .ref p)]⟩ (put S p (.xd [(f, .str z)]))) := rfl
theorem fldxS_p (g f : Str) (b : Bool) (p : Addr) : fldxS (some (g, b)) (some p) f S Q = (g = f ∧ vrp (xget S p) (cov (fun fs => vr (fs.lookup f) (cov (fun d => Q d S) .mk)) .mk)) := rfl
theorem rsl_l (a : Addr) : rslS (.ref a) S Q = vrl (lget S a) (cov (fun xs => ∀ c, S c = none → Q (.ref c) (put S c (.lst xs.reverse))) .mk) := rfl
theorem gixS_s (kvs : List (Str × D)) (z : Str) : gixS (some kvs) (.str z) S Q = vr (lookS kvs z) (cov (fun d => Q d S) .mk) := rfl
theorem vrp_some {f : List (Str × D) → Prop} (d : List (Str × D)) : vrp (some d) f = f d := rfl
theorem vlo_some {f : List D → Prop} {g : Unit → Prop} (d : List D) : vlo (some d) f g = f d := rfl
theorem vrC_some {f : Nat → Prop} (c : Nat) : vrC (some c) f = f c := rfl
theorem idx_s (z : Str) (n : Int) : idxS (.str z) (.int n) S Q = (z.length ≤ sizeLine ∧ vrC (atI z.cps.toList n) (cov (fun c => Q (.str ⟨#[c]⟩) S) .mk)) := rfl
theorem idx_d (a : Addr) (z : Str) : idxS (.ref a) (.str z) S Q = vrp (dget S a) (cov (fun kvs => vr (lookS kvs z) (cov (fun d => Q d S) .mk)) .mk) := rfl
theorem slc_s (z : Str) (lo hi : Option Int) : slcS (.str z) lo hi S Q = (z.length ≤ sizeLine ∧ Q (.str (cutS z lo hi)) S) := rfl
theorem b_muls {PY : Prop} (z : Str) (k : Int) : binS PY .Mult (.str z) (.int k) S Q = (MulOk z k ∧ Q (.str (Txt.mul z k)) S) := rfl
theorem int_s (a : Str) : biS .int [.str a] S Q = (∃ n, PySem.intText? a = some n ∧ a.length ≤ 640 ∧ Q (.int n) S) := rfl
theorem ord_s (x : Str) : biS .ord [.str x] S Q = (x.length = 1 ∧ Q (.int (x.cps.getD 0 0 : Nat)) S) := rfl
theorem divmod_i (i j : Int) : biS .divmod [.int i, .int j] S Q = (CDivP i j ∧ Q (.tup [.int (i / j), .int (i % j)]) S) := rfl
theorem sorted_x (x : D) : biS .sorted [x] S Q = (∃ ns : List Int, sgetL S x = some (ns.map D.int) ∧ ∀ ns' : List Int, ns'.Perm ns → ns'.Pairwise (· ≤ ·) → ∀ c, S c = none → Q (.ref c) (put S c (.lst (ns'.map D.int)))) := rfl
theorem dict_r (a : Addr) : biS .dict [.ref a] S Q = vrp (dget S a) (cov (fun kvs => ∀ c, S c = none → Q (.ref c) (put S c (.dct kvs))) .mk) := rfl
theorem sm_join (a : Str) (y : D) : smtS .join (.str a) [y] S Q = (∃ ys : List Str, sget S y = some (ys.map D.str) ∧ (ys.map (·.length)).sum + ys.length * a.length ≤ 16777216 ∧ Q (.str (Txt.join a ys)) S) := rfl
theorem sm_part (a b : Str) : smtS .partition (.str a) [.str b] S Q = ((b.length == 0) = false ∧ a.length ≤ sizeLine ∧ Q (.tup [.str (Txt.partition a b).1, .str (Txt.partition a b).2.1, .str (Txt.partition a b).2.2]) S) := rfl
theorem sm_sw (a b : Str) : smtS .startswith (.str a) [.str b] S Q = Q (.bl (Txt.startswith a b)) S := rfl
theorem sm_strip (a b : Str) : smtS .strip (.str a) [.str b] S Q = (a.length ≤ sizeLine ∧ Q (.str (Txt.stripChars a b)) S) := rfl
theorem sm_lstrip (a b : Str) : smtS .lstrip (.str a) [.str b] S Q = (a.length ≤ sizeLine ∧ Q (.str (Txt.lstripChars a b)) S) := rfl
theorem sm_zfill (a : Str) (i : Int) : smtS .zfill (.str a) [.int i] S Q = (PadOk i = true ∧ Q (.str (Txt.zfill a i)) S) := rfl
theorem sm_split (a b : Str) : smtS .split (.str a) [.str b] S Q = ((b.length == 0) = false ∧ a.length + 2 ≤ sizeLine ∧ ∀ c, S c = none → Q (.ref c) (put S c (.lst ((Txt.split a b).map D.str)))) := rfl
theorem sm_digit (a : Str) : smtS .isdigit (.str a) [] S Q = Q (.bl (Txt.isdigit a)) S := rfl
theorem sm_alnum (a : Str) : smtS .isalnum (.str a) [] S Q = Q (.bl (Txt.isalnum a)) S := rfl
theorem isstr_s (z : Str) : (∃ a, D.str z = .str a) = True := eq_true ⟨z, rfl⟩
theorem seq_s {R : Ev.Itr → Sto → Prop} (z : Str) : seqS (.str z) S R = R (.stri z) S := rfl
theorem ex_t {f g : Unit → Prop} : exS (some true) f g = f () := rfl
theorem ex_f {f g : Unit → Prop} : exS (some false) f g = g () := rfl
theorem kend_nx {E : XS} : (kend Q E).nx = (fun _ S => Q .non S) := rfl
theorem kend_rt {E : XS} : (kend Q E).rt = (Q) := rfl
theorem kend_bk {E : XS} : (kend Q E).bk = (fun _ _ => False) := rfl
theorem kend_ct {E : XS} : (kend Q E).ct = (fun _ _ => False) := rfl
theorem kend_ex {E : XS} : (kend Q E).ex = (fun x _ S => E x S) := rfl
theorem vr_some {f : D → Prop} (d : D) : vr (some d) f = (f d) := rfl
theorem gt_0 (x : Option D) (r : En) : gt (x :: r) 0 = (x) := rfl
theorem gt_s (x : Option D) (r : En) (n : Nat) : gt (x :: r) (n + 1) = (gt r n) := rfl
theorem stn_0 (x : Option D) (r : En) (d : D) : stn (x :: r) 0 d = (some d :: r) := rfl
theorem stn_s (x : Option D) (r : En) (d : D) (n : Nat) : stn (x :: r) (n + 1) d = (x :: stn r n d) := rfl
theorem wip_0 (x : Option D) (r : En) : wip1 (x :: r) 0 = (none :: r) := rfl
theorem wip_s (x : Option D) (r : En) (n : Nat) : wip1 (x :: r) (n + 1) = (x :: wip1 r n) := rfl
theorem wips_0  : wips σ [] = (σ) := rfl
theorem wips_s (i : Nat) (r : List Nat) : wips σ (i :: r) = (wips (wip1 σ i) r) := rfl
theorem neg_i (i : Int) : negS (.int i) S Q = (Q (.int (-i)) S) := rfl
theorem isi_s (b : Bool) : isiS (some b) S Q = (Q (.bl b) S) := rfl
theorem o_i {R : Option Int → Sto → Prop} (i : Int) : oS (.int i) S R = (R (some i) S) := rfl
theorem tru_non {R : Bool → Prop}  : truS .non S R = (R (false)) := rfl
theorem tru_bl {R : Bool → Prop} (b : Bool) : truS (.bl b) S R = (R (b)) := rfl
theorem tru_int {R : Bool → Prop} (i : Int) : truS (.int i) S R = (R (i != 0)) := rfl
theorem tru_tup {R : Bool → Prop} (xs : List D) : truS (.tup xs) S R = (R (!xs.isEmpty)) := rfl
theorem tru_rol {R : Bool → Prop} (xs : List D) : truS (.rol xs) S R = (R (!xs.isEmpty)) := rfl
theorem c_Eq {R : Bool → Prop} (i j : Int) : cmpS .Eq (.int i) (.int j) S R = (R (decide (i = j))) := rfl
theorem c_NotEq {R : Bool → Prop} (i j : Int) : cmpS .NotEq (.int i) (.int j) S R = (R (!decide (i = j))) := rfl
theorem c_Lt {R : Bool → Prop} (i j : Int) : cmpS .Lt (.int i) (.int j) S R = (R (decide (i < j))) := rfl
theorem c_LtE {R : Bool → Prop} (i j : Int) : cmpS .LtE (.int i) (.int j) S R = (R (decide (i ≤ j))) := rfl
theorem c_Gt {R : Bool → Prop} (i j : Int) : cmpS .Gt (.int i) (.int j) S R = (R (decide (j < i))) := rfl
theorem c_GtE {R : Bool → Prop} (i j : Int) : cmpS .GtE (.int i) (.int j) S R = (R (decide (j ≤ i))) := rfl
theorem cs_Eq {R : Bool → Prop} (i j : Str) : cmpS .Eq (.str i) (.str j) S R = (R (decide (i = j))) := rfl
theorem cs_NotEq {R : Bool → Prop} (i j : Str) : cmpS .NotEq (.str i) (.str j) S R = (R (!decide (i = j))) := rfl
theorem is_non {R : Bool → Prop}  : cmpS .Is .non .non S R = (R true) := rfl
theorem isnot_non {R : Bool → Prop}  : cmpS .IsNot .non .non S R = (R false) := rfl
theorem is_bl {R : Bool → Prop} (b : Bool) : cmpS .Is (.bl b) .non S R = (R false) := rfl
theorem isnot_bl {R : Bool → Prop} (b : Bool) : cmpS .IsNot (.bl b) .non S R = (R true) := rfl
theorem is_int {R : Bool → Prop} (i : Int) : cmpS .Is (.int i) .non S R = (R false) := rfl
theorem isnot_int {R : Bool → Prop} (i : Int) : cmpS .IsNot (.int i) .non S R = (R true) := rfl
theorem is_str {R : Bool → Prop} (x : Str) : cmpS .Is (.str x) .non S R = (R false) := rfl
theorem isnot_str {R : Bool → Prop} (x : Str) : cmpS .IsNot (.str x) .non S R = (R true) := rfl
theorem is_tup {R : Bool → Prop} (xs : List D) : cmpS .Is (.tup xs) .non S R = (R false) := rfl
theorem isnot_tup {R : Bool → Prop} (xs : List D) : cmpS .IsNot (.tup xs) .non S R = (R true) := rfl
theorem is_rol {R : Bool → Prop} (xs : List D) : cmpS .Is (.rol xs) .non S R = (R false) := rfl
theorem isnot_rol {R : Bool → Prop} (xs : List D) : cmpS .IsNot (.rol xs) .non S R = (R true) := rfl
theorem is_ref {R : Bool → Prop} (a : Addr) : cmpS .Is (.ref a) .non S R = (R false) := rfl
theorem isnot_ref {R : Bool → Prop} (a : Addr) : cmpS .IsNot (.ref a) .non S R = (R true) := rfl
theorem is_b {R : Bool → Prop} (b c : Bool) : cmpS .Is (.bl c) (.bl b) S R = (R (decide (c = b))) := rfl
theorem isnot_b {R : Bool → Prop} (b c : Bool) : cmpS .IsNot (.bl c) (.bl b) S R = (R (!decide (c = b))) := rfl
theorem in_s {R : Bool → Prop} (i j : Str) : cmpS .In (.str i) (.str j) S R = (R (!(Builtin.Str.occurrences j i 0 j.length 1).isEmpty)) := rfl
theorem notin_s {R : Bool → Prop} (i j : Str) : cmpS .NotIn (.str i) (.str j) S R = (R (!(!(Builtin.Str.occurrences j i 0 j.length 1).isEmpty))) := rfl
theorem b_add {PY : Prop} (i j : Int) : binS PY .Add (.int i) (.int j) S Q = (Q (.int (i + j)) S) := rfl
theorem b_sub {PY : Prop} (i j : Int) : binS PY .Sub (.int i) (.int j) S Q = (Q (.int (i - j)) S) := rfl
theorem b_mul {PY : Prop} (i j : Int) : binS PY .Mult (.int i) (.int j) S Q = (IntMulOk i j ∧ Q (.int (i * j)) S) := rfl
theorem b_fdiv {PY : Prop} (i j : Int) : binS PY .FloorDiv (.int i) (.int j) S Q = (FdOk PY i j ∧ Q (.int (i.fdiv j)) S) := rfl
theorem b_mod {PY : Prop} (i j : Int) : binS PY .Mod (.int i) (.int j) S Q = (j ≠ 0 ∧ Q (.int (i.fmod j)) S) := rfl
theorem b_pow {PY : Prop} (i j : Int) : binS PY .Pow (.int i) (.int j) S Q = (CPow i j ∧ Q (.int (i ^ j.toNat)) S) := rfl
theorem b_addt {PY : Prop} (xs ys : List D) : binS PY .Add (.tup xs) (.tup ys) S Q = (xs.length + ys.length ≤ sizeLine ∧ Q (.tup (xs ++ ys)) S) := rfl
theorem b_adds {PY : Prop} (a b : Str) : binS PY .Add (.str a) (.str b) S Q = (a.length + b.length ≤ sizeLine ∧ Q (.str (a ++ b)) S) := rfl
theorem slc_t (xs : List D) (lo hi : Option Int) : slcS (.tup xs) lo hi S Q = (Q (.tup (cutD xs lo hi)) S) := rfl
theorem slc_r (xs : List D) (lo hi : Option Int) : slcS (.rol xs) lo hi S Q = (∀ c, S c = none → Q (.ref c) (put S c (.lst (cutD xs lo hi)))) := rfl
theorem len_s (z : Str) : biS .len [.str z] S Q = (z.length ≤ sizeLine ∧ Q (.int z.length) S) := rfl
theorem str_i (i : Int) : biS .str [.int i] S Q = (i.natAbs.log2 < 1920 ∧ Q (.str (toString i : String)) S) := rfl
theorem abs_i (i : Int) : biS .abs [.int i] S Q = (Q (.int (if i < 0 then -i else i)) S) := rfl
theorem int_i (i : Int) : biS .int [.int i] S Q = (Q (.int i) S) := rfl
theorem int_b (b : Bool) : biS .int [.bl b] S Q = (Q (.int (if b then 1 else 0)) S) := rfl
theorem min_i (i j : Int) : biS .min2 [.int i, .int j] S Q = (Q (.int (if j < i then j else i)) S) := rfl
theorem max_i (i j : Int) : biS .max2 [.int i, .int j] S Q = (Q (.int (if j > i then j else i)) S) := rfl
theorem lcm_i (i j : Int) : biS .lcm [.int i, .int j] S Q = (i.natAbs.log2 < 13000 ∧ j.natAbs.log2 < 13000 ∧ Q (.int ((Nat.lcm i.natAbs j.natAbs : Nat) : Int)) S) := rfl
theorem gcd_i (i j : Int) : biS .gcd [.int i, .int j] S Q = (Q (.int ((Nat.gcd i.natAbs j.natAbs : Nat) : Int)) S) := rfl
theorem seq_t {R : Ev.Itr → Sto → Prop} (xs : List D) : seqS (.tup xs) S R = (R (.tup xs) S) := rfl
theorem seq_r {R : Ev.Itr → Sto → Prop} (xs : List D) : seqS (.rol xs) S R = (R (.rol xs) S) := rfl
theorem r1_i {R : Ev.Itr → Sto → Prop} (j : Int) : rng1S (.int j) S R = (-(2 ^ 62) ≤ j ∧ j < 2 ^ 62 ∧ R (.rng 0 j.toNat) S) := rfl
theorem r2_i {R : Ev.Itr → Sto → Prop} (i j : Int) : rng2S (.int i) (.int j) S R = ((-(2 ^ 62) ≤ i ∧ i < 2 ^ 62 ∧ -(2 ^ 62) ≤ j ∧ j < 2 ^ 62) ∧ R (.rng i (j - i).toNat) S) := rfl
theorem r3_i {R : Ev.Itr → Sto → Prop} (i j k : Int) : rng3S (.int i) (.int j) (.int k) S R = (∃ n, RgC i j k n ∧ R (.rngc i k n) S) := rfl
theorem a_nm {R : En → Prop} (i : Nat) (d : D) : asgS (.nm i) d σ S R = (R (stn σ i d)) := rfl
theorem a_nil {R : En → Prop} : asgsS .nil [] σ S R = (R σ) := rfl
theorem a_cons {R : En → Prop} (g : IG) (r : IGs) (d : D) (t : List D) : asgsS (.cons g r) (d :: t) σ S R = (asgS g d σ S fun σ1 => asgsS r t σ1 S R) := rfl
theorem vrl_some {f : List D → Prop} (d : List D) : vrl (some d) f = f d := rfl
theorem vrn_some {f : Nat → Prop} (d : Nat) : vrn (some d) f = f d := rfl
theorem tru_ref {R : Bool → Prop} (a : Addr) : truS (.ref a) S R = vrl (lget S a) (cov (fun xs => R (!xs.isEmpty)) .mk) := rfl
theorem b_addl {PY : Prop} (a b : Addr) : binS PY .Add (.ref a) (.ref b) S Q = vrl (lget S a) (cov (fun xs => vrl (lget S b) (cov (fun ys => xs.length + ys.length ≤ sizeLine ∧ ∀ c, S c = none → Q (.ref c) (put S c (.lst (xs ++ ys)))) .mk)) .mk) := by
  rcases e : S a with _ | (⟨xs⟩ | ⟨y, fs⟩ | kvs | ⟨o, kvs⟩ | fs)
  · simp only [binS, lget, vrl, e]
  · rcases e2 : S b with _ | (⟨xs⟩ | ⟨y, fs⟩ | kvs | ⟨o, kvs⟩ | fs) <;> simp only [binS, lget, vrl, e, e2, cov]
  all_goals simp only [binS, lget, vrl, e]
theorem b_mull {PY : Prop} (a : Addr) (k : Int) : binS PY .Mult (.ref a) (.int k) S Q = vrl (lget S a) (cov (fun xs => -(2 ^ 63) ≤ k ∧ k < 2 ^ 63 ∧ xs.length * k.toNat ≤ sizeLine ∧ ∀ c, S c = none → Q (.ref c) (put S c (.lst (List.replicate k.toNat xs).flatten))) .mk) := by
  rcases e : S a with _ | (⟨xs⟩ | ⟨y, fs⟩ | kvs | ⟨o, kvs⟩ | fs)
  · simp only [binS, lget, vrl, e]
  · simp only [binS, lget, vrl, e, cov]
  all_goals simp only [binS, lget, vrl, e]
theorem idx_t (xs : List D) (n : Int) : idxS (.tup xs) (.int n) S Q = vr (atI xs n) (cov (fun d => Q d S) .mk) := rfl
theorem idx_r (xs : List D) (n : Int) : idxS (.rol xs) (.int n) S Q = vr (atI xs n) (cov (fun d => Q d S) .mk) := rfl
theorem idx_l (a : Addr) (n : Int) : idxS (.ref a) (.int n) S Q = vrl (lget S a) (cov (fun xs => vr (atI xs n) (cov (fun d => Q d S) .mk)) .mk) := rfl
theorem slc_l (a : Addr) (lo hi : Option Int) : slcS (.ref a) lo hi S Q = vrl (lget S a) (cov (fun xs => ∀ c, S c = none → Q (.ref c) (put S c (.lst (cutD xs lo hi)))) .mk) := rfl
theorem len_t (xs : List D) : biS .len [.tup xs] S Q = Q (.int xs.length) S := rfl
theorem len_r (xs : List D) : biS .len [.rol xs] S Q = Q (.int xs.length) S := rfl
theorem len_l (a : Addr) : biS .len [.ref a] S Q = vrl (lget S a) (cov (fun xs => Q (.int xs.length) S) .mk) := rfl
theorem tuple_t (xs : List D) : biS .tuple [.tup xs] S Q = Q (.tup xs) S := rfl
theorem tuple_r (xs : List D) : biS .tuple [.rol xs] S Q = Q (.tup xs) S := rfl
theorem tuple_l (a : Addr) : biS .tuple [.ref a] S Q = vrl (lget S a) (cov (fun xs => Q (.tup xs) S) .mk) := rfl
theorem list_t (xs : List D) : biS .list [.tup xs] S Q = (∀ c, S c = none → Q (.ref c) (put S c (.lst xs))) := rfl
theorem list_r (xs : List D) : biS .list [.rol xs] S Q = (∀ c, S c = none → Q (.ref c) (put S c (.lst xs))) := rfl
theorem list_l (a : Addr) : biS .list [.ref a] S Q = vrl (lget S a) (cov (fun xs => ∀ c, S c = none → Q (.ref c) (put S c (.lst xs))) .mk) := rfl
theorem app_l (a : Addr) (y : D) : mthS .append (.ref a) [y] S Q = vrl (lget S a) (cov (fun xs => xs.length < sizeLine ∧ Q .non (put S a (.lst (xs ++ [y])))) .mk) := by
  rcases e : S a with _ | (⟨xs⟩ | ⟨y, fs⟩ | kvs | ⟨o, kvs⟩ | fs)
  · simp only [mthS, lget, vrl, e]
  · simp only [mthS, lget, vrl, e, cov] <;> rfl
  all_goals simp only [mthS, lget, vrl, e]
theorem rev_l (a : Addr) : mthS .reverse (.ref a) [] S Q = vrl (lget S a) (cov (fun xs => Q .non (put S a (.lst xs.reverse))) .mk) := by
  rcases e : S a with _ | (⟨xs⟩ | ⟨y, fs⟩ | kvs | ⟨o, kvs⟩ | fs)
  · simp only [mthS, lget, vrl, e]
  · simp only [mthS, lget, vrl, e, cov] <;> rfl
  all_goals simp only [mthS, lget, vrl, e]
theorem pop_l (a : Addr) : mthS .pop (.ref a) [] S Q = vrl (lget S a) (cov (fun xs => vr xs[xs.length - 1]? (cov (fun y => Q y (put S a (.lst xs.dropLast))) .mk)) .mk) := by
  rcases e : S a with _ | (⟨xs⟩ | ⟨y, fs⟩ | kvs | ⟨o, kvs⟩ | fs)
  · simp only [mthS, lget, vrl, e]
  · simp only [mthS, lget, vrl, e, cov] <;> rfl
  all_goals simp only [mthS, lget, vrl, e]
theorem popat_l (a : Addr) (i : Int) : mthS .popat (.ref a) [.int i] S Q = vrl (lget S a) (cov (fun xs => -(2 ^ 63) ≤ i ∧ i < 2 ^ 63 ∧ vrn (seqIndex? i xs.length) (cov (fun k => vr xs[k]? (cov (fun y => Q y (put S a (.lst (xs.eraseIdx k)))) .mk)) .mk)) .mk) := by
  rcases e : S a with _ | (⟨xs⟩ | ⟨y, fs⟩ | kvs | ⟨o, kvs⟩ | fs)
  · simp only [mthS, lget, vrl, e]
  · simp only [mthS, lget, vrl, e, cov] <;> rfl
  all_goals simp only [mthS, lget, vrl, e]
theorem mT_l (m : Me) (a : Addr) : mthT m (.ref a) S = ((lget S a).isSome = true) := by
  unfold mthT
  apply propext
  exact Option.isSome_iff_exists.symm
theorem seq_l {R : Ev.Itr → Sto → Prop} (a : Addr) : seqS (.ref a) S R = vlo (lget S a) (cov (fun _ => R (.lst a) S) .mk) (cov (fun _ => seqRS S a R) .mk) := by
  show seqRS S a R = _
  unfold seqRS lget
  rcases e : S a with _ | (xs | ⟨y, fs⟩ | kvs | ⟨o, kvs⟩ | fs) <;> simp only [vlo, cov, e]
theorem enu_l {R : Ev.Itr → Sto → Prop} (a : Addr) : enuS (.ref a) S R = vrl (lget S a) (cov (fun _ => R (.enu a) S) .mk) := rfl
theorem enu_t {R : Ev.Itr → Sto → Prop} (xs : List D) : enuS (.tup xs) S R = R (.enuT xs) S := rfl
theorem zip_l {R : Ev.Itr → Sto → Prop} (a b : Addr) : zipS (.ref a) (.ref b) S R = vrl (lget S a) (cov (fun _ => vrl (lget S b) (cov (fun _ => R (.zip a b) S) .mk)) .mk) := by
  rcases e : lget S a with _ | ⟨x, xs⟩ <;> rcases e2 : lget S b with _ | ⟨y, ys⟩ <;> simp only [zipS, vrl, e, e2, cov]
theorem in_t {R : Bool → Prop} (x : D) (ys : List D) : cmpS .In x (.tup ys) S R = (flD x = true ∧ ys.all flD = true ∧ R (inL x ys)) := rfl
theorem notin_t {R : Bool → Prop} (x : D) (ys : List D) : cmpS .NotIn x (.tup ys) S R = (flD x = true ∧ ys.all flD = true ∧ R (!inL x ys)) := rfl
theorem fl_s (a : Str) : flD (.str a) = true := rfl
theorem fl_i (a : Int) : flD (.int a) = true := rfl
theorem fl_b (a : Bool) : flD (.bl a) = true := rfl
theorem fl_n : flD .non = true := rfl
theorem inL_nil (x : D) : inL x [] = false := rfl
theorem inL_ss (a b : Str) (r : List D) : inL (.str a) (.str b :: r) = (decide (b = a) || inL (.str a) r) := by
  unfold inL
  rw [List.any_cons]
  show ((b == a) || _) = _
  congr 1
theorem inL_ii (a b : Int) (r : List D) : inL (.int a) (.int b :: r) = (decide (b = a) || inL (.int a) r) := by
  unfold inL
  rw [List.any_cons]
  rfl
theorem rev_t {R : Ev.Itr → Sto → Prop} (xs : List D) : revS (.tup xs) S R = R (.tup xs.reverse) S := rfl
theorem zip_m {R : Ev.Itr → Sto → Prop} (a : Addr) (ys : List D) : zipS (.ref a) (.tup ys) S R = vrl (lget S a) (cov (fun _ => R (.zipM a ys) S) .mk) := by
  rcases e : lget S a with _ | ⟨x, xs⟩ <;> simp only [zipS, vrl, e, cov]
theorem zip_t {R : Ev.Itr → Sto → Prop} (xs ys : List D) : zipS (.tup xs) (.tup ys) S R = R (.tup (zipD xs ys)) S := rfl
theorem rev_i {R : Ev.Itr → Sto → Prop} (a : Addr) : revS (.ref a) S R = vrl (lget S a) (cov (fun xs => R (.rev a xs.length) S) .mk) := rfl
theorem a_t {R : En → Prop} (gs : IGs) (xs : List D) : asgS (.tup gs) (.tup xs) σ S R = asgsS gs xs σ S R := by simp only [asgS, sget]
theorem a_l {R : En → Prop} (gs : IGs) (a : Addr) : asgS (.tup gs) (.ref a) σ S R = vrl (lget S a) (cov (fun xs => asgsS gs xs σ S R) .mk) := by simp only [asgS, sget]; rfl
theorem sub_l {R : Sto → Prop} (a : Addr) (n : Int) (d : D) : subS (.ref a) (.int n) d S R = vrl (lget S a) (cov (fun xs => vrn (ixN xs.length n) (cov (fun j => R (put S a (.lst (xs.set j d)))) .mk)) .mk) := by
  rcases e : S a with _ | (⟨xs⟩ | ⟨y, fs⟩ | kvs | ⟨o, kvs⟩ | fs)
  · simp only [subS, lget, vrl, e]
  · simp only [subS, lget, vrl, e, cov] <;> rfl
  all_goals simp only [subS, lget, vrl, e]
end
end Ev

/-! == of plain data -/
namespace Ev
open PySem PySem.Spec PyProof.Rows L2
mutual
theorem pd_eq {S : Sto} : ∀ (d : D) (p : PyData), pure_ d = true → Pd S d p → p = pd d
  | .non, p, _, h => by cases h; rfl
  | .bl b, p, _, h => by cases h; rfl
  | .int b, p, _, h => by cases h; rfl
  | .str b, p, _, h => by cases h; rfl
  | .tup xs, p, hp, h => by
    cases h with
    | tup g => rw [pd, pds_eq xs _ hp g]
  | .rol xs, p, hp, h => by
    cases h with
    | rol g => rw [pd, pds_eq xs _ hp g]
  | .ref _, p, hp, h => by cases hp
theorem pds_eq {S : Sto} : ∀ (ds : List D) (ps : List PyData), pures ds = true → Pds S ds ps → ps = pds ds
  | [], ps, _, h => by cases h; rfl
  | d :: r, ps, hp, h => by
    simp only [pures, Bool.and_eq_true] at hp
    cases h with
    | cons g1 g2 => rw [pds, pd_eq d _ hp.1 g1, pds_eq r _ hp.2 g2]
end
theorem eqG_pure {S : Sto} {x y : D} {Q : Bool → Prop} (hx : pure_ x = true) (hy : pure_ y = true) (sx : SeqAt.shaped (pd x) = true) (sy : SeqAt.shaped (pd y) = true) : eqG x y S Q = Q (PyData.eqv (pd x) (pd y)) := by
  apply propext
  constructor
  · rintro ⟨p, q, h1, h2, _, _, h⟩
    rw [pd_eq x p hx h1, pd_eq y q hy h2] at h
    exact h
  · intro h
    exact ⟨_, _, pd_ok S x hx, pd_ok S y hy, sx, sy, h⟩
theorem getD_mem {α : Type} {xs : List α} {i : Nat} {d : α} (h : i < xs.length) : xs.getD i d ∈ xs := by
  rw [List.getD_eq_getElem?_getD, List.getElem?_eq_getElem h]
  exact List.getElem_mem h
section
variable {S : Sto} {R : Bool → Prop}
theorem cb_Eq (i j : Bool) : cmpS .Eq (.bl i) (.bl j) S R = (R (i == j)) := eqG_pure rfl rfl rfl rfl
theorem cb_NotEq (i j : Bool) : cmpS .NotEq (.bl i) (.bl j) S R = (R (!(i == j))) := cb_Eq i j (R := fun k => R (!k))
def eqR (x y : List D) (S : Sto) (R : Bool → Prop) : Prop := eqG (.tup x) (.tup y) S R
theorem c2_Eq (a b c d : Int) : cmpS .Eq (.tup [.int a, .int b]) (.tup [.int c, .int d]) S R = (R (decide (a = c ∧ b = d))) := by
  show eqG _ _ S R = _
  rw [eqG_pure rfl rfl rfl rfl]
  congr 1
  simp [pd, pds, PyData.eqv, PyData.eqvAll]
  rfl
theorem c2_NotEq (a b c d : Int) : cmpS .NotEq (.tup [.int a, .int b]) (.tup [.int c, .int d]) S R = (R (!decide (a = c ∧ b = d))) := c2_Eq a b c d (R := fun k => R (!k))
end
theorem lget_ne {S : Sto} {a b : Addr} {o : Ob} (h : b ≠ a) : lget (put S a o) b = lget S b := by unfold lget; rw [put_ne h]
/-- what comes behind a statement, once for all its ways -/
theorem join {G : Gl0} {C : CallS} {s : IS} {k : Kt} {σ : En} {S : Sto} (P : En → Sto → Prop) (hP : ∀ σ' S', P σ' S' → k.nx σ' S') (h : ∀ N : En → Sto → Prop, (∀ σ' S', P σ' S' → N σ' S') → semS G C s (kN k N) σ S) : semS G C s k σ S := h k.nx hP
section
variable {G : Gl0} {C : CallS} {tg : IG} {elt : IE} {own : List Nat} {σ : En} {S1 : Sto} {Q : DK}
theorem comp_by {J : Ev.Itr} (n : Nat) (item : Nat → D) (I : Addr → Nat → List D → Sto → Prop) (hx : ∀ a i acc S (stop : Prop) (go : D → Prop), i ≤ n → I a i acc S → (i < n → go (item i)) → (i = n → stop) → nxt J i S stop go)
    (h0 : ∀ a, S1 a = none → I a 0 [] (put S1 a (.lst [])))
    (step : ∀ a i acc S (N : DK), i < n → I a i acc S → (∀ y S4, S4 a = some (.lst acc) → acc.length < sizeLine → I a (i + 1) (acc ++ [y]) (put S4 a (.lst (acc ++ [y]))) → N y S4) → asgS tg (item i) (wips σ own) S fun σ2 => semE G C (fun _ _ => False) elt σ2 S N)
    (done : ∀ a acc S, I a n acc S → Q (.ref a) S) : LCOMP G C J tg .no elt own σ S1 Q := by
  intro a na
  refine ⟨fun i m S => m + i = n ∧ ∃ acc, I a i acc S, ⟨n, rfl, [], h0 a na⟩, ?_⟩
  rintro i m S ⟨hm, acc, hI⟩
  refine hx a i acc S _ _ (by omega) hI (fun hi => ?_) fun hi => done a acc S (hi ▸ hI)
  exact step a i acc S _ hi hI fun y S4 h1 h2 h3 => ⟨acc, h1, h2, m - 1, by omega, by omega, _, h3⟩
theorem comp_rng {lo : Int} {n : Nat} (I : Addr → Nat → List D → Sto → Prop) (h0 : ∀ a, S1 a = none → I a 0 [] (put S1 a (.lst [])))
    (step : ∀ a i acc S (N : DK), i < n → I a i acc S → (∀ y S4, S4 a = some (.lst acc) → acc.length < sizeLine → I a (i + 1) (acc ++ [y]) (put S4 a (.lst (acc ++ [y]))) → N y S4) → asgS tg (.int (lo + i)) (wips σ own) S fun σ2 => semE G C (fun _ _ => False) elt σ2 S N)
    (done : ∀ a acc S, I a n acc S → Q (.ref a) S) : LCOMP G C (.rng lo n) tg .no elt own σ S1 Q :=
  comp_by n (fun i => .int (lo + i)) I (fun a i acc S stop go hi _ h1 h2 => nxt_rng hi h1 h2) h0 step done
theorem comp_lst {b : Addr} {xs : List D} (I : Addr → Nat → List D → Sto → Prop) (hb : ∀ a i acc S, I a i acc S → S b = some (.lst xs)) (h0 : ∀ a, S1 a = none → I a 0 [] (put S1 a (.lst [])))
    (step : ∀ a i acc S (N : DK), i < xs.length → I a i acc S → (∀ y S4, S4 a = some (.lst acc) → acc.length < sizeLine → I a (i + 1) (acc ++ [y]) (put S4 a (.lst (acc ++ [y]))) → N y S4) → asgS tg (xs.getD i .non) (wips σ own) S fun σ2 => semE G C (fun _ _ => False) elt σ2 S N)
    (done : ∀ a acc S, I a xs.length acc S → Q (.ref a) S) : LCOMP G C (.lst b) tg .no elt own σ S1 Q :=
  comp_by xs.length (fun i => xs.getD i .non) I (fun a i acc S stop go hi hI h1 h2 => by
    simp only [nxt, lget_of (hb a i acc S hI)]
    exact nxt_list hi h1 h2) h0 step done
end
/-- written words: equal as texts exactly if equal as literals -/
theorem lit_inj (a b : String) : (Str.ofString a = Str.ofString b) = (a = b) := by
  apply propext
  constructor
  · intro h
    rw [Str.ofString_eq_toList, Str.ofString_eq_toList] at h
    have h1 : a.toList.map Char.toNat = b.toList.map Char.toNat := by
      have := congrArg (fun z : Str => z.cps.toList) h
      simpa using this
    have h2 : a.toList = b.toList := by
      have inj : ∀ l m : List Char, l.map Char.toNat = m.map Char.toNat → l = m := by
        intro l
        induction l with
        | nil => intro m h; cases m with
          | nil => rfl
          | cons _ _ => cases h
        | cons c l ih =>
          intro m h
          cases m with
          | nil => cases h
          | cons d m =>
            rw [List.map_cons, List.map_cons] at h
            injection h with h3 h4
            rw [ih m h4, show c = d from Char.ext (UInt32.toNat_inj.mp h3)]
      exact inj _ _ h1
    exact String.toList_inj.mp h2
  · intro h
    rw [h]
end Ev

/-! The laws' small helpers: cells, draws, gcd. -/
namespace LA
open PySem PySem.Spec PyProof.Rows L2 Ev
def F_law_cell : Fn := ⟨2, 2,
  (.cons (.ifs (.cmp .Lt (.var 1) (.bi .len (.cons (.var 0) .nil))) (.cons (.ret (.idx (.var 0) (.var 1))) .nil) .nil) (.cons (.ret (.int 0)) .nil))⟩
def F_law_draws : Fn := ⟨4, 9,
  (.cons (.set 4 (.call "_law_cell" (.cons (.var 0) (.cons (.var 1) .nil)))) (.cons (.set 5 (.lst .nil)) (.cons (.ifs (.cmp .GtE (.var 4) (.bin .Pow (.int 10) (.int 18))) (.cons (.for_ (.nm 7) (.rng1 (.var 2)) (.cons (.expr (.mth .append (.var 5) (.cons (.bin .Mod (.bi .int (.cons (.var 4) .nil)) (.var 3)) .nil))) (.cons (.set 4 (.bin .FloorDiv (.bi .int (.cons (.var 4) .nil)) (.var 3))) .nil))) (.cons (.ret (.var 5)) .nil)) .nil) (.cons (.set 6 (.bin .Add (.bin .Add (.bin .Mod (.bi .int (.cons (.var 4) .nil)) (.int 2147483647)) (.bin .Mult (.int 3) (.var 1))) (.int 1))) (.cons (.for_ (.nm 7) (.rng1 (.var 2)) (.cons (.set 6 (.bin .Mod (.bi .int (.cons (.bin .Add (.bin .Add (.bin .Mult (.var 6) (.int 48271)) (.bin .Mult (.int 11) (.var 7))) (.var 1)) .nil)) (.int 2147483647))) (.cons (.set 8 (.bin .Mod (.bi .int (.cons (.bin .Add (.bin .Add (.bin .Mult (.var 6) (.int 69621)) (.bin .Mult (.int 5) (.var 7))) (.int 7)) .nil)) (.int 2147483629))) (.cons (.expr (.mth .append (.var 5) (.cons (.bin .Mod (.bi .int (.cons (.var 8) .nil)) (.var 3)) .nil))) .nil)))) (.cons (.ret (.var 5)) .nil))))))⟩
def F_law_gcd : Fn := ⟨2, 5,
  (.cons (.set 2 (.bi .abs (.cons (.var 0) .nil))) (.cons (.set 3 (.bi .abs (.cons (.var 1) .nil))) (.cons (.whl (.cmp .NotEq (.var 3) (.int 0)) (.cons (.set 4 (.bin .Mod (.bi .int (.cons (.var 2) .nil)) (.var 3))) (.cons (.set 2 (.var 3)) (.cons (.set 3 (.var 4)) .nil)))) (.cons (.ret (.var 2)) .nil))))⟩
theorem mulL {i j : Int} (h1 : -(2 ^ 64) < i) (h2 : i < 2 ^ 64) : IntMulOk i j := .of_left (intBits_le_64 h1 h2)
theorem mulR {i j : Int} (h1 : -(2 ^ 64) < j) (h2 : j < 2 ^ 64) : IntMulOk i j := .of_right (intBits_le_64 h1 h2)
theorem fdS {PY : Prop} {i j : Int} (h0 : 0 < j) (h1 : j < 1073741824) : FdOk PY i j := ⟨by omega, .inl (PyProof.noPylong_small (by omega))⟩
theorem szl' {n : Nat} (h : n ≤ 100000) : n < sizeLine := by
  rw [sizeLine_eq]
  omega
/-- a script's item -/
def cellOf (ns : List Int) (i : Nat) : Int := ns.getD i 0
theorem cell_bits {ns : List Int} (h : ∀ z ∈ ns, Builtin.Int.intBits z ≤ 1048576) (i : Nat) : Builtin.Int.intBits (cellOf ns i) ≤ 1048576 := by
  unfold cellOf
  by_cases hi : i < ns.length
  · rw [List.getD_eq_getElem?_getD, List.getElem?_eq_getElem hi]
    exact h _ (List.getElem_mem hi)
  · rw [List.getD_eq_getElem?_getD, List.getElem?_eq_none (by omega)]
    decide
theorem atI_map {ns : List Int} {i : Nat} (hi : i < ns.length) : atI (ns.map D.int) (i : Int) = some (.int (cellOf ns i)) := by
  refine atI_nat ?_
  unfold cellOf
  rw [List.getElem?_map, List.getElem?_eq_getElem hi, List.getD_eq_getElem?_getD, List.getElem?_eq_getElem hi]
  rfl
section
variable {G : Gl0} {T : Str → Option Fn} {k : Nat} {S : Sto} {Q : DK} {E : XS}
theorem cell_ok (hT : T "_law_cell" = some F_law_cell) (ns : List Int) (i : Nat) (h : Q (.int (cellOf ns i)) S) : semF G T (k + 1) "_law_cell" [.rol (ns.map D.int), .int i] S Q E := by
  refine call_of hT rfl ?_
  simp -dsimp -implicitDefEqProofs only [ent, List.map_cons, List.map_nil, List.length_cons, List.length_nil, Nat.reduceAdd, Nat.reduceSub, Nat.zero_add, List.replicate, List.cons_append, List.nil_append, F_law_cell]
  simp -dsimp -implicitDefEqProofs only [↓cov3, ↓cov2, ↓cov1, ↓E_var, ↓E_int, ↓E_bl, ↓E_non, ↓E_str, ↓E_glo, ↓E_tup, ↓E_lst, ↓E_bin, ↓E_neg, ↓E_cmp, ↓E_chn, ↓E_and, ↓E_or, ↓E_one, ↓E_not, ↓E_ifx, ↓E_idx, ↓E_slc, ↓E_call, ↓E_bi, ↓E_isi, ↓E_mth, ↓E_lc, ↓E_fld, ↓E_mcl, ↓E_mk, ↓Es_nil, ↓Es_cons, ↓O_no, ↓O_some, ↓Q_no, ↓Q_c, ↓C_and, ↓C_or, ↓C_one, ↓C_not, ↓C_cmp, ↓C_chn, ↓C_v, ↓I_seq, ↓I_rng1, ↓I_rng2, ↓I_rng3, ↓I_enu, ↓I_zip, ↓I_rev, ↓S_set, ↓S_asg, ↓S_par2, ↓S_sub, ↓S_expr, ↓S_ret, ↓S_retN, ↓S_ifs, ↓S_for, ↓S_brk, ↓S_cnt, ↓S_pass, ↓S_raise, ↓S_try, ↓S_tryas, ↓E_isx, ↓E_isxs, kW_nx, kW_rt, kW_bk, kW_ct, kW_ex, gx_sub, gx_cs, gx_PY, ↓S_never, ↓S_setf, ex_t, ex_f, ↓S_nil, ↓S_cons, ↓kN_nx, ↓kN_rt, ↓kN_bk, ↓kN_ct, ↓kN_ex, ↓kL_nx, ↓kL_rt, ↓kL_bk, ↓kL_ct, ↓kL_ex, ↓kX_nx, ↓kX_rt, ↓kX_bk, ↓kX_ct, ↓kX_ex, ↓kend_nx, ↓kend_rt, ↓kend_bk, ↓kend_ct, ↓kend_ex, vr_some, gt_0, gt_s, stn_0, stn_s, wip_0, wip_s, wips_0, wips_s, neg_i, isi_s, o_i, tru_non, tru_bl, tru_int, tru_tup, tru_rol, c_Eq, c_NotEq, c_Lt, c_LtE, c_Gt, c_GtE, cs_Eq, cs_NotEq, cb_Eq, cb_NotEq, c2_Eq, c2_NotEq, is_non, isnot_non, is_bl, isnot_bl, is_int, isnot_int, is_str, isnot_str, is_tup, isnot_tup, is_rol, isnot_rol, is_ref, isnot_ref, is_b, isnot_b, in_s, notin_s, b_add, b_sub, b_mul, b_fdiv, b_mod, b_pow, b_addt, b_adds, atI0, atI1, atI2, atI3, slc_t, slc_r, len_s, abs_i, str_i, int_i, int_b, min_i, max_i, lcm_i, gcd_i, seq_t, seq_r, r1_i, r2_i, r3_i, a_nm, a_nil, a_cons, vrl_some, vrn_some, put_lget, Option.isSome_some, tru_ref, b_addl, idx_t, idx_r, idx_l, slc_l, len_t, len_r, len_l, tuple_t, tuple_r, tuple_l, list_t, list_r, list_l, app_l, rev_l, pop_l, popat_l, mT_l, seq_l, enu_l, enu_t, fld_i, mcl_i, setf_i, vri_some, vrk_some, mk_0, mk_1, b_mull, zip_l, rev_i, rev_t, in_t, notin_t, fl_s, fl_i, fl_b, fl_n, inL_nil, inL_ss, inL_ii, List.all_cons, List.all_nil, Bool.and_self, Bool.and_true, Bool.true_and, zip_t, zip_m, a_t, a_l, sub_l, isTs, isT, Option.map_some, List.length_cons, List.length_nil, List.lookup_nil, Nat.reduceAdd, Nat.reduceSub, Nat.reduceLT, Nat.zero_add, Bool.false_eq_true, Bool.true_eq_false, if_false, if_true, decide_eq_true_eq, Bool.not_true, Bool.not_false, ite_true, ite_false, reduceIte, Bool.not_eq_true', decide_eq_false_iff_not, Int.cast_ofNat_Int, Int.reduceEq, Int.reduceLT, Int.reduceLE, Int.reduceNeg, Int.reduceAdd, Int.reduceSub, Int.reduceMul, Int.reduceToNat, decide_true, decide_false, not_true, not_false, not_true_eq_false, not_false_eq_true, true_and, and_true, eq_self, reduceCtorEq, List.isEmpty_nil, List.isEmpty_cons, List.nil_append, List.cons_append, ↓E_smt, ↓E_fldx, ↓E_dct, ↓E_gix, ↓E_rsl,  ↓E_lck, ↓S_raisef, ↓S_trym, ↓S_aug, H_nil, H_cons0, H_cons1, gx_xf, gx_kd, okx_nil, okx_ref, xpl_ref, xfS_i, xfS_s, fldxS_p, gixS_s, vrp_some, vlo_some, vrC_some, idx_s, idx_d, slc_s, b_muls, int_s, ord_s, divmod_i, sorted_x, dict_r, sm_join, sm_part, sm_sw, sm_strip, sm_lstrip, sm_zfill, sm_split, sm_digit, sm_alnum, isstr_s, seq_s, rsl_l, List.length_map]
  by_cases hi : i < ns.length
  · rw [if_pos (by omega), atI_map hi]
    exact h
  · rw [if_neg (by omega)]
    unfold cellOf at h
    rw [List.getD_eq_getElem?_getD, List.getElem?_eq_none (by omega)] at h
    exact h
theorem gcd_ok (hT : T "_law_gcd" = some F_law_gcd) (a b : Int) (h : Q (.int ((Nat.gcd a.natAbs b.natAbs : Nat) : Int)) S) : semF G T (k + 1) "_law_gcd" [.int a, .int b] S Q E := by
  refine call_of hT rfl ?_
  simp -dsimp -implicitDefEqProofs only [ent, List.map_cons, List.map_nil, List.length_cons, List.length_nil, Nat.reduceAdd, Nat.reduceSub, Nat.zero_add, List.replicate, List.cons_append, List.nil_append, F_law_gcd]
  simp -dsimp -implicitDefEqProofs only [↓cov3, ↓cov2, ↓cov1, ↓E_var, ↓E_int, ↓E_bl, ↓E_non, ↓E_str, ↓E_glo, ↓E_tup, ↓E_lst, ↓E_bin, ↓E_neg, ↓E_cmp, ↓E_chn, ↓E_and, ↓E_or, ↓E_one, ↓E_not, ↓E_ifx, ↓E_idx, ↓E_slc, ↓E_call, ↓E_bi, ↓E_isi, ↓E_mth, ↓E_lc, ↓E_fld, ↓E_mcl, ↓E_mk, ↓Es_nil, ↓Es_cons, ↓O_no, ↓O_some, ↓Q_no, ↓Q_c, ↓C_and, ↓C_or, ↓C_one, ↓C_not, ↓C_cmp, ↓C_chn, ↓C_v, ↓I_seq, ↓I_rng1, ↓I_rng2, ↓I_rng3, ↓I_enu, ↓I_zip, ↓I_rev, ↓S_set, ↓S_asg, ↓S_par2, ↓S_sub, ↓S_expr, ↓S_ret, ↓S_retN, ↓S_ifs, ↓S_for, ↓S_brk, ↓S_cnt, ↓S_pass, ↓S_raise, ↓S_try, ↓S_tryas, ↓E_isx, ↓E_isxs, kW_nx, kW_rt, kW_bk, kW_ct, kW_ex, gx_sub, gx_cs, gx_PY, ↓S_never, ↓S_setf, ex_t, ex_f, ↓S_nil, ↓S_cons, ↓kN_nx, ↓kN_rt, ↓kN_bk, ↓kN_ct, ↓kN_ex, ↓kL_nx, ↓kL_rt, ↓kL_bk, ↓kL_ct, ↓kL_ex, ↓kX_nx, ↓kX_rt, ↓kX_bk, ↓kX_ct, ↓kX_ex, ↓kend_nx, ↓kend_rt, ↓kend_bk, ↓kend_ct, ↓kend_ex, vr_some, gt_0, gt_s, stn_0, stn_s, wip_0, wip_s, wips_0, wips_s, neg_i, isi_s, o_i, tru_non, tru_bl, tru_int, tru_tup, tru_rol, c_Eq, c_NotEq, c_Lt, c_LtE, c_Gt, c_GtE, cs_Eq, cs_NotEq, cb_Eq, cb_NotEq, c2_Eq, c2_NotEq, is_non, isnot_non, is_bl, isnot_bl, is_int, isnot_int, is_str, isnot_str, is_tup, isnot_tup, is_rol, isnot_rol, is_ref, isnot_ref, is_b, isnot_b, in_s, notin_s, b_add, b_sub, b_mul, b_fdiv, b_mod, b_pow, b_addt, b_adds, atI0, atI1, atI2, atI3, slc_t, slc_r, len_s, abs_i, str_i, int_i, int_b, min_i, max_i, lcm_i, gcd_i, seq_t, seq_r, r1_i, r2_i, r3_i, a_nm, a_nil, a_cons, vrl_some, vrn_some, put_lget, Option.isSome_some, tru_ref, b_addl, idx_t, idx_r, idx_l, slc_l, len_t, len_r, len_l, tuple_t, tuple_r, tuple_l, list_t, list_r, list_l, app_l, rev_l, pop_l, popat_l, mT_l, seq_l, enu_l, enu_t, fld_i, mcl_i, setf_i, vri_some, vrk_some, mk_0, mk_1, b_mull, zip_l, rev_i, rev_t, in_t, notin_t, fl_s, fl_i, fl_b, fl_n, inL_nil, inL_ss, inL_ii, List.all_cons, List.all_nil, Bool.and_self, Bool.and_true, Bool.true_and, zip_t, zip_m, a_t, a_l, sub_l, isTs, isT, Option.map_some, List.length_cons, List.length_nil, List.lookup_nil, Nat.reduceAdd, Nat.reduceSub, Nat.reduceLT, Nat.zero_add, Bool.false_eq_true, Bool.true_eq_false, if_false, if_true, decide_eq_true_eq, Bool.not_true, Bool.not_false, ite_true, ite_false, reduceIte, Bool.not_eq_true', decide_eq_false_iff_not, Int.cast_ofNat_Int, Int.reduceEq, Int.reduceLT, Int.reduceLE, Int.reduceNeg, Int.reduceAdd, Int.reduceSub, Int.reduceMul, Int.reduceToNat, decide_true, decide_false, not_true, not_false, not_true_eq_false, not_false_eq_true, true_and, and_true, eq_self, reduceCtorEq, List.isEmpty_nil, List.isEmpty_cons, List.nil_append, List.cons_append, ↓E_smt, ↓E_fldx, ↓E_dct, ↓E_gix, ↓E_rsl,  ↓E_lck, ↓S_raisef, ↓S_trym, ↓S_aug, H_nil, H_cons0, H_cons1, gx_xf, gx_kd, okx_nil, okx_ref, xpl_ref, xfS_i, xfS_s, fldxS_p, gixS_s, vrp_some, vlo_some, vrC_some, idx_s, idx_d, slc_s, b_muls, int_s, ord_s, divmod_i, sorted_x, dict_r, sm_join, sm_part, sm_sw, sm_strip, sm_lstrip, sm_zfill, sm_split, sm_digit, sm_alnum, isstr_s, seq_s, rsl_l]
  refine whl_by (α := Nat × Nat × Option D) (fun x => [some (.int a), some (.int b), some (.int x.1), some (.int x.2.1), x.2.2]) (fun x S' => S' = S ∧ Nat.gcd x.1 x.2.1 = Nat.gcd a.natAbs b.natAbs) (fun x => x.2.1) (a.natAbs, b.natAbs, none) ?_ ⟨rfl, rfl⟩ ?_
  · have e : ∀ z : Int, (if z < 0 then -z else z) = (z.natAbs : Int) := fun z => by split <;> omega
    rw [e, e]
  · rintro ⟨x, y, z⟩ S' N ⟨rfl, hI⟩ hN
    simp -dsimp -implicitDefEqProofs only [↓cov3, ↓cov2, ↓cov1, ↓E_var, ↓E_int, ↓E_bl, ↓E_non, ↓E_str, ↓E_glo, ↓E_tup, ↓E_lst, ↓E_bin, ↓E_neg, ↓E_cmp, ↓E_chn, ↓E_and, ↓E_or, ↓E_one, ↓E_not, ↓E_ifx, ↓E_idx, ↓E_slc, ↓E_call, ↓E_bi, ↓E_isi, ↓E_mth, ↓E_lc, ↓E_fld, ↓E_mcl, ↓E_mk, ↓Es_nil, ↓Es_cons, ↓O_no, ↓O_some, ↓Q_no, ↓Q_c, ↓C_and, ↓C_or, ↓C_one, ↓C_not, ↓C_cmp, ↓C_chn, ↓C_v, ↓I_seq, ↓I_rng1, ↓I_rng2, ↓I_rng3, ↓I_enu, ↓I_zip, ↓I_rev, ↓S_set, ↓S_asg, ↓S_par2, ↓S_sub, ↓S_expr, ↓S_ret, ↓S_retN, ↓S_ifs, ↓S_for, ↓S_brk, ↓S_cnt, ↓S_pass, ↓S_raise, ↓S_try, ↓S_tryas, ↓E_isx, ↓E_isxs, kW_nx, kW_rt, kW_bk, kW_ct, kW_ex, gx_sub, gx_cs, gx_PY, ↓S_never, ↓S_setf, ex_t, ex_f, ↓S_nil, ↓S_cons, ↓kN_nx, ↓kN_rt, ↓kN_bk, ↓kN_ct, ↓kN_ex, ↓kL_nx, ↓kL_rt, ↓kL_bk, ↓kL_ct, ↓kL_ex, ↓kX_nx, ↓kX_rt, ↓kX_bk, ↓kX_ct, ↓kX_ex, ↓kend_nx, ↓kend_rt, ↓kend_bk, ↓kend_ct, ↓kend_ex, vr_some, gt_0, gt_s, stn_0, stn_s, wip_0, wip_s, wips_0, wips_s, neg_i, isi_s, o_i, tru_non, tru_bl, tru_int, tru_tup, tru_rol, c_Eq, c_NotEq, c_Lt, c_LtE, c_Gt, c_GtE, cs_Eq, cs_NotEq, cb_Eq, cb_NotEq, c2_Eq, c2_NotEq, is_non, isnot_non, is_bl, isnot_bl, is_int, isnot_int, is_str, isnot_str, is_tup, isnot_tup, is_rol, isnot_rol, is_ref, isnot_ref, is_b, isnot_b, in_s, notin_s, b_add, b_sub, b_mul, b_fdiv, b_mod, b_pow, b_addt, b_adds, atI0, atI1, atI2, atI3, slc_t, slc_r, len_s, abs_i, str_i, int_i, int_b, min_i, max_i, lcm_i, gcd_i, seq_t, seq_r, r1_i, r2_i, r3_i, a_nm, a_nil, a_cons, vrl_some, vrn_some, put_lget, Option.isSome_some, tru_ref, b_addl, idx_t, idx_r, idx_l, slc_l, len_t, len_r, len_l, tuple_t, tuple_r, tuple_l, list_t, list_r, list_l, app_l, rev_l, pop_l, popat_l, mT_l, seq_l, enu_l, enu_t, fld_i, mcl_i, setf_i, vri_some, vrk_some, mk_0, mk_1, b_mull, zip_l, rev_i, rev_t, in_t, notin_t, fl_s, fl_i, fl_b, fl_n, inL_nil, inL_ss, inL_ii, List.all_cons, List.all_nil, Bool.and_self, Bool.and_true, Bool.true_and, zip_t, zip_m, a_t, a_l, sub_l, isTs, isT, Option.map_some, List.length_cons, List.length_nil, List.lookup_nil, Nat.reduceAdd, Nat.reduceSub, Nat.reduceLT, Nat.zero_add, Bool.false_eq_true, Bool.true_eq_false, if_false, if_true, decide_eq_true_eq, Bool.not_true, Bool.not_false, ite_true, ite_false, reduceIte, Bool.not_eq_true', decide_eq_false_iff_not, Int.cast_ofNat_Int, Int.reduceEq, Int.reduceLT, Int.reduceLE, Int.reduceNeg, Int.reduceAdd, Int.reduceSub, Int.reduceMul, Int.reduceToNat, decide_true, decide_false, not_true, not_false, not_true_eq_false, not_false_eq_true, true_and, and_true, eq_self, reduceCtorEq, List.isEmpty_nil, List.isEmpty_cons, List.nil_append, List.cons_append, ↓E_smt, ↓E_fldx, ↓E_dct, ↓E_gix, ↓E_rsl,  ↓E_lck, ↓S_raisef, ↓S_trym, ↓S_aug, H_nil, H_cons0, H_cons1, gx_xf, gx_kd, okx_nil, okx_ref, xpl_ref, xfS_i, xfS_s, fldxS_p, gixS_s, vrp_some, vlo_some, vrC_some, idx_s, idx_d, slc_s, b_muls, int_s, ord_s, divmod_i, sorted_x, dict_r, sm_join, sm_part, sm_sw, sm_strip, sm_lstrip, sm_zfill, sm_split, sm_digit, sm_alnum, isstr_s, seq_s, rsl_l]
    refine ite2 (fun hy => ?_) fun hy => ?_
    · have hy : ¬ y = 0 := by omega
      refine ⟨by omega, ?_⟩
      have e : (x : Int).fmod (y : Int) = ((x % y : Nat) : Int) := by rw [Int.fmod_eq_emod_of_nonneg _ (by omega)]; rfl
      rw [e]
      exact hN (y, x % y, some (.int ((x % y : Nat) : Int))) S' ⟨rfl, by rw [← hI, Nat.gcd_comm x y, Nat.gcd_rec y x, Nat.gcd_comm]⟩ (Nat.mod_lt _ (by omega))
    · have hy : y = 0 := by omega
      subst hy
      rw [← hI, Nat.gcd_zero_right] at h
      exact h
/-- a row of drawn numbers -/
def Row (n : Nat) (b : Int) (row : List Int) : Prop := row.length = n ∧ ∀ z ∈ row, 0 ≤ z ∧ z < b
theorem Row.snoc {n : Nat} {b m : Int} {row : List Int} (h : Row n b row) (h0 : 0 ≤ m ∧ m < b) : Row (n + 1) b (row ++ [m]) := ⟨by rw [List.length_append, h.1]; rfl, fun y hy => by
  rcases List.mem_append.mp hy with hy | hy
  · exact h.2 y hy
  · rw [List.mem_singleton.mp hy]; exact h0⟩
theorem draws_ok (hT : T "_law_draws" = some F_law_draws) (hC : T "_law_cell" = some F_law_cell) (ns : List Int) (i n : Nat) (b : Int) (hi : i ≤ 1000) (hn : n ≤ 1000) (hb : 0 < b) (hb2 : b < 1073741824)
    (h : ∀ row r S', Row n b row → Sub S S' → S' r = some (.lst (row.map D.int)) → Q (.ref r) S') : semF G T (k + 2) "_law_draws" [.rol (ns.map D.int), .int i, .int n, .int b] S Q E := by
  refine call_of hT rfl ?_
  simp -dsimp -implicitDefEqProofs only [ent, List.map_cons, List.map_nil, List.length_cons, List.length_nil, Nat.reduceAdd, Nat.reduceSub, Nat.zero_add, List.replicate, List.cons_append, List.nil_append, F_law_draws]
  simp -dsimp -implicitDefEqProofs only [↓cov3, ↓cov2, ↓cov1, ↓E_var, ↓E_int, ↓E_bl, ↓E_non, ↓E_str, ↓E_glo, ↓E_tup, ↓E_lst, ↓E_bin, ↓E_neg, ↓E_cmp, ↓E_chn, ↓E_and, ↓E_or, ↓E_one, ↓E_not, ↓E_ifx, ↓E_idx, ↓E_slc, ↓E_call, ↓E_bi, ↓E_isi, ↓E_mth, ↓E_lc, ↓E_fld, ↓E_mcl, ↓E_mk, ↓Es_nil, ↓Es_cons, ↓O_no, ↓O_some, ↓Q_no, ↓Q_c, ↓C_and, ↓C_or, ↓C_one, ↓C_not, ↓C_cmp, ↓C_chn, ↓C_v, ↓I_seq, ↓I_rng1, ↓I_rng2, ↓I_rng3, ↓I_enu, ↓I_zip, ↓I_rev, ↓S_set, ↓S_asg, ↓S_par2, ↓S_sub, ↓S_expr, ↓S_ret, ↓S_retN, ↓S_ifs, ↓S_for, ↓S_brk, ↓S_cnt, ↓S_pass, ↓S_raise, ↓S_try, ↓S_tryas, ↓E_isx, ↓E_isxs, kW_nx, kW_rt, kW_bk, kW_ct, kW_ex, gx_sub, gx_cs, gx_PY, ↓S_never, ↓S_setf, ex_t, ex_f, ↓S_nil, ↓S_cons, ↓kN_nx, ↓kN_rt, ↓kN_bk, ↓kN_ct, ↓kN_ex, ↓kL_nx, ↓kL_rt, ↓kL_bk, ↓kL_ct, ↓kL_ex, ↓kX_nx, ↓kX_rt, ↓kX_bk, ↓kX_ct, ↓kX_ex, ↓kend_nx, ↓kend_rt, ↓kend_bk, ↓kend_ct, ↓kend_ex, vr_some, gt_0, gt_s, stn_0, stn_s, wip_0, wip_s, wips_0, wips_s, neg_i, isi_s, o_i, tru_non, tru_bl, tru_int, tru_tup, tru_rol, c_Eq, c_NotEq, c_Lt, c_LtE, c_Gt, c_GtE, cs_Eq, cs_NotEq, cb_Eq, cb_NotEq, c2_Eq, c2_NotEq, is_non, isnot_non, is_bl, isnot_bl, is_int, isnot_int, is_str, isnot_str, is_tup, isnot_tup, is_rol, isnot_rol, is_ref, isnot_ref, is_b, isnot_b, in_s, notin_s, b_add, b_sub, b_mul, b_fdiv, b_mod, b_pow, b_addt, b_adds, atI0, atI1, atI2, atI3, slc_t, slc_r, len_s, abs_i, str_i, int_i, int_b, min_i, max_i, lcm_i, gcd_i, seq_t, seq_r, r1_i, r2_i, r3_i, a_nm, a_nil, a_cons, vrl_some, vrn_some, put_lget, Option.isSome_some, tru_ref, b_addl, idx_t, idx_r, idx_l, slc_l, len_t, len_r, len_l, tuple_t, tuple_r, tuple_l, list_t, list_r, list_l, app_l, rev_l, pop_l, popat_l, mT_l, seq_l, enu_l, enu_t, fld_i, mcl_i, setf_i, vri_some, vrk_some, mk_0, mk_1, b_mull, zip_l, rev_i, rev_t, in_t, notin_t, fl_s, fl_i, fl_b, fl_n, inL_nil, inL_ss, inL_ii, List.all_cons, List.all_nil, Bool.and_self, Bool.and_true, Bool.true_and, zip_t, zip_m, a_t, a_l, sub_l, isTs, isT, Option.map_some, List.length_cons, List.length_nil, List.lookup_nil, Nat.reduceAdd, Nat.reduceSub, Nat.reduceLT, Nat.zero_add, Bool.false_eq_true, Bool.true_eq_false, if_false, if_true, decide_eq_true_eq, Bool.not_true, Bool.not_false, ite_true, ite_false, reduceIte, Bool.not_eq_true', decide_eq_false_iff_not, Int.cast_ofNat_Int, Int.reduceEq, Int.reduceLT, Int.reduceLE, Int.reduceNeg, Int.reduceAdd, Int.reduceSub, Int.reduceMul, Int.reduceToNat, decide_true, decide_false, not_true, not_false, not_true_eq_false, not_false_eq_true, true_and, and_true, eq_self, reduceCtorEq, List.isEmpty_nil, List.isEmpty_cons, List.nil_append, List.cons_append, ↓E_smt, ↓E_fldx, ↓E_dct, ↓E_gix, ↓E_rsl,  ↓E_lck, ↓S_raisef, ↓S_trym, ↓S_aug, H_nil, H_cons0, H_cons1, gx_xf, gx_kd, okx_nil, okx_ref, xpl_ref, xfS_i, xfS_s, fldxS_p, gixS_s, vrp_some, vlo_some, vrC_some, idx_s, idx_d, slc_s, b_muls, int_s, ord_s, divmod_i, sorted_x, dict_r, sm_join, sm_part, sm_sw, sm_strip, sm_lstrip, sm_zfill, sm_split, sm_digit, sm_alnum, isstr_s, seq_s, rsl_l]
  refine cell_ok hC ns i ?_
  intro r nr
  have h10 : CPow 10 18 := ⟨by decide, by decide, by decide⟩
  refine ⟨h10, ite2 (fun hbig => ?_) fun _ => ?_⟩
  · refine ⟨by omega, by omega, ?_⟩
    refine for_rng (fun j σ S' => ∃ (c : Int) (row : List Int) (z : Option D), σ = [some (.rol (ns.map D.int)), some (.int i), some (.int n), some (.int b), some (.int c), some (.ref r), none, z, none] ∧ Row j b row ∧ Sub S S' ∧ S' r = some (.lst (row.map D.int)))
      ⟨_, [], none, rfl, ⟨rfl, fun _ h => by cases h⟩, Sub.new nr, put_same⟩ ?_ ?_
    · rintro j σ S' N hj ⟨c, row, z, rfl, hr, hs, hl⟩ hN
      simp -dsimp -implicitDefEqProofs only [↓cov3, ↓cov2, ↓cov1, ↓E_var, ↓E_int, ↓E_bl, ↓E_non, ↓E_str, ↓E_glo, ↓E_tup, ↓E_lst, ↓E_bin, ↓E_neg, ↓E_cmp, ↓E_chn, ↓E_and, ↓E_or, ↓E_one, ↓E_not, ↓E_ifx, ↓E_idx, ↓E_slc, ↓E_call, ↓E_bi, ↓E_isi, ↓E_mth, ↓E_lc, ↓E_fld, ↓E_mcl, ↓E_mk, ↓Es_nil, ↓Es_cons, ↓O_no, ↓O_some, ↓Q_no, ↓Q_c, ↓C_and, ↓C_or, ↓C_one, ↓C_not, ↓C_cmp, ↓C_chn, ↓C_v, ↓I_seq, ↓I_rng1, ↓I_rng2, ↓I_rng3, ↓I_enu, ↓I_zip, ↓I_rev, ↓S_set, ↓S_asg, ↓S_par2, ↓S_sub, ↓S_expr, ↓S_ret, ↓S_retN, ↓S_ifs, ↓S_for, ↓S_brk, ↓S_cnt, ↓S_pass, ↓S_raise, ↓S_try, ↓S_tryas, ↓E_isx, ↓E_isxs, kW_nx, kW_rt, kW_bk, kW_ct, kW_ex, gx_sub, gx_cs, gx_PY, ↓S_never, ↓S_setf, ex_t, ex_f, ↓S_nil, ↓S_cons, ↓kN_nx, ↓kN_rt, ↓kN_bk, ↓kN_ct, ↓kN_ex, ↓kL_nx, ↓kL_rt, ↓kL_bk, ↓kL_ct, ↓kL_ex, ↓kX_nx, ↓kX_rt, ↓kX_bk, ↓kX_ct, ↓kX_ex, ↓kend_nx, ↓kend_rt, ↓kend_bk, ↓kend_ct, ↓kend_ex, vr_some, gt_0, gt_s, stn_0, stn_s, wip_0, wip_s, wips_0, wips_s, neg_i, isi_s, o_i, tru_non, tru_bl, tru_int, tru_tup, tru_rol, c_Eq, c_NotEq, c_Lt, c_LtE, c_Gt, c_GtE, cs_Eq, cs_NotEq, cb_Eq, cb_NotEq, c2_Eq, c2_NotEq, is_non, isnot_non, is_bl, isnot_bl, is_int, isnot_int, is_str, isnot_str, is_tup, isnot_tup, is_rol, isnot_rol, is_ref, isnot_ref, is_b, isnot_b, in_s, notin_s, b_add, b_sub, b_mul, b_fdiv, b_mod, b_pow, b_addt, b_adds, atI0, atI1, atI2, atI3, slc_t, slc_r, len_s, abs_i, str_i, int_i, int_b, min_i, max_i, lcm_i, gcd_i, seq_t, seq_r, r1_i, r2_i, r3_i, a_nm, a_nil, a_cons, vrl_some, vrn_some, put_lget, Option.isSome_some, tru_ref, b_addl, idx_t, idx_r, idx_l, slc_l, len_t, len_r, len_l, tuple_t, tuple_r, tuple_l, list_t, list_r, list_l, app_l, rev_l, pop_l, popat_l, mT_l, seq_l, enu_l, enu_t, fld_i, mcl_i, setf_i, vri_some, vrk_some, mk_0, mk_1, b_mull, zip_l, rev_i, rev_t, in_t, notin_t, fl_s, fl_i, fl_b, fl_n, inL_nil, inL_ss, inL_ii, List.all_cons, List.all_nil, Bool.and_self, Bool.and_true, Bool.true_and, zip_t, zip_m, a_t, a_l, sub_l, isTs, isT, Option.map_some, List.length_cons, List.length_nil, List.lookup_nil, Nat.reduceAdd, Nat.reduceSub, Nat.reduceLT, Nat.zero_add, Bool.false_eq_true, Bool.true_eq_false, if_false, if_true, decide_eq_true_eq, Bool.not_true, Bool.not_false, ite_true, ite_false, reduceIte, Bool.not_eq_true', decide_eq_false_iff_not, Int.cast_ofNat_Int, Int.reduceEq, Int.reduceLT, Int.reduceLE, Int.reduceNeg, Int.reduceAdd, Int.reduceSub, Int.reduceMul, Int.reduceToNat, decide_true, decide_false, not_true, not_false, not_true_eq_false, not_false_eq_true, true_and, and_true, eq_self, reduceCtorEq, List.isEmpty_nil, List.isEmpty_cons, List.nil_append, List.cons_append, ↓E_smt, ↓E_fldx, ↓E_dct, ↓E_gix, ↓E_rsl,  ↓E_lck, ↓S_raisef, ↓S_trym, ↓S_aug, H_nil, H_cons0, H_cons1, gx_xf, gx_kd, okx_nil, okx_ref, xpl_ref, xfS_i, xfS_s, fldxS_p, gixS_s, vrp_some, vlo_some, vrC_some, idx_s, idx_d, slc_s, b_muls, int_s, ord_s, divmod_i, sorted_x, dict_r, sm_join, sm_part, sm_sw, sm_strip, sm_lstrip, sm_zfill, sm_split, sm_digit, sm_alnum, isstr_s, seq_s, rsl_l, lget_of hl]
      have hm : 0 ≤ c.fmod b ∧ c.fmod b < b := ⟨Int.fmod_nonneg_of_pos c hb, Int.fmod_lt_of_pos c hb⟩
      refine ⟨by omega, small1000 (by rw [List.length_map, hr.1]; omega), fdS hb hb2, ?_⟩
      exact hN _ _ ⟨c.fdiv b, row ++ [c.fmod b], _, rfl, hr.snoc hm, hs.write nr, by rw [put_same, List.map_append]; rfl⟩
    · rintro σ S' ⟨c, row, z, rfl, hr, hs, hl⟩
      simp -dsimp -implicitDefEqProofs only [↓cov3, ↓cov2, ↓cov1, ↓E_var, ↓E_int, ↓E_bl, ↓E_non, ↓E_str, ↓E_glo, ↓E_tup, ↓E_lst, ↓E_bin, ↓E_neg, ↓E_cmp, ↓E_chn, ↓E_and, ↓E_or, ↓E_one, ↓E_not, ↓E_ifx, ↓E_idx, ↓E_slc, ↓E_call, ↓E_bi, ↓E_isi, ↓E_mth, ↓E_lc, ↓E_fld, ↓E_mcl, ↓E_mk, ↓Es_nil, ↓Es_cons, ↓O_no, ↓O_some, ↓Q_no, ↓Q_c, ↓C_and, ↓C_or, ↓C_one, ↓C_not, ↓C_cmp, ↓C_chn, ↓C_v, ↓I_seq, ↓I_rng1, ↓I_rng2, ↓I_rng3, ↓I_enu, ↓I_zip, ↓I_rev, ↓S_set, ↓S_asg, ↓S_par2, ↓S_sub, ↓S_expr, ↓S_ret, ↓S_retN, ↓S_ifs, ↓S_for, ↓S_brk, ↓S_cnt, ↓S_pass, ↓S_raise, ↓S_try, ↓S_tryas, ↓E_isx, ↓E_isxs, kW_nx, kW_rt, kW_bk, kW_ct, kW_ex, gx_sub, gx_cs, gx_PY, ↓S_never, ↓S_setf, ex_t, ex_f, ↓S_nil, ↓S_cons, ↓kN_nx, ↓kN_rt, ↓kN_bk, ↓kN_ct, ↓kN_ex, ↓kL_nx, ↓kL_rt, ↓kL_bk, ↓kL_ct, ↓kL_ex, ↓kX_nx, ↓kX_rt, ↓kX_bk, ↓kX_ct, ↓kX_ex, ↓kend_nx, ↓kend_rt, ↓kend_bk, ↓kend_ct, ↓kend_ex, vr_some, gt_0, gt_s, stn_0, stn_s, wip_0, wip_s, wips_0, wips_s, neg_i, isi_s, o_i, tru_non, tru_bl, tru_int, tru_tup, tru_rol, c_Eq, c_NotEq, c_Lt, c_LtE, c_Gt, c_GtE, cs_Eq, cs_NotEq, cb_Eq, cb_NotEq, c2_Eq, c2_NotEq, is_non, isnot_non, is_bl, isnot_bl, is_int, isnot_int, is_str, isnot_str, is_tup, isnot_tup, is_rol, isnot_rol, is_ref, isnot_ref, is_b, isnot_b, in_s, notin_s, b_add, b_sub, b_mul, b_fdiv, b_mod, b_pow, b_addt, b_adds, atI0, atI1, atI2, atI3, slc_t, slc_r, len_s, abs_i, str_i, int_i, int_b, min_i, max_i, lcm_i, gcd_i, seq_t, seq_r, r1_i, r2_i, r3_i, a_nm, a_nil, a_cons, vrl_some, vrn_some, put_lget, Option.isSome_some, tru_ref, b_addl, idx_t, idx_r, idx_l, slc_l, len_t, len_r, len_l, tuple_t, tuple_r, tuple_l, list_t, list_r, list_l, app_l, rev_l, pop_l, popat_l, mT_l, seq_l, enu_l, enu_t, fld_i, mcl_i, setf_i, vri_some, vrk_some, mk_0, mk_1, b_mull, zip_l, rev_i, rev_t, in_t, notin_t, fl_s, fl_i, fl_b, fl_n, inL_nil, inL_ss, inL_ii, List.all_cons, List.all_nil, Bool.and_self, Bool.and_true, Bool.true_and, zip_t, zip_m, a_t, a_l, sub_l, isTs, isT, Option.map_some, List.length_cons, List.length_nil, List.lookup_nil, Nat.reduceAdd, Nat.reduceSub, Nat.reduceLT, Nat.zero_add, Bool.false_eq_true, Bool.true_eq_false, if_false, if_true, decide_eq_true_eq, Bool.not_true, Bool.not_false, ite_true, ite_false, reduceIte, Bool.not_eq_true', decide_eq_false_iff_not, Int.cast_ofNat_Int, Int.reduceEq, Int.reduceLT, Int.reduceLE, Int.reduceNeg, Int.reduceAdd, Int.reduceSub, Int.reduceMul, Int.reduceToNat, decide_true, decide_false, not_true, not_false, not_true_eq_false, not_false_eq_true, true_and, and_true, eq_self, reduceCtorEq, List.isEmpty_nil, List.isEmpty_cons, List.nil_append, List.cons_append, ↓E_smt, ↓E_fldx, ↓E_dct, ↓E_gix, ↓E_rsl,  ↓E_lck, ↓S_raisef, ↓S_trym, ↓S_aug, H_nil, H_cons0, H_cons1, gx_xf, gx_kd, okx_nil, okx_ref, xpl_ref, xfS_i, xfS_s, fldxS_p, gixS_s, vrp_some, vlo_some, vrC_some, idx_s, idx_d, slc_s, b_muls, int_s, ord_s, divmod_i, sorted_x, dict_r, sm_join, sm_part, sm_sw, sm_strip, sm_lstrip, sm_zfill, sm_split, sm_digit, sm_alnum, isstr_s, seq_s, rsl_l]
      rw [Int.toNat_natCast] at hr
      exact h row r S' hr hs hl
  · simp -dsimp -implicitDefEqProofs only [↓cov3, ↓cov2, ↓cov1, ↓E_var, ↓E_int, ↓E_bl, ↓E_non, ↓E_str, ↓E_glo, ↓E_tup, ↓E_lst, ↓E_bin, ↓E_neg, ↓E_cmp, ↓E_chn, ↓E_and, ↓E_or, ↓E_one, ↓E_not, ↓E_ifx, ↓E_idx, ↓E_slc, ↓E_call, ↓E_bi, ↓E_isi, ↓E_mth, ↓E_lc, ↓E_fld, ↓E_mcl, ↓E_mk, ↓Es_nil, ↓Es_cons, ↓O_no, ↓O_some, ↓Q_no, ↓Q_c, ↓C_and, ↓C_or, ↓C_one, ↓C_not, ↓C_cmp, ↓C_chn, ↓C_v, ↓I_seq, ↓I_rng1, ↓I_rng2, ↓I_rng3, ↓I_enu, ↓I_zip, ↓I_rev, ↓S_set, ↓S_asg, ↓S_par2, ↓S_sub, ↓S_expr, ↓S_ret, ↓S_retN, ↓S_ifs, ↓S_for, ↓S_brk, ↓S_cnt, ↓S_pass, ↓S_raise, ↓S_try, ↓S_tryas, ↓E_isx, ↓E_isxs, kW_nx, kW_rt, kW_bk, kW_ct, kW_ex, gx_sub, gx_cs, gx_PY, ↓S_never, ↓S_setf, ex_t, ex_f, ↓S_nil, ↓S_cons, ↓kN_nx, ↓kN_rt, ↓kN_bk, ↓kN_ct, ↓kN_ex, ↓kL_nx, ↓kL_rt, ↓kL_bk, ↓kL_ct, ↓kL_ex, ↓kX_nx, ↓kX_rt, ↓kX_bk, ↓kX_ct, ↓kX_ex, ↓kend_nx, ↓kend_rt, ↓kend_bk, ↓kend_ct, ↓kend_ex, vr_some, gt_0, gt_s, stn_0, stn_s, wip_0, wip_s, wips_0, wips_s, neg_i, isi_s, o_i, tru_non, tru_bl, tru_int, tru_tup, tru_rol, c_Eq, c_NotEq, c_Lt, c_LtE, c_Gt, c_GtE, cs_Eq, cs_NotEq, cb_Eq, cb_NotEq, c2_Eq, c2_NotEq, is_non, isnot_non, is_bl, isnot_bl, is_int, isnot_int, is_str, isnot_str, is_tup, isnot_tup, is_rol, isnot_rol, is_ref, isnot_ref, is_b, isnot_b, in_s, notin_s, b_add, b_sub, b_mul, b_fdiv, b_mod, b_pow, b_addt, b_adds, atI0, atI1, atI2, atI3, slc_t, slc_r, len_s, abs_i, str_i, int_i, int_b, min_i, max_i, lcm_i, gcd_i, seq_t, seq_r, r1_i, r2_i, r3_i, a_nm, a_nil, a_cons, vrl_some, vrn_some, put_lget, Option.isSome_some, tru_ref, b_addl, idx_t, idx_r, idx_l, slc_l, len_t, len_r, len_l, tuple_t, tuple_r, tuple_l, list_t, list_r, list_l, app_l, rev_l, pop_l, popat_l, mT_l, seq_l, enu_l, enu_t, fld_i, mcl_i, setf_i, vri_some, vrk_some, mk_0, mk_1, b_mull, zip_l, rev_i, rev_t, in_t, notin_t, fl_s, fl_i, fl_b, fl_n, inL_nil, inL_ss, inL_ii, List.all_cons, List.all_nil, Bool.and_self, Bool.and_true, Bool.true_and, zip_t, zip_m, a_t, a_l, sub_l, isTs, isT, Option.map_some, List.length_cons, List.length_nil, List.lookup_nil, Nat.reduceAdd, Nat.reduceSub, Nat.reduceLT, Nat.zero_add, Bool.false_eq_true, Bool.true_eq_false, if_false, if_true, decide_eq_true_eq, Bool.not_true, Bool.not_false, ite_true, ite_false, reduceIte, Bool.not_eq_true', decide_eq_false_iff_not, Int.cast_ofNat_Int, Int.reduceEq, Int.reduceLT, Int.reduceLE, Int.reduceNeg, Int.reduceAdd, Int.reduceSub, Int.reduceMul, Int.reduceToNat, decide_true, decide_false, not_true, not_false, not_true_eq_false, not_false_eq_true, true_and, and_true, eq_self, reduceCtorEq, List.isEmpty_nil, List.isEmpty_cons, List.nil_append, List.cons_append, ↓E_smt, ↓E_fldx, ↓E_dct, ↓E_gix, ↓E_rsl,  ↓E_lck, ↓S_raisef, ↓S_trym, ↓S_aug, H_nil, H_cons0, H_cons1, gx_xf, gx_kd, okx_nil, okx_ref, xpl_ref, xfS_i, xfS_s, fldxS_p, gixS_s, vrp_some, vlo_some, vrC_some, idx_s, idx_d, slc_s, b_muls, int_s, ord_s, divmod_i, sorted_x, dict_r, sm_join, sm_part, sm_sw, sm_strip, sm_lstrip, sm_zfill, sm_split, sm_digit, sm_alnum, isstr_s, seq_s, rsl_l]
    refine ⟨by decide, mulL (by decide) (by decide), by omega, by omega, ?_⟩
    refine for_rng (fun j σ S' => ∃ (c : Int) (row : List Int) (z z2 : Option D), σ = [some (.rol (ns.map D.int)), some (.int i), some (.int n), some (.int b), some (.int (cellOf ns i)), some (.ref r), some (.int c), z, z2] ∧ Row j b row ∧ Sub S S' ∧ S' r = some (.lst (row.map D.int)))
      ⟨_, [], none, none, rfl, ⟨rfl, fun _ h => by cases h⟩, Sub.new nr, put_same⟩ ?_ ?_
    · rintro j σ S' N hj ⟨c, row, z, z2, rfl, hr, hs, hl⟩ hN
      simp -dsimp -implicitDefEqProofs only [↓cov3, ↓cov2, ↓cov1, ↓E_var, ↓E_int, ↓E_bl, ↓E_non, ↓E_str, ↓E_glo, ↓E_tup, ↓E_lst, ↓E_bin, ↓E_neg, ↓E_cmp, ↓E_chn, ↓E_and, ↓E_or, ↓E_one, ↓E_not, ↓E_ifx, ↓E_idx, ↓E_slc, ↓E_call, ↓E_bi, ↓E_isi, ↓E_mth, ↓E_lc, ↓E_fld, ↓E_mcl, ↓E_mk, ↓Es_nil, ↓Es_cons, ↓O_no, ↓O_some, ↓Q_no, ↓Q_c, ↓C_and, ↓C_or, ↓C_one, ↓C_not, ↓C_cmp, ↓C_chn, ↓C_v, ↓I_seq, ↓I_rng1, ↓I_rng2, ↓I_rng3, ↓I_enu, ↓I_zip, ↓I_rev, ↓S_set, ↓S_asg, ↓S_par2, ↓S_sub, ↓S_expr, ↓S_ret, ↓S_retN, ↓S_ifs, ↓S_for, ↓S_brk, ↓S_cnt, ↓S_pass, ↓S_raise, ↓S_try, ↓S_tryas, ↓E_isx, ↓E_isxs, kW_nx, kW_rt, kW_bk, kW_ct, kW_ex, gx_sub, gx_cs, gx_PY, ↓S_never, ↓S_setf, ex_t, ex_f, ↓S_nil, ↓S_cons, ↓kN_nx, ↓kN_rt, ↓kN_bk, ↓kN_ct, ↓kN_ex, ↓kL_nx, ↓kL_rt, ↓kL_bk, ↓kL_ct, ↓kL_ex, ↓kX_nx, ↓kX_rt, ↓kX_bk, ↓kX_ct, ↓kX_ex, ↓kend_nx, ↓kend_rt, ↓kend_bk, ↓kend_ct, ↓kend_ex, vr_some, gt_0, gt_s, stn_0, stn_s, wip_0, wip_s, wips_0, wips_s, neg_i, isi_s, o_i, tru_non, tru_bl, tru_int, tru_tup, tru_rol, c_Eq, c_NotEq, c_Lt, c_LtE, c_Gt, c_GtE, cs_Eq, cs_NotEq, cb_Eq, cb_NotEq, c2_Eq, c2_NotEq, is_non, isnot_non, is_bl, isnot_bl, is_int, isnot_int, is_str, isnot_str, is_tup, isnot_tup, is_rol, isnot_rol, is_ref, isnot_ref, is_b, isnot_b, in_s, notin_s, b_add, b_sub, b_mul, b_fdiv, b_mod, b_pow, b_addt, b_adds, atI0, atI1, atI2, atI3, slc_t, slc_r, len_s, abs_i, str_i, int_i, int_b, min_i, max_i, lcm_i, gcd_i, seq_t, seq_r, r1_i, r2_i, r3_i, a_nm, a_nil, a_cons, vrl_some, vrn_some, put_lget, Option.isSome_some, tru_ref, b_addl, idx_t, idx_r, idx_l, slc_l, len_t, len_r, len_l, tuple_t, tuple_r, tuple_l, list_t, list_r, list_l, app_l, rev_l, pop_l, popat_l, mT_l, seq_l, enu_l, enu_t, fld_i, mcl_i, setf_i, vri_some, vrk_some, mk_0, mk_1, b_mull, zip_l, rev_i, rev_t, in_t, notin_t, fl_s, fl_i, fl_b, fl_n, inL_nil, inL_ss, inL_ii, List.all_cons, List.all_nil, Bool.and_self, Bool.and_true, Bool.true_and, zip_t, zip_m, a_t, a_l, sub_l, isTs, isT, Option.map_some, List.length_cons, List.length_nil, List.lookup_nil, Nat.reduceAdd, Nat.reduceSub, Nat.reduceLT, Nat.zero_add, Bool.false_eq_true, Bool.true_eq_false, if_false, if_true, decide_eq_true_eq, Bool.not_true, Bool.not_false, ite_true, ite_false, reduceIte, Bool.not_eq_true', decide_eq_false_iff_not, Int.cast_ofNat_Int, Int.reduceEq, Int.reduceLT, Int.reduceLE, Int.reduceNeg, Int.reduceAdd, Int.reduceSub, Int.reduceMul, Int.reduceToNat, decide_true, decide_false, not_true, not_false, not_true_eq_false, not_false_eq_true, true_and, and_true, eq_self, reduceCtorEq, List.isEmpty_nil, List.isEmpty_cons, List.nil_append, List.cons_append, ↓E_smt, ↓E_fldx, ↓E_dct, ↓E_gix, ↓E_rsl,  ↓E_lck, ↓S_raisef, ↓S_trym, ↓S_aug, H_nil, H_cons0, H_cons1, gx_xf, gx_kd, okx_nil, okx_ref, xpl_ref, xfS_i, xfS_s, fldxS_p, gixS_s, vrp_some, vlo_some, vrC_some, idx_s, idx_d, slc_s, b_muls, int_s, ord_s, divmod_i, sorted_x, dict_r, sm_join, sm_part, sm_sw, sm_strip, sm_lstrip, sm_zfill, sm_split, sm_digit, sm_alnum, isstr_s, seq_s, rsl_l, lget_of hl]
      refine ⟨mulR (by decide) (by decide), mulL (by decide) (by decide), by decide, mulR (by decide) (by decide), mulL (by decide) (by decide), by decide, by omega, small1000 (by rw [List.length_map, hr.1]; omega), ?_⟩
      exact hN _ _ ⟨_, row ++ [((((c * 48271 + 11 * (0 + (j : Int)) + i).fmod 2147483647 * 69621 + 5 * (0 + (j : Int)) + 7).fmod 2147483629).fmod b)], _, _, rfl, hr.snoc ⟨Int.fmod_nonneg_of_pos _ hb, Int.fmod_lt_of_pos _ hb⟩, hs.write nr, by rw [put_same, List.map_append]; rfl⟩
    · rintro σ S' ⟨c, row, z, z2, rfl, hr, hs, hl⟩
      simp -dsimp -implicitDefEqProofs only [↓cov3, ↓cov2, ↓cov1, ↓E_var, ↓E_int, ↓E_bl, ↓E_non, ↓E_str, ↓E_glo, ↓E_tup, ↓E_lst, ↓E_bin, ↓E_neg, ↓E_cmp, ↓E_chn, ↓E_and, ↓E_or, ↓E_one, ↓E_not, ↓E_ifx, ↓E_idx, ↓E_slc, ↓E_call, ↓E_bi, ↓E_isi, ↓E_mth, ↓E_lc, ↓E_fld, ↓E_mcl, ↓E_mk, ↓Es_nil, ↓Es_cons, ↓O_no, ↓O_some, ↓Q_no, ↓Q_c, ↓C_and, ↓C_or, ↓C_one, ↓C_not, ↓C_cmp, ↓C_chn, ↓C_v, ↓I_seq, ↓I_rng1, ↓I_rng2, ↓I_rng3, ↓I_enu, ↓I_zip, ↓I_rev, ↓S_set, ↓S_asg, ↓S_par2, ↓S_sub, ↓S_expr, ↓S_ret, ↓S_retN, ↓S_ifs, ↓S_for, ↓S_brk, ↓S_cnt, ↓S_pass, ↓S_raise, ↓S_try, ↓S_tryas, ↓E_isx, ↓E_isxs, kW_nx, kW_rt, kW_bk, kW_ct, kW_ex, gx_sub, gx_cs, gx_PY, ↓S_never, ↓S_setf, ex_t, ex_f, ↓S_nil, ↓S_cons, ↓kN_nx, ↓kN_rt, ↓kN_bk, ↓kN_ct, ↓kN_ex, ↓kL_nx, ↓kL_rt, ↓kL_bk, ↓kL_ct, ↓kL_ex, ↓kX_nx, ↓kX_rt, ↓kX_bk, ↓kX_ct, ↓kX_ex, ↓kend_nx, ↓kend_rt, ↓kend_bk, ↓kend_ct, ↓kend_ex, vr_some, gt_0, gt_s, stn_0, stn_s, wip_0, wip_s, wips_0, wips_s, neg_i, isi_s, o_i, tru_non, tru_bl, tru_int, tru_tup, tru_rol, c_Eq, c_NotEq, c_Lt, c_LtE, c_Gt, c_GtE, cs_Eq, cs_NotEq, cb_Eq, cb_NotEq, c2_Eq, c2_NotEq, is_non, isnot_non, is_bl, isnot_bl, is_int, isnot_int, is_str, isnot_str, is_tup, isnot_tup, is_rol, isnot_rol, is_ref, isnot_ref, is_b, isnot_b, in_s, notin_s, b_add, b_sub, b_mul, b_fdiv, b_mod, b_pow, b_addt, b_adds, atI0, atI1, atI2, atI3, slc_t, slc_r, len_s, abs_i, str_i, int_i, int_b, min_i, max_i, lcm_i, gcd_i, seq_t, seq_r, r1_i, r2_i, r3_i, a_nm, a_nil, a_cons, vrl_some, vrn_some, put_lget, Option.isSome_some, tru_ref, b_addl, idx_t, idx_r, idx_l, slc_l, len_t, len_r, len_l, tuple_t, tuple_r, tuple_l, list_t, list_r, list_l, app_l, rev_l, pop_l, popat_l, mT_l, seq_l, enu_l, enu_t, fld_i, mcl_i, setf_i, vri_some, vrk_some, mk_0, mk_1, b_mull, zip_l, rev_i, rev_t, in_t, notin_t, fl_s, fl_i, fl_b, fl_n, inL_nil, inL_ss, inL_ii, List.all_cons, List.all_nil, Bool.and_self, Bool.and_true, Bool.true_and, zip_t, zip_m, a_t, a_l, sub_l, isTs, isT, Option.map_some, List.length_cons, List.length_nil, List.lookup_nil, Nat.reduceAdd, Nat.reduceSub, Nat.reduceLT, Nat.zero_add, Bool.false_eq_true, Bool.true_eq_false, if_false, if_true, decide_eq_true_eq, Bool.not_true, Bool.not_false, ite_true, ite_false, reduceIte, Bool.not_eq_true', decide_eq_false_iff_not, Int.cast_ofNat_Int, Int.reduceEq, Int.reduceLT, Int.reduceLE, Int.reduceNeg, Int.reduceAdd, Int.reduceSub, Int.reduceMul, Int.reduceToNat, decide_true, decide_false, not_true, not_false, not_true_eq_false, not_false_eq_true, true_and, and_true, eq_self, reduceCtorEq, List.isEmpty_nil, List.isEmpty_cons, List.nil_append, List.cons_append, ↓E_smt, ↓E_fldx, ↓E_dct, ↓E_gix, ↓E_rsl,  ↓E_lck, ↓S_raisef, ↓S_trym, ↓S_aug, H_nil, H_cons0, H_cons1, gx_xf, gx_kd, okx_nil, okx_ref, xpl_ref, xfS_i, xfS_s, fldxS_p, gixS_s, vrp_some, vlo_some, vrC_some, idx_s, idx_d, slc_s, b_muls, int_s, ord_s, divmod_i, sorted_x, dict_r, sm_join, sm_part, sm_sw, sm_strip, sm_lstrip, sm_zfill, sm_split, sm_digit, sm_alnum, isstr_s, seq_s, rsl_l]
      rw [Int.toNat_natCast] at hr
      exact h row r S' hr hs hl
end
end LA

/-! The program's rational numbers: what each def computes, over Rat. -/
namespace LA
open PySem PySem.Spec PyProof.Rows L2 Ev
def F_rational : Fn := ⟨2, 3,
  (.cons (.ifs (.cmp .Eq (.var 1) (.int 0)) (.cons (.raise "ZeroDivisor" (.cons (.str "denominator 0") .nil)) .nil) .nil) (.cons (.set 2 (.bi .gcd (.cons (.var 0) (.cons (.var 1) .nil)))) (.cons (.ifs (.cmp .Lt (.var 1) (.int 0)) (.cons (.set 2 (.neg (.var 2))) .nil) .nil) (.cons (.ret (.tup (.cons (.bin .FloorDiv (.var 0) (.var 2)) (.cons (.bin .FloorDiv (.var 1) (.var 2)) .nil)))) .nil))))⟩
def F_radd : Fn := ⟨2, 2,
  (.cons (.ifs (.and (.cmp .Eq (.idx (.var 0) (.int 1)) (.int 1)) (.one (.cmp .Eq (.idx (.var 1) (.int 1)) (.int 1)))) (.cons (.ret (.tup (.cons (.bin .Add (.idx (.var 0) (.int 0)) (.idx (.var 1) (.int 0))) (.cons (.int 1) .nil)))) .nil) .nil) (.cons (.ret (.call "rational" (.cons (.bin .Add (.bin .Mult (.idx (.var 0) (.int 0)) (.idx (.var 1) (.int 1))) (.bin .Mult (.idx (.var 1) (.int 0)) (.idx (.var 0) (.int 1)))) (.cons (.bin .Mult (.idx (.var 0) (.int 1)) (.idx (.var 1) (.int 1))) .nil)))) .nil))⟩
def F_rsub : Fn := ⟨2, 2,
  (.cons (.ifs (.and (.cmp .Eq (.idx (.var 0) (.int 1)) (.int 1)) (.one (.cmp .Eq (.idx (.var 1) (.int 1)) (.int 1)))) (.cons (.ret (.tup (.cons (.bin .Sub (.idx (.var 0) (.int 0)) (.idx (.var 1) (.int 0))) (.cons (.int 1) .nil)))) .nil) .nil) (.cons (.ret (.call "rational" (.cons (.bin .Sub (.bin .Mult (.idx (.var 0) (.int 0)) (.idx (.var 1) (.int 1))) (.bin .Mult (.idx (.var 1) (.int 0)) (.idx (.var 0) (.int 1)))) (.cons (.bin .Mult (.idx (.var 0) (.int 1)) (.idx (.var 1) (.int 1))) .nil)))) .nil))⟩
def F_rmul : Fn := ⟨2, 2,
  (.cons (.ifs (.and (.cmp .Eq (.idx (.var 0) (.int 1)) (.int 1)) (.one (.cmp .Eq (.idx (.var 1) (.int 1)) (.int 1)))) (.cons (.ret (.tup (.cons (.bin .Mult (.idx (.var 0) (.int 0)) (.idx (.var 1) (.int 0))) (.cons (.int 1) .nil)))) .nil) .nil) (.cons (.ret (.call "rational" (.cons (.bin .Mult (.idx (.var 0) (.int 0)) (.idx (.var 1) (.int 0))) (.cons (.bin .Mult (.idx (.var 0) (.int 1)) (.idx (.var 1) (.int 1))) .nil)))) .nil))⟩
def F_rneg : Fn := ⟨1, 1,
  (.cons (.ret (.tup (.cons (.neg (.idx (.var 0) (.int 0))) (.cons (.idx (.var 0) (.int 1)) .nil)))) .nil)⟩
def F_rinv : Fn := ⟨1, 1,
  (.cons (.ret (.call "rational" (.cons (.idx (.var 0) (.int 1)) (.cons (.idx (.var 0) (.int 0)) .nil)))) .nil)⟩
def F_rdiv : Fn := ⟨2, 2,
  (.cons (.ret (.call "rational" (.cons (.bin .Mult (.idx (.var 0) (.int 0)) (.idx (.var 1) (.int 1))) (.cons (.bin .Mult (.idx (.var 0) (.int 1)) (.idx (.var 1) (.int 0))) .nil)))) .nil)⟩
def F_rpow : Fn := ⟨2, 3,
  (.cons (.ifs (.cmp .Lt (.var 1) (.int 0)) (.cons (.ret (.call "rpow" (.cons (.call "rinv" (.cons (.var 0) .nil)) (.cons (.neg (.var 1)) .nil)))) .nil) .nil) (.cons (.set 2 (.glo "ONE")) (.cons (.whl (.cmp .Gt (.var 1) (.int 0)) (.cons (.ifs (.cmp .Eq (.bin .Mod (.var 1) (.int 2)) (.int 1)) (.cons (.set 2 (.call "rmul" (.cons (.var 2) (.cons (.var 0) .nil)))) .nil) .nil) (.cons (.set 0 (.call "rmul" (.cons (.var 0) (.cons (.var 0) .nil)))) (.cons (.set 1 (.bin .FloorDiv (.var 1) (.int 2))) .nil)))) (.cons (.ret (.var 2)) .nil))))⟩
def F_rsign : Fn := ⟨1, 1,
  (.cons (.ifs (.cmp .Eq (.idx (.var 0) (.int 0)) (.int 0)) (.cons (.ret (.int 0)) .nil) .nil) (.cons (.ret (.ifx (.cmp .Gt (.idx (.var 0) (.int 0)) (.int 0)) (.int 1) (.neg (.int 1)))) .nil))⟩
def F_rcompare : Fn := ⟨2, 4,
  (.cons (.set 2 (.bin .Mult (.idx (.var 0) (.int 0)) (.idx (.var 1) (.int 1)))) (.cons (.set 3 (.bin .Mult (.idx (.var 1) (.int 0)) (.idx (.var 0) (.int 1)))) (.cons (.ifs (.cmp .Eq (.var 2) (.var 3)) (.cons (.ret (.int 0)) .nil) .nil) (.cons (.ret (.ifx (.cmp .Gt (.var 2) (.var 3)) (.int 1) (.neg (.int 1)))) .nil))))⟩
def F_rfloor : Fn := ⟨1, 1,
  (.cons (.ret (.bin .FloorDiv (.idx (.var 0) (.int 0)) (.idx (.var 0) (.int 1)))) .nil)⟩
def F_rwhole : Fn := ⟨1, 1,
  (.cons (.ret (.cmp .Eq (.idx (.var 0) (.int 1)) (.int 1))) .nil)⟩
/-- a rational as the program has it -/
def QD (q : Rat) : D := .tup [.int q.num, .int q.den]
/-! sizes -/
def Bt (z : Int) (n : Nat) : Prop := z.natAbs < 2 ^ n
structure QB (q : Rat) (n : Nat) : Prop where
  num : Bt q.num n
  den : Bt q.den n
theorem Bt.le {z : Int} {m n : Nat} (h : Bt z m) (l : m ≤ n) : Bt z n := Nat.lt_of_lt_of_le h (Nat.pow_le_pow_right (by decide) l)
theorem Bt.bits {z : Int} {m : Nat} (h : Bt z m) : Builtin.Int.intBits z ≤ m := intBits_le h
theorem Bt.of_bits {z : Int} {m : Nat} (h : Builtin.Int.intBits z ≤ m) : Bt z m := by
  unfold Builtin.Int.intBits at h
  unfold Bt
  by_cases hz : z = 0
  · subst hz
    exact Nat.two_pow_pos m
  · rw [if_neg (by simpa using hz)] at h
    exact Nat.lt_of_lt_of_le Nat.lt_log2_self (Nat.pow_le_pow_right (by decide) h)
theorem Bt.mulOk {a b : Int} {m n : Nat} (ha : Bt a m) (hb : Bt b n) (h : m + n ≤ 134217728) : IntMulOk a b := mulOk_of_bits ha.bits hb.bits h
theorem Bt.mul {a b : Int} {m n : Nat} (ha : Bt a m) (hb : Bt b n) : Bt (a * b) (m + n) := by
  unfold Bt at *
  rw [Int.natAbs_mul, Nat.pow_add]
  exact Nat.mul_lt_mul'' ha hb
theorem Bt.add {a b : Int} {n : Nat} (ha : Bt a n) (hb : Bt b n) : Bt (a + b) (n + 1) := by
  unfold Bt at *
  rw [Nat.pow_succ]
  omega
theorem Bt.sub {a b : Int} {n : Nat} (ha : Bt a n) (hb : Bt b n) : Bt (a - b) (n + 1) := by
  unfold Bt at *
  rw [Nat.pow_succ]
  omega
theorem Bt.neg {a : Int} {n : Nat} (ha : Bt a n) : Bt (-a) n := by
  unfold Bt at *
  omega
theorem Bt.nat {a : Nat} {n : Nat} (ha : a < 2 ^ n) : Bt (a : Int) n := by
  unfold Bt
  omega
theorem floor_is (n : Int) {d : Int} (hd : 0 < d) : n.fdiv d * d ≤ n ∧ n < (n.fdiv d + 1) * d ∧ (n.fdiv d).natAbs ≤ n.natAbs := by
  rw [Int.fdiv_eq_ediv_of_nonneg _ (Int.le_of_lt hd)]
  have h3 := Int.lt_ediv_add_one_mul_self n hd
  have h4 := Int.ediv_mul_le n (Int.ne_of_gt hd)
  refine ⟨h4, h3, ?_⟩
  generalize n / d = q at h3 h4
  by_cases hq : 0 ≤ q
  · have := Int.mul_le_mul_of_nonneg_left (show (1 : Int) ≤ d by omega) hq
    rw [Int.mul_one] at this
    omega
  · have := Int.mul_le_mul_of_nonpos_left (show q + 1 ≤ 0 by omega) (show (1 : Int) ≤ d by omega)
    rw [Int.mul_one] at this
    omega
theorem Bt.le_abs {a b : Int} {n : Nat} (h : Bt b n) (l : a.natAbs ≤ b.natAbs) : Bt a n := Nat.lt_of_le_of_lt l h
/-! n / d in lowest terms -/
theorem divInt_pos {n d : Int} (hd : 0 < d) : (Rat.divInt n d).num = n / (Nat.gcd n.natAbs d.natAbs : Nat) ∧ ((Rat.divInt n d).den : Int) = d / (Nat.gcd n.natAbs d.natAbs : Nat) := by
  obtain ⟨m, rfl⟩ := Int.eq_ofNat_of_zero_le (Int.le_of_lt hd)
  have hm : m ≠ 0 := by omega
  have e : Rat.divInt n (m : Int) = Rat.normalize n m hm := by
    rw [Rat.divInt_ofNat, Rat.normalize_eq_mkRat]
  rw [e, Rat.normalize_eq]
  exact ⟨rfl, by simp⟩
theorem divInt_flip (n d : Int) : Rat.divInt n d = Rat.divInt (-n) (-d) := (Rat.neg_divInt_neg n d).symm
theorem ratio {n d : Int} (hd : d ≠ 0) (g : Int) (hg : g = if d < 0 then -((Nat.gcd n.natAbs d.natAbs : Nat) : Int) else ((Nat.gcd n.natAbs d.natAbs : Nat) : Int)) :
    g ≠ 0 ∧ n.fdiv g = (Rat.divInt n d).num ∧ d.fdiv g = ((Rat.divInt n d).den : Int) := by
  have g0 : Nat.gcd n.natAbs d.natAbs ≠ 0 := by
    intro h
    have := (Nat.gcd_eq_zero_iff.mp h).2
    omega
  have gn : ((Nat.gcd n.natAbs d.natAbs : Nat) : Int) ∣ n := Int.ofNat_dvd_left.mpr (Nat.gcd_dvd_left _ _)
  have gd : ((Nat.gcd n.natAbs d.natAbs : Nat) : Int) ∣ d := Int.ofNat_dvd_left.mpr (Nat.gcd_dvd_right _ _)
  by_cases h : d < 0
  · rw [if_pos h] at hg
    subst hg
    have p := divInt_pos (n := -n) (d := -d) (by omega)
    rw [← divInt_flip, Int.natAbs_neg, Int.natAbs_neg] at p
    refine ⟨by omega, ?_, ?_⟩
    · rw [p.1, Int.fdiv_eq_ediv_of_dvd (Int.neg_dvd.mpr gn), Int.ediv_neg, Int.neg_ediv_of_dvd gn]
    · rw [p.2, Int.fdiv_eq_ediv_of_dvd (Int.neg_dvd.mpr gd), Int.ediv_neg, Int.neg_ediv_of_dvd gd]
  · rw [if_neg h] at hg
    subst hg
    have p := divInt_pos (n := n) (d := d) (by omega)
    refine ⟨by omega, ?_, ?_⟩
    · rw [p.1, Int.fdiv_eq_ediv_of_dvd gn]
    · rw [p.2, Int.fdiv_eq_ediv_of_dvd gd]
theorem divInt_le {n d : Int} (hd : d ≠ 0) : (Rat.divInt n d).num.natAbs ≤ n.natAbs ∧ (Rat.divInt n d).den ≤ d.natAbs := by
  have key : ∀ n d : Int, 0 < d → (Rat.divInt n d).num.natAbs ≤ n.natAbs ∧ (Rat.divInt n d).den ≤ d.natAbs := by
    intro n d hd
    have p := divInt_pos (n := n) hd
    constructor
    · rw [p.1, Int.natAbs_ediv_of_dvd (Int.ofNat_dvd_left.mpr (Nat.gcd_dvd_left _ _))]
      exact Nat.div_le_self _ _
    · have : ((Rat.divInt n d).den : Int).natAbs ≤ d.natAbs := by
        rw [p.2, Int.natAbs_ediv_of_dvd (Int.ofNat_dvd_left.mpr (Nat.gcd_dvd_right _ _))]
        exact Nat.div_le_self _ _
      simpa using this
  by_cases h : 0 < d
  · exact key n d h
  · have := key (-n) (-d) (by omega)
    rwa [← divInt_flip, Int.natAbs_neg, Int.natAbs_neg] at this
theorem QB.of {n d : Int} {k : Nat} (hn : Bt n k) (hd : Bt d k) (h0 : d ≠ 0) : QB (Rat.divInt n d) k := by
  have p := divInt_le (n := n) h0
  unfold Bt at hn hd
  refine ⟨?_, ?_⟩
  · unfold Bt
    omega
  · unfold Bt
    omega
theorem QB.le {q : Rat} {m n : Nat} (h : QB q m) (l : m ≤ n) : QB q n := ⟨h.num.le l, h.den.le l⟩
theorem den_pos (q : Rat) : (0 : Int) < q.den := by have := q.den_nz; omega
theorem add_is (a b : Rat) : Rat.divInt (a.num * b.den + b.num * a.den) (a.den * b.den) = a + b := by
  have ha := den_pos a
  have hb := den_pos b
  rw [← Rat.divInt_add_divInt _ _ (by omega) (by omega), Rat.num_divInt_den, Rat.num_divInt_den]
theorem sub_is (a b : Rat) : Rat.divInt (a.num * b.den - b.num * a.den) (a.den * b.den) = a - b := by
  have ha := den_pos a
  have hb := den_pos b
  rw [← Rat.divInt_sub_divInt _ _ (by omega) (by omega), Rat.num_divInt_den, Rat.num_divInt_den]
theorem mul_is (a b : Rat) : Rat.divInt (a.num * b.num) (a.den * b.den) = a * b := by
  rw [← Rat.divInt_mul_divInt, Rat.num_divInt_den, Rat.num_divInt_den]
theorem inv_is (a : Rat) : Rat.divInt a.den a.num = a⁻¹ := by
  conv => rhs; rw [← Rat.num_divInt_den a]
  rw [Rat.inv_divInt]
theorem div_is (a b : Rat) : Rat.divInt (a.num * b.den) (a.den * b.num) = a / b := by
  rw [← Rat.divInt_mul_divInt, Rat.num_divInt_den, inv_is, Rat.div_def]
theorem QB.add {a b : Rat} {m n k : Nat} (ha : QB a m) (hb : QB b n) (hk : m + n + 1 ≤ k) : QB (a + b) k := by
  rw [← add_is]
  have h1 := den_pos a
  have h2 := den_pos b
  refine QB.of ?_ ((ha.den.mul hb.den).le (by omega)) (Int.ne_of_gt (Int.mul_pos h1 h2))
  exact (Bt.add ((ha.num.mul hb.den).le (Nat.le_refl (m + n))) ((hb.num.mul ha.den).le (by omega))).le hk
theorem QB.sub {a b : Rat} {m n k : Nat} (ha : QB a m) (hb : QB b n) (hk : m + n + 1 ≤ k) : QB (a - b) k := by
  rw [← sub_is]
  have h1 := den_pos a
  have h2 := den_pos b
  refine QB.of ?_ ((ha.den.mul hb.den).le (by omega)) (Int.ne_of_gt (Int.mul_pos h1 h2))
  exact (Bt.sub ((ha.num.mul hb.den).le (Nat.le_refl (m + n))) ((hb.num.mul ha.den).le (by omega))).le hk
theorem QB.mul {a b : Rat} {m n k : Nat} (ha : QB a m) (hb : QB b n) (hk : m + n ≤ k) : QB (a * b) k := by
  rw [← mul_is]
  have h1 := den_pos a
  have h2 := den_pos b
  exact QB.of ((ha.num.mul hb.num).le hk) ((ha.den.mul hb.den).le hk) (Int.ne_of_gt (Int.mul_pos h1 h2))
theorem QB.neg {a : Rat} {m : Nat} (ha : QB a m) : QB (-a) m := ⟨ha.num.neg, ha.den⟩
theorem QB.inv {a : Rat} {m : Nat} (ha : QB a m) (h0 : a.num ≠ 0) : QB a⁻¹ m := by
  rw [← inv_is]
  exact QB.of ha.den ha.num h0
theorem num_ne {a : Rat} (h : a ≠ 0) : a.num ≠ 0 := fun z => h (Rat.num_eq_zero.mp z)
/-! whole numbers -/
theorem QD_int (m : Int) : QD (m : Rat) = .tup [.int m, .int 1] := rfl
theorem whole {a : Rat} (h : (a.den : Int) = 1) : a = (a.num : Rat) := Rat.ext rfl (by show a.den = 1; omega)
section
variable {G : Gl0} {T : Str → Option Fn} {k : Nat} {S : Sto} {Q : DK} {E : XS}
theorem idx_Q0 (q : Rat) : idxS (QD q) (.int 0) S Q = Q (.int q.num) S := by
  unfold QD
  rw [idx_t, atI0]
  rfl
theorem idx_Q1 (q : Rat) : idxS (QD q) (.int 1) S Q = Q (.int q.den) S := by
  unfold QD
  rw [idx_t, atI1]
  rfl
theorem eq_iff (a b : Rat) : (a.num = b.num ∧ (a.den : Int) = b.den) = (a = b) := propext ⟨fun h => Rat.ext h.1 (by have := h.2; omega), fun h => by subst h; exact ⟨rfl, rfl⟩⟩
theorem cQ_Eq {R : Bool → Prop} (a b : Rat) : cmpS .Eq (QD a) (QD b) S R = R (decide (a = b)) := by
  unfold QD
  rw [c2_Eq]
  simp only [eq_iff]
theorem cQ_NotEq {R : Bool → Prop} (a b : Rat) : cmpS .NotEq (QD a) (QD b) S R = R (!decide (a = b)) := cQ_Eq a b (R := fun k => R (!k))
theorem atI_Q (qs : List Rat) {i : Nat} (h : i < qs.length) : atI (qs.map QD) ((0 : Int) + (i : Nat)) = some (QD (qs.getD i 0)) := by
  rw [Int.zero_add]
  refine atI_nat ?_
  rw [List.getElem?_map, List.getElem?_eq_getElem h, List.getD_eq_getElem?_getD, List.getElem?_eq_getElem h]
  rfl
theorem atI_Qz (qs : List Rat) {z : Int} {i : Nat} (hz : z = i) (h : i < qs.length) : atI (qs.map QD) z = some (QD (qs.getD i 0)) := by
  subst hz
  have := atI_Q qs h
  rwa [Int.zero_add] at this
theorem getD_Q (qs : List Rat) {i : Nat} (h : i < qs.length) : (qs.map QD).getD i .non = QD (qs.getD i 0) := by
  rw [List.getD_eq_getElem?_getD, List.getElem?_map, List.getElem?_eq_getElem h, List.getD_eq_getElem?_getD, List.getElem?_eq_getElem h]
  rfl
theorem pures_Q : ∀ qs : List Rat, pures (qs.map QD) = true
  | [] => rfl
  | q :: r => by
    rw [List.map_cons, pures, pures_Q r]
    rfl
theorem lay_Q : ∀ qs : List Rat, PyData.canLayAll0 (pds (qs.map QD)) = true
  | [] => by
    rw [List.map_nil, pds, PyData.canLayAll0]
  | q :: r => by
    rw [List.map_cons, pds, PyData.canLayAll0, lay_Q r]
    simp [QD, pd, pds, PyData.canLay0, PyData.canLayAll0]
theorem depth_Q : ∀ qs : List Rat, PyData.depthAll (pds (qs.map QD)) ≤ 1
  | [] => by
    rw [List.map_nil, pds, PyData.depthAll]
    decide
  | q :: r => by
    rw [List.map_cons, pds, PyData.depthAll]
    have := depth_Q r
    have e : PyData.depth (pd (QD q)) = 1 := by simp [QD, pd, pds, PyData.depth, PyData.depthAll]
    omega
theorem eqv_Q (q : Rat) : PyData.eqv (pd (QD q)) (pd (QD q)) = true := by simp [QD, pd, pds, PyData.eqv, PyData.eqvAll]
theorem eqvs_Q : ∀ qs : List Rat, PyData.eqvAll (pds (qs.map QD)) (pds (qs.map QD)) = true
  | [] => by rw [List.map_nil, pds, PyData.eqvAll]
  | q :: r => by rw [List.map_cons, pds, PyData.eqvAll, eqv_Q, eqvs_Q r]; rfl
theorem teq {R : Bool → Prop} (qs : List Rat) : cmpS .Eq (.tup (qs.map QD)) (.tup (qs.map QD)) S R = R true := by
  have p : pure_ (.tup (qs.map QD)) = true := by rw [pure_]; exact pures_Q qs
  have sh : SeqAt.shaped (pd (.tup (qs.map QD))) = true := by
    rw [pd]
    unfold SeqAt.shaped
    rw [Bool.and_eq_true]
    refine ⟨by rw [PyData.canLay0]; exact lay_Q qs, decide_eq_true ?_⟩
    rw [PyData.depth]
    have := depth_Q qs
    omega
  show eqG _ _ S R = _
  rw [eqG_pure p p sh sh, pd, PyData.eqv, eqvs_Q]
theorem rational_ok (hT : T "rational" = some F_rational) (hp : G.PY) {n d : Int} (hd : d ≠ 0) (h : Q (QD (Rat.divInt n d)) S) : semF G T (k + 1) "rational" [.int n, .int d] S Q E := by
  refine call_of hT rfl ?_
  simp -dsimp -implicitDefEqProofs only [ent, List.map_cons, List.map_nil, List.length_cons, List.length_nil, Nat.reduceAdd, Nat.reduceSub, Nat.zero_add, List.replicate, List.cons_append, List.nil_append, F_rational]
  simp -dsimp -implicitDefEqProofs only [↓cov3, ↓cov2, ↓cov1, ↓E_var, ↓E_int, ↓E_bl, ↓E_non, ↓E_str, ↓E_glo, ↓E_tup, ↓E_lst, ↓E_bin, ↓E_neg, ↓E_cmp, ↓E_chn, ↓E_and, ↓E_or, ↓E_one, ↓E_not, ↓E_ifx, ↓E_idx, ↓E_slc, ↓E_call, ↓E_bi, ↓E_isi, ↓E_mth, ↓E_lc, ↓E_fld, ↓E_mcl, ↓E_mk, ↓Es_nil, ↓Es_cons, ↓O_no, ↓O_some, ↓Q_no, ↓Q_c, ↓C_and, ↓C_or, ↓C_one, ↓C_not, ↓C_cmp, ↓C_chn, ↓C_v, ↓I_seq, ↓I_rng1, ↓I_rng2, ↓I_rng3, ↓I_enu, ↓I_zip, ↓I_rev, ↓S_set, ↓S_asg, ↓S_par2, ↓S_sub, ↓S_expr, ↓S_ret, ↓S_retN, ↓S_ifs, ↓S_for, ↓S_brk, ↓S_cnt, ↓S_pass, ↓S_raise, ↓S_try, ↓S_tryas, ↓E_isx, ↓E_isxs, kW_nx, kW_rt, kW_bk, kW_ct, kW_ex, gx_sub, gx_cs, gx_PY, ↓S_never, ↓S_setf, ex_t, ex_f, ↓S_nil, ↓S_cons, ↓kN_nx, ↓kN_rt, ↓kN_bk, ↓kN_ct, ↓kN_ex, ↓kL_nx, ↓kL_rt, ↓kL_bk, ↓kL_ct, ↓kL_ex, ↓kX_nx, ↓kX_rt, ↓kX_bk, ↓kX_ct, ↓kX_ex, ↓kend_nx, ↓kend_rt, ↓kend_bk, ↓kend_ct, ↓kend_ex, vr_some, gt_0, gt_s, stn_0, stn_s, wip_0, wip_s, wips_0, wips_s, neg_i, isi_s, o_i, tru_non, tru_bl, tru_int, tru_tup, tru_rol, c_Eq, c_NotEq, c_Lt, c_LtE, c_Gt, c_GtE, cs_Eq, cs_NotEq, cb_Eq, cb_NotEq, c2_Eq, c2_NotEq, is_non, isnot_non, is_bl, isnot_bl, is_int, isnot_int, is_str, isnot_str, is_tup, isnot_tup, is_rol, isnot_rol, is_ref, isnot_ref, is_b, isnot_b, in_s, notin_s, b_add, b_sub, b_mul, b_fdiv, b_mod, b_pow, b_addt, b_adds, atI0, atI1, atI2, atI3, slc_t, slc_r, len_s, abs_i, str_i, int_i, int_b, min_i, max_i, lcm_i, gcd_i, seq_t, seq_r, r1_i, r2_i, r3_i, a_nm, a_nil, a_cons, vrl_some, vrn_some, put_lget, Option.isSome_some, tru_ref, b_addl, idx_t, idx_r, idx_l, slc_l, len_t, len_r, len_l, tuple_t, tuple_r, tuple_l, list_t, list_r, list_l, app_l, rev_l, pop_l, popat_l, mT_l, seq_l, enu_l, enu_t, fld_i, mcl_i, setf_i, vri_some, vrk_some, mk_0, mk_1, b_mull, zip_l, rev_i, rev_t, in_t, notin_t, fl_s, fl_i, fl_b, fl_n, inL_nil, inL_ss, inL_ii, List.all_cons, List.all_nil, Bool.and_self, Bool.and_true, Bool.true_and, zip_t, zip_m, a_t, a_l, sub_l, isTs, isT, Option.map_some, List.length_cons, List.length_nil, List.lookup_nil, Nat.reduceAdd, Nat.reduceSub, Nat.reduceLT, Nat.zero_add, Bool.false_eq_true, Bool.true_eq_false, if_false, if_true, decide_eq_true_eq, Bool.not_true, Bool.not_false, ite_true, ite_false, reduceIte, Bool.not_eq_true', decide_eq_false_iff_not, Int.cast_ofNat_Int, Int.reduceEq, Int.reduceLT, Int.reduceLE, Int.reduceNeg, Int.reduceAdd, Int.reduceSub, Int.reduceMul, Int.reduceToNat, decide_true, decide_false, not_true, not_false, not_true_eq_false, not_false_eq_true, true_and, and_true, eq_self, reduceCtorEq, List.isEmpty_nil, List.isEmpty_cons, List.nil_append, List.cons_append, ↓E_smt, ↓E_fldx, ↓E_dct, ↓E_gix, ↓E_rsl,  ↓E_lck, ↓S_raisef, ↓S_trym, ↓S_aug, H_nil, H_cons0, H_cons1, gx_xf, gx_kd, okx_nil, okx_ref, xpl_ref, xfS_i, xfS_s, fldxS_p, gixS_s, vrp_some, vlo_some, vrC_some, idx_s, idx_d, slc_s, b_muls, int_s, ord_s, divmod_i, sorted_x, dict_r, sm_join, sm_part, sm_sw, sm_strip, sm_lstrip, sm_zfill, sm_split, sm_digit, sm_alnum, isstr_s, seq_s, rsl_l, hd]
  have key : ∀ g : Int, (g = if d < 0 then -((Nat.gcd n.natAbs d.natAbs : Nat) : Int) else ((Nat.gcd n.natAbs d.natAbs : Nat) : Int)) → FdOk G.PY n g ∧ FdOk G.PY d g ∧ Q (.tup [.int (n.fdiv g), .int (d.fdiv g)]) S := by
    intro g hg
    obtain ⟨g0, e1, e2⟩ := ratio hd g hg
    refine ⟨⟨g0, .inr hp⟩, ⟨g0, .inr hp⟩, ?_⟩
    rw [e1, e2]
    exact h
  refine ite2 (fun hn => ?_) fun hn => ?_
  · exact key _ (by rw [if_pos hn])
  · exact key _ (by rw [if_neg hn])
theorem rational_zero (hT : T "rational" = some F_rational) {n : Int} (h : E ⟨"ZeroDivisor", []⟩ S) : semF G T (k + 1) "rational" [.int n, .int 0] S Q E := by
  refine call_of hT rfl ?_
  simp -dsimp -implicitDefEqProofs only [ent, List.map_cons, List.map_nil, List.length_cons, List.length_nil, Nat.reduceAdd, Nat.reduceSub, Nat.zero_add, List.replicate, List.cons_append, List.nil_append, F_rational]
  simp -dsimp -implicitDefEqProofs only [↓cov3, ↓cov2, ↓cov1, ↓E_var, ↓E_int, ↓E_bl, ↓E_non, ↓E_str, ↓E_glo, ↓E_tup, ↓E_lst, ↓E_bin, ↓E_neg, ↓E_cmp, ↓E_chn, ↓E_and, ↓E_or, ↓E_one, ↓E_not, ↓E_ifx, ↓E_idx, ↓E_slc, ↓E_call, ↓E_bi, ↓E_isi, ↓E_mth, ↓E_lc, ↓E_fld, ↓E_mcl, ↓E_mk, ↓Es_nil, ↓Es_cons, ↓O_no, ↓O_some, ↓Q_no, ↓Q_c, ↓C_and, ↓C_or, ↓C_one, ↓C_not, ↓C_cmp, ↓C_chn, ↓C_v, ↓I_seq, ↓I_rng1, ↓I_rng2, ↓I_rng3, ↓I_enu, ↓I_zip, ↓I_rev, ↓S_set, ↓S_asg, ↓S_par2, ↓S_sub, ↓S_expr, ↓S_ret, ↓S_retN, ↓S_ifs, ↓S_for, ↓S_brk, ↓S_cnt, ↓S_pass, ↓S_raise, ↓S_try, ↓S_tryas, ↓E_isx, ↓E_isxs, kW_nx, kW_rt, kW_bk, kW_ct, kW_ex, gx_sub, gx_cs, gx_PY, ↓S_never, ↓S_setf, ex_t, ex_f, ↓S_nil, ↓S_cons, ↓kN_nx, ↓kN_rt, ↓kN_bk, ↓kN_ct, ↓kN_ex, ↓kL_nx, ↓kL_rt, ↓kL_bk, ↓kL_ct, ↓kL_ex, ↓kX_nx, ↓kX_rt, ↓kX_bk, ↓kX_ct, ↓kX_ex, ↓kend_nx, ↓kend_rt, ↓kend_bk, ↓kend_ct, ↓kend_ex, vr_some, gt_0, gt_s, stn_0, stn_s, wip_0, wip_s, wips_0, wips_s, neg_i, isi_s, o_i, tru_non, tru_bl, tru_int, tru_tup, tru_rol, c_Eq, c_NotEq, c_Lt, c_LtE, c_Gt, c_GtE, cs_Eq, cs_NotEq, cb_Eq, cb_NotEq, c2_Eq, c2_NotEq, is_non, isnot_non, is_bl, isnot_bl, is_int, isnot_int, is_str, isnot_str, is_tup, isnot_tup, is_rol, isnot_rol, is_ref, isnot_ref, is_b, isnot_b, in_s, notin_s, b_add, b_sub, b_mul, b_fdiv, b_mod, b_pow, b_addt, b_adds, atI0, atI1, atI2, atI3, slc_t, slc_r, len_s, abs_i, str_i, int_i, int_b, min_i, max_i, lcm_i, gcd_i, seq_t, seq_r, r1_i, r2_i, r3_i, a_nm, a_nil, a_cons, vrl_some, vrn_some, put_lget, Option.isSome_some, tru_ref, b_addl, idx_t, idx_r, idx_l, slc_l, len_t, len_r, len_l, tuple_t, tuple_r, tuple_l, list_t, list_r, list_l, app_l, rev_l, pop_l, popat_l, mT_l, seq_l, enu_l, enu_t, fld_i, mcl_i, setf_i, vri_some, vrk_some, mk_0, mk_1, b_mull, zip_l, rev_i, rev_t, in_t, notin_t, fl_s, fl_i, fl_b, fl_n, inL_nil, inL_ss, inL_ii, List.all_cons, List.all_nil, Bool.and_self, Bool.and_true, Bool.true_and, zip_t, zip_m, a_t, a_l, sub_l, isTs, isT, Option.map_some, List.length_cons, List.length_nil, List.lookup_nil, Nat.reduceAdd, Nat.reduceSub, Nat.reduceLT, Nat.zero_add, Bool.false_eq_true, Bool.true_eq_false, if_false, if_true, decide_eq_true_eq, Bool.not_true, Bool.not_false, ite_true, ite_false, reduceIte, Bool.not_eq_true', decide_eq_false_iff_not, Int.cast_ofNat_Int, Int.reduceEq, Int.reduceLT, Int.reduceLE, Int.reduceNeg, Int.reduceAdd, Int.reduceSub, Int.reduceMul, Int.reduceToNat, decide_true, decide_false, not_true, not_false, not_true_eq_false, not_false_eq_true, true_and, and_true, eq_self, reduceCtorEq, List.isEmpty_nil, List.isEmpty_cons, List.nil_append, List.cons_append, ↓E_smt, ↓E_fldx, ↓E_dct, ↓E_gix, ↓E_rsl,  ↓E_lck, ↓S_raisef, ↓S_trym, ↓S_aug, H_nil, H_cons0, H_cons1, gx_xf, gx_kd, okx_nil, okx_ref, xpl_ref, xfS_i, xfS_s, fldxS_p, gixS_s, vrp_some, vlo_some, vrC_some, idx_s, idx_d, slc_s, b_muls, int_s, ord_s, divmod_i, sorted_x, dict_r, sm_join, sm_part, sm_sw, sm_strip, sm_lstrip, sm_zfill, sm_split, sm_digit, sm_alnum, isstr_s, seq_s, rsl_l]
  exact ⟨by decide, h⟩
theorem radd_ok (hT : T "radd" = some F_radd) (hR : T "rational" = some F_rational) (hp : G.PY) {a b : Rat} {m n : Nat} (ha : QB a m) (hb : QB b n) (hmn : m + n ≤ 134217728) (h : Q (QD (a + b)) S) : semF G T (k + 2) "radd" [QD a, QD b] S Q E := by
  refine call_of hT rfl ?_
  simp -dsimp -implicitDefEqProofs only [ent, List.map_cons, List.map_nil, List.length_cons, List.length_nil, Nat.reduceAdd, Nat.reduceSub, Nat.zero_add, List.replicate, List.cons_append, List.nil_append, F_radd, QD]
  simp -dsimp -implicitDefEqProofs only [↓cov3, ↓cov2, ↓cov1, ↓E_var, ↓E_int, ↓E_bl, ↓E_non, ↓E_str, ↓E_glo, ↓E_tup, ↓E_lst, ↓E_bin, ↓E_neg, ↓E_cmp, ↓E_chn, ↓E_and, ↓E_or, ↓E_one, ↓E_not, ↓E_ifx, ↓E_idx, ↓E_slc, ↓E_call, ↓E_bi, ↓E_isi, ↓E_mth, ↓E_lc, ↓E_fld, ↓E_mcl, ↓E_mk, ↓Es_nil, ↓Es_cons, ↓O_no, ↓O_some, ↓Q_no, ↓Q_c, ↓C_and, ↓C_or, ↓C_one, ↓C_not, ↓C_cmp, ↓C_chn, ↓C_v, ↓I_seq, ↓I_rng1, ↓I_rng2, ↓I_rng3, ↓I_enu, ↓I_zip, ↓I_rev, ↓S_set, ↓S_asg, ↓S_par2, ↓S_sub, ↓S_expr, ↓S_ret, ↓S_retN, ↓S_ifs, ↓S_for, ↓S_brk, ↓S_cnt, ↓S_pass, ↓S_raise, ↓S_try, ↓S_tryas, ↓E_isx, ↓E_isxs, kW_nx, kW_rt, kW_bk, kW_ct, kW_ex, gx_sub, gx_cs, gx_PY, ↓S_never, ↓S_setf, ex_t, ex_f, ↓S_nil, ↓S_cons, ↓kN_nx, ↓kN_rt, ↓kN_bk, ↓kN_ct, ↓kN_ex, ↓kL_nx, ↓kL_rt, ↓kL_bk, ↓kL_ct, ↓kL_ex, ↓kX_nx, ↓kX_rt, ↓kX_bk, ↓kX_ct, ↓kX_ex, ↓kend_nx, ↓kend_rt, ↓kend_bk, ↓kend_ct, ↓kend_ex, vr_some, gt_0, gt_s, stn_0, stn_s, wip_0, wip_s, wips_0, wips_s, neg_i, isi_s, o_i, tru_non, tru_bl, tru_int, tru_tup, tru_rol, c_Eq, c_NotEq, c_Lt, c_LtE, c_Gt, c_GtE, cs_Eq, cs_NotEq, cb_Eq, cb_NotEq, c2_Eq, c2_NotEq, is_non, isnot_non, is_bl, isnot_bl, is_int, isnot_int, is_str, isnot_str, is_tup, isnot_tup, is_rol, isnot_rol, is_ref, isnot_ref, is_b, isnot_b, in_s, notin_s, b_add, b_sub, b_mul, b_fdiv, b_mod, b_pow, b_addt, b_adds, atI0, atI1, atI2, atI3, slc_t, slc_r, len_s, abs_i, str_i, int_i, int_b, min_i, max_i, lcm_i, gcd_i, seq_t, seq_r, r1_i, r2_i, r3_i, a_nm, a_nil, a_cons, vrl_some, vrn_some, put_lget, Option.isSome_some, tru_ref, b_addl, idx_t, idx_r, idx_l, slc_l, len_t, len_r, len_l, tuple_t, tuple_r, tuple_l, list_t, list_r, list_l, app_l, rev_l, pop_l, popat_l, mT_l, seq_l, enu_l, enu_t, fld_i, mcl_i, setf_i, vri_some, vrk_some, mk_0, mk_1, b_mull, zip_l, rev_i, rev_t, in_t, notin_t, fl_s, fl_i, fl_b, fl_n, inL_nil, inL_ss, inL_ii, List.all_cons, List.all_nil, Bool.and_self, Bool.and_true, Bool.true_and, zip_t, zip_m, a_t, a_l, sub_l, isTs, isT, Option.map_some, List.length_cons, List.length_nil, List.lookup_nil, Nat.reduceAdd, Nat.reduceSub, Nat.reduceLT, Nat.zero_add, Bool.false_eq_true, Bool.true_eq_false, if_false, if_true, decide_eq_true_eq, Bool.not_true, Bool.not_false, ite_true, ite_false, reduceIte, Bool.not_eq_true', decide_eq_false_iff_not, Int.cast_ofNat_Int, Int.reduceEq, Int.reduceLT, Int.reduceLE, Int.reduceNeg, Int.reduceAdd, Int.reduceSub, Int.reduceMul, Int.reduceToNat, decide_true, decide_false, not_true, not_false, not_true_eq_false, not_false_eq_true, true_and, and_true, eq_self, reduceCtorEq, List.isEmpty_nil, List.isEmpty_cons, List.nil_append, List.cons_append, ↓E_smt, ↓E_fldx, ↓E_dct, ↓E_gix, ↓E_rsl,  ↓E_lck, ↓S_raisef, ↓S_trym, ↓S_aug, H_nil, H_cons0, H_cons1, gx_xf, gx_kd, okx_nil, okx_ref, xpl_ref, xfS_i, xfS_s, fldxS_p, gixS_s, vrp_some, vlo_some, vrC_some, idx_s, idx_d, slc_s, b_muls, int_s, ord_s, divmod_i, sorted_x, dict_r, sm_join, sm_part, sm_sw, sm_strip, sm_lstrip, sm_zfill, sm_split, sm_digit, sm_alnum, isstr_s, seq_s, rsl_l]
  have rest : semF G T (k + 1) "rational" [.int (a.num * b.den + b.num * a.den), .int (a.den * b.den)] S Q E := by
    refine rational_ok hR hp (Int.ne_of_gt (Int.mul_pos (den_pos a) (den_pos b))) ?_
    rw [add_is]
    exact h
  refine ite2 (fun h1 => ite2 (fun h2 => ?_) fun h2 => ?_) fun h1 => ?_
  · have e : a + b = ((a.num + b.num : Int) : Rat) := by
      rw [Rat.intCast_add, ← whole h1, ← whole h2]
    rw [e, QD_int] at h
    exact h
  all_goals exact ⟨ha.num.mulOk hb.den hmn, hb.num.mulOk ha.den (by omega), ha.den.mulOk hb.den hmn, rest⟩
theorem rsub_ok (hT : T "rsub" = some F_rsub) (hR : T "rational" = some F_rational) (hp : G.PY) {a b : Rat} {m n : Nat} (ha : QB a m) (hb : QB b n) (hmn : m + n ≤ 134217728) (h : Q (QD (a - b)) S) : semF G T (k + 2) "rsub" [QD a, QD b] S Q E := by
  refine call_of hT rfl ?_
  simp -dsimp -implicitDefEqProofs only [ent, List.map_cons, List.map_nil, List.length_cons, List.length_nil, Nat.reduceAdd, Nat.reduceSub, Nat.zero_add, List.replicate, List.cons_append, List.nil_append, F_rsub, QD]
  simp -dsimp -implicitDefEqProofs only [↓cov3, ↓cov2, ↓cov1, ↓E_var, ↓E_int, ↓E_bl, ↓E_non, ↓E_str, ↓E_glo, ↓E_tup, ↓E_lst, ↓E_bin, ↓E_neg, ↓E_cmp, ↓E_chn, ↓E_and, ↓E_or, ↓E_one, ↓E_not, ↓E_ifx, ↓E_idx, ↓E_slc, ↓E_call, ↓E_bi, ↓E_isi, ↓E_mth, ↓E_lc, ↓E_fld, ↓E_mcl, ↓E_mk, ↓Es_nil, ↓Es_cons, ↓O_no, ↓O_some, ↓Q_no, ↓Q_c, ↓C_and, ↓C_or, ↓C_one, ↓C_not, ↓C_cmp, ↓C_chn, ↓C_v, ↓I_seq, ↓I_rng1, ↓I_rng2, ↓I_rng3, ↓I_enu, ↓I_zip, ↓I_rev, ↓S_set, ↓S_asg, ↓S_par2, ↓S_sub, ↓S_expr, ↓S_ret, ↓S_retN, ↓S_ifs, ↓S_for, ↓S_brk, ↓S_cnt, ↓S_pass, ↓S_raise, ↓S_try, ↓S_tryas, ↓E_isx, ↓E_isxs, kW_nx, kW_rt, kW_bk, kW_ct, kW_ex, gx_sub, gx_cs, gx_PY, ↓S_never, ↓S_setf, ex_t, ex_f, ↓S_nil, ↓S_cons, ↓kN_nx, ↓kN_rt, ↓kN_bk, ↓kN_ct, ↓kN_ex, ↓kL_nx, ↓kL_rt, ↓kL_bk, ↓kL_ct, ↓kL_ex, ↓kX_nx, ↓kX_rt, ↓kX_bk, ↓kX_ct, ↓kX_ex, ↓kend_nx, ↓kend_rt, ↓kend_bk, ↓kend_ct, ↓kend_ex, vr_some, gt_0, gt_s, stn_0, stn_s, wip_0, wip_s, wips_0, wips_s, neg_i, isi_s, o_i, tru_non, tru_bl, tru_int, tru_tup, tru_rol, c_Eq, c_NotEq, c_Lt, c_LtE, c_Gt, c_GtE, cs_Eq, cs_NotEq, cb_Eq, cb_NotEq, c2_Eq, c2_NotEq, is_non, isnot_non, is_bl, isnot_bl, is_int, isnot_int, is_str, isnot_str, is_tup, isnot_tup, is_rol, isnot_rol, is_ref, isnot_ref, is_b, isnot_b, in_s, notin_s, b_add, b_sub, b_mul, b_fdiv, b_mod, b_pow, b_addt, b_adds, atI0, atI1, atI2, atI3, slc_t, slc_r, len_s, abs_i, str_i, int_i, int_b, min_i, max_i, lcm_i, gcd_i, seq_t, seq_r, r1_i, r2_i, r3_i, a_nm, a_nil, a_cons, vrl_some, vrn_some, put_lget, Option.isSome_some, tru_ref, b_addl, idx_t, idx_r, idx_l, slc_l, len_t, len_r, len_l, tuple_t, tuple_r, tuple_l, list_t, list_r, list_l, app_l, rev_l, pop_l, popat_l, mT_l, seq_l, enu_l, enu_t, fld_i, mcl_i, setf_i, vri_some, vrk_some, mk_0, mk_1, b_mull, zip_l, rev_i, rev_t, in_t, notin_t, fl_s, fl_i, fl_b, fl_n, inL_nil, inL_ss, inL_ii, List.all_cons, List.all_nil, Bool.and_self, Bool.and_true, Bool.true_and, zip_t, zip_m, a_t, a_l, sub_l, isTs, isT, Option.map_some, List.length_cons, List.length_nil, List.lookup_nil, Nat.reduceAdd, Nat.reduceSub, Nat.reduceLT, Nat.zero_add, Bool.false_eq_true, Bool.true_eq_false, if_false, if_true, decide_eq_true_eq, Bool.not_true, Bool.not_false, ite_true, ite_false, reduceIte, Bool.not_eq_true', decide_eq_false_iff_not, Int.cast_ofNat_Int, Int.reduceEq, Int.reduceLT, Int.reduceLE, Int.reduceNeg, Int.reduceAdd, Int.reduceSub, Int.reduceMul, Int.reduceToNat, decide_true, decide_false, not_true, not_false, not_true_eq_false, not_false_eq_true, true_and, and_true, eq_self, reduceCtorEq, List.isEmpty_nil, List.isEmpty_cons, List.nil_append, List.cons_append, ↓E_smt, ↓E_fldx, ↓E_dct, ↓E_gix, ↓E_rsl,  ↓E_lck, ↓S_raisef, ↓S_trym, ↓S_aug, H_nil, H_cons0, H_cons1, gx_xf, gx_kd, okx_nil, okx_ref, xpl_ref, xfS_i, xfS_s, fldxS_p, gixS_s, vrp_some, vlo_some, vrC_some, idx_s, idx_d, slc_s, b_muls, int_s, ord_s, divmod_i, sorted_x, dict_r, sm_join, sm_part, sm_sw, sm_strip, sm_lstrip, sm_zfill, sm_split, sm_digit, sm_alnum, isstr_s, seq_s, rsl_l]
  have rest : semF G T (k + 1) "rational" [.int (a.num * b.den - b.num * a.den), .int (a.den * b.den)] S Q E := by
    refine rational_ok hR hp (Int.ne_of_gt (Int.mul_pos (den_pos a) (den_pos b))) ?_
    rw [sub_is]
    exact h
  refine ite2 (fun h1 => ite2 (fun h2 => ?_) fun h2 => ?_) fun h1 => ?_
  · have e : a - b = ((a.num - b.num : Int) : Rat) := by
      rw [Rat.intCast_sub, ← whole h1, ← whole h2]
    rw [e, QD_int] at h
    exact h
  all_goals exact ⟨ha.num.mulOk hb.den hmn, hb.num.mulOk ha.den (by omega), ha.den.mulOk hb.den hmn, rest⟩
theorem rmul_ok (hT : T "rmul" = some F_rmul) (hR : T "rational" = some F_rational) (hp : G.PY) {a b : Rat} {m n : Nat} (ha : QB a m) (hb : QB b n) (hmn : m + n ≤ 134217728) (h : Q (QD (a * b)) S) : semF G T (k + 2) "rmul" [QD a, QD b] S Q E := by
  refine call_of hT rfl ?_
  simp -dsimp -implicitDefEqProofs only [ent, List.map_cons, List.map_nil, List.length_cons, List.length_nil, Nat.reduceAdd, Nat.reduceSub, Nat.zero_add, List.replicate, List.cons_append, List.nil_append, F_rmul, QD]
  simp -dsimp -implicitDefEqProofs only [↓cov3, ↓cov2, ↓cov1, ↓E_var, ↓E_int, ↓E_bl, ↓E_non, ↓E_str, ↓E_glo, ↓E_tup, ↓E_lst, ↓E_bin, ↓E_neg, ↓E_cmp, ↓E_chn, ↓E_and, ↓E_or, ↓E_one, ↓E_not, ↓E_ifx, ↓E_idx, ↓E_slc, ↓E_call, ↓E_bi, ↓E_isi, ↓E_mth, ↓E_lc, ↓E_fld, ↓E_mcl, ↓E_mk, ↓Es_nil, ↓Es_cons, ↓O_no, ↓O_some, ↓Q_no, ↓Q_c, ↓C_and, ↓C_or, ↓C_one, ↓C_not, ↓C_cmp, ↓C_chn, ↓C_v, ↓I_seq, ↓I_rng1, ↓I_rng2, ↓I_rng3, ↓I_enu, ↓I_zip, ↓I_rev, ↓S_set, ↓S_asg, ↓S_par2, ↓S_sub, ↓S_expr, ↓S_ret, ↓S_retN, ↓S_ifs, ↓S_for, ↓S_brk, ↓S_cnt, ↓S_pass, ↓S_raise, ↓S_try, ↓S_tryas, ↓E_isx, ↓E_isxs, kW_nx, kW_rt, kW_bk, kW_ct, kW_ex, gx_sub, gx_cs, gx_PY, ↓S_never, ↓S_setf, ex_t, ex_f, ↓S_nil, ↓S_cons, ↓kN_nx, ↓kN_rt, ↓kN_bk, ↓kN_ct, ↓kN_ex, ↓kL_nx, ↓kL_rt, ↓kL_bk, ↓kL_ct, ↓kL_ex, ↓kX_nx, ↓kX_rt, ↓kX_bk, ↓kX_ct, ↓kX_ex, ↓kend_nx, ↓kend_rt, ↓kend_bk, ↓kend_ct, ↓kend_ex, vr_some, gt_0, gt_s, stn_0, stn_s, wip_0, wip_s, wips_0, wips_s, neg_i, isi_s, o_i, tru_non, tru_bl, tru_int, tru_tup, tru_rol, c_Eq, c_NotEq, c_Lt, c_LtE, c_Gt, c_GtE, cs_Eq, cs_NotEq, cb_Eq, cb_NotEq, c2_Eq, c2_NotEq, is_non, isnot_non, is_bl, isnot_bl, is_int, isnot_int, is_str, isnot_str, is_tup, isnot_tup, is_rol, isnot_rol, is_ref, isnot_ref, is_b, isnot_b, in_s, notin_s, b_add, b_sub, b_mul, b_fdiv, b_mod, b_pow, b_addt, b_adds, atI0, atI1, atI2, atI3, slc_t, slc_r, len_s, abs_i, str_i, int_i, int_b, min_i, max_i, lcm_i, gcd_i, seq_t, seq_r, r1_i, r2_i, r3_i, a_nm, a_nil, a_cons, vrl_some, vrn_some, put_lget, Option.isSome_some, tru_ref, b_addl, idx_t, idx_r, idx_l, slc_l, len_t, len_r, len_l, tuple_t, tuple_r, tuple_l, list_t, list_r, list_l, app_l, rev_l, pop_l, popat_l, mT_l, seq_l, enu_l, enu_t, fld_i, mcl_i, setf_i, vri_some, vrk_some, mk_0, mk_1, b_mull, zip_l, rev_i, rev_t, in_t, notin_t, fl_s, fl_i, fl_b, fl_n, inL_nil, inL_ss, inL_ii, List.all_cons, List.all_nil, Bool.and_self, Bool.and_true, Bool.true_and, zip_t, zip_m, a_t, a_l, sub_l, isTs, isT, Option.map_some, List.length_cons, List.length_nil, List.lookup_nil, Nat.reduceAdd, Nat.reduceSub, Nat.reduceLT, Nat.zero_add, Bool.false_eq_true, Bool.true_eq_false, if_false, if_true, decide_eq_true_eq, Bool.not_true, Bool.not_false, ite_true, ite_false, reduceIte, Bool.not_eq_true', decide_eq_false_iff_not, Int.cast_ofNat_Int, Int.reduceEq, Int.reduceLT, Int.reduceLE, Int.reduceNeg, Int.reduceAdd, Int.reduceSub, Int.reduceMul, Int.reduceToNat, decide_true, decide_false, not_true, not_false, not_true_eq_false, not_false_eq_true, true_and, and_true, eq_self, reduceCtorEq, List.isEmpty_nil, List.isEmpty_cons, List.nil_append, List.cons_append, ↓E_smt, ↓E_fldx, ↓E_dct, ↓E_gix, ↓E_rsl,  ↓E_lck, ↓S_raisef, ↓S_trym, ↓S_aug, H_nil, H_cons0, H_cons1, gx_xf, gx_kd, okx_nil, okx_ref, xpl_ref, xfS_i, xfS_s, fldxS_p, gixS_s, vrp_some, vlo_some, vrC_some, idx_s, idx_d, slc_s, b_muls, int_s, ord_s, divmod_i, sorted_x, dict_r, sm_join, sm_part, sm_sw, sm_strip, sm_lstrip, sm_zfill, sm_split, sm_digit, sm_alnum, isstr_s, seq_s, rsl_l]
  have rest : semF G T (k + 1) "rational" [.int (a.num * b.num), .int (a.den * b.den)] S Q E := by
    refine rational_ok hR hp (Int.ne_of_gt (Int.mul_pos (den_pos a) (den_pos b))) ?_
    rw [mul_is]
    exact h
  refine ite2 (fun h1 => ite2 (fun h2 => ?_) fun h2 => ?_) fun h1 => ?_
  · have e : a * b = ((a.num * b.num : Int) : Rat) := by
      rw [Rat.intCast_mul, ← whole h1, ← whole h2]
    rw [e, QD_int] at h
    exact ⟨ha.num.mulOk hb.num hmn, h⟩
  all_goals exact ⟨ha.num.mulOk hb.num hmn, ha.den.mulOk hb.den hmn, rest⟩
theorem rneg_ok (hT : T "rneg" = some F_rneg) {a : Rat} (h : Q (QD (-a)) S) : semF G T (k + 1) "rneg" [QD a] S Q E := by
  refine call_of hT rfl ?_
  simp -dsimp -implicitDefEqProofs only [ent, List.map_cons, List.map_nil, List.length_cons, List.length_nil, Nat.reduceAdd, Nat.reduceSub, Nat.zero_add, List.replicate, List.cons_append, List.nil_append, F_rneg, QD]
  simp -dsimp -implicitDefEqProofs only [↓cov3, ↓cov2, ↓cov1, ↓E_var, ↓E_int, ↓E_bl, ↓E_non, ↓E_str, ↓E_glo, ↓E_tup, ↓E_lst, ↓E_bin, ↓E_neg, ↓E_cmp, ↓E_chn, ↓E_and, ↓E_or, ↓E_one, ↓E_not, ↓E_ifx, ↓E_idx, ↓E_slc, ↓E_call, ↓E_bi, ↓E_isi, ↓E_mth, ↓E_lc, ↓E_fld, ↓E_mcl, ↓E_mk, ↓Es_nil, ↓Es_cons, ↓O_no, ↓O_some, ↓Q_no, ↓Q_c, ↓C_and, ↓C_or, ↓C_one, ↓C_not, ↓C_cmp, ↓C_chn, ↓C_v, ↓I_seq, ↓I_rng1, ↓I_rng2, ↓I_rng3, ↓I_enu, ↓I_zip, ↓I_rev, ↓S_set, ↓S_asg, ↓S_par2, ↓S_sub, ↓S_expr, ↓S_ret, ↓S_retN, ↓S_ifs, ↓S_for, ↓S_brk, ↓S_cnt, ↓S_pass, ↓S_raise, ↓S_try, ↓S_tryas, ↓E_isx, ↓E_isxs, kW_nx, kW_rt, kW_bk, kW_ct, kW_ex, gx_sub, gx_cs, gx_PY, ↓S_never, ↓S_setf, ex_t, ex_f, ↓S_nil, ↓S_cons, ↓kN_nx, ↓kN_rt, ↓kN_bk, ↓kN_ct, ↓kN_ex, ↓kL_nx, ↓kL_rt, ↓kL_bk, ↓kL_ct, ↓kL_ex, ↓kX_nx, ↓kX_rt, ↓kX_bk, ↓kX_ct, ↓kX_ex, ↓kend_nx, ↓kend_rt, ↓kend_bk, ↓kend_ct, ↓kend_ex, vr_some, gt_0, gt_s, stn_0, stn_s, wip_0, wip_s, wips_0, wips_s, neg_i, isi_s, o_i, tru_non, tru_bl, tru_int, tru_tup, tru_rol, c_Eq, c_NotEq, c_Lt, c_LtE, c_Gt, c_GtE, cs_Eq, cs_NotEq, cb_Eq, cb_NotEq, c2_Eq, c2_NotEq, is_non, isnot_non, is_bl, isnot_bl, is_int, isnot_int, is_str, isnot_str, is_tup, isnot_tup, is_rol, isnot_rol, is_ref, isnot_ref, is_b, isnot_b, in_s, notin_s, b_add, b_sub, b_mul, b_fdiv, b_mod, b_pow, b_addt, b_adds, atI0, atI1, atI2, atI3, slc_t, slc_r, len_s, abs_i, str_i, int_i, int_b, min_i, max_i, lcm_i, gcd_i, seq_t, seq_r, r1_i, r2_i, r3_i, a_nm, a_nil, a_cons, vrl_some, vrn_some, put_lget, Option.isSome_some, tru_ref, b_addl, idx_t, idx_r, idx_l, slc_l, len_t, len_r, len_l, tuple_t, tuple_r, tuple_l, list_t, list_r, list_l, app_l, rev_l, pop_l, popat_l, mT_l, seq_l, enu_l, enu_t, fld_i, mcl_i, setf_i, vri_some, vrk_some, mk_0, mk_1, b_mull, zip_l, rev_i, rev_t, in_t, notin_t, fl_s, fl_i, fl_b, fl_n, inL_nil, inL_ss, inL_ii, List.all_cons, List.all_nil, Bool.and_self, Bool.and_true, Bool.true_and, zip_t, zip_m, a_t, a_l, sub_l, isTs, isT, Option.map_some, List.length_cons, List.length_nil, List.lookup_nil, Nat.reduceAdd, Nat.reduceSub, Nat.reduceLT, Nat.zero_add, Bool.false_eq_true, Bool.true_eq_false, if_false, if_true, decide_eq_true_eq, Bool.not_true, Bool.not_false, ite_true, ite_false, reduceIte, Bool.not_eq_true', decide_eq_false_iff_not, Int.cast_ofNat_Int, Int.reduceEq, Int.reduceLT, Int.reduceLE, Int.reduceNeg, Int.reduceAdd, Int.reduceSub, Int.reduceMul, Int.reduceToNat, decide_true, decide_false, not_true, not_false, not_true_eq_false, not_false_eq_true, true_and, and_true, eq_self, reduceCtorEq, List.isEmpty_nil, List.isEmpty_cons, List.nil_append, List.cons_append, ↓E_smt, ↓E_fldx, ↓E_dct, ↓E_gix, ↓E_rsl,  ↓E_lck, ↓S_raisef, ↓S_trym, ↓S_aug, H_nil, H_cons0, H_cons1, gx_xf, gx_kd, okx_nil, okx_ref, xpl_ref, xfS_i, xfS_s, fldxS_p, gixS_s, vrp_some, vlo_some, vrC_some, idx_s, idx_d, slc_s, b_muls, int_s, ord_s, divmod_i, sorted_x, dict_r, sm_join, sm_part, sm_sw, sm_strip, sm_lstrip, sm_zfill, sm_split, sm_digit, sm_alnum, isstr_s, seq_s, rsl_l]
  exact h
theorem rinv_ok (hT : T "rinv" = some F_rinv) (hR : T "rational" = some F_rational) (hp : G.PY) {a : Rat} (h0 : a.num ≠ 0) (h : Q (QD a⁻¹) S) : semF G T (k + 2) "rinv" [QD a] S Q E := by
  refine call_of hT rfl ?_
  simp -dsimp -implicitDefEqProofs only [ent, List.map_cons, List.map_nil, List.length_cons, List.length_nil, Nat.reduceAdd, Nat.reduceSub, Nat.zero_add, List.replicate, List.cons_append, List.nil_append, F_rinv, QD]
  simp -dsimp -implicitDefEqProofs only [↓cov3, ↓cov2, ↓cov1, ↓E_var, ↓E_int, ↓E_bl, ↓E_non, ↓E_str, ↓E_glo, ↓E_tup, ↓E_lst, ↓E_bin, ↓E_neg, ↓E_cmp, ↓E_chn, ↓E_and, ↓E_or, ↓E_one, ↓E_not, ↓E_ifx, ↓E_idx, ↓E_slc, ↓E_call, ↓E_bi, ↓E_isi, ↓E_mth, ↓E_lc, ↓E_fld, ↓E_mcl, ↓E_mk, ↓Es_nil, ↓Es_cons, ↓O_no, ↓O_some, ↓Q_no, ↓Q_c, ↓C_and, ↓C_or, ↓C_one, ↓C_not, ↓C_cmp, ↓C_chn, ↓C_v, ↓I_seq, ↓I_rng1, ↓I_rng2, ↓I_rng3, ↓I_enu, ↓I_zip, ↓I_rev, ↓S_set, ↓S_asg, ↓S_par2, ↓S_sub, ↓S_expr, ↓S_ret, ↓S_retN, ↓S_ifs, ↓S_for, ↓S_brk, ↓S_cnt, ↓S_pass, ↓S_raise, ↓S_try, ↓S_tryas, ↓E_isx, ↓E_isxs, kW_nx, kW_rt, kW_bk, kW_ct, kW_ex, gx_sub, gx_cs, gx_PY, ↓S_never, ↓S_setf, ex_t, ex_f, ↓S_nil, ↓S_cons, ↓kN_nx, ↓kN_rt, ↓kN_bk, ↓kN_ct, ↓kN_ex, ↓kL_nx, ↓kL_rt, ↓kL_bk, ↓kL_ct, ↓kL_ex, ↓kX_nx, ↓kX_rt, ↓kX_bk, ↓kX_ct, ↓kX_ex, ↓kend_nx, ↓kend_rt, ↓kend_bk, ↓kend_ct, ↓kend_ex, vr_some, gt_0, gt_s, stn_0, stn_s, wip_0, wip_s, wips_0, wips_s, neg_i, isi_s, o_i, tru_non, tru_bl, tru_int, tru_tup, tru_rol, c_Eq, c_NotEq, c_Lt, c_LtE, c_Gt, c_GtE, cs_Eq, cs_NotEq, cb_Eq, cb_NotEq, c2_Eq, c2_NotEq, is_non, isnot_non, is_bl, isnot_bl, is_int, isnot_int, is_str, isnot_str, is_tup, isnot_tup, is_rol, isnot_rol, is_ref, isnot_ref, is_b, isnot_b, in_s, notin_s, b_add, b_sub, b_mul, b_fdiv, b_mod, b_pow, b_addt, b_adds, atI0, atI1, atI2, atI3, slc_t, slc_r, len_s, abs_i, str_i, int_i, int_b, min_i, max_i, lcm_i, gcd_i, seq_t, seq_r, r1_i, r2_i, r3_i, a_nm, a_nil, a_cons, vrl_some, vrn_some, put_lget, Option.isSome_some, tru_ref, b_addl, idx_t, idx_r, idx_l, slc_l, len_t, len_r, len_l, tuple_t, tuple_r, tuple_l, list_t, list_r, list_l, app_l, rev_l, pop_l, popat_l, mT_l, seq_l, enu_l, enu_t, fld_i, mcl_i, setf_i, vri_some, vrk_some, mk_0, mk_1, b_mull, zip_l, rev_i, rev_t, in_t, notin_t, fl_s, fl_i, fl_b, fl_n, inL_nil, inL_ss, inL_ii, List.all_cons, List.all_nil, Bool.and_self, Bool.and_true, Bool.true_and, zip_t, zip_m, a_t, a_l, sub_l, isTs, isT, Option.map_some, List.length_cons, List.length_nil, List.lookup_nil, Nat.reduceAdd, Nat.reduceSub, Nat.reduceLT, Nat.zero_add, Bool.false_eq_true, Bool.true_eq_false, if_false, if_true, decide_eq_true_eq, Bool.not_true, Bool.not_false, ite_true, ite_false, reduceIte, Bool.not_eq_true', decide_eq_false_iff_not, Int.cast_ofNat_Int, Int.reduceEq, Int.reduceLT, Int.reduceLE, Int.reduceNeg, Int.reduceAdd, Int.reduceSub, Int.reduceMul, Int.reduceToNat, decide_true, decide_false, not_true, not_false, not_true_eq_false, not_false_eq_true, true_and, and_true, eq_self, reduceCtorEq, List.isEmpty_nil, List.isEmpty_cons, List.nil_append, List.cons_append, ↓E_smt, ↓E_fldx, ↓E_dct, ↓E_gix, ↓E_rsl,  ↓E_lck, ↓S_raisef, ↓S_trym, ↓S_aug, H_nil, H_cons0, H_cons1, gx_xf, gx_kd, okx_nil, okx_ref, xpl_ref, xfS_i, xfS_s, fldxS_p, gixS_s, vrp_some, vlo_some, vrC_some, idx_s, idx_d, slc_s, b_muls, int_s, ord_s, divmod_i, sorted_x, dict_r, sm_join, sm_part, sm_sw, sm_strip, sm_lstrip, sm_zfill, sm_split, sm_digit, sm_alnum, isstr_s, seq_s, rsl_l]
  refine rational_ok hR hp h0 ?_
  rw [inv_is]
  exact h
theorem rdiv_ok (hT : T "rdiv" = some F_rdiv) (hR : T "rational" = some F_rational) (hp : G.PY) {a b : Rat} {m n : Nat} (ha : QB a m) (hb : QB b n) (hmn : m + n ≤ 134217728) (h0 : b.num ≠ 0) (h : Q (QD (a / b)) S) : semF G T (k + 2) "rdiv" [QD a, QD b] S Q E := by
  refine call_of hT rfl ?_
  simp -dsimp -implicitDefEqProofs only [ent, List.map_cons, List.map_nil, List.length_cons, List.length_nil, Nat.reduceAdd, Nat.reduceSub, Nat.zero_add, List.replicate, List.cons_append, List.nil_append, F_rdiv, QD]
  simp -dsimp -implicitDefEqProofs only [↓cov3, ↓cov2, ↓cov1, ↓E_var, ↓E_int, ↓E_bl, ↓E_non, ↓E_str, ↓E_glo, ↓E_tup, ↓E_lst, ↓E_bin, ↓E_neg, ↓E_cmp, ↓E_chn, ↓E_and, ↓E_or, ↓E_one, ↓E_not, ↓E_ifx, ↓E_idx, ↓E_slc, ↓E_call, ↓E_bi, ↓E_isi, ↓E_mth, ↓E_lc, ↓E_fld, ↓E_mcl, ↓E_mk, ↓Es_nil, ↓Es_cons, ↓O_no, ↓O_some, ↓Q_no, ↓Q_c, ↓C_and, ↓C_or, ↓C_one, ↓C_not, ↓C_cmp, ↓C_chn, ↓C_v, ↓I_seq, ↓I_rng1, ↓I_rng2, ↓I_rng3, ↓I_enu, ↓I_zip, ↓I_rev, ↓S_set, ↓S_asg, ↓S_par2, ↓S_sub, ↓S_expr, ↓S_ret, ↓S_retN, ↓S_ifs, ↓S_for, ↓S_brk, ↓S_cnt, ↓S_pass, ↓S_raise, ↓S_try, ↓S_tryas, ↓E_isx, ↓E_isxs, kW_nx, kW_rt, kW_bk, kW_ct, kW_ex, gx_sub, gx_cs, gx_PY, ↓S_never, ↓S_setf, ex_t, ex_f, ↓S_nil, ↓S_cons, ↓kN_nx, ↓kN_rt, ↓kN_bk, ↓kN_ct, ↓kN_ex, ↓kL_nx, ↓kL_rt, ↓kL_bk, ↓kL_ct, ↓kL_ex, ↓kX_nx, ↓kX_rt, ↓kX_bk, ↓kX_ct, ↓kX_ex, ↓kend_nx, ↓kend_rt, ↓kend_bk, ↓kend_ct, ↓kend_ex, vr_some, gt_0, gt_s, stn_0, stn_s, wip_0, wip_s, wips_0, wips_s, neg_i, isi_s, o_i, tru_non, tru_bl, tru_int, tru_tup, tru_rol, c_Eq, c_NotEq, c_Lt, c_LtE, c_Gt, c_GtE, cs_Eq, cs_NotEq, cb_Eq, cb_NotEq, c2_Eq, c2_NotEq, is_non, isnot_non, is_bl, isnot_bl, is_int, isnot_int, is_str, isnot_str, is_tup, isnot_tup, is_rol, isnot_rol, is_ref, isnot_ref, is_b, isnot_b, in_s, notin_s, b_add, b_sub, b_mul, b_fdiv, b_mod, b_pow, b_addt, b_adds, atI0, atI1, atI2, atI3, slc_t, slc_r, len_s, abs_i, str_i, int_i, int_b, min_i, max_i, lcm_i, gcd_i, seq_t, seq_r, r1_i, r2_i, r3_i, a_nm, a_nil, a_cons, vrl_some, vrn_some, put_lget, Option.isSome_some, tru_ref, b_addl, idx_t, idx_r, idx_l, slc_l, len_t, len_r, len_l, tuple_t, tuple_r, tuple_l, list_t, list_r, list_l, app_l, rev_l, pop_l, popat_l, mT_l, seq_l, enu_l, enu_t, fld_i, mcl_i, setf_i, vri_some, vrk_some, mk_0, mk_1, b_mull, zip_l, rev_i, rev_t, in_t, notin_t, fl_s, fl_i, fl_b, fl_n, inL_nil, inL_ss, inL_ii, List.all_cons, List.all_nil, Bool.and_self, Bool.and_true, Bool.true_and, zip_t, zip_m, a_t, a_l, sub_l, isTs, isT, Option.map_some, List.length_cons, List.length_nil, List.lookup_nil, Nat.reduceAdd, Nat.reduceSub, Nat.reduceLT, Nat.zero_add, Bool.false_eq_true, Bool.true_eq_false, if_false, if_true, decide_eq_true_eq, Bool.not_true, Bool.not_false, ite_true, ite_false, reduceIte, Bool.not_eq_true', decide_eq_false_iff_not, Int.cast_ofNat_Int, Int.reduceEq, Int.reduceLT, Int.reduceLE, Int.reduceNeg, Int.reduceAdd, Int.reduceSub, Int.reduceMul, Int.reduceToNat, decide_true, decide_false, not_true, not_false, not_true_eq_false, not_false_eq_true, true_and, and_true, eq_self, reduceCtorEq, List.isEmpty_nil, List.isEmpty_cons, List.nil_append, List.cons_append, ↓E_smt, ↓E_fldx, ↓E_dct, ↓E_gix, ↓E_rsl,  ↓E_lck, ↓S_raisef, ↓S_trym, ↓S_aug, H_nil, H_cons0, H_cons1, gx_xf, gx_kd, okx_nil, okx_ref, xpl_ref, xfS_i, xfS_s, fldxS_p, gixS_s, vrp_some, vlo_some, vrC_some, idx_s, idx_d, slc_s, b_muls, int_s, ord_s, divmod_i, sorted_x, dict_r, sm_join, sm_part, sm_sw, sm_strip, sm_lstrip, sm_zfill, sm_split, sm_digit, sm_alnum, isstr_s, seq_s, rsl_l]
  refine ⟨ha.num.mulOk hb.den hmn, ha.den.mulOk hb.num hmn, rational_ok hR hp (Int.mul_ne_zero (Int.ne_of_gt (den_pos a)) h0) ?_⟩
  rw [div_is]
  exact h
theorem rsign_ok (hT : T "rsign" = some F_rsign) {a : Rat} (h : Q (.int a.num.sign) S) : semF G T (k + 1) "rsign" [QD a] S Q E := by
  refine call_of hT rfl ?_
  simp -dsimp -implicitDefEqProofs only [ent, List.map_cons, List.map_nil, List.length_cons, List.length_nil, Nat.reduceAdd, Nat.reduceSub, Nat.zero_add, List.replicate, List.cons_append, List.nil_append, F_rsign, QD]
  simp -dsimp -implicitDefEqProofs only [↓cov3, ↓cov2, ↓cov1, ↓E_var, ↓E_int, ↓E_bl, ↓E_non, ↓E_str, ↓E_glo, ↓E_tup, ↓E_lst, ↓E_bin, ↓E_neg, ↓E_cmp, ↓E_chn, ↓E_and, ↓E_or, ↓E_one, ↓E_not, ↓E_ifx, ↓E_idx, ↓E_slc, ↓E_call, ↓E_bi, ↓E_isi, ↓E_mth, ↓E_lc, ↓E_fld, ↓E_mcl, ↓E_mk, ↓Es_nil, ↓Es_cons, ↓O_no, ↓O_some, ↓Q_no, ↓Q_c, ↓C_and, ↓C_or, ↓C_one, ↓C_not, ↓C_cmp, ↓C_chn, ↓C_v, ↓I_seq, ↓I_rng1, ↓I_rng2, ↓I_rng3, ↓I_enu, ↓I_zip, ↓I_rev, ↓S_set, ↓S_asg, ↓S_par2, ↓S_sub, ↓S_expr, ↓S_ret, ↓S_retN, ↓S_ifs, ↓S_for, ↓S_brk, ↓S_cnt, ↓S_pass, ↓S_raise, ↓S_try, ↓S_tryas, ↓E_isx, ↓E_isxs, kW_nx, kW_rt, kW_bk, kW_ct, kW_ex, gx_sub, gx_cs, gx_PY, ↓S_never, ↓S_setf, ex_t, ex_f, ↓S_nil, ↓S_cons, ↓kN_nx, ↓kN_rt, ↓kN_bk, ↓kN_ct, ↓kN_ex, ↓kL_nx, ↓kL_rt, ↓kL_bk, ↓kL_ct, ↓kL_ex, ↓kX_nx, ↓kX_rt, ↓kX_bk, ↓kX_ct, ↓kX_ex, ↓kend_nx, ↓kend_rt, ↓kend_bk, ↓kend_ct, ↓kend_ex, vr_some, gt_0, gt_s, stn_0, stn_s, wip_0, wip_s, wips_0, wips_s, neg_i, isi_s, o_i, tru_non, tru_bl, tru_int, tru_tup, tru_rol, c_Eq, c_NotEq, c_Lt, c_LtE, c_Gt, c_GtE, cs_Eq, cs_NotEq, cb_Eq, cb_NotEq, c2_Eq, c2_NotEq, is_non, isnot_non, is_bl, isnot_bl, is_int, isnot_int, is_str, isnot_str, is_tup, isnot_tup, is_rol, isnot_rol, is_ref, isnot_ref, is_b, isnot_b, in_s, notin_s, b_add, b_sub, b_mul, b_fdiv, b_mod, b_pow, b_addt, b_adds, atI0, atI1, atI2, atI3, slc_t, slc_r, len_s, abs_i, str_i, int_i, int_b, min_i, max_i, lcm_i, gcd_i, seq_t, seq_r, r1_i, r2_i, r3_i, a_nm, a_nil, a_cons, vrl_some, vrn_some, put_lget, Option.isSome_some, tru_ref, b_addl, idx_t, idx_r, idx_l, slc_l, len_t, len_r, len_l, tuple_t, tuple_r, tuple_l, list_t, list_r, list_l, app_l, rev_l, pop_l, popat_l, mT_l, seq_l, enu_l, enu_t, fld_i, mcl_i, setf_i, vri_some, vrk_some, mk_0, mk_1, b_mull, zip_l, rev_i, rev_t, in_t, notin_t, fl_s, fl_i, fl_b, fl_n, inL_nil, inL_ss, inL_ii, List.all_cons, List.all_nil, Bool.and_self, Bool.and_true, Bool.true_and, zip_t, zip_m, a_t, a_l, sub_l, isTs, isT, Option.map_some, List.length_cons, List.length_nil, List.lookup_nil, Nat.reduceAdd, Nat.reduceSub, Nat.reduceLT, Nat.zero_add, Bool.false_eq_true, Bool.true_eq_false, if_false, if_true, decide_eq_true_eq, Bool.not_true, Bool.not_false, ite_true, ite_false, reduceIte, Bool.not_eq_true', decide_eq_false_iff_not, Int.cast_ofNat_Int, Int.reduceEq, Int.reduceLT, Int.reduceLE, Int.reduceNeg, Int.reduceAdd, Int.reduceSub, Int.reduceMul, Int.reduceToNat, decide_true, decide_false, not_true, not_false, not_true_eq_false, not_false_eq_true, true_and, and_true, eq_self, reduceCtorEq, List.isEmpty_nil, List.isEmpty_cons, List.nil_append, List.cons_append, ↓E_smt, ↓E_fldx, ↓E_dct, ↓E_gix, ↓E_rsl,  ↓E_lck, ↓S_raisef, ↓S_trym, ↓S_aug, H_nil, H_cons0, H_cons1, gx_xf, gx_kd, okx_nil, okx_ref, xpl_ref, xfS_i, xfS_s, fldxS_p, gixS_s, vrp_some, vlo_some, vrC_some, idx_s, idx_d, slc_s, b_muls, int_s, ord_s, divmod_i, sorted_x, dict_r, sm_join, sm_part, sm_sw, sm_strip, sm_lstrip, sm_zfill, sm_split, sm_digit, sm_alnum, isstr_s, seq_s, rsl_l]
  refine ite2 (fun h1 => ?_) fun h1 => ite2 (fun h2 => ?_) fun h2 => ?_
  · rw [h1] at h
    exact h
  · rw [Int.sign_eq_one_of_pos h2] at h
    exact h
  · rw [Int.sign_eq_neg_one_of_neg (by omega)] at h
    exact h
theorem rwhole_ok (hT : T "rwhole" = some F_rwhole) {a : Rat} (h : Q (.bl (decide ((a.den : Int) = 1))) S) : semF G T (k + 1) "rwhole" [QD a] S Q E := by
  refine call_of hT rfl ?_
  simp -dsimp -implicitDefEqProofs only [ent, List.map_cons, List.map_nil, List.length_cons, List.length_nil, Nat.reduceAdd, Nat.reduceSub, Nat.zero_add, List.replicate, List.cons_append, List.nil_append, F_rwhole, QD]
  simp -dsimp -implicitDefEqProofs only [↓cov3, ↓cov2, ↓cov1, ↓E_var, ↓E_int, ↓E_bl, ↓E_non, ↓E_str, ↓E_glo, ↓E_tup, ↓E_lst, ↓E_bin, ↓E_neg, ↓E_cmp, ↓E_chn, ↓E_and, ↓E_or, ↓E_one, ↓E_not, ↓E_ifx, ↓E_idx, ↓E_slc, ↓E_call, ↓E_bi, ↓E_isi, ↓E_mth, ↓E_lc, ↓E_fld, ↓E_mcl, ↓E_mk, ↓Es_nil, ↓Es_cons, ↓O_no, ↓O_some, ↓Q_no, ↓Q_c, ↓C_and, ↓C_or, ↓C_one, ↓C_not, ↓C_cmp, ↓C_chn, ↓C_v, ↓I_seq, ↓I_rng1, ↓I_rng2, ↓I_rng3, ↓I_enu, ↓I_zip, ↓I_rev, ↓S_set, ↓S_asg, ↓S_par2, ↓S_sub, ↓S_expr, ↓S_ret, ↓S_retN, ↓S_ifs, ↓S_for, ↓S_brk, ↓S_cnt, ↓S_pass, ↓S_raise, ↓S_try, ↓S_tryas, ↓E_isx, ↓E_isxs, kW_nx, kW_rt, kW_bk, kW_ct, kW_ex, gx_sub, gx_cs, gx_PY, ↓S_never, ↓S_setf, ex_t, ex_f, ↓S_nil, ↓S_cons, ↓kN_nx, ↓kN_rt, ↓kN_bk, ↓kN_ct, ↓kN_ex, ↓kL_nx, ↓kL_rt, ↓kL_bk, ↓kL_ct, ↓kL_ex, ↓kX_nx, ↓kX_rt, ↓kX_bk, ↓kX_ct, ↓kX_ex, ↓kend_nx, ↓kend_rt, ↓kend_bk, ↓kend_ct, ↓kend_ex, vr_some, gt_0, gt_s, stn_0, stn_s, wip_0, wip_s, wips_0, wips_s, neg_i, isi_s, o_i, tru_non, tru_bl, tru_int, tru_tup, tru_rol, c_Eq, c_NotEq, c_Lt, c_LtE, c_Gt, c_GtE, cs_Eq, cs_NotEq, cb_Eq, cb_NotEq, c2_Eq, c2_NotEq, is_non, isnot_non, is_bl, isnot_bl, is_int, isnot_int, is_str, isnot_str, is_tup, isnot_tup, is_rol, isnot_rol, is_ref, isnot_ref, is_b, isnot_b, in_s, notin_s, b_add, b_sub, b_mul, b_fdiv, b_mod, b_pow, b_addt, b_adds, atI0, atI1, atI2, atI3, slc_t, slc_r, len_s, abs_i, str_i, int_i, int_b, min_i, max_i, lcm_i, gcd_i, seq_t, seq_r, r1_i, r2_i, r3_i, a_nm, a_nil, a_cons, vrl_some, vrn_some, put_lget, Option.isSome_some, tru_ref, b_addl, idx_t, idx_r, idx_l, slc_l, len_t, len_r, len_l, tuple_t, tuple_r, tuple_l, list_t, list_r, list_l, app_l, rev_l, pop_l, popat_l, mT_l, seq_l, enu_l, enu_t, fld_i, mcl_i, setf_i, vri_some, vrk_some, mk_0, mk_1, b_mull, zip_l, rev_i, rev_t, in_t, notin_t, fl_s, fl_i, fl_b, fl_n, inL_nil, inL_ss, inL_ii, List.all_cons, List.all_nil, Bool.and_self, Bool.and_true, Bool.true_and, zip_t, zip_m, a_t, a_l, sub_l, isTs, isT, Option.map_some, List.length_cons, List.length_nil, List.lookup_nil, Nat.reduceAdd, Nat.reduceSub, Nat.reduceLT, Nat.zero_add, Bool.false_eq_true, Bool.true_eq_false, if_false, if_true, decide_eq_true_eq, Bool.not_true, Bool.not_false, ite_true, ite_false, reduceIte, Bool.not_eq_true', decide_eq_false_iff_not, Int.cast_ofNat_Int, Int.reduceEq, Int.reduceLT, Int.reduceLE, Int.reduceNeg, Int.reduceAdd, Int.reduceSub, Int.reduceMul, Int.reduceToNat, decide_true, decide_false, not_true, not_false, not_true_eq_false, not_false_eq_true, true_and, and_true, eq_self, reduceCtorEq, List.isEmpty_nil, List.isEmpty_cons, List.nil_append, List.cons_append, ↓E_smt, ↓E_fldx, ↓E_dct, ↓E_gix, ↓E_rsl,  ↓E_lck, ↓S_raisef, ↓S_trym, ↓S_aug, H_nil, H_cons0, H_cons1, gx_xf, gx_kd, okx_nil, okx_ref, xpl_ref, xfS_i, xfS_s, fldxS_p, gixS_s, vrp_some, vlo_some, vrC_some, idx_s, idx_d, slc_s, b_muls, int_s, ord_s, divmod_i, sorted_x, dict_r, sm_join, sm_part, sm_sw, sm_strip, sm_lstrip, sm_zfill, sm_split, sm_digit, sm_alnum, isstr_s, seq_s, rsl_l]
  exact h
theorem rfloor_ok (hT : T "rfloor" = some F_rfloor) (hp : G.PY) {a : Rat} (h : Q (.int (a.num.fdiv a.den)) S) : semF G T (k + 1) "rfloor" [QD a] S Q E := by
  refine call_of hT rfl ?_
  simp -dsimp -implicitDefEqProofs only [ent, List.map_cons, List.map_nil, List.length_cons, List.length_nil, Nat.reduceAdd, Nat.reduceSub, Nat.zero_add, List.replicate, List.cons_append, List.nil_append, F_rfloor, QD]
  simp -dsimp -implicitDefEqProofs only [↓cov3, ↓cov2, ↓cov1, ↓E_var, ↓E_int, ↓E_bl, ↓E_non, ↓E_str, ↓E_glo, ↓E_tup, ↓E_lst, ↓E_bin, ↓E_neg, ↓E_cmp, ↓E_chn, ↓E_and, ↓E_or, ↓E_one, ↓E_not, ↓E_ifx, ↓E_idx, ↓E_slc, ↓E_call, ↓E_bi, ↓E_isi, ↓E_mth, ↓E_lc, ↓E_fld, ↓E_mcl, ↓E_mk, ↓Es_nil, ↓Es_cons, ↓O_no, ↓O_some, ↓Q_no, ↓Q_c, ↓C_and, ↓C_or, ↓C_one, ↓C_not, ↓C_cmp, ↓C_chn, ↓C_v, ↓I_seq, ↓I_rng1, ↓I_rng2, ↓I_rng3, ↓I_enu, ↓I_zip, ↓I_rev, ↓S_set, ↓S_asg, ↓S_par2, ↓S_sub, ↓S_expr, ↓S_ret, ↓S_retN, ↓S_ifs, ↓S_for, ↓S_brk, ↓S_cnt, ↓S_pass, ↓S_raise, ↓S_try, ↓S_tryas, ↓E_isx, ↓E_isxs, kW_nx, kW_rt, kW_bk, kW_ct, kW_ex, gx_sub, gx_cs, gx_PY, ↓S_never, ↓S_setf, ex_t, ex_f, ↓S_nil, ↓S_cons, ↓kN_nx, ↓kN_rt, ↓kN_bk, ↓kN_ct, ↓kN_ex, ↓kL_nx, ↓kL_rt, ↓kL_bk, ↓kL_ct, ↓kL_ex, ↓kX_nx, ↓kX_rt, ↓kX_bk, ↓kX_ct, ↓kX_ex, ↓kend_nx, ↓kend_rt, ↓kend_bk, ↓kend_ct, ↓kend_ex, vr_some, gt_0, gt_s, stn_0, stn_s, wip_0, wip_s, wips_0, wips_s, neg_i, isi_s, o_i, tru_non, tru_bl, tru_int, tru_tup, tru_rol, c_Eq, c_NotEq, c_Lt, c_LtE, c_Gt, c_GtE, cs_Eq, cs_NotEq, cb_Eq, cb_NotEq, c2_Eq, c2_NotEq, is_non, isnot_non, is_bl, isnot_bl, is_int, isnot_int, is_str, isnot_str, is_tup, isnot_tup, is_rol, isnot_rol, is_ref, isnot_ref, is_b, isnot_b, in_s, notin_s, b_add, b_sub, b_mul, b_fdiv, b_mod, b_pow, b_addt, b_adds, atI0, atI1, atI2, atI3, slc_t, slc_r, len_s, abs_i, str_i, int_i, int_b, min_i, max_i, lcm_i, gcd_i, seq_t, seq_r, r1_i, r2_i, r3_i, a_nm, a_nil, a_cons, vrl_some, vrn_some, put_lget, Option.isSome_some, tru_ref, b_addl, idx_t, idx_r, idx_l, slc_l, len_t, len_r, len_l, tuple_t, tuple_r, tuple_l, list_t, list_r, list_l, app_l, rev_l, pop_l, popat_l, mT_l, seq_l, enu_l, enu_t, fld_i, mcl_i, setf_i, vri_some, vrk_some, mk_0, mk_1, b_mull, zip_l, rev_i, rev_t, in_t, notin_t, fl_s, fl_i, fl_b, fl_n, inL_nil, inL_ss, inL_ii, List.all_cons, List.all_nil, Bool.and_self, Bool.and_true, Bool.true_and, zip_t, zip_m, a_t, a_l, sub_l, isTs, isT, Option.map_some, List.length_cons, List.length_nil, List.lookup_nil, Nat.reduceAdd, Nat.reduceSub, Nat.reduceLT, Nat.zero_add, Bool.false_eq_true, Bool.true_eq_false, if_false, if_true, decide_eq_true_eq, Bool.not_true, Bool.not_false, ite_true, ite_false, reduceIte, Bool.not_eq_true', decide_eq_false_iff_not, Int.cast_ofNat_Int, Int.reduceEq, Int.reduceLT, Int.reduceLE, Int.reduceNeg, Int.reduceAdd, Int.reduceSub, Int.reduceMul, Int.reduceToNat, decide_true, decide_false, not_true, not_false, not_true_eq_false, not_false_eq_true, true_and, and_true, eq_self, reduceCtorEq, List.isEmpty_nil, List.isEmpty_cons, List.nil_append, List.cons_append, ↓E_smt, ↓E_fldx, ↓E_dct, ↓E_gix, ↓E_rsl,  ↓E_lck, ↓S_raisef, ↓S_trym, ↓S_aug, H_nil, H_cons0, H_cons1, gx_xf, gx_kd, okx_nil, okx_ref, xpl_ref, xfS_i, xfS_s, fldxS_p, gixS_s, vrp_some, vlo_some, vrC_some, idx_s, idx_d, slc_s, b_muls, int_s, ord_s, divmod_i, sorted_x, dict_r, sm_join, sm_part, sm_sw, sm_strip, sm_lstrip, sm_zfill, sm_split, sm_digit, sm_alnum, isstr_s, seq_s, rsl_l]
  exact ⟨⟨Int.ne_of_gt (den_pos a), .inr hp⟩, h⟩
theorem rcompare_ok (hT : T "rcompare" = some F_rcompare) {a b : Rat} {m n : Nat} (ha : QB a m) (hb : QB b n) (hmn : m + n ≤ 134217728) (h : Q (.int (a.num * b.den - b.num * a.den).sign) S) : semF G T (k + 1) "rcompare" [QD a, QD b] S Q E := by
  refine call_of hT rfl ?_
  simp -dsimp -implicitDefEqProofs only [ent, List.map_cons, List.map_nil, List.length_cons, List.length_nil, Nat.reduceAdd, Nat.reduceSub, Nat.zero_add, List.replicate, List.cons_append, List.nil_append, F_rcompare, QD]
  simp -dsimp -implicitDefEqProofs only [↓cov3, ↓cov2, ↓cov1, ↓E_var, ↓E_int, ↓E_bl, ↓E_non, ↓E_str, ↓E_glo, ↓E_tup, ↓E_lst, ↓E_bin, ↓E_neg, ↓E_cmp, ↓E_chn, ↓E_and, ↓E_or, ↓E_one, ↓E_not, ↓E_ifx, ↓E_idx, ↓E_slc, ↓E_call, ↓E_bi, ↓E_isi, ↓E_mth, ↓E_lc, ↓E_fld, ↓E_mcl, ↓E_mk, ↓Es_nil, ↓Es_cons, ↓O_no, ↓O_some, ↓Q_no, ↓Q_c, ↓C_and, ↓C_or, ↓C_one, ↓C_not, ↓C_cmp, ↓C_chn, ↓C_v, ↓I_seq, ↓I_rng1, ↓I_rng2, ↓I_rng3, ↓I_enu, ↓I_zip, ↓I_rev, ↓S_set, ↓S_asg, ↓S_par2, ↓S_sub, ↓S_expr, ↓S_ret, ↓S_retN, ↓S_ifs, ↓S_for, ↓S_brk, ↓S_cnt, ↓S_pass, ↓S_raise, ↓S_try, ↓S_tryas, ↓E_isx, ↓E_isxs, kW_nx, kW_rt, kW_bk, kW_ct, kW_ex, gx_sub, gx_cs, gx_PY, ↓S_never, ↓S_setf, ex_t, ex_f, ↓S_nil, ↓S_cons, ↓kN_nx, ↓kN_rt, ↓kN_bk, ↓kN_ct, ↓kN_ex, ↓kL_nx, ↓kL_rt, ↓kL_bk, ↓kL_ct, ↓kL_ex, ↓kX_nx, ↓kX_rt, ↓kX_bk, ↓kX_ct, ↓kX_ex, ↓kend_nx, ↓kend_rt, ↓kend_bk, ↓kend_ct, ↓kend_ex, vr_some, gt_0, gt_s, stn_0, stn_s, wip_0, wip_s, wips_0, wips_s, neg_i, isi_s, o_i, tru_non, tru_bl, tru_int, tru_tup, tru_rol, c_Eq, c_NotEq, c_Lt, c_LtE, c_Gt, c_GtE, cs_Eq, cs_NotEq, cb_Eq, cb_NotEq, c2_Eq, c2_NotEq, is_non, isnot_non, is_bl, isnot_bl, is_int, isnot_int, is_str, isnot_str, is_tup, isnot_tup, is_rol, isnot_rol, is_ref, isnot_ref, is_b, isnot_b, in_s, notin_s, b_add, b_sub, b_mul, b_fdiv, b_mod, b_pow, b_addt, b_adds, atI0, atI1, atI2, atI3, slc_t, slc_r, len_s, abs_i, str_i, int_i, int_b, min_i, max_i, lcm_i, gcd_i, seq_t, seq_r, r1_i, r2_i, r3_i, a_nm, a_nil, a_cons, vrl_some, vrn_some, put_lget, Option.isSome_some, tru_ref, b_addl, idx_t, idx_r, idx_l, slc_l, len_t, len_r, len_l, tuple_t, tuple_r, tuple_l, list_t, list_r, list_l, app_l, rev_l, pop_l, popat_l, mT_l, seq_l, enu_l, enu_t, fld_i, mcl_i, setf_i, vri_some, vrk_some, mk_0, mk_1, b_mull, zip_l, rev_i, rev_t, in_t, notin_t, fl_s, fl_i, fl_b, fl_n, inL_nil, inL_ss, inL_ii, List.all_cons, List.all_nil, Bool.and_self, Bool.and_true, Bool.true_and, zip_t, zip_m, a_t, a_l, sub_l, isTs, isT, Option.map_some, List.length_cons, List.length_nil, List.lookup_nil, Nat.reduceAdd, Nat.reduceSub, Nat.reduceLT, Nat.zero_add, Bool.false_eq_true, Bool.true_eq_false, if_false, if_true, decide_eq_true_eq, Bool.not_true, Bool.not_false, ite_true, ite_false, reduceIte, Bool.not_eq_true', decide_eq_false_iff_not, Int.cast_ofNat_Int, Int.reduceEq, Int.reduceLT, Int.reduceLE, Int.reduceNeg, Int.reduceAdd, Int.reduceSub, Int.reduceMul, Int.reduceToNat, decide_true, decide_false, not_true, not_false, not_true_eq_false, not_false_eq_true, true_and, and_true, eq_self, reduceCtorEq, List.isEmpty_nil, List.isEmpty_cons, List.nil_append, List.cons_append, ↓E_smt, ↓E_fldx, ↓E_dct, ↓E_gix, ↓E_rsl,  ↓E_lck, ↓S_raisef, ↓S_trym, ↓S_aug, H_nil, H_cons0, H_cons1, gx_xf, gx_kd, okx_nil, okx_ref, xpl_ref, xfS_i, xfS_s, fldxS_p, gixS_s, vrp_some, vlo_some, vrC_some, idx_s, idx_d, slc_s, b_muls, int_s, ord_s, divmod_i, sorted_x, dict_r, sm_join, sm_part, sm_sw, sm_strip, sm_lstrip, sm_zfill, sm_split, sm_digit, sm_alnum, isstr_s, seq_s, rsl_l]
  refine ⟨ha.num.mulOk hb.den hmn, hb.num.mulOk ha.den (by omega), ite2 (fun h1 => ?_) fun h1 => ite2 (fun h2 => ?_) fun h2 => ?_⟩
  · rw [h1, Int.sub_self] at h
    exact h
  · rw [Int.sign_eq_one_of_pos (by omega)] at h
    exact h
  · rw [Int.sign_eq_neg_one_of_neg (by omega)] at h
    exact h
end
end LA

/-! Comprehensions whose items are told by their place; instances. -/
namespace Ev
open PySem PySem.Spec PyProof.Rows L2
section
variable {G : Gl0} {C : CallS} {tg : IG} {elt : IE} {own : List Nat} {σ : En} {S1 : Sto} {Q : DK}
theorem comp_fn {J : Ev.Itr} (n : Nat) (item g : Nat → D) (hn : n ≤ 100000) (hJ : ∀ i S (stop : Prop) (go : D → Prop), Sub S1 S → i ≤ n → (i < n → go (item i)) → (i = n → stop) → nxt J i S stop go)
    (step : ∀ i S (N : DK), i < n → Sub S1 S → (∀ S', Sub S S' → N (g i) S') → asgS tg (item i) (wips σ own) S fun σ2 => semE G C (fun _ _ => False) elt σ2 S N)
    (done : ∀ a S, Sub S1 S → S1 a = none → S a = some (.lst ((List.range n).map g)) → Q (.ref a) S) : LCOMP G C J tg .no elt own σ S1 Q := by
  refine comp_by n item (fun a i acc S => Sub S1 S ∧ S1 a = none ∧ S a = some (.lst acc) ∧ acc = (List.range i).map g) (fun a i acc S stop go hi hI h1 h2 => hJ i S stop go hI.1 hi h1 h2) (fun a na => ⟨Sub.new na, na, put_same, rfl⟩) ?_ ?_
  · rintro a i acc S N hi ⟨hs, na, ha, rfl⟩ hN
    refine step i S N hi hs fun S' hs' => ?_
    refine hN (g i) S' (hs' _ _ ha) ?_ ⟨(hs.trans hs').write na, na, put_same, by rw [List.range_succ, List.map_append]; rfl⟩
    rw [List.length_map, List.length_range, sizeLine_eq]
    omega
  · rintro a acc S ⟨hs, na, ha, rfl⟩
    exact done a S hs na ha
theorem compT {xs : List D} (g : Nat → D) (hn : xs.length ≤ 100000)
    (step : ∀ i S (N : DK), i < xs.length → Sub S1 S → (∀ S', Sub S S' → N (g i) S') → asgS tg (xs.getD i .non) (wips σ own) S fun σ2 => semE G C (fun _ _ => False) elt σ2 S N)
    (done : ∀ a S, Sub S1 S → S1 a = none → S a = some (.lst ((List.range xs.length).map g)) → Q (.ref a) S) : LCOMP G C (.tup xs) tg .no elt own σ S1 Q :=
  comp_fn xs.length (fun i => xs.getD i .non) g hn (fun i S stop go _ hi h1 h2 => nxt_list hi h1 h2) step done
theorem compR {lo : Int} {n : Nat} (g : Nat → D) (hn : n ≤ 100000)
    (step : ∀ i S (N : DK), i < n → Sub S1 S → (∀ S', Sub S S' → N (g i) S') → asgS tg (.int (lo + i)) (wips σ own) S fun σ2 => semE G C (fun _ _ => False) elt σ2 S N)
    (done : ∀ a S, Sub S1 S → S1 a = none → S a = some (.lst ((List.range n).map g)) → Q (.ref a) S) : LCOMP G C (.rng lo n) tg .no elt own σ S1 Q :=
  comp_fn n (fun i => .int (lo + i)) g hn (fun i S stop go _ hi h1 h2 => nxt_rng hi h1 h2) step done
theorem compL {b : Addr} {xs : List D} (g : Nat → D) (hn : xs.length ≤ 100000) (hb : S1 b = some (.lst xs))
    (step : ∀ i S (N : DK), i < xs.length → Sub S1 S → (∀ S', Sub S S' → N (g i) S') → asgS tg (xs.getD i .non) (wips σ own) S fun σ2 => semE G C (fun _ _ => False) elt σ2 S N)
    (done : ∀ a S, Sub S1 S → S1 a = none → S a = some (.lst ((List.range xs.length).map g)) → Q (.ref a) S) : LCOMP G C (.lst b) tg .no elt own σ S1 Q :=
  comp_fn xs.length (fun i => xs.getD i .non) g hn (fun i S stop go hs hi h1 h2 => by
    simp only [nxt, lget_of (hs _ _ hb)]
    exact nxt_list hi h1 h2) step done
theorem compM {b : Addr} {xs ys : List D} (g : Nat → D) (hn : ys.length ≤ 100000) (hl : xs.length = ys.length) (hb : S1 b = some (.lst xs))
    (step : ∀ i S (N : DK), i < ys.length → Sub S1 S → (∀ S', Sub S S' → N (g i) S') → asgS tg (.tup [xs.getD i .non, ys.getD i .non]) (wips σ own) S fun σ2 => semE G C (fun _ _ => False) elt σ2 S N)
    (done : ∀ a S, Sub S1 S → S1 a = none → S a = some (.lst ((List.range ys.length).map g)) → Q (.ref a) S) : LCOMP G C (.zipM b ys) tg .no elt own σ S1 Q :=
  comp_fn ys.length (fun i => .tup [xs.getD i .non, ys.getD i .non]) g hn (fun i S stop go hs hi h1 h2 => by
    simp only [nxt, lget_of (hs _ _ hb)]
    refine ⟨hl, hi, ?_⟩
    by_cases h : i < ys.length
    · have e1 : xs[i]? = some (xs.getD i .non) := by rw [List.getD_eq_getElem?_getD, List.getElem?_eq_getElem (by omega)]; rfl
      have e2 : ys[i]? = some (ys.getD i .non) := by rw [List.getD_eq_getElem?_getD, List.getElem?_eq_getElem h]; rfl
      rw [e1, e2]
      exact h1 h
    · rw [List.getElem?_eq_none_iff.mpr (by omega)]
      exact h2 (by omega)) step done
theorem compZ {b c : Addr} {xs ys : List D} (g : Nat → D) (hn : xs.length ≤ 100000) (hl : xs.length = ys.length) (hb : S1 b = some (.lst xs)) (hc : S1 c = some (.lst ys))
    (step : ∀ i S (N : DK), i < xs.length → Sub S1 S → (∀ S', Sub S S' → N (g i) S') → asgS tg (.tup [xs.getD i .non, ys.getD i .non]) (wips σ own) S fun σ2 => semE G C (fun _ _ => False) elt σ2 S N)
    (done : ∀ a S, Sub S1 S → S1 a = none → S a = some (.lst ((List.range xs.length).map g)) → Q (.ref a) S) : LCOMP G C (.zip b c) tg .no elt own σ S1 Q :=
  comp_fn xs.length (fun i => .tup [xs.getD i .non, ys.getD i .non]) g hn (fun i S stop go hs hi h1 h2 => by
    simp only [nxt, lget_of (hs _ _ hb), lget_of (hs _ _ hc)]
    by_cases h : i < xs.length
    · have e1 : xs[i]? = some (xs.getD i .non) := by rw [List.getD_eq_getElem?_getD, List.getElem?_eq_getElem h]; rfl
      have e2 : ys[i]? = some (ys.getD i .non) := by rw [List.getD_eq_getElem?_getD, List.getElem?_eq_getElem (by omega)]; rfl
      rw [e1, e2]
      exact h1 h
    · rw [List.getElem?_eq_none_iff.mpr (by omega)]
      exact h2 (by omega)) step done
theorem Sub.back {S S' : Sto} (s : Sub S S') {a : Addr} (h : S' a = Option.none) : S a = Option.none := by
  rcases e : S a with _ | o
  · rfl
  · rw [s _ _ e] at h; cases h
theorem comp_new {J : Ev.Itr} (n : Nat) (item : Nat → D) (F : Nat → Ob) (hn : n ≤ 100000) (hJ : ∀ i S (stop : Prop) (go : D → Prop), Sub S1 S → i ≤ n → (i < n → go (item i)) → (i = n → stop) → nxt J i S stop go)
    (step : ∀ i S (N : DK), i < n → Sub S1 S → (∀ b S', Sub S S' → S b = none → S' b = some (F i) → N (.ref b) S') → asgS tg (item i) (wips σ own) S fun σ2 => semE G C (fun _ _ => False) elt σ2 S N)
    (done : ∀ a (as : Nat → Addr) S, Sub S1 S → S1 a = none → S a = some (.lst ((List.range n).map fun i => .ref (as i))) → (∀ i, i < n → S (as i) = some (F i) ∧ as i ≠ a) → Q (.ref a) S) : LCOMP G C J tg .no elt own σ S1 Q := by
  refine comp_by n item (fun a i acc S => Sub S1 S ∧ S1 a = none ∧ S a = some (.lst acc) ∧ ∃ as : Nat → Addr, acc = (List.range i).map (fun i => .ref (as i)) ∧ ∀ j, j < i → S (as j) = some (F j) ∧ as j ≠ a) (fun a i acc S stop go hi hI h1 h2 => hJ i S stop go hI.1 hi h1 h2) (fun a na => ⟨Sub.new na, na, put_same, fun _ => 0, rfl, fun j hj => absurd hj (by omega)⟩) ?_ ?_
  · rintro a i acc S N hi ⟨hs, na, ha, as, rfl, hA⟩ hN
    refine step i S N hi hs fun b S' hs' nb hb => ?_
    have hba : b ≠ a := fun e => by rw [e, ha] at nb; cases nb
    refine hN (.ref b) S' (hs' _ _ ha) ?_ ⟨(hs.trans hs').write na, na, put_same, fun j => if j = i then b else as j, ?_, ?_⟩
    · rw [List.length_map, List.length_range, sizeLine_eq]
      omega
    · rw [List.range_succ, List.map_append]
      congr 1
      · refine List.map_congr_left fun j hj => ?_
        have := List.mem_range.mp hj
        dsimp only
        rw [if_neg (by omega)]
      · simp
    · intro j hj
      by_cases e : j = i
      · subst e
        dsimp only
        rw [if_pos rfl]
        exact ⟨(put_ne hba).trans hb, hba⟩
      · dsimp only
        rw [if_neg e]
        have := hA j (by omega)
        exact ⟨(put_ne this.2).trans (hs' _ _ this.1), this.2⟩
  · rintro a acc S ⟨hs, na, ha, as, rfl, hA⟩
    exact done a as S hs na ha hA
end
theorem iget_of {S : Sto} {a : Addr} {x : Str} {fs : List (Str × D)} (h : S a = some (.ins x fs)) : iget S a = some (x, fs) := by
  unfold iget; rw [h]
theorem ixN_nat' {n j : Nat} (hj : j < n) : ixN n (j : Int) = some j := by
  unfold ixN
  rw [if_pos (by omega), if_pos (by omega), Int.toNat_natCast]
theorem ixN_at {n i : Nat} (h : i < n) : ixN n ((0 : Int) + (i : Nat)) = some i := by rw [Int.zero_add]; exact ixN_nat' h
theorem ixN_at' {n i : Nat} {z : Int} (e : z = i) (h : i < n) : ixN n z = some i := by rw [e]; exact ixN_nat' h
theorem sz3 {n : Nat} (h : n ≤ 100000) : n ≤ sizeLine := by rw [sizeLine_eq]; omega
theorem for_rngc {G : Gl0} {C : CallS} {g : IG} {b : ISs} {kt : Kt} {σ : En} {S : Sto} {lo c : Int} {n : Nat} (I : Nat → En → Sto → Prop) (h0 : I 0 σ S)
    (step : ∀ i σ S N, i < n → I i σ S → (∀ σ' S', I (i + 1) σ' S' → N σ' S') → asgS g (.int (lo + (i : Nat) * c)) σ S fun σ2 => semSs G C b (kL kt N) σ2 S)
    (done : ∀ σ S, I n σ S → kt.nx σ S) : FOR G C (.rngc lo c n) g b kt σ S :=
  turn_by (body := fun N d σ S => asgS g d σ S fun σ2 => semSs G C b (kL kt N) σ2 S) n (fun i => .int (lo + (i : Nat) * c)) I (fun i σ S stop go hi _ h1 h2 => by
    simp only [nxt]
    split
    · exact h1 ‹_›
    · exact h2 (by omega)) h0 step done
/-- what comes behind an expression, once for all its ways -/
theorem joinE {G : Gl0} {C : CallS} {X : XS} {e : IE} {σ : En} {S : Sto} {Q : DK} (P : D → Sto → Prop) (hP : ∀ d S', P d S' → Q d S') (h : ∀ N : DK, (∀ d S', P d S' → N d S') → semE G C X e σ S N) : semE G C X e σ S Q := h Q hP
theorem Sub.none' {S S' : Sto} (_ : Sub S S') {a : Addr} (e : S a = Option.none) : S a = Option.none := e
/-! ### classes of a caught exception -/
theorem kit_self {K : PySem.W.Frag} {t : Value} : PySem.W.kitOne K t t = some true := by
  unfold PySem.W.kitOne
  rw [if_pos (by simp)]
theorem kit_ne {K : PySem.W.Frag} {D B : Addr} {b : Bool} (hne : (Value.ref D == Value.ref B) = false) (hd : PySem.W.hasDictIn K B = true) (ht : PySem.W.typeIn K (.ref B) = some (.type "type")) (h : PySem.W.subIn K (.ref D) (.ref B) = some b) : PySem.W.kitOne K (.ref D) (.ref B) = some b := by
  obtain ⟨cd, hc, _⟩ := PySem.W.any_some hd
  have e2 : ((PySem.W.clsIn K B).isSome && PySem.W.typeIn K (.ref B) == some (.type "type")) = true := by rw [hc, ht] <;> rfl
  unfold PySem.W.kitOne
  rw [if_neg (by rw [hne]; decide)]
  show (if ((PySem.W.clsIn K B).isSome && PySem.W.typeIn K (.ref B) == some (.type "type")) = true then PySem.W.subIn K (.ref D) (.ref B) else none) = some b
  rw [if_pos e2]
  exact h
theorem kit_bt {K : PySem.W.Frag} {D : Addr} {n : String} {b : Bool} (hm : PySem.W.kitMeta n = true) (h : PySem.W.subIn K (.ref D) (.type n) = some b) : PySem.W.kitOne K (.ref D) (.type n) = some b := by
  unfold PySem.W.kitOne
  rw [if_neg (by rw [show (Value.ref D == Value.type n) = false from rfl]; decide)]
  show (if PySem.W.kitMeta n = true then PySem.W.subIn K (.ref D) (.type n) else none) = some b
  rw [if_pos hm]
  exact h
end Ev

/-! Texts as lists of code points. -/
namespace LA
open PySem PySem.Spec PyProof.Rows L2 Ev
def tx (l : List Nat) : Str := ⟨l.toArray⟩
def lt (s : String) : List Nat := s.toList.map Char.toNat
theorem ofs (s : String) : Str.ofString s = tx (lt s) := Str.ofString_eq_toList s
theorem cps_tx (l : List Nat) : (tx l).cps.toList = l := rfl
theorem tx_cps (z : Str) : tx z.cps.toList = z := rfl
theorem len_tx (l : List Nat) : (tx l).length = l.length := rfl
theorem app_tx (a b : List Nat) : tx a ++ tx b = tx (a ++ b) := by
  show Str.append _ _ = _
  unfold Str.append tx
  simp
theorem one_tx (c : Nat) : (⟨#[c]⟩ : Str) = tx [c] := rfl
theorem tx_inj {a b : List Nat} : tx a = tx b ↔ a = b := by
  constructor
  · intro h
    have := congrArg (fun z : Str => z.cps.toList) h
    exact this
  · rintro rfl; rfl
theorem cut_tx (l : List Nat) (lo hi : Nat) (h : hi ≤ l.length) (h1 : lo ≤ hi) : cutS (tx l) (some (lo : Int)) (some (hi : Int)) = tx ((l.drop lo).take (hi - lo)) := by
  unfold cutS
  rw [HT.sIx_nat, HT.sIx_nat, len_tx, Nat.min_eq_left h, Nat.min_eq_left (Nat.le_trans h1 h)]
  rfl
theorem cut_lo (l : List Nat) (lo : Nat) (h : lo ≤ l.length) : cutS (tx l) (some (lo : Int)) none = tx (l.drop lo) := by
  unfold cutS
  rw [HT.sIx_nat, HT.sIx_none, len_tx, Nat.min_eq_left h, List.take_of_length_le (by rw [List.length_drop]; exact Nat.le_refl _)]
  rfl
theorem cut_hi (l : List Nat) (hi : Nat) : cutS (tx l) none (some (hi : Int)) = tx (l.take hi) := by
  unfold cutS
  rw [HT.sIx_nat, HT.sIx_none, len_tx]
  show tx (List.take (min hi l.length - 0) (List.drop 0 l)) = _
  rw [Nat.sub_zero, List.drop_zero]
  refine tx_inj.mpr (List.take_eq_take_iff.mpr ?_)
  omega
theorem occ_one (l : List Nat) (c : Nat) : (!(Builtin.Str.occurrences (tx l) (tx [c]) 0 (tx l).length 1).isEmpty) = decide (c ∈ l) := StrLaws.found_one (tx l) c
theorem at_tx {l : List Nat} {i : Nat} (h : i < l.length) : atI (tx l).cps.toList (i : Int) = some (l.getD i 0) := by
  rw [cps_tx]
  refine atI_nat ?_
  rw [List.getD_eq_getElem?_getD, List.getElem?_eq_getElem h]
  rfl
theorem join_nil (ls : List (List Nat)) : Txt.join (tx []) (ls.map tx) = tx ls.flatten := by
  show Builtin.Str.glued (tx []) (ls.map tx) = _
  rw [StrLaws.glued_eq_join]
  induction ls with
  | nil => rfl
  | cons a r ih =>
    cases r with
    | nil =>
      show tx a = _
      simp
    | cons b r =>
      show tx a ++ tx [] ++ Str.join _ _ = _
      rw [ih, app_tx, app_tx]
      simp
theorem sum_tx (ls : List (List Nat)) : ((ls.map tx).map (·.length)).sum = ls.flatten.length := by
  induction ls with
  | nil => rfl
  | cons a r ih =>
    simp only [List.map_cons, List.sum_cons, List.flatten_cons, List.length_append]
    rw [ih, len_tx]
theorem foldl_app (x : Array Nat) : ∀ (n : Nat) (a : Array Nat), ((List.replicate n x).foldl (· ++ ·) a).toList = a.toList ++ (List.replicate n x.toList).flatten
  | 0, a => by simp
  | n + 1, a => by
    rw [List.replicate_succ, List.foldl_cons, foldl_app x n, List.replicate_succ, List.flatten_cons, Array.toList_append, List.append_assoc]
theorem rep_one (c : Nat) : ∀ n : Nat, (List.replicate n [c]).flatten = List.replicate n c
  | 0 => rfl
  | n + 1 => by rw [List.replicate_succ, List.replicate_succ, List.flatten_cons, rep_one c n]; rfl
theorem mul_one (c n : Nat) : Txt.mul (tx [c]) (n : Int) = tx (List.replicate n c) := by
  unfold Txt.mul
  split
  · rename_i h
    obtain rfl : n = 0 := by omega
    rfl
  · split
    · rename_i h
      simp only [len_tx, List.length_cons, List.length_nil, Nat.zero_add, Bool.or_eq_true, beq_iff_eq, Nat.one_ne_zero, or_false, reduceCtorEq] at h
      have h : n = 1 := by omega
      subst h
      rfl
    · refine (tx_cps _).symm.trans (tx_inj.mpr ?_)
      show ((List.replicate ((n : Int)).toNat (tx [c]).cps).foldl (· ++ ·) #[]).toList = _
      rw [foldl_app, Int.toNat_natCast]
      show [] ++ (List.replicate n [c]).flatten = _
      rw [List.nil_append, rep_one]
theorem mulok_one (c n : Nat) (h : n ≤ 100000) : MulOk (tx [c]) (n : Int) := by
  have e : (tx [c]).length = 1 := rfl
  refine ⟨?_, fun _ _ => ?_, fun _ _ => ?_⟩
  · simp only [Bool.or_eq_false_iff, decide_eq_false_iff_not]
    omega
  · rw [e]
    intro h1
    have : (1 : Int) ≤ (2 ^ 63 - 1) / (n : Int) := by
      rw [Int.le_ediv_iff_mul_le (by omega)]
      omega
    omega
  · rw [e, Int.toNat_natCast, Nat.one_mul]
    unfold Builtin.Str.tooLong
    simp only [decide_eq_false_iff_not, sizeLine_eq]
    omega
theorem ite_ab {p q : Prop} [Decidable p] [Decidable q] {A B : Prop} (h1 : p → q → A) (h2 : B) : if p then (if q then A else B) else B := by
  split
  · split
    · exact h1 ‹_› ‹_›
    · exact h2
  · exact h2
theorem flat_one {α β : Type} (f : α → β) : ∀ l : List α, (l.map fun i => [f i]).flatten = l.map f
  | [] => rfl
  | a :: r => by rw [List.map_cons, List.flatten_cons, flat_one f r]; rfl
theorem lk1 (f : Str) (v : D) : List.lookup f [(f, v)] = some v := by simp [List.lookup]
theorem dget_of {S : Sto} {a : Addr} {kvs : List (Str × D)} (h : S a = some (.dct kvs)) : dget S a = some kvs := by unfold dget; rw [h]
theorem dget_l {S : Sto} {a : Addr} {o : Obj} {kvs : List (Str × D)} (h : S a = some (.dcl o kvs)) : dget S a = some kvs := by unfold dget; rw [h]
theorem lget_d {S : Sto} {a : Addr} {kvs : List (Str × D)} (h : S a = some (.dct kvs)) : lget S a = none := by unfold lget; rw [h]
theorem lget_dl {S : Sto} {a : Addr} {o : Obj} {kvs : List (Str × D)} (h : S a = some (.dcl o kvs)) : lget S a = none := by unfold lget; rw [h]
theorem xget_of {S : Sto} {a : Addr} {kvs : List (Str × D)} (h : S a = some (.xd kvs)) : xget S a = some kvs := by unfold xget; rw [h]
theorem lck_d {S : Sto} {a : Addr} {kvs : List (Str × D)} {R : Sto → DK → Prop} {Q : DK} (h : S a = some (.dct kvs)) : lckS S (some (.ref a)) R Q = (∀ od, R (put S a (.dcl od kvs)) fun v S' => S' a = some (.dcl od kvs) ∧ Q v (put S' a (.dct kvs))) := by simp only [lckS, h]
/-- pairs of texts -/
def prD (p : Str × Str) : D := .tup [.str p.1, .str p.2]
theorem pr_all : ∀ {ps : List (Str × Str)}, (∀ p ∈ ps, PyData.strOk p.1 = true ∧ PyData.strOk p.2 = true) →
    pures (ps.map prD) = true ∧ PyData.canLayAll0 (pds (ps.map prD)) = true ∧ PyData.depthAll (pds (ps.map prD)) ≤ 1 ∧ PyData.eqvAll (pds (ps.map prD)) (pds (ps.map prD)) = true
  | [], _ => ⟨rfl, by simp [pds, PyData.canLayAll0], by simp [pds, PyData.depthAll], by simp [pds, PyData.eqvAll]⟩
  | p :: r, h => by
    obtain ⟨a, b, c, d⟩ := pr_all (ps := r) fun x hx => h x (List.mem_cons_of_mem _ hx)
    obtain ⟨h1, h2⟩ := h p List.mem_cons_self
    refine ⟨?_, ?_, ?_, ?_⟩
    · rw [List.map_cons, pures, a]; rfl
    · rw [List.map_cons, pds, PyData.canLayAll0, b]
      simp [prD, pd, pds, PyData.canLay0, PyData.canLayAll0, h1, h2]
    · rw [List.map_cons, pds, PyData.depthAll]
      simp only [prD, pd, pds, PyData.depth, PyData.depthAll]
      omega
    · rw [List.map_cons, pds, PyData.eqvAll, d]
      simp [prD, pd, pds, PyData.eqv, PyData.eqvAll]
theorem ne_pairs {S : Sto} {x y : Addr} {ps : List (Str × Str)} {R : Bool → Prop} (hx : S x = some (.lst (ps.map prD))) (hy : S y = some (.lst (ps.map prD))) (h : ∀ p ∈ ps, PyData.strOk p.1 = true ∧ PyData.strOk p.2 = true) (r : R false) :
    cmpS .NotEq (.ref x) (.ref y) S R := by
  obtain ⟨a, b, c, d⟩ := pr_all h
  have sh : SeqAt.shaped (.list (pds (ps.map prD))) = true := by
    unfold SeqAt.shaped
    rw [Bool.and_eq_true]
    refine ⟨by rw [PyData.canLay0]; exact b, decide_eq_true ?_⟩
    rw [PyData.depth]
    omega
  refine ⟨_, _, .ref (lget_of hx) (pds_ok S _ a), .ref (lget_of hy) (pds_ok S _ a), sh, sh, ?_⟩
  rw [PyData.eqv, d]
  exact r
theorem pr_range {ps : List (Str × Str)} : (List.range ps.length).map (fun i => D.tup [.str (ps.getD i (Str.empty, Str.empty)).1, .str (ps.getD i (Str.empty, Str.empty)).2]) = ps.map prD := by
  refine List.ext_getElem (by simp) fun i h1 h2 => ?_
  rw [List.length_map, List.length_range] at h1
  rw [List.getElem_map, List.getElem_map, List.getElem_range, List.getD_eq_getElem?_getD, List.getElem?_eq_getElem h1]
  rfl
theorem inL_map (z : Str) : ∀ zs : List Str, inL (.str z) (zs.map D.str) = decide (z ∈ zs)
  | [] => rfl
  | s :: r => by
    rw [List.map_cons, inL_ss, inL_map z r, ← Bool.decide_or]
    refine decide_eq_decide.mpr ?_
    rw [List.mem_cons, eq_comm]
theorem fl_map : ∀ zs : List Str, (zs.map D.str).all flD = true
  | [] => rfl
  | _ :: r => fl_map r
theorem lookS_of {z : Str} {d : D} : ∀ {kvs : List (Str × D)}, (kvs.map (·.1)).Nodup → (z, d) ∈ kvs → lookS kvs z = some d
  | [], _, h => by cases h
  | p :: r, hn, h => by
    rw [List.map_cons, List.nodup_cons] at hn
    unfold lookS
    rw [List.find?_cons]
    rcases List.mem_cons.mp h with e | h
    · rw [← e]
      simp
    · have ne : p.1 ≠ z := fun e => hn.1 (e ▸ List.mem_map_of_mem (f := (·.1)) h)
      rw [decide_eq_false ne]
      exact lookS_of hn.2 h
theorem lookS_none {z : Str} : ∀ {kvs : List (Str × D)}, z ∉ kvs.map (·.1) → lookS kvs z = none
  | [], _ => rfl
  | p :: r, h => by
    rw [List.map_cons, List.mem_cons, not_or] at h
    unfold lookS
    rw [List.find?_cons, decide_eq_false (Ne.symm h.1)]
    exact lookS_none h.2
theorem vlo_none {f : List D → Prop} {g : Unit → Prop} : vlo none f g = g () := rfl
theorem seqRS_dl {S : Sto} {a : Addr} {o : Obj} {kvs : List (Str × D)} {R : Ev.Itr → Sto → Prop} (h : S a = some (.dcl o kvs)) : seqRS S a R = R (.dky a o) S := by simp only [seqRS, h]
theorem seq_dl {S : Sto} {a : Addr} {o : Obj} {kvs : List (Str × D)} {R : Ev.Itr → Sto → Prop} (h : S a = some (.dcl o kvs)) : seqS (.ref a) S R = R (.dky a o) S := by
  show seqRS S a R = _
  simp only [seqRS, h]
section
variable {S : Sto} {R : Bool → Prop} {a : Addr} {kvs : List (Str × D)}
theorem in_d (z : Str) (h : S a = some (.dct kvs)) : cmpS .In (.str z) (.ref a) S R = R (lookS kvs z).isSome := by
  simp only [cmpS, inS, dgetD, dget_of h]
theorem notin_d (z : Str) (h : S a = some (.dct kvs)) : cmpS .NotIn (.str z) (.ref a) S R = R (!(lookS kvs z).isSome) := in_d z h (R := fun k => R (!k))
theorem in_l (x : D) {xs : List D} (h : S a = some (.lst xs)) : cmpS .In x (.ref a) S R = (flD x = true ∧ xs.all flD = true ∧ R (inL x xs)) := by
  have h1 : dget S a = none := by unfold dget; rw [h]
  simp only [cmpS, inS, dgetD, h1, sget, lget_of h]
theorem notin_l (x : D) {xs : List D} (h : S a = some (.lst xs)) : cmpS .NotIn x (.ref a) S R = (flD x = true ∧ xs.all flD = true ∧ R (!inL x xs)) := in_l x h (R := fun k => R (!k))
theorem subS_d {R : Sto → Prop} (z : Str) (d : D) (h : S a = some (.dct kvs)) : subS (.ref a) (.str z) d S R = (kvs.length < sizeLine ∧ R (put S a (.dct (putS kvs z d)))) := by
  simp only [subS, h]
end
section
variable {G : Gl0} {C : CallS} {S : Sto} {g : IG} {b : ISs} {kt : Kt} {σ : En}
theorem for_str {l : List Nat} (I : Nat → En → Sto → Prop) (h0 : I 0 σ S)
    (step : ∀ i σ S N, i < l.length → I i σ S → (∀ σ' S', I (i + 1) σ' S' → N σ' S') → asgS g (.str (tx [l.getD i 0])) σ S fun σ2 => semSs G C b (kL kt N) σ2 S)
    (done : ∀ σ S, I l.length σ S → kt.nx σ S) : FOR G C (.stri (tx l)) g b kt σ S :=
  turn_by (body := fun N d σ S => asgS g d σ S fun σ2 => semSs G C b (kL kt N) σ2 S) l.length (fun i => .str (tx [l.getD i 0])) I (fun i σ S stop go hi _ h1 h2 => by
    simp only [nxt]
    have e : (tx l).cps[i]? = l[i]? := by
      show l.toArray[i]? = _
      simp
    rw [e]
    split
    · rename_i d e
      obtain ⟨h, e⟩ := List.getElem?_eq_some_iff.mp e
      have := h1 h
      rw [List.getD_eq_getElem?_getD, List.getElem?_eq_getElem h, e] at this
      exact this
    · rename_i e
      have := List.getElem?_eq_none_iff.mp e
      exact h2 (by omega)) h0 step done
end
section
variable {G : Gl0} {C : CallS} {tg : IG} {elt : IE} {own : List Nat} {σ : En} {S1 : Sto} {Q : DK}
/-- a comprehension over a dict's keys; the dict is locked -/
theorem compD {b : Addr} {od : Obj} {kvs : List (Str × D)} (g : Nat → D) (hn : kvs.length ≤ 100000) (hb : S1 b = some (.dcl od kvs))
    (step : ∀ i S (N : DK), i < kvs.length → Sub S1 S → (∀ S', Sub S S' → N (g i) S') → asgS tg (.str ((kvs.map (·.1)).getD i Str.empty)) (wips σ own) S fun σ2 => semE G C (fun _ _ => False) elt σ2 S N)
    (done : ∀ a S, Sub S1 S → S1 a = none → S a = some (.lst ((List.range kvs.length).map g)) → Q (.ref a) S) : LCOMP G C (.dky b od) tg .no elt own σ S1 Q :=
  comp_fn kvs.length (fun i => .str ((kvs.map (·.1)).getD i Str.empty)) g hn (fun i S stop go hs hi h1 h2 => by
    simp only [nxt, hs _ _ hb]
    try refine ⟨trivial, ?_⟩
    split
    · rename_i p e
      obtain ⟨h, e⟩ := List.getElem?_eq_some_iff.mp e
      have := h1 h
      rw [List.getD_eq_getElem?_getD, List.getElem?_map, List.getElem?_eq_getElem h, e] at this
      exact this
    · rename_i e
      have := List.getElem?_eq_none_iff.mp e
      exact h2 (by omega)) step done
end
/-- the store with a dict back behind the walk -/
theorem Sub.relock {S S' : Sto} {a : Addr} {kvs : List (Str × D)} {od : Obj} (h : S a = some (.dct kvs)) (hs : Sub (put S a (.dcl od kvs)) S') : Sub S (put S' a (.dct kvs)) := fun b o e => by
  by_cases hb : b = a
  · subst hb
    rw [h] at e
    cases e
    exact put_same
  · rw [put_ne hb]
    exact hs b o (by rw [put_ne hb]; exact e)
end LA

/-! Decimal texts. -/
namespace LA
open PySem PySem.Spec PyProof.Rows L2 Ev
open PySem.NumText (AllDigits digitsVal)
def dg (n : Nat) : List Nat := if n < 10 then [48 + n] else dg (n / 10) ++ [48 + n % 10]
theorem dg_lt {n : Nat} (h : n < 10) : dg n = [48 + n] := by rw [dg, if_pos h]
theorem dg_ge {n : Nat} (h : 10 ≤ n) : dg n = dg (n / 10) ++ [48 + n % 10] := by rw [dg, if_neg (by omega)]
theorem dg_all (n : Nat) : AllDigits (dg n) := by
  induction n using Nat.strongRecOn with
  | ind n ih =>
    by_cases h : n < 10
    · rw [dg_lt h]
      intro c hc
      rw [List.mem_singleton] at hc
      omega
    · rw [dg_ge (by omega)]
      intro c hc
      rcases List.mem_append.mp hc with hc | hc
      · exact ih (n / 10) (by omega) c hc
      · rw [List.mem_singleton] at hc
        omega
theorem dg_ne (n : Nat) : dg n ≠ [] := by
  rw [dg]
  split
  · simp
  · simp
theorem dv_app (a b : List Nat) : digitsVal (a ++ b) = digitsVal a * 10 ^ b.length + digitsVal b := by
  unfold digitsVal
  rw [List.foldl_append]
  generalize a.foldl _ 0 = x
  suffices h : ∀ (b : List Nat) (x y : Nat), b.foldl (fun acc c => acc * 10 + (c - 48)) (x + y) = x * 10 ^ b.length + b.foldl (fun acc c => acc * 10 + (c - 48)) y by
    have := h b x 0
    rw [Nat.add_zero] at this
    exact this
  intro b
  induction b with
  | nil => intro x y; simp
  | cons c b ih =>
    intro x y
    rw [List.foldl_cons, List.foldl_cons, List.length_cons, Nat.pow_succ]
    rw [show (x + y) * 10 + (c - 48) = x * 10 + (y * 10 + (c - 48)) by omega, ih (x * 10)]
    congr 1
    rw [Nat.mul_assoc, Nat.mul_comm 10]
theorem dv_one (c : Nat) : digitsVal [c] = c - 48 := by simp [digitsVal]
theorem dv_nil : digitsVal [] = 0 := rfl
theorem dv_dg (n : Nat) : digitsVal (dg n) = n := by
  induction n using Nat.strongRecOn with
  | ind n ih =>
    by_cases h : n < 10
    · rw [dg_lt h, dv_one]; omega
    · rw [dg_ge (by omega), dv_app, dv_one, ih (n / 10) (by omega)]
      simp only [List.length_cons, List.length_nil]
      omega
theorem dg_head (n : Nat) : ∀ r, dg n = 48 :: r → n = 0 ∧ r = [] := by
  induction n using Nat.strongRecOn with
  | ind n ih =>
    intro r e
    by_cases h : n < 10
    · rw [dg_lt h, List.cons.injEq] at e
      exact ⟨by omega, e.2.symm⟩
    · rw [dg_ge (by omega)] at e
      cases hd : dg (n / 10) with
      | nil => exact absurd hd (dg_ne _)
      | cons c r' =>
        rw [hd, List.cons_append, List.cons.injEq] at e
        obtain ⟨rfl, e2⟩ := e
        have := (ih (n / 10) (by omega) r' hd).1
        omega
theorem dg_len {n k : Nat} (h : n < 10 ^ k) (hk : 1 ≤ k) : (dg n).length ≤ k := by
  induction k generalizing n with
  | zero => omega
  | succ k ih =>
    by_cases h10 : n < 10
    · rw [dg_lt h10]; simp
    · rw [dg_ge (by omega), List.length_append]
      cases k with
      | zero => simp only [Nat.zero_add, Nat.pow_one] at h; omega
      | succ k =>
        have := ih (n := n / 10) (by rw [Nat.pow_succ] at h; omega) (by omega)
        simp only [List.length_cons, List.length_nil]
        omega
theorem char_dg (d : Nat) (h : d < 10) : (Nat.digitChar d).toNat = 48 + d := by
  have : d = 0 ∨ d = 1 ∨ d = 2 ∨ d = 3 ∨ d = 4 ∨ d = 5 ∨ d = 6 ∨ d = 7 ∨ d = 8 ∨ d = 9 := by omega
  rcases this with rfl | rfl | rfl | rfl | rfl | rfl | rfl | rfl | rfl | rfl <;> rfl
theorem toD (n : Nat) : (Nat.toDigits 10 n).map Char.toNat = dg n := by
  induction n using Nat.strongRecOn with
  | ind n ih =>
    rw [Nat.toDigits_eq_if (by decide)]
    split
    · rename_i h
      rw [dg_lt h]
      simp [char_dg n h]
    · rename_i h
      rw [dg_ge (by omega), List.map_append, ih (n / 10) (by omega)]
      simp [char_dg (n % 10) (by omega)]
theorem str_nat (n : Nat) : Str.ofString (toString (n : Int)) = tx (dg n) := by
  have e : toString (n : Int) = Nat.repr n := rfl
  rw [e, ofs]
  unfold lt
  rw [Nat.toList_repr, toD]
/-- the last k digits, with leading zeros -/
def pz : Nat → Nat → List Nat
  | 0, _ => []
  | k + 1, m => pz k (m / 10) ++ [48 + m % 10]
theorem pz_zero : ∀ k, pz k 0 = List.replicate k 48
  | 0 => rfl
  | k + 1 => by
    rw [pz, Nat.zero_div, pz_zero k, ← List.replicate_succ']
theorem pz_len : ∀ k m, (pz k m).length = k
  | 0, _ => rfl
  | k + 1, m => by rw [pz, List.length_append, pz_len k]; rfl
theorem pz_eq : ∀ (k m : Nat), m < 10 ^ k → 1 ≤ k → pz k m = List.replicate (k - (dg m).length) 48 ++ dg m
  | 0, _, _, h => by omega
  | k + 1, m, h, _ => by
    by_cases h10 : m < 10
    · rw [pz, Nat.div_eq_of_lt h10, pz_zero, dg_lt h10, Nat.mod_eq_of_lt h10]
      rfl
    · rw [pz, dg_ge (by omega), List.length_append]
      cases k with
      | zero => simp only [Nat.zero_add, Nat.pow_one] at h; omega
      | succ k =>
        rw [pz_eq (k + 1) (m / 10) (by rw [Nat.pow_succ] at h; omega) (by omega), List.append_assoc]
        simp only [List.length_cons, List.length_nil]
        congr 2
        omega
theorem dg_split : ∀ (k n : Nat), 10 ^ k ≤ n → dg n = dg (n / 10 ^ k) ++ pz k (n % 10 ^ k)
  | 0, n, _ => by simp [pz]
  | k + 1, n, h => by
    have h1 : 10 ^ k ≤ n / 10 := by rw [Nat.pow_succ] at h; omega
    have h10 : 10 ≤ n := by
      have : 0 < 10 ^ k := Nat.pow_pos (by decide)
      rw [Nat.pow_succ] at h
      omega
    rw [dg_ge h10, dg_split k (n / 10) h1, pz, List.append_assoc]
    have e1 : n / 10 ^ (k + 1) = n / 10 / 10 ^ k := by rw [Nat.pow_succ, Nat.mul_comm, Nat.div_div_eq_div_mul]
    have e2 : n % 10 ^ (k + 1) / 10 = n / 10 % 10 ^ k := by
      rw [Nat.pow_succ, Nat.mul_comm, Nat.mod_mul_right_div_self]
    have e3 : n % 10 ^ (k + 1) % 10 = n % 10 := by
      rw [Nat.pow_succ, Nat.mod_mul_left_mod]
    rw [e1, e2, e3]
theorem int_tx {l : List Nat} (h : AllDigits l) (h1 : l ≠ []) (h2 : l.length ≤ 640) : PySem.intText? (tx l) = some ((digitsVal l : Nat) : Int) :=
  PySem.intText_digits (x := tx l) h h1 (by rw [len_tx]; omega)
theorem part_none {l : List Nat} {c : Nat} (h : c ∉ l) : Txt.partition (tx l) (tx [c]) = (tx l, tx [], tx []) := by
  have h0 : (!(Builtin.Str.occurrences (tx l) (tx [c]) 0 (tx l).length 1).isEmpty) = false := by rw [occ_one, decide_eq_false h]
  unfold Txt.partition
  cases e : Builtin.Str.occurrences (tx l) (tx [c]) 0 (tx l).length 1 with
  | nil => rfl
  | cons i r => rw [e] at h0; cases h0
theorem dropWhile_ne {c : Nat} : ∀ {a b : List Nat}, c ∉ a → (a ++ c :: b).dropWhile (· != c) = c :: b
  | [], b, _ => by
    rw [List.nil_append, List.dropWhile_cons]
    simp
  | x :: a, b, h => by
    rw [List.mem_cons, not_or] at h
    rw [List.cons_append, List.dropWhile_cons, if_pos (by simp; exact fun e => h.1 e.symm)]
    exact dropWhile_ne h.2
theorem part_some {a b : List Nat} {c : Nat} (h : c ∉ a) : Txt.partition (tx (a ++ c :: b)) (tx [c]) = (tx a, tx [c], tx b) := by
  have hm : c ∈ a ++ c :: b := by simp
  have h0 : (Builtin.Str.occurrences (tx (a ++ c :: b)) (tx [c]) 0 (tx (a ++ c :: b)).length 1).isEmpty = false := by
    have := occ_one (a ++ c :: b) c
    rw [decide_eq_true hm] at this
    simpa using this
  have h1 := beq_iff_eq.mp (from_first_some (x := tx (a ++ c :: b)) (y := tx [c]) (z := tx [c]) (c := c) rfl rfl h0)
  have h2 := StrLaws.partition_sum (tx (a ++ c :: b)) (tx [c])
  have e2 : (Txt.partition (tx (a ++ c :: b)) (tx [c])).2.1 = tx [c] := by
    unfold Txt.partition
    cases e : Builtin.Str.occurrences (tx (a ++ c :: b)) (tx [c]) 0 (tx (a ++ c :: b)).length 1 with
    | nil => rw [e] at h0; cases h0
    | cons i r => rfl
  generalize Txt.partition (tx (a ++ c :: b)) (tx [c]) = P at *
  obtain ⟨p, q, r⟩ := P
  simp only at h1 h2 e2
  subst e2
  rw [cps_tx, dropWhile_ne h] at h1
  have e3 : r = tx b := by
    have : tx [c] ++ tx r.cps.toList = tx (c :: b) := h1
    rw [app_tx, tx_inj] at this
    rw [← tx_cps r]
    exact tx_inj.mpr (List.cons.inj this).2
  subst e3
  have e4 : tx p.cps.toList ++ tx [c] ++ tx b = tx (a ++ c :: b) := h2
  rw [app_tx, app_tx, tx_inj, List.append_assoc] at e4
  have e5 := List.append_cancel_right e4
  rw [← tx_cps p, e5]
theorem sw_tx (l : List Nat) (c : Nat) : Txt.startswith (tx l) (tx [c]) = decide (l.head? = some c) := by
  unfold Txt.startswith
  cases l with
  | nil => rfl
  | cons x r =>
    rw [Bool.eq_iff_iff]
    have := StrLaws.subAt_one (tx (x :: r)) c 0
    simp only [Bool.and_eq_true, decide_eq_true_eq]
    refine this.trans ?_
    rw [cps_tx]
    rfl
theorem zf_tx {l : List Nat} {k : Nat} (h : AllDigits l) (h1 : l ≠ []) (h2 : l.length ≤ k) : Txt.zfill (tx l) (k : Int) = tx (List.replicate (k - l.length) 48 ++ l) := by
  unfold Txt.zfill
  rw [len_tx, Int.toNat_natCast]
  split
  · rename_i hh
    have : k = l.length := by omega
    subst this
    rw [Nat.sub_self]
    rfl
  · unfold zfilled
    have hp : Builtin.Str.padded (tx l) (k - l.length) 0 48 = tx (List.replicate (k - l.length) 48 ++ l) := by
      refine (tx_cps _).symm.trans (tx_inj.mpr ?_)
      show (Array.replicate (k - l.length) 48 ++ (tx l).cps ++ Array.replicate 0 48).toList = _
      simp [tx]
    cases l with
    | nil => exact absurd rfl h1
    | cons c r =>
      have hc := h c List.mem_cons_self
      split
      · rename_i e
        have e : some c = some 43 := e
        cases e
        omega
      · rename_i e
        have e : some c = some 45 := e
        cases e
        omega
      · exact hp
/-! a rational's text -/
def isD (c : Nat) : Bool := decide (48 ≤ c ∧ c ≤ 57)
def num (l : List Nat) : Bool := !l.isEmpty && (!(decide (1 < l.length) && decide (l.head? = some 48)) && l.all isD)
theorem all_isD {l : List Nat} (h : AllDigits l) : l.all isD = true := List.all_eq_true.mpr fun c hc => decide_eq_true (h c hc)
theorem num_dg (n : Nat) : num (dg n) = true := by
  unfold num
  rw [all_isD (dg_all n)]
  cases h : dg n with
  | nil => exact absurd h (dg_ne n)
  | cons c r =>
    by_cases hc : c = 48
    · subst hc
      rw [(dg_head n r h).2]
      rfl
    · have : decide ((c :: r).head? = some 48) = false := decide_eq_false (by simpa using hc)
      rw [this, Bool.and_false]
      rfl
theorem num_bad {l : List Nat} {c : Nat} (h : c ∈ l) (hc : isD c = false) : num l = false := by
  have : l.all isD = false := List.all_eq_false.mpr ⟨c, h, by rw [hc]; exact Bool.false_ne_true⟩
  unfold num
  rw [this, Bool.and_false, Bool.and_false]
theorem num_all {l : List Nat} (h : num l = true) : AllDigits l ∧ l ≠ [] := by
  unfold num at h
  rw [Bool.and_eq_true, Bool.and_eq_true] at h
  refine ⟨fun c hc => of_decide_eq_true (List.all_eq_true.mp h.2.2 c hc), fun e => ?_⟩
  subst e
  cases h.1
def sg (b : Bool) : List Nat := if b then [45] else []
def jn (a : List Nat) : Option (List Nat) → List Nat
  | none => a
  | some b => a ++ 47 :: b
def dnm : Option (List Nat) → Nat
  | none => 1
  | some b => digitsVal b
def prOk (neg : Bool) (a : List Nat) (bo : Option (List Nat)) : Bool :=
  num a && ((match bo with | none => true | some b => num b && decide (2 ≤ digitsVal b)) && (decide (Nat.gcd (digitsVal a) (dnm bo) = 1) && !(neg && decide (digitsVal a = 0))))
/-- a text that is no rational's -/
def Bad (l : List Nat) : Prop := ∃ neg a bo, l = sg neg ++ jn a bo ∧ 47 ∉ a ∧ (neg = false → (jn a bo).head? ≠ some 45) ∧ prOk neg a bo = false ∧ (jn a bo).length ≤ 640
theorem bad_num {neg : Bool} {a : List Nat} {bo : Option (List Nat)} (h : num a = false) : prOk neg a bo = false := by unfold prOk; rw [h]; rfl
theorem bad_bot {neg : Bool} {a b : List Nat} (h : num b = false) : prOk neg a (some b) = false := by
  unfold prOk
  simp only [h, Bool.false_and, Bool.and_false]
theorem bad_two {neg : Bool} {a b : List Nat} (h : digitsVal b < 2) : prOk neg a (some b) = false := by
  unfold prOk
  simp only [decide_eq_false (show ¬ 2 ≤ digitsVal b by omega), Bool.false_and, Bool.and_false]
theorem dg_no {c n : Nat} (hc : ¬ (48 ≤ c ∧ c ≤ 57)) : c ∉ dg n := fun h => hc (dg_all n c h)
theorem dg_head2 (n c : Nat) (hc : ¬ (48 ≤ c ∧ c ≤ 57)) (r : List Nat) : (dg n ++ r).head? ≠ some c := by
  cases h : dg n with
  | nil => exact absurd h (dg_ne n)
  | cons x t =>
    intro e
    simp only [List.cons_append, List.head?_cons, Option.some.injEq] at e
    subst e
    exact dg_no hc (h ▸ List.mem_cons_self)
/-- the written form of ±x / y -/
def wf (s : Bool) (x y : Nat) : List Nat := sg s ++ jn (dg x) (if y = 1 then none else some (dg y))
def badL (t p : List Nat) : List (List Nat) :=
  [[], 43 :: t, 32 :: t, t ++ [32], 48 :: p, [45, 48], 45 :: 45 :: p, t ++ [47], 47 :: p, t ++ [47, 48],
   t ++ [47, 49], [50, 47, 52], [54, 47, 51], p ++ 47 :: p, t ++ [46, 48], [120], p ++ [47, 47, 55], [48, 47, 53], 45 :: (p ++ [45])]
theorem wf_ok {s : Bool} {x y : Nat} (hg : Nat.gcd x y = 1) (hy : 1 ≤ y) (hs : s = true → x ≠ 0) : prOk s (dg x) (if y = 1 then none else some (dg y)) = true := by
  have h3 : (s && decide (x = 0)) = false := by
    cases s
    · rfl
    · exact decide_eq_false (hs rfl)
  by_cases h1 : y = 1
  · subst h1
    rw [if_pos rfl]
    unfold prOk dnm
    simp only [num_dg, dv_dg, hg, h3]
    rfl
  · rw [if_neg h1]
    unfold prOk dnm
    simp only [num_dg, dv_dg, hg, h3, decide_eq_true (show 2 ≤ y by omega)]
    rfl
theorem b_one (s : Bool) {l a : List Nat} (e : l = sg s ++ a) (h47 : 47 ∉ a) (hh : s = false → a.head? ≠ some 45) (hn : num a = false) (hl : a.length ≤ 640) : Bad l := ⟨s, a, none, e, h47, hh, bad_num hn, hl⟩
theorem b_two (s : Bool) {l a b : List Nat} (e : l = sg s ++ (a ++ 47 :: b)) (h47 : 47 ∉ a) (hh : s = false → (a ++ 47 :: b).head? ≠ some 45) (hn : prOk s a (some b) = false) (hl : a.length + b.length + 1 ≤ 640) : Bad l :=
  ⟨s, a, some b, e, h47, hh, hn, by
    show (a ++ 47 :: b).length ≤ 640
    rw [List.length_append, List.length_cons]
    omega⟩
theorem no47 {n : Nat} {e : List Nat} (h : 47 ∉ e) : 47 ∉ dg n ++ e := fun hm => (List.mem_append.mp hm).elim (dg_no (by decide)) h
theorem hd45 {n : Nat} (e : List Nat) : (dg n ++ e).head? ≠ some 45 := dg_head2 n 45 (by decide) e
theorem b_ext {s : Bool} {x y : Nat} (hx : (dg x).length ≤ 200) (hy : (dg y).length ≤ 200) {c : Nat} {e : List Nat} (hc : isD c = false) (h47 : c ≠ 47) (he : e.length ≤ 10) (he2 : 47 ∉ e) : Bad (wf s x y ++ c :: e) := by
  unfold wf
  have hce : 47 ∉ c :: e := fun h => (List.mem_cons.mp h).elim (fun e => h47 e.symm) he2
  by_cases hy1 : y = 1
  · rw [if_pos hy1]
    refine b_one s (a := dg x ++ c :: e) (by simp only [jn, List.append_assoc]) (no47 hce) (fun _ => hd45 _) (num_bad (c := c) (by simp) hc) ?_
    rw [List.length_append, List.length_cons]
    omega
  · rw [if_neg hy1]
    refine b_two s (a := dg x) (b := dg y ++ c :: e) (by simp only [jn, List.append_assoc, List.cons_append]) (dg_no (by decide)) (fun _ => hd45 _) (bad_bot (num_bad (c := c) (by simp) hc)) ?_
    rw [List.length_append, List.length_cons]
    omega
theorem b_sl {s : Bool} {x y : Nat} (hx : (dg x).length ≤ 200) (hy : (dg y).length ≤ 200) {e : List Nat} (he : e.length ≤ 10) (hn : num e = false ∨ digitsVal e < 2) : Bad (wf s x y ++ 47 :: e) := by
  unfold wf
  by_cases hy1 : y = 1
  · rw [if_pos hy1]
    refine b_two s (a := dg x) (b := e) (by simp only [jn, List.append_assoc]) (dg_no (by decide)) (fun _ => hd45 _) ?_ (by omega)
    rcases hn with h | h
    · exact bad_bot h
    · exact bad_two h
  · rw [if_neg hy1]
    refine b_two s (a := dg x) (b := dg y ++ 47 :: e) (by simp only [jn, List.append_assoc, List.cons_append]) (dg_no (by decide)) (fun _ => hd45 _) (bad_bot (num_bad (c := 47) (by simp) rfl)) ?_
    rw [List.length_append, List.length_cons]
    omega
theorem b_pre {s : Bool} {x y : Nat} (hx : (dg x).length ≤ 200) (hy : (dg y).length ≤ 200) {c : Nat} (hc : isD c = false) (h47 : c ≠ 47) (h45 : c ≠ 45) : Bad (c :: wf s x y) := by
  unfold wf
  have hs : 47 ∉ sg s := by cases s <;> simp [sg]
  have hsl : (sg s).length ≤ 1 := by cases s <;> simp [sg]
  have hc2 : 47 ∉ c :: (sg s ++ dg x) := fun h => by
    rcases List.mem_cons.mp h with e | h
    · exact h47 e.symm
    · exact (List.mem_append.mp h).elim hs (dg_no (by decide))
  by_cases hy1 : y = 1
  · rw [if_pos hy1]
    refine b_one false (a := c :: (sg s ++ dg x)) rfl hc2 (fun _ => by simpa using h45) (num_bad (c := c) (by simp) hc) ?_
    rw [List.length_cons, List.length_append]
    omega
  · rw [if_neg hy1]
    refine b_two false (a := c :: (sg s ++ dg x)) (b := dg y) (by simp only [jn, sg, List.nil_append, List.append_assoc, List.cons_append]; rfl) hc2 (fun _ => by simpa using h45) (bad_num (num_bad (c := c) (by simp) hc)) ?_
    rw [List.length_cons, List.length_append]
    omega
theorem bad_all {s : Bool} {x y : Nat} (hx : (dg x).length ≤ 200) (hy : (dg y).length ≤ 200) (h1 : 1 ≤ y) : ∀ z ∈ badL (wf s x y) (dg y), Bad z := by
  intro z hz
  unfold badL at hz
  simp only [List.mem_cons, List.not_mem_nil, or_false] at hz
  rcases hz with rfl | rfl | rfl | rfl | rfl | rfl | rfl | rfl | rfl | rfl | rfl | rfl | rfl | rfl | rfl | rfl | rfl | rfl | rfl
  · exact b_one false rfl (by simp) (fun _ => by simp) rfl (by decide)
  · exact b_pre hx hy rfl (by decide) (by decide)
  · exact b_pre hx hy rfl (by decide) (by decide)
  · exact b_ext hx hy rfl (by decide) (by decide) (by simp)
  · refine b_one false (a := 48 :: dg y) rfl (fun h => (List.mem_cons.mp h).elim (by decide) (dg_no (by decide))) (fun _ => by simp) ?_ (by rw [List.length_cons]; omega)
    have hp : 1 ≤ (dg y).length := List.length_pos_iff.mpr (dg_ne y)
    unfold num
    rw [decide_eq_true (p := 1 < (48 :: dg y).length) (by rw [List.length_cons]; omega)]
    rfl
  · exact ⟨true, [48], none, rfl, by decide, (fun h => by cases h), by decide +kernel, by decide⟩
  · exact b_one true (a := 45 :: dg y) rfl (fun h => (List.mem_cons.mp h).elim (by decide) (dg_no (by decide))) (fun h => by cases h) (num_bad (c := 45) (by simp) rfl) (by rw [List.length_cons]; omega)
  · exact b_sl hx hy (by decide) (.inl rfl)
  · exact b_two false (a := []) (b := dg y) rfl (by simp) (fun _ => by simp) (bad_num rfl) (by simp only [List.length_nil]; omega)
  · exact b_sl hx hy (by decide) (.inr (by decide +kernel))
  · exact b_sl hx hy (by decide) (.inr (by decide +kernel))
  · exact ⟨false, [50], some [52], rfl, by decide, (fun _ => by decide), by decide +kernel, by decide⟩
  · exact ⟨false, [54], some [51], rfl, by decide, (fun _ => by decide), by decide +kernel, by decide⟩
  · refine b_two false (a := dg y) (b := dg y) rfl (dg_no (by decide)) (fun _ => hd45 _) ?_ (by omega)
    by_cases hy1 : y = 1
    · subst hy1
      exact bad_two (by rw [dv_dg]; decide)
    · unfold prOk dnm
      simp only [dv_dg, Nat.gcd_self, decide_eq_false hy1, Bool.false_and, Bool.and_false]
  · exact b_ext hx hy rfl (by decide) (by decide) (by simp)
  · exact b_one false (a := [120]) rfl (by decide) (fun _ => by decide) rfl (by decide)
  · exact b_two false (a := dg y) (b := [47, 55]) rfl (dg_no (by decide)) (fun _ => hd45 _) (bad_bot rfl) (by simp only [List.length_cons, List.length_nil]; omega)
  · exact ⟨false, [48], some [53], rfl, by decide, (fun _ => by decide), by decide +kernel, by decide⟩
  · exact b_one true (a := dg y ++ [45]) rfl (no47 (by decide)) (fun h => by cases h) (num_bad (c := 45) (by simp) rfl) (by rw [List.length_append]; simp only [List.length_cons, List.length_nil]; omega)
end LA

/-! Power series over the rationals: where polynomials are reckoned. -/
namespace LA
abbrev Sq := Nat → Rat
def mA (g : Sq) : Nat → Sq → Rat
  | 0, f => f 0 * g 0
  | n + 1, f => f 0 * g (n + 1) + mA g n (fun i => f (i + 1))
theorem mA_addl (g : Sq) : ∀ (n : Nat) (f f' : Sq), mA g n (fun i => f i + f' i) = mA g n f + mA g n f'
  | 0, f, f' => by show (f 0 + f' 0) * g 0 = f 0 * g 0 + f' 0 * g 0; grind
  | n + 1, f, f' => by
    show (f 0 + f' 0) * g (n + 1) + mA g n (fun i => f (i + 1) + f' (i + 1)) = f 0 * g (n + 1) + mA g n (fun i => f (i + 1)) + (f' 0 * g (n + 1) + mA g n (fun i => f' (i + 1)))
    rw [mA_addl g n (fun i => f (i + 1)) (fun i => f' (i + 1))]
    grind
theorem mA_addr (g g' : Sq) : ∀ (n : Nat) (f : Sq), mA (fun i => g i + g' i) n f = mA g n f + mA g' n f
  | 0, f => by show f 0 * (g 0 + g' 0) = f 0 * g 0 + f 0 * g' 0; grind
  | n + 1, f => by
    show f 0 * (g (n + 1) + g' (n + 1)) + mA (fun i => g i + g' i) n (fun i => f (i + 1)) = f 0 * g (n + 1) + mA g n (fun i => f (i + 1)) + (f 0 * g' (n + 1) + mA g' n (fun i => f (i + 1)))
    rw [mA_addr g g' n]
    grind
theorem mA_cl (g : Sq) (c : Rat) : ∀ (n : Nat) (f : Sq), mA g n (fun i => c * f i) = c * mA g n f
  | 0, f => by show c * f 0 * g 0 = c * (f 0 * g 0); grind
  | n + 1, f => by
    show c * f 0 * g (n + 1) + mA g n (fun i => c * f (i + 1)) = c * (f 0 * g (n + 1) + mA g n (fun i => f (i + 1)))
    rw [mA_cl g c n (fun i => f (i + 1))]
    grind
theorem mA_r (g : Sq) : ∀ (n : Nat) (f : Sq), mA g (n + 1) f = f (n + 1) * g 0 + mA (fun i => g (i + 1)) n f
  | 0, f => by show f 0 * g 1 + f 1 * g 0 = f 1 * g 0 + f 0 * g 1; grind
  | n + 1, f => by
    have ih := mA_r g n (fun i => f (i + 1))
    show f 0 * g (n + 2) + mA g (n + 1) (fun i => f (i + 1)) = f (n + 2) * g 0 + (f 0 * g (n + 2) + mA (fun i => g (i + 1)) n (fun i => f (i + 1)))
    rw [ih]
    show f 0 * g (n + 2) + (f (n + 2) * g 0 + mA (fun i => g (i + 1)) n (fun i => f (i + 1))) = _
    grind
theorem mA_comm : ∀ (n : Nat) (f g : Sq), mA g n f = mA f n g
  | 0, f, g => by show f 0 * g 0 = g 0 * f 0; grind
  | n + 1, f, g => by
    rw [mA_r f n g, ← mA_comm n (fun i => f (i + 1)) g]
    show f 0 * g (n + 1) + mA g n (fun i => f (i + 1)) = _
    grind
theorem mA_assoc (g h : Sq) : ∀ (n : Nat) (f : Sq), mA h n (fun i => mA g i f) = mA (fun i => mA h i g) n f
  | 0, f => by show f 0 * g 0 * h 0 = f 0 * (g 0 * h 0); grind
  | n + 1, f => by
    have ih := mA_assoc g h n (fun i => f (i + 1))
    have e1 := mA_addl h n (fun i => f 0 * g (i + 1)) (fun i => mA g i (fun i => f (i + 1)))
    have e2 := mA_cl h (f 0) n (fun i => g (i + 1))
    show f 0 * g 0 * h (n + 1) + mA h n (fun i => f 0 * g (i + 1) + mA g i (fun i => f (i + 1))) = f 0 * (g 0 * h (n + 1) + mA h n (fun i => g (i + 1))) + mA (fun i => mA h i g) n (fun i => f (i + 1))
    rw [e1, e2, ih]
    grind
theorem mA_0 (g : Sq) : ∀ (n : Nat) (f : Sq), (∀ i, f i = 0) → mA g n f = 0
  | 0, f, h => by show f 0 * g 0 = 0; rw [h 0]; grind
  | n + 1, f, h => by
    show f 0 * g (n + 1) + mA g n (fun i => f (i + 1)) = 0
    rw [mA_0 g n (fun i => f (i + 1)) fun i => h (i + 1), h 0]
    grind
def kS (c : Rat) : Sq := fun i => if i = 0 then c else 0
theorem kS_0 (c : Rat) : kS c 0 = c := rfl
theorem kS_s (c : Rat) (n : Nat) : kS c (n + 1) = 0 := if_neg (by omega)
theorem mA_k (g : Sq) (c : Rat) (n : Nat) : mA g n (kS c) = c * g n := by
  cases n with
  | zero => rfl
  | succ n =>
    show kS c 0 * g (n + 1) + mA g n (fun i => kS c (i + 1)) = _
    rw [mA_0 g n _ fun i => kS_s c i, kS_0]
    grind
structure PS where
  co : Nat → Rat
theorem PS.ext {f g : PS} (h : ∀ i, f.co i = g.co i) : f = g := by
  cases f; cases g
  congr 1
  exact funext h
def kP (c : Rat) : PS := ⟨kS c⟩
def PS.mul (f g : PS) : PS := ⟨fun i => mA g.co i f.co⟩
def nP (f : PS) : Nat → PS
  | 0 => kP 1
  | n + 1 => (nP f n).mul f
instance : Lean.Grind.CommRing PS where
  add f g := ⟨fun i => f.co i + g.co i⟩
  mul f g := f.mul g
  neg f := ⟨fun i => -f.co i⟩
  sub f g := ⟨fun i => f.co i - g.co i⟩
  natCast := ⟨fun n => kP (n : Nat)⟩
  ofNat n := ⟨kP (n : Nat)⟩
  nsmul := ⟨fun n f => (kP (n : Nat)).mul f⟩
  zsmul := ⟨fun n f => (kP (n : Int)).mul f⟩
  npow := ⟨fun f n => nP f n⟩
  intCast := ⟨fun n => kP (n : Int)⟩
  add_zero f := PS.ext fun i => by
    show f.co i + kS ((0 : Nat) : Rat) i = f.co i
    cases i with
    | zero => rw [kS_0]; grind
    | succ n => rw [kS_s]; grind
  add_comm f g := PS.ext fun i => by show f.co i + g.co i = g.co i + f.co i; grind
  add_assoc f g h := PS.ext fun i => by show f.co i + g.co i + h.co i = f.co i + (g.co i + h.co i); grind
  mul_assoc f g h := PS.ext fun i => mA_assoc g.co h.co i f.co
  mul_comm f g := PS.ext fun i => mA_comm i f.co g.co
  mul_one f := PS.ext fun i => by
    show mA (kS ((1 : Nat) : Rat)) i f.co = f.co i
    rw [mA_comm, mA_k]
    grind
  one_mul f := PS.ext fun i => by
    show mA f.co i (kS ((1 : Nat) : Rat)) = f.co i
    rw [mA_k]
    grind
  left_distrib f g h := PS.ext fun i => mA_addr g.co h.co i f.co
  right_distrib f g h := PS.ext fun i => mA_addl h.co i f.co g.co
  zero_mul f := PS.ext fun i => by
    show mA f.co i (kS ((0 : Nat) : Rat)) = kS ((0 : Nat) : Rat) i
    rw [mA_k]
    cases i with
    | zero => rw [kS_0]; grind
    | succ n => rw [kS_s]; grind
  mul_zero f := PS.ext fun i => by
    show mA (kS ((0 : Nat) : Rat)) i f.co = kS ((0 : Nat) : Rat) i
    rw [mA_comm, mA_k]
    cases i with
    | zero => rw [kS_0]; grind
    | succ n => rw [kS_s]; grind
  pow_zero f := by
    show nP f 0 = kP ((1 : Nat) : Rat)
    unfold nP
    congr 1
  pow_succ f n := rfl
  ofNat_succ n := PS.ext fun i => by
    show kS ((n + 1 : Nat) : Rat) i = kS ((n : Nat) : Rat) i + kS ((1 : Nat) : Rat) i
    cases i with
    | zero => rw [kS_0, kS_0, kS_0]; grind
    | succ n => rw [kS_s, kS_s, kS_s]; grind
  ofNat_eq_natCast n := rfl
  nsmul_eq_natCast_mul n f := rfl
  sub_eq_add_neg f g := PS.ext fun i => by show f.co i - g.co i = f.co i + -g.co i; grind
  neg_add_cancel f := PS.ext fun i => by
    show -f.co i + f.co i = kS ((0 : Nat) : Rat) i
    cases i with
    | zero => rw [kS_0]; grind
    | succ n => rw [kS_s]; grind
  neg_zsmul n f := PS.ext fun i => by
    show mA f.co i (kS ((-n : Int) : Rat)) = -(mA f.co i (kS ((n : Int) : Rat)))
    rw [mA_k, mA_k, Rat.intCast_neg]
    grind
  zsmul_natCast_eq_nsmul n f := rfl
  intCast_ofNat n := rfl
  intCast_neg n := PS.ext fun i => by
    show kS ((-n : Int) : Rat) i = -(kS ((n : Int) : Rat) i)
    cases i with
    | zero => rw [kS_0, kS_0, Rat.intCast_neg]
    | succ n => rw [kS_s, kS_s]; grind
theorem co_add (f g : PS) (i : Nat) : (f + g).co i = f.co i + g.co i := rfl
theorem co_sub (f g : PS) (i : Nat) : (f - g).co i = f.co i - g.co i := rfl
theorem co_neg (f : PS) (i : Nat) : (-f).co i = -f.co i := rfl
theorem co_mul (f g : PS) (i : Nat) : (f * g).co i = mA g.co i f.co := rfl
theorem co_zero (i : Nat) : (0 : PS).co i = 0 := by
  show kS ((0 : Nat) : Rat) i = 0
  cases i with
  | zero => rfl
  | succ n => rw [kS_s]
theorem co_one (i : Nat) : (1 : PS).co i = if i = 0 then 1 else 0 := rfl
theorem co_k (c : Rat) (i : Nat) : (kP c).co i = if i = 0 then c else 0 := rfl
theorem co_kmul (c : Rat) (f : PS) (i : Nat) : (kP c * f).co i = c * f.co i := mA_k f.co c i
/-- the n-th power of the variable -/
def xP (n : Nat) : PS := ⟨fun i => if i = n then 1 else 0⟩
theorem co_x (n i : Nat) : (xP n).co i = if i = n then 1 else 0 := rfl
theorem mA_x (g : Sq) : ∀ (k n : Nat), mA g n (fun i => if i = k then (1 : Rat) else 0) = if n < k then 0 else g (n - k)
  | 0, n => by
    have := mA_k g 1 n
    rw [if_neg (by omega), Nat.sub_zero]
    refine Eq.trans this ?_
    grind
  | k + 1, 0 => by
    rw [if_pos (by omega)]
    show (if 0 = k + 1 then (1 : Rat) else 0) * g 0 = 0
    rw [if_neg (by omega)]
    grind
  | k + 1, n + 1 => by
    have ih := mA_x g k n
    have e : (fun i => if i + 1 = k + 1 then (1 : Rat) else 0) = fun i => if i = k then (1 : Rat) else 0 := by
      funext i
      by_cases h : i = k
      · rw [if_pos h, if_pos (by omega)]
      · rw [if_neg h, if_neg (by omega)]
    show (if 0 = k + 1 then (1 : Rat) else 0) * g (n + 1) + mA g n (fun i => if i + 1 = k + 1 then (1 : Rat) else 0) = _
    rw [e, ih, if_neg (show ¬ 0 = k + 1 by omega)]
    by_cases h : n < k
    · rw [if_pos h, if_pos (by omega)]
      grind
    · rw [if_neg h, if_neg (by omega), show n + 1 - (k + 1) = n - k by omega]
      grind
theorem co_xmul (k : Nat) (f : PS) (i : Nat) : (xP k * f).co i = if i < k then 0 else f.co (i - k) := mA_x f.co k i
/-- nothing from n on -/
def Fin_ (f : PS) (n : Nat) : Prop := ∀ i, n ≤ i → f.co i = 0
theorem mA_top (g : Sq) : ∀ (m n : Nat) (f : Sq), (∀ i, m < i → f i = 0) → (∀ i, n < i → g i = 0) → mA g (m + n) f = f m * g n ∧ ∀ j, m + n < j → mA g j f = 0
  | 0, n, f, hf, hg => by
    have e : f = kS (f 0) := by
      funext i
      cases i with
      | zero => rfl
      | succ i => rw [kS_s]; exact hf _ (by omega)
    constructor
    · rw [e, mA_k, Nat.zero_add]
      rfl
    · intro j hj
      rw [e, mA_k, hg j (by omega)]
      grind
  | m + 1, n, f, hf, hg => by
    have ih := mA_top g m n (fun i => f (i + 1)) (fun i hi => hf _ (by omega)) hg
    constructor
    · rw [show m + 1 + n = m + n + 1 by omega]
      show f 0 * g (m + n + 1) + mA g (m + n) (fun i => f (i + 1)) = _
      rw [hg (m + n + 1) (by omega), ih.1]
      grind
    · intro j hj
      obtain ⟨j, rfl⟩ : ∃ j', j = j' + 1 := ⟨j - 1, by omega⟩
      show f 0 * g (j + 1) + mA g j (fun i => f (i + 1)) = 0
      rw [hg (j + 1) (by omega), ih.2 j (by omega)]
      grind
theorem co_top {f g : PS} {m n : Nat} (hf : ∀ i, m < i → f.co i = 0) (hg : ∀ i, n < i → g.co i = 0) : (f * g).co (m + n) = f.co m * g.co n := (mA_top g.co m n f.co hf hg).1
theorem Fin_.mul {f g : PS} {m n : Nat} (hf : Fin_ f (m + 1)) (hg : Fin_ g (n + 1)) : Fin_ (f * g) (m + n + 1) := fun i hi => (mA_top g.co m n f.co (fun i h => hf i (by omega)) (fun i h => hg i (by omega))).2 i (by omega)
theorem Fin_.add {f g : PS} {n : Nat} (hf : Fin_ f n) (hg : Fin_ g n) : Fin_ (f + g) n := fun i hi => by rw [co_add, hf i hi, hg i hi]; grind
theorem Fin_.sub {f g : PS} {n : Nat} (hf : Fin_ f n) (hg : Fin_ g n) : Fin_ (f - g) n := fun i hi => by rw [co_sub, hf i hi, hg i hi]; grind
theorem Fin_.neg {f : PS} {n : Nat} (hf : Fin_ f n) : Fin_ (-f) n := fun i hi => by rw [co_neg, hf i hi]; grind
theorem Fin_.le {f : PS} {m n : Nat} (hf : Fin_ f m) (h : m ≤ n) : Fin_ f n := fun i hi => hf i (by omega)
theorem Fin_.zero {f : PS} (hf : Fin_ f 0) : f = 0 := PS.ext fun i => by rw [hf i (by omega), co_zero]
example (a b c : PS) (h : a * b = c) : c * a - b * a * a = 0 := by grind
/-! polynomials: rows of coefficients without a zero at the end -/
def cf (p : List Rat) (i : Nat) : Rat := p.getD i 0
def P (p : List Rat) : PS := ⟨cf p⟩
def sz (f : Nat → Rat) : Nat → Nat
  | 0 => 0
  | n + 1 => if f n = 0 then sz f n else n + 1
theorem sz_le (f : Nat → Rat) : ∀ n, sz f n ≤ n
  | 0 => Nat.le_refl _
  | n + 1 => by
    unfold sz
    split
    · have := sz_le f n; omega
    · exact Nat.le_refl _
theorem sz_zero (f : Nat → Rat) : ∀ n i, sz f n ≤ i → i < n → f i = 0
  | 0, i, _, h => absurd h (by omega)
  | n + 1, i, h1, h2 => by
    unfold sz at h1
    split at h1
    · rename_i h0
      by_cases hi : i = n
      · rw [hi]; exact h0
      · exact sz_zero f n i h1 (by omega)
    · omega
theorem sz_last (f : Nat → Rat) : ∀ n m, sz f n = m + 1 → f m ≠ 0
  | 0, m, h => by cases h
  | n + 1, m, h => by
    unfold sz at h
    split at h
    · exact sz_last f n m h
    · rename_i h0
      have : n = m := by omega
      rw [← this]; exact h0
/-- without a zero at the end -/
def Nm (p : List Rat) : Prop := ∀ m, p.length = m + 1 → cf p m ≠ 0
theorem cf_out {p : List Rat} {i : Nat} (h : p.length ≤ i) : cf p i = 0 := by
  unfold cf
  rw [List.getD_eq_getElem?_getD, List.getElem?_eq_none h]
  rfl
theorem P_fin (p : List Rat) : Fin_ (P p) p.length := fun i hi => cf_out hi
theorem cf_take (p : List Rat) (m i : Nat) : cf (p.take m) i = if i < m then cf p i else 0 := by
  unfold cf
  rw [List.getD_eq_getElem?_getD, List.getElem?_take]
  split
  · rw [List.getD_eq_getElem?_getD]
  · rfl
def tr (p : List Rat) : List Rat := p.take (sz (cf p) p.length)
theorem tr_len (p : List Rat) : (tr p).length = sz (cf p) p.length := by
  unfold tr
  rw [List.length_take]
  have := sz_le (cf p) p.length
  omega
theorem tr_cf (p : List Rat) (i : Nat) : cf (tr p) i = cf p i := by
  unfold tr
  rw [cf_take]
  split
  · rfl
  · rename_i h
    by_cases hi : i < p.length
    · exact (sz_zero (cf p) _ i (by omega) hi).symm
    · exact (cf_out (by omega)).symm
theorem tr_P (p : List Rat) : P (tr p) = P p := PS.ext fun i => tr_cf p i
theorem tr_Nm (p : List Rat) : Nm (tr p) := fun m h => by
  rw [tr_len] at h
  rw [tr_cf]
  exact sz_last _ _ _ h
theorem Nm.nil : Nm [] := fun m h => by cases h
theorem Nm.ext {p q : List Rat} (hp : Nm p) (hq : Nm q) (h : P p = P q) : p = q := by
  have hc : ∀ i, cf p i = cf q i := fun i => congrFun (congrArg PS.co h) i
  have key : ∀ {p q : List Rat}, Nm q → (∀ i, cf p i = cf q i) → q.length ≤ p.length := by
    intro p q hq hc
    refine Decidable.byContradiction fun hn => ?_
    obtain ⟨m, hm⟩ : ∃ m, q.length = m + 1 := ⟨q.length - 1, by omega⟩
    exact hq m hm (by rw [← hc m]; exact cf_out (by omega))
  have l1 := key hq hc
  have l2 := key hp fun i => (hc i).symm
  refine List.ext_getElem (by omega) fun i h1 h2 => ?_
  have := hc i
  unfold cf at this
  rwa [List.getD_eq_getElem?_getD, List.getD_eq_getElem?_getD, List.getElem?_eq_getElem h1, List.getElem?_eq_getElem h2] at this
theorem Nm.of_fin {p : List Rat} (hp : Nm p) {n : Nat} (h : Fin_ (P p) n) : p.length ≤ n := by
  refine Decidable.byContradiction fun hn => ?_
  obtain ⟨m, hm⟩ : ∃ m, p.length = m + 1 := ⟨p.length - 1, by omega⟩
  exact hp m hm (h m (by omega))
/-- the row of the first n values -/
def row (f : Nat → Rat) (n : Nat) : List Rat := (List.range n).map f
theorem row_len (f : Nat → Rat) (n : Nat) : (row f n).length = n := by unfold row; simp
theorem row_cf (f : Nat → Rat) (n i : Nat) : cf (row f n) i = if i < n then f i else 0 := by
  unfold cf row
  rw [List.getD_eq_getElem?_getD]
  split
  · rename_i h
    simp [h]
  · rename_i h
    simp [h]
theorem row_P {f : PS} {n : Nat} (h : Fin_ f n) : P (row f.co n) = f := PS.ext fun i => by
  show cf (row f.co n) i = _
  rw [row_cf]
  split
  · rfl
  · exact (h i (by omega)).symm
/-- the polynomial of a series that ends -/
def pl (f : PS) (n : Nat) : List Rat := tr (row f.co n)
theorem pl_Nm (f : PS) (n : Nat) : Nm (pl f n) := tr_Nm _
theorem pl_P {f : PS} {n : Nat} (h : Fin_ f n) : P (pl f n) = f := by unfold pl; rw [tr_P, row_P h]
/-- sizes of all coefficients -/
def PB (p : List Rat) (n : Nat) : Prop := ∀ q ∈ p, QB q n
theorem PB.le {p : List Rat} {m n : Nat} (h : PB p m) (l : m ≤ n) : PB p n := fun q hq => (h q hq).le l
theorem PB.take {p : List Rat} {m : Nat} (h : PB p m) (k : Nat) : PB (p.take k) m := fun q hq => h q (List.mem_of_mem_take hq)
theorem PB.tr {p : List Rat} {m : Nat} (h : PB p m) : PB (tr p) m := h.take _
theorem QB.zero {n : Nat} (h : 1 ≤ n) : QB 0 n := QB.le (m := 1) ⟨by show (0 : Int).natAbs < 2 ^ 1; decide, by show ((1 : Nat) : Int).natAbs < 2 ^ 1; decide⟩ h
theorem QB.one' {n : Nat} (h : 1 ≤ n) : QB 1 n := QB.le (m := 1) ⟨by show (1 : Int).natAbs < 2 ^ 1; decide, by show ((1 : Nat) : Int).natAbs < 2 ^ 1; decide⟩ h
theorem PB.cf {p : List Rat} {n : Nat} (h : PB p n) (h1 : 1 ≤ n) (i : Nat) : QB (cf p i) n := by
  by_cases hi : i < p.length
  · have e : LA.cf p i = p[i] := by
      unfold LA.cf
      rw [List.getD_eq_getElem?_getD, List.getElem?_eq_getElem hi]
      rfl
    rw [e]
    exact h _ (List.getElem_mem hi)
  · rw [cf_out (by omega)]
    exact QB.zero h1
theorem cf_set (p : List Rat) (j : Nat) (v : Rat) (i : Nat) : cf (p.set j v) i = if i = j ∧ j < p.length then v else cf p i := by
  unfold cf
  rw [List.getD_eq_getElem?_getD, List.getElem?_set]
  by_cases h : j = i
  · subst h
    by_cases hj : j < p.length
    · rw [if_pos rfl, if_pos hj, if_pos ⟨rfl, hj⟩]
      rfl
    · rw [if_pos rfl, if_neg hj, if_neg (fun z => hj z.2), List.getD_eq_getElem?_getD, List.getElem?_eq_none (by omega)]
  · rw [if_neg h, if_neg (fun z => h z.1.symm), List.getD_eq_getElem?_getD]
theorem P_take_succ (p : List Rat) (i : Nat) : P (p.take (i + 1)) = P (p.take i) + kP (cf p i) * xP i := PS.ext fun j => by
  show cf (p.take (i + 1)) j = cf (p.take i) j + (kP (cf p i) * xP i).co j
  rw [cf_take, cf_take, co_kmul, co_x]
  by_cases h : j = i
  · subst h
    rw [if_pos (by omega), if_neg (by omega), if_pos rfl]
    grind
  · by_cases h2 : j < i
    · rw [if_pos (by omega), if_pos h2, if_neg h]
      grind
    · rw [if_neg (by omega), if_neg h2, if_neg h]
      grind
theorem P_take_all (p : List Rat) {n : Nat} (h : p.length ≤ n) : P (p.take n) = P p := by rw [List.take_of_length_le h]
theorem P_nil : P [] = 0 := PS.ext fun i => by
  rw [co_zero]
  rfl
theorem P_set {p : List Rat} {k : Nat} {f : Rat} (hk : k < p.length) : P (p.set k f) = P p + kP (f - cf p k) * xP k := PS.ext fun j => by
  show cf (p.set k f) j = cf p j + (kP (f - cf p k) * xP k).co j
  rw [cf_set, co_kmul, co_x]
  by_cases h : j = k
  · subst h
    rw [if_pos ⟨rfl, hk⟩, if_pos rfl]
    grind
  · rw [if_neg (fun z => h z.1), if_neg h]
    grind
theorem div_step {L L' q : List Rat} {f : Rat} {k n : Nat} (hn : q.length = n + 1) (h1 : ∀ j, j < k + n → cf L' j = if k ≤ j then cf L j - f * cf q (j - k) else cf L j) (h2 : cf L (k + n) = f * cf q n) :
    P (L'.take (k + n)) = P (L.take (k + n + 1)) - kP f * (xP k * P q) := PS.ext fun j => by
  have e : (kP f * (xP k * P q)).co j = f * (if j < k then 0 else cf q (j - k)) := by
    rw [co_kmul, co_xmul]
    rfl
  show cf (L'.take (k + n)) j = cf (L.take (k + n + 1)) j - (kP f * (xP k * P q)).co j
  rw [e, cf_take, cf_take]
  by_cases a : j < k + n
  · rw [if_pos a, if_pos (by omega), h1 j a]
    by_cases b : k ≤ j
    · rw [if_pos b, if_neg (by omega)]
    · rw [if_neg b, if_pos (by omega)]
      grind
  · rw [if_neg a, if_neg (show ¬ j < k by omega)]
    by_cases c : j = k + n
    · subst c
      rw [if_pos (show k + n < k + n + 1 by omega), h2, show k + n - k = n by omega]
      grind
    · rw [if_neg (show ¬ j < k + n + 1 by omega), cf_out (show q.length ≤ j - k by omega)]
      grind
theorem Fin_.top {f : PS} : ∀ {n : Nat}, Fin_ f n → f = 0 ∨ ∃ m, m < n ∧ f.co m ≠ 0 ∧ ∀ i, m < i → f.co i = 0
  | 0, h => .inl h.zero
  | n + 1, h => by
    by_cases h0 : f.co n = 0
    · have h' : Fin_ f n := fun i hi => by
        by_cases e : i = n
        · rw [e]; exact h0
        · exact h i (by omega)
      rcases h'.top with z | ⟨m, h1, h2, h3⟩
      · exact .inl z
      · exact .inr ⟨m, by omega, h2, h3⟩
    · exact .inr ⟨n, by omega, h0, fun i hi => h i (by omega)⟩
theorem mul_ne {f g : PS} {m n : Nat} (hf : Fin_ f m) (hg : Fin_ g n) (h : f * g = 0) : f = 0 ∨ g = 0 := by
  rcases hf.top with h1 | ⟨a, _, a1, a2⟩
  · exact .inl h1
  · rcases hg.top with h2 | ⟨b, _, b1, b2⟩
    · exact .inr h2
    · have := co_top a2 b2
      rw [h, co_zero] at this
      exact absurd this.symm fun z => (Rat.mul_eq_zero.mp z).elim a1 b1
theorem P_ne {p : List Rat} (h : Nm p) (h0 : p ≠ []) : P p ≠ 0 := fun z => h0 (h.ext Nm.nil (by rw [z, P_nil]))
/-- a product with q that is shorter than q is zero -/
theorem short_zero {d : PS} {q : List Rat} {n m : Nat} (hd : Fin_ d n) (hq : Nm q) (hm : q.length = m + 1) (h : Fin_ (d * P q) m) : d = 0 := by
  rcases hd.top with h1 | ⟨a, _, a1, a2⟩
  · exact h1
  · have := co_top (g := P q) (n := m) a2 (fun i hi => P_fin q i (by omega))
    rw [h (a + m) (by omega)] at this
    exact absurd this.symm fun z => (Rat.mul_eq_zero.mp z).elim a1 (hq m hm)
theorem div_uniq {s r s' r' q : List Rat} {m : Nat} (hs : Nm s) (hr : Nm r) (hs' : Nm s') (hr' : Nm r') (hq : Nm q) (hm : q.length = m + 1) (l : r.length ≤ m) (l' : r'.length ≤ m) (h : P s * P q + P r = P s' * P q + P r') : s = s' ∧ r = r' := by
  have f1 : Fin_ (P s - P s') (max s.length s'.length) := ((P_fin s).le (Nat.le_max_left _ _)).sub ((P_fin s').le (Nat.le_max_right _ _))
  have f2 : Fin_ (P r' - P r) m := ((P_fin r').le l').sub ((P_fin r).le l)
  have e : (P s - P s') * P q = P r' - P r := by grind
  have z : P s - P s' = 0 := short_zero f1 hq hm (by rw [e]; exact f2)
  have e1 : P s = P s' := by grind
  refine ⟨hs.ext hs' e1, hr.ext hr' ?_⟩
  rw [e1] at h
  grind
/-- the size of a remainder after i steps -/
def bb (m n : Nat) : Nat → Nat
  | 0 => m
  | i + 1 => 2 * bb m n i + 2 * n + 1
theorem bb_le (m n : Nat) : ∀ {i j : Nat}, i ≤ j → bb m n i ≤ bb m n j
  | i, 0, h => by rw [show i = 0 by omega]; exact Nat.le_refl _
  | i, j + 1, h => by
    by_cases e : i = j + 1
    · rw [e]; exact Nat.le_refl _
    · have := bb_le m n (i := i) (j := j) (by omega)
      show _ ≤ 2 * bb m n j + 2 * n + 1
      omega
theorem PB.set {p : List Rat} {n : Nat} (h : PB p n) {v : Rat} (hv : QB v n) (k : Nat) : PB (p.set k v) n := fun q hq => by
  rcases List.mem_or_eq_of_mem_set hq with h1 | h1
  · exact h q h1
  · rw [h1]; exact hv
theorem row_succ (f : Nat → Rat) (i : Nat) : row f (i + 1) = row f i ++ [f i] := by
  unfold row
  rw [List.range_succ, List.map_append]
  rfl
theorem kP_mul (a b : Rat) : kP (a * b) = kP a * kP b := PS.ext fun i => by
  rw [co_kmul, co_k, co_k]
  split <;> grind
theorem kP_add (a b : Rat) : kP (a + b) = kP a + kP b := PS.ext fun i => by
  rw [co_add, co_k, co_k, co_k]
  split <;> grind
theorem kP_0 : kP 0 = 0 := PS.ext fun i => by
  rw [co_k, co_zero]
  split <;> rfl
theorem kP_1 : kP 1 = 1 := rfl
theorem xP_0 : xP 0 = 1 := rfl
theorem xP_add (a b : Nat) : xP (a + b) = xP a * xP b := PS.ext fun i => by
  rw [co_xmul, co_x, co_x]
  by_cases h : i < a
  · rw [if_pos h, if_neg (by omega)]
  · rw [if_neg h]
    by_cases e : i = a + b
    · rw [if_pos e, if_pos (by omega)]
    · rw [if_neg e, if_neg (by omega)]
theorem P_mul_fin (p q : List Rat) : Fin_ (P p * P q) (p.length + q.length - 1) := by
  cases p with
  | nil =>
    rw [P_nil]
    intro i _
    rw [show (0 : PS) * P q = 0 by grind, co_zero]
  | cons a p =>
    cases q with
    | nil =>
      rw [P_nil]
      intro i _
      rw [show P (a :: p) * (0 : PS) = 0 by grind, co_zero]
    | cons b q =>
      have := Fin_.mul (m := p.length) (n := q.length) (P_fin (a :: p)) (P_fin (b :: q))
      refine this.le ?_
      rw [List.length_cons, List.length_cons]
      omega
theorem cf_map {f : Rat → Rat} (h0 : f 0 = 0) (p : List Rat) (i : Nat) : cf (p.map f) i = f (cf p i) := by
  unfold cf
  rw [List.getD_eq_getElem?_getD, List.getElem?_map, List.getD_eq_getElem?_getD]
  cases p[i]? with
  | none => exact h0.symm
  | some x => rfl
theorem P_neg (p : List Rat) : P (p.map fun x => -x) = -P p := PS.ext fun i => by
  show cf (p.map fun x => -x) i = -cf p i
  rw [cf_map (by grind)]
theorem Nm.neg {p : List Rat} (h : Nm p) : Nm (p.map fun x => -x) := fun m hm => by
  rw [List.length_map] at hm
  rw [cf_map (by grind)]
  have := h m hm
  grind
theorem PB.map {p : List Rat} {n m : Nat} {f : Rat → Rat} (h : PB p n) (hf : ∀ x, QB x n → QB (f x) m) : PB (p.map f) m := fun q hq => by
  obtain ⟨x, hx, rfl⟩ := List.mem_map.mp hq
  exact hf x (h x hx)
theorem P_scale (e : Rat) (p : List Rat) : P (p.map fun x => e * x) = kP e * P p := PS.ext fun i => by
  rw [co_kmul]
  show cf (p.map fun x => e * x) i = e * cf p i
  rw [cf_map (by grind)]
theorem Nm.scale {e : Rat} (he : e ≠ 0) {p : List Rat} (h : Nm p) : Nm (p.map fun x => e * x) := fun m hm => by
  rw [List.length_map] at hm
  rw [cf_map (by grind)]
  exact fun z => (Rat.mul_eq_zero.mp z).elim he (h m hm)
theorem P_one (p : List Rat) (h : p.length = 1) : P p = kP (cf p 0) := PS.ext fun i => by
  rw [co_k]
  show cf p i = _
  split
  · rename_i e; rw [e]
  · exact cf_out (by omega)
theorem P_cons (a : Rat) (p : List Rat) : P (a :: p) = kP a + xP 1 * P p := PS.ext fun i => by
  rw [co_add, co_xmul, co_k]
  cases i with
  | zero =>
    show a = _
    rw [if_pos rfl, if_pos (by omega)]
    grind
  | succ i =>
    show cf p i = _
    rw [if_neg (by omega), if_neg (by omega), show i + 1 - 1 = i by omega]
    show _ = 0 + cf p i
    grind
/-! powers -/
theorem pow0 (f : PS) : f ^ 0 = 1 := rfl
theorem pows (f : PS) (n : Nat) : f ^ (n + 1) = f ^ n * f := rfl
theorem pow_sq (f : PS) : ∀ n : Nat, (f * f) ^ n = f ^ (2 * n)
  | 0 => rfl
  | n + 1 => by
    rw [pows, pow_sq f n, show 2 * (n + 1) = 2 * n + 1 + 1 by omega, pows, pows]
    grind
/-! the value at a point -/
def Sm : Nat → (Nat → Rat) → Rat
  | 0, _ => 0
  | n + 1, f => Sm n f + f n
theorem Sm_congr {f g : Nat → Rat} : ∀ {n : Nat}, (∀ i, i < n → f i = g i) → Sm n f = Sm n g
  | 0, _ => rfl
  | n + 1, h => by
    unfold Sm
    rw [Sm_congr fun i hi => h i (by omega), h n (by omega)]
theorem Sm_add (f g : Nat → Rat) : ∀ n : Nat, Sm n (fun i => f i + g i) = Sm n f + Sm n g
  | 0 => by unfold Sm; grind
  | n + 1 => by
    unfold Sm
    rw [Sm_add f g n]
    grind
theorem Sm_mul (c : Rat) (f : Nat → Rat) : ∀ n : Nat, Sm n (fun i => c * f i) = c * Sm n f
  | 0 => by unfold Sm; grind
  | n + 1 => by
    unfold Sm
    rw [Sm_mul c f n]
    grind
theorem Sm_shift (f : Nat → Rat) : ∀ n : Nat, Sm (n + 1) f = f 0 + Sm n (fun i => f (i + 1))
  | 0 => by unfold Sm Sm; grind
  | n + 1 => by
    rw [Sm, Sm_shift f n, Sm]
    grind
theorem Sm_zero {f : Nat → Rat} : ∀ {n m : Nat}, n ≤ m → (∀ i, n ≤ i → f i = 0) → Sm m f = Sm n f
  | n, 0, h, _ => by rw [show n = 0 by omega]
  | n, m + 1, h, hf => by
    by_cases e : n = m + 1
    · rw [e]
    · rw [Sm, hf m (by omega), Sm_zero (n := n) (m := m) (by omega) hf]
      exact Rat.add_zero _
def ev_ (e : Rat) (f : PS) (n : Nat) : Rat := Sm n fun i => f.co i * e ^ i
theorem ev_add (e : Rat) (f g : PS) (n : Nat) : ev_ e (f + g) n = ev_ e f n + ev_ e g n := by
  unfold ev_
  rw [← Sm_add]
  refine Sm_congr fun i _ => ?_
  rw [co_add]
  grind
theorem ev_k (e c : Rat) (f : PS) (n : Nat) : ev_ e (kP c * f) n = c * ev_ e f n := by
  unfold ev_
  rw [← Sm_mul]
  refine Sm_congr fun i _ => ?_
  rw [co_kmul]
  grind
theorem ev_x (e : Rat) (f : PS) (n : Nat) : ev_ e (xP 1 * f) (n + 1) = e * ev_ e f n := by
  unfold ev_
  rw [Sm_shift, ← Sm_mul, co_xmul, if_pos (by omega)]
  rw [show (0 : Rat) * e ^ 0 + Sm n (fun i => (xP 1 * f).co (i + 1) * e ^ (i + 1)) = Sm n (fun i => (xP 1 * f).co (i + 1) * e ^ (i + 1)) by grind]
  refine Sm_congr fun i _ => ?_
  rw [co_xmul, if_neg (by omega), show i + 1 - 1 = i by omega, Rat.pow_succ]
  grind
theorem ev_le {e : Rat} {f : PS} {n m : Nat} (h : Fin_ f n) (hm : n ≤ m) : ev_ e f m = ev_ e f n := Sm_zero hm fun i hi => by rw [h i hi]; grind
theorem ev_c (e c : Rat) {n : Nat} (h : 1 ≤ n) : ev_ e (kP c) n = c := by
  have f : Fin_ (kP c) 1 := fun i hi => by rw [co_k, if_neg (by omega)]
  rw [ev_le f h]
  show 0 + kS c 0 * e ^ 0 = c
  rw [kS_0, Rat.pow_zero]
  grind
/-- the value of a row -/
def hv (e : Rat) : List Rat → Rat
  | [] => 0
  | c :: p => hv e p * e + c
theorem hv_ev (e : Rat) : ∀ p : List Rat, hv e p = ev_ e (P p) p.length
  | [] => rfl
  | c :: p => by
    have h1 : Fin_ (kP c) 1 := fun i hi => by rw [co_k, if_neg (by omega)]
    rw [hv, hv_ev e p, P_cons, List.length_cons, ev_add, ev_x, ev_c e c (by omega)]
    grind
theorem ev_mulP (e : Rat) (g : PS) (n : Nat) (hg : Fin_ g n) : ∀ p : List Rat, ev_ e (P p * g) (p.length + n) = hv e p * ev_ e g n
  | [] => by
    rw [P_nil, show (0 : PS) * g = 0 by grind]
    unfold ev_ hv
    rw [Sm_zero (n := 0) (Nat.zero_le _) (fun i _ => by rw [co_zero]; grind)]
    unfold Sm
    grind
  | c :: p => by
    have ih := ev_mulP e g n hg p
    have ex : P (c :: p) * g = kP c * g + xP 1 * (P p * g) := by rw [P_cons]; grind
    rw [ex, ev_add, List.length_cons, show p.length + 1 + n = p.length + n + 1 by omega, ev_x, ih, ev_k, ev_le hg (by omega), hv]
    grind
/-- equal series have equal values -/
theorem hv_P {e : Rat} {p : List Rat} {f : PS} {n : Nat} (h : P p = f) (hf : Fin_ f n) : hv e p = ev_ e f n := by
  rw [hv_ev, h]
  have h1 := P_fin p
  rw [h] at h1
  by_cases l : p.length ≤ n
  · exact (ev_le h1 l).symm
  · exact ev_le hf (by omega)
theorem hv_mul {e : Rat} {p q r : List Rat} (h : P r = P p * P q) : hv e r = hv e p * hv e q := by
  have f : Fin_ (P p * P q) (p.length + q.length) := (P_mul_fin p q).le (by omega)
  rw [hv_P h f, ev_mulP e (P q) q.length (P_fin q) p, hv_ev e q]
theorem hv_add {e : Rat} {p q r : List Rat} (h : P r = P p + P q) : hv e r = hv e p + hv e q := by
  have f1 : Fin_ (P p) (p.length + q.length) := (P_fin p).le (by omega)
  have f2 : Fin_ (P q) (p.length + q.length) := (P_fin q).le (by omega)
  rw [hv_P h (f1.add f2), ev_add, ← hv_P rfl f1, ← hv_P rfl f2]
end LA

/-! == of nested plain data; rows of rationals as data -/
namespace LA
open PySem PySem.Spec PyProof.Rows L2 Ev
def PD (p : List Rat) : D := .tup (p.map QD)
/-- plain data without lists, nested at most n deep -/
structure Sh (d : D) (n : Nat) : Prop where
  p : pure_ d = true
  l : PyData.canLay0 (pd d) = true
  d : PyData.depth (pd d) ≤ n
theorem Sh.le {d : D} {m n : Nat} (h : Sh d m) (l : m ≤ n) : Sh d n := ⟨h.p, h.l, Nat.le_trans h.d l⟩
theorem Sh.int (i : Int) : Sh (.int i) 0 := ⟨rfl, by simp [pd, PyData.canLay0], by simp [pd, PyData.depth]⟩
theorem Sh.bl (i : Bool) : Sh (.bl i) 0 := ⟨rfl, by simp [pd, PyData.canLay0], by simp [pd, PyData.depth]⟩
theorem Sh.non : Sh .non 0 := ⟨rfl, by simp [pd, PyData.canLay0], by simp [pd, PyData.depth]⟩
theorem Sh.str {x : Str} (h : PyData.strOk x = true) : Sh (.str x) 0 := ⟨rfl, by simp [pd, PyData.canLay0, h], by simp [pd, PyData.depth]⟩
theorem Sh.all {n : Nat} : ∀ {ds : List D}, (∀ d ∈ ds, Sh d n) → pures ds = true ∧ PyData.canLayAll0 (pds ds) = true ∧ PyData.depthAll (pds ds) ≤ n
  | [], _ => ⟨rfl, by simp [pds, PyData.canLayAll0], by simp [pds, PyData.depthAll]⟩
  | d :: r, h => by
    have h1 := h d List.mem_cons_self
    obtain ⟨a, b, c⟩ := Sh.all fun x hx => h x (List.mem_cons_of_mem _ hx)
    refine ⟨by rw [pures, h1.p, a]; rfl, by rw [pds, PyData.canLayAll0, h1.l, b]; rfl, ?_⟩
    rw [pds, PyData.depthAll]
    have := h1.d
    omega
theorem Sh.tup {n : Nat} {ds : List D} (h : ∀ d ∈ ds, Sh d n) : Sh (.tup ds) (n + 1) := by
  obtain ⟨a, b, c⟩ := Sh.all h
  refine ⟨by rw [pure_]; exact a, by rw [pd, PyData.canLay0]; exact b, ?_⟩
  rw [pd, PyData.depth]
  omega
theorem Sh.Q (q : Rat) : Sh (QD q) 1 := Sh.tup fun d hd => by
  rcases List.mem_cons.mp hd with e | hd
  · rw [e]; exact .int _
  · rw [List.mem_singleton.mp hd]; exact .int _
theorem Sh.P (p : List Rat) : Sh (PD p) 2 := Sh.tup fun d hd => by
  obtain ⟨q, _, rfl⟩ := List.mem_map.mp hd
  exact .Q q
theorem Sh.sh {d : D} {n : Nat} (h : Sh d n) (hn : n ≤ 64) : SeqAt.shaped (pd d) = true := by
  unfold SeqAt.shaped
  rw [Bool.and_eq_true]
  exact ⟨h.l, decide_eq_true (Nat.le_trans h.d hn)⟩
section
variable {S : Sto} {R : Bool → Prop}
theorem eq_tt {xs ys : List D} {m n : Nat} (hx : Sh (.tup xs) m) (hy : Sh (.tup ys) n) (hm : m ≤ 64) (hn : n ≤ 64) : cmpS .Eq (.tup xs) (.tup ys) S R = R (PyData.eqvAll (pds xs) (pds ys)) := by
  show eqG _ _ S R = _
  rw [eqG_pure hx.p hy.p (hx.sh hm) (hy.sh hn), pd, pd, PyData.eqv]
theorem ne_tt {xs ys : List D} {m n : Nat} (hx : Sh (.tup xs) m) (hy : Sh (.tup ys) n) (hm : m ≤ 64) (hn : n ≤ 64) : cmpS .NotEq (.tup xs) (.tup ys) S R = R (!PyData.eqvAll (pds xs) (pds ys)) := eq_tt (R := fun k => R (!k)) hx hy hm hn
theorem eqv_QQ (a b : Rat) : PyData.eqv (pd (QD a)) (pd (QD b)) = decide (a = b) := by
  have e := eq_iff a b
  simp only [QD, pd, pds, PyData.eqv, PyData.eqvAll, Bool.and_true]
  rw [Bool.beq_eq_decide_eq, Bool.beq_eq_decide_eq, ← Bool.decide_and]
  congr 1
theorem eqv_PP : ∀ p q : List Rat, PyData.eqvAll (pds (p.map QD)) (pds (q.map QD)) = decide (p = q)
  | [], [] => by simp [pds, PyData.eqvAll]
  | [], _ :: _ => by simp [pds, PyData.eqvAll]
  | _ :: _, [] => by simp [pds, PyData.eqvAll]
  | a :: p, b :: q => by
    rw [List.map_cons, List.map_cons, pds, pds, PyData.eqvAll, eqv_QQ, eqv_PP p q, ← Bool.decide_and]
    congr 1
    rw [List.cons.injEq]
theorem cP_Eq (p q : List Rat) : cmpS .Eq (PD p) (PD q) S R = R (decide (p = q)) := by
  have := eq_tt (S := S) (R := R) (Sh.P p) (Sh.P q) (by decide) (by decide)
  rw [eqv_PP] at this
  exact this
theorem cP_NotEq (p q : List Rat) : cmpS .NotEq (PD p) (PD q) S R = R (!decide (p = q)) := cP_Eq p q (R := fun k => R (!k))
theorem eqv_P2 (p q : List Rat) : PyData.eqv (pd (PD p)) (pd (PD q)) = decide (p = q) := by
  unfold PD
  rw [pd, pd, PyData.eqv, eqv_PP]
/-- rows of polynomials -/
theorem eqv_PPs : ∀ p q : List (List Rat), PyData.eqvAll (pds (p.map PD)) (pds (q.map PD)) = decide (p = q)
  | [], [] => by simp [pds, PyData.eqvAll]
  | [], _ :: _ => by simp [pds, PyData.eqvAll]
  | _ :: _, [] => by simp [pds, PyData.eqvAll]
  | a :: p, b :: q => by
    rw [List.map_cons, List.map_cons, pds, pds, PyData.eqvAll, eqv_P2, eqv_PPs p q, ← Bool.decide_and]
    congr 1
    rw [List.cons.injEq]
theorem Sh.PP (p : List (List Rat)) : Sh (.tup (p.map PD)) 3 := Sh.tup fun d hd => by
  obtain ⟨q, _, rfl⟩ := List.mem_map.mp hd
  exact .P q
theorem cPP_Eq (p q : List (List Rat)) : cmpS .Eq (.tup (p.map PD)) (.tup (q.map PD)) S R = R (decide (p = q)) := by
  have := eq_tt (S := S) (R := R) (Sh.PP p) (Sh.PP q) (by decide) (by decide)
  rw [eqv_PPs] at this
  exact this
theorem cPP_NotEq (p q : List (List Rat)) : cmpS .NotEq (.tup (p.map PD)) (.tup (q.map PD)) S R = R (!decide (p = q)) := cPP_Eq p q (R := fun k => R (!k))
theorem PD_nil : (.tup [] : D) = PD [] := rfl
theorem cP_Is (p : List Rat) : cmpS .Is (PD p) .non S R = R false := rfl
theorem cP_IsNot (p : List Rat) : cmpS .IsNot (PD p) .non S R = R true := rfl
end
/-! slices -/
theorem cutD_ints (zs : List Int) {lo hi : Nat} (h1 : lo ≤ hi) (h2 : hi ≤ zs.length) : Ev.cutD (zs.map D.int) (some (lo : Int)) (some (hi : Int)) = ((zs.drop lo).take (hi - lo)).map D.int := by
  unfold Ev.cutD
  have e : ∀ (k : Nat) (z : Int), k ≤ zs.length → z = k → HT.sIx (zs.map D.int).length 0 (some z) = k ∧ HT.sIx (zs.map D.int).length (zs.map D.int).length (some z) = k := by
    intro k z hk hz
    subst hz
    have : ∀ d : Nat, HT.sIx (zs.map D.int).length d (some (k : Int)) = k := fun d => by
      rw [List.length_map]
      show (if (k : Int) < 0 then ((k : Int) + zs.length).toNat else min (k : Int).toNat zs.length) = k
      rw [if_neg (by omega), Int.toNat_natCast]
      omega
    exact ⟨this _, this _⟩
  rw [(e lo lo (by omega) rfl).1, (e hi hi h2 rfl).2, ← List.map_drop, ← List.map_take]
theorem cutD_i {zs : List Int} {lo hi : Nat} {a b : Int} (ha : a = lo) (hb : b = hi) (h1 : lo ≤ hi) (h2 : hi ≤ zs.length) : Ev.cutD (zs.map D.int) (some a) (some b) = ((zs.drop lo).take (hi - lo)).map D.int := by
  subst ha hb
  exact cutD_ints zs h1 h2
theorem atI_int {zs : List Int} {i : Nat} (h : i < zs.length) : atI (zs.map D.int) (i : Int) = some (.int (zs.getD i 0)) := by
  refine atI_nat ?_
  rw [List.getElem?_map, List.getElem?_eq_getElem h, List.getD_eq_getElem?_getD, List.getElem?_eq_getElem h]
  rfl
theorem atI_int' {zs : List Int} {i : Nat} {z : Int} (e : z = i) (h : i < zs.length) : atI (zs.map D.int) z = some (.int (zs.getD i 0)) := by rw [e]; exact atI_int h
theorem Row.cut {n : Nat} {b : Int} {zs : List Int} (h : Row n b zs) {lo hi : Nat} (h1 : lo ≤ hi) (h2 : hi ≤ n) : Row (hi - lo) b ((zs.drop lo).take (hi - lo)) := by
  refine ⟨?_, fun z hz => h.2 z (List.mem_of_mem_drop (List.mem_of_mem_take hz))⟩
  rw [List.length_take, List.length_drop, h.1]
  omega
theorem Row.get {n : Nat} {b : Int} {zs : List Int} (h : Row n b zs) {i : Nat} (hi : i < n) : 0 ≤ zs.getD i 0 ∧ zs.getD i 0 < b := by
  have hi2 : i < zs.length := by rw [h.1]; exact hi
  rw [List.getD_eq_getElem?_getD, List.getElem?_eq_getElem hi2]
  exact h.2 _ (List.getElem_mem hi2)
theorem Row.at {n : Nat} {b : Int} {zs : List Int} (h : Row n b zs) {i : Nat} {z : Int} (e : z = i) (hi : i < n) : atI (zs.map D.int) z = some (.int (zs.getD i 0)) := atI_int' e (by rw [h.1]; exact hi)
/-! a polynomial as data, at each operation -/
section
variable {S : Sto} {Q : DK} {p : List Rat}
theorem len_P (p : List Rat) : biS .len [PD p] S Q = Q (.int p.length) S := by
  show Q (.int (p.map QD).length) S = _
  rw [List.length_map]
theorem idx_P (p : List Rat) (n : Int) : idxS (PD p) (.int n) S Q = vr (atI (p.map QD) n) (cov (fun d => Q d S) .mk) := rfl
theorem seq_P {R : Ev.Itr → Sto → Prop} (p : List Rat) : seqS (PD p) S R = R (.tup (p.map QD)) S := rfl
theorem enu_P {R : Ev.Itr → Sto → Prop} (p : List Rat) : enuS (PD p) S R = R (.enuT (p.map QD)) S := rfl
theorem rev_P {R : Ev.Itr → Sto → Prop} (p : List Rat) : revS (PD p) S R = R (.tup (p.map QD).reverse) S := rfl
theorem tuple_P (p : List Rat) : biS .tuple [PD p] S Q = Q (PD p) S := rfl
theorem list_P (p : List Rat) : biS .list [PD p] S Q = (∀ c, S c = none → Q (.ref c) (put S c (.lst (p.map QD)))) := rfl
theorem isT_P (p : List Rat) : isT S (PD p) .tuple = some true := rfl
theorem slc_P (p : List Rat) (lo hi : Option Int) : slcS (PD p) lo hi S Q = Q (.tup (Ev.cutD (p.map QD) lo hi)) S := rfl
end
theorem c2P_Eq {S : Sto} {R : Bool → Prop} (a b c d : List Rat) : cmpS .Eq (.tup [PD a, PD b]) (.tup [PD c, PD d]) S R = R (decide (a = c ∧ b = d)) := by
  have := cPP_Eq (S := S) (R := R) [a, b] [c, d]
  rw [show decide ([a, b] = [c, d]) = decide (a = c ∧ b = d) from by congr 1; simp] at this
  exact this
theorem c2P_NotEq {S : Sto} {R : Bool → Prop} (a b c d : List Rat) : cmpS .NotEq (.tup [PD a, PD b]) (.tup [PD c, PD d]) S R = R (!decide (a = c ∧ b = d)) := c2P_Eq a b c d (R := fun k => R (!k))
theorem bb_num {m n i j b : Nat} (h : i ≤ j) (hb : bb m n j ≤ b) : bb m n i ≤ b := Nat.le_trans (bb_le m n h) hb
theorem map_at (p : List Rat) {f : Rat → Rat} : (List.range p.length).map (fun i => QD (f (cf p i))) = (p.map f).map QD := by
  rw [List.map_map]
  refine List.ext_getElem (by simp) fun i h1 h2 => ?_
  simp only [List.length_map, List.length_range] at h1
  simp only [List.getElem_map, List.getElem_range, Function.comp]
  unfold cf
  rw [List.getD_eq_getElem?_getD, List.getElem?_eq_getElem h1]
  rfl
theorem PB.cf' {p : List Rat} {n : Nat} (h : PB p n) {i : Nat} (hi : i < p.length) : QB (p.getD i 0) n := by
  rw [List.getD_eq_getElem?_getD, List.getElem?_eq_getElem hi]
  exact h _ (List.getElem_mem hi)
/-! sizes of powers, of compositions -/
def Lt (l : Nat) : Nat → Nat
  | 0 => l
  | j + 1 => 2 * Lt l j
def Bq (b l : Nat) : Nat → Nat
  | 0 => b
  | j + 1 => (2 * Bq b l j + 1) * Lt l j + 1
def Lo (l : Nat) : Nat → Nat
  | 0 => 1
  | j + 1 => Lo l j + Lt l j
def Bo (b l : Nat) : Nat → Nat
  | 0 => 1
  | j + 1 => (Bo b l j + Bq b l j + 1) * Lo l j + 1
theorem Lo_pos (l : Nat) : ∀ j, 1 ≤ Lo l j
  | 0 => Nat.le_refl _
  | j + 1 => by have := Lo_pos l j; unfold Lo; omega
theorem Bo_le (b l j : Nat) : Bo b l j ≤ Bo b l (j + 1) := by
  show _ ≤ (Bo b l j + Bq b l j + 1) * Lo l j + 1
  have := Nat.mul_le_mul_left (Bo b l j + Bq b l j + 1) (Lo_pos l j)
  omega
theorem Bo_pos (b l : Nat) : ∀ j, 1 ≤ Bo b l j
  | 0 => Nat.le_refl _
  | j + 1 => Nat.le_trans (Bo_pos b l j) (Bo_le b l j)
/-- Horner over polynomials -/
def cmp_ (R : PS) : List Rat → PS
  | [] => 0
  | c :: p => cmp_ R p * R + kP c
def Cl (l : Nat) : Nat → Nat
  | 0 => 0
  | i + 1 => Cl l i + l
def Cb (m n l : Nat) : Nat → Nat
  | 0 => 1
  | i + 1 => (Cb m n l i + n + 1) * Cl l i + 1 + m + 1
theorem Cb_pos (m n l : Nat) : ∀ i, 1 ≤ Cb m n l i
  | 0 => Nat.le_refl _
  | i + 1 => by unfold Cb; omega
/-- the formal derivative -/
def fd (f : PS) : PS := ⟨fun i => ((i + 1 : Nat) : Rat) * f.co (i + 1)⟩
theorem fd_fin {p : List Rat} : Fin_ (fd (P p)) (p.length - 1) := fun i hi => by
  show ((i + 1 : Nat) : Rat) * cf p (i + 1) = 0
  rw [cf_out (by omega)]
  grind
theorem QB_nat10 {n : Nat} (h : n < 1024) : QB (n : Rat) 10 := ⟨by show ((n : Nat) : Int).natAbs < 2 ^ 10; omega, by show ((1 : Nat) : Int).natAbs < 2 ^ 10; decide⟩
theorem drop_succ {p : List Rat} {i : Nat} (h : i < p.length) : p.drop (p.length - (i + 1)) = cf p (p.length - 1 - i) :: p.drop (p.length - i) := by
  have hlt : p.length - (i + 1) < p.length := by omega
  rw [List.drop_eq_getElem_cons hlt]
  congr 1
  · unfold cf
    rw [List.getD_eq_getElem?_getD, List.getElem?_eq_getElem (by omega)]
    show p[p.length - (i + 1)] = p[p.length - 1 - i]
    congr 1
    omega
  · congr 1
    omega
theorem rev_at {p : List Rat} {i : Nat} (h : i < p.length) : (p.map QD).reverse.getD i .non = QD (cf p (p.length - 1 - i)) := by
  rw [List.getD_eq_getElem?_getD, List.getElem?_reverse (by rw [List.length_map]; exact h), List.length_map, List.getElem?_map, List.getElem?_eq_getElem (by omega)]
  unfold cf
  rw [List.getD_eq_getElem?_getD, List.getElem?_eq_getElem (by omega)]
  rfl
theorem hv_B {e : Rat} {n m : Nat} (he : QB e n) : ∀ {p : List Rat}, PB p m → QB (hv e p) (p.length * (m + n + 1) + 1)
  | [], _ => QB.zero (by omega)
  | c :: p, h => by
    have ih := hv_B he (p := p) fun x hx => h x (List.mem_cons_of_mem _ hx)
    rw [hv, List.length_cons, Nat.add_mul, Nat.one_mul]
    exact QB.add (QB.mul ih he (Nat.le_refl _)) (h c List.mem_cons_self) (by omega)
end LA

namespace Lw
open PySem PySem.Spec PyProof.Rows L2 Ev
def F_format_integer : Fn := ⟨1, 3,
  (.cons (.ifs (.cmp .Lt (.var 0) (.int 0)) (.cons (.ret (.bin .Add (.str "-") (.call "format_integer" (.cons (.neg (.var 0)) .nil)))) .nil) .nil) (.cons (.set 1 (.lst .nil)) (.cons (.whl (.cmp .GtE (.var 0) (.bin .Pow (.int 10) (.int 50))) (.cons (.asg (.tup (.cons (.nm 0) (.cons (.nm 2) .nil))) (.bi .divmod (.cons (.var 0) (.cons (.bin .Pow (.int 10) (.int 50)) .nil)))) (.cons (.expr (.mth .append (.var 1) (.cons (.smt .zfill (.bi .str (.cons (.var 2) .nil)) (.cons (.glo "PIECE") .nil)) .nil))) .nil))) (.cons (.expr (.mth .append (.var 1) (.cons (.bi .str (.cons (.var 0) .nil)) .nil))) (.cons (.ret (.smt .join (.str "") (.cons (.rsl (.var 1)) .nil))) .nil)))))⟩
def F_parse_digits : Fn := ⟨1, 5,
  (.cons (.set 1 (.int 0)) (.cons (.for_ (.nm 2) (.rng3 (.int 0) (.bi .len (.cons (.var 0) .nil)) (.glo "PIECE")) (.cons (.set 3 (.slc (.var 0) (.some (.var 2)) (.some (.bin .Add (.var 2) (.glo "PIECE"))))) (.cons (.for_ (.nm 4) (.seq (.var 3)) (.cons (.set 1 (.bin .Mult (.var 1) (.int 10))) .nil)) (.cons (.set 1 (.bin .Add (.var 1) (.bi .int (.cons (.var 3) .nil)))) .nil)))) (.cons (.ret (.var 1)) .nil)))⟩
def F_format_rational : Fn := ⟨1, 1,
  (.cons (.ifs (.cmp .Eq (.idx (.var 0) (.int 1)) (.int 1)) (.cons (.ret (.call "format_integer" (.cons (.idx (.var 0) (.int 0)) .nil))) .nil) .nil) (.cons (.ret (.bin .Add (.bin .Add (.call "format_integer" (.cons (.idx (.var 0) (.int 0)) .nil)) (.str "/")) (.call "format_integer" (.cons (.idx (.var 0) (.int 1)) .nil)))) .nil))⟩
def F_is_number : Fn := ⟨1, 2,
  (.cons (.ifs (.cmp .Eq (.var 0) (.str "")) (.cons (.ret (.bl false)) .nil) .nil) (.cons (.ifs (.and (.cmp .Gt (.bi .len (.cons (.var 0) .nil)) (.int 1)) (.one (.cmp .Eq (.idx (.var 0) (.int 0)) (.str "0")))) (.cons (.ret (.bl false)) .nil) .nil) (.cons (.for_ (.nm 1) (.seq (.var 0)) (.cons (.ifs (.cmp .NotIn (.var 1) (.glo "DIGITS")) (.cons (.ret (.bl false)) .nil) .nil) .nil)) (.cons (.ret (.bl true)) .nil))))⟩
def F_parse_rational : Fn := ⟨1, 7,
  (.cons (.ifs (.not (.v (.isi (.var 0) [.str]))) (.cons (.raisef "NoText" (.int 0)) .nil) .nil) (.cons (.set 1 (.smt .startswith (.var 0) (.cons (.str "-") .nil))) (.cons (.asg (.tup (.cons (.nm 4) (.cons (.nm 5) (.cons (.nm 6) .nil)))) (.smt .partition (.slc (.var 0) (.some (.bi .int (.cons (.var 1) .nil))) .no) (.cons (.str "/") .nil))) (.cons (.ifs (.or (.not (.v (.call "_is_number" (.cons (.var 4) .nil)))) (.one (.and (.cmp .Eq (.var 5) (.str "/")) (.one (.not (.v (.call "_is_number" (.cons (.var 6) .nil)))))))) (.cons (.raisef "NoText" (.int 0)) .nil) .nil) (.cons (.set 2 (.call "parse_digits" (.cons (.var 4) .nil))) (.cons (.set 3 (.ifx (.cmp .Eq (.var 5) (.str "/")) (.call "parse_digits" (.cons (.var 6) .nil)) (.int 1))) (.cons (.ifs (.or (.and (.cmp .Eq (.var 5) (.str "/")) (.one (.cmp .Lt (.var 3) (.int 2)))) (.or (.cmp .NotEq (.bi .gcd (.cons (.var 2) (.cons (.var 3) .nil))) (.int 1)) (.one (.and (.v (.var 1)) (.one (.cmp .Eq (.var 2) (.int 0))))))) (.cons (.raisef "NoText" (.int 0)) .nil) .nil) (.cons (.ret (.ifx (.v (.var 1)) (.tup (.cons (.neg (.var 2)) (.cons (.var 3) .nil))) (.tup (.cons (.var 2) (.cons (.var 3) .nil))))) .nil))))))))⟩
def F_law_cell : Fn := ⟨2, 2,
  (.cons (.ifs (.cmp .Lt (.var 1) (.bi .len (.cons (.var 0) .nil))) (.cons (.ret (.idx (.var 0) (.var 1))) .nil) .nil) (.cons (.ret (.int 0)) .nil))⟩
def F_law_draws : Fn := ⟨4, 9,
  (.cons (.set 4 (.call "_law_cell" (.cons (.var 0) (.cons (.var 1) .nil)))) (.cons (.set 5 (.lst .nil)) (.cons (.ifs (.cmp .GtE (.var 4) (.bin .Pow (.int 10) (.int 18))) (.cons (.for_ (.nm 7) (.rng1 (.var 2)) (.cons (.expr (.mth .append (.var 5) (.cons (.bin .Mod (.bi .int (.cons (.var 4) .nil)) (.var 3)) .nil))) (.cons (.set 4 (.bin .FloorDiv (.bi .int (.cons (.var 4) .nil)) (.var 3))) .nil))) (.cons (.ret (.var 5)) .nil)) .nil) (.cons (.set 6 (.bin .Add (.bin .Add (.bin .Mod (.bi .int (.cons (.var 4) .nil)) (.int 2147483647)) (.bin .Mult (.int 3) (.var 1))) (.int 1))) (.cons (.for_ (.nm 7) (.rng1 (.var 2)) (.cons (.set 6 (.bin .Mod (.bi .int (.cons (.bin .Add (.bin .Add (.bin .Mult (.var 6) (.int 48271)) (.bin .Mult (.int 11) (.var 7))) (.var 1)) .nil)) (.int 2147483647))) (.cons (.set 8 (.bin .Mod (.bi .int (.cons (.bin .Add (.bin .Add (.bin .Mult (.var 6) (.int 69621)) (.bin .Mult (.int 5) (.var 7))) (.int 7)) .nil)) (.int 2147483629))) (.cons (.expr (.mth .append (.var 5) (.cons (.bin .Mod (.bi .int (.cons (.var 8) .nil)) (.var 3)) .nil))) .nil)))) (.cons (.ret (.var 5)) .nil))))))⟩
def F_law_gcd : Fn := ⟨2, 5,
  (.cons (.set 2 (.bi .abs (.cons (.var 0) .nil))) (.cons (.set 3 (.bi .abs (.cons (.var 1) .nil))) (.cons (.whl (.cmp .NotEq (.var 3) (.int 0)) (.cons (.set 4 (.bin .Mod (.bi .int (.cons (.var 2) .nil)) (.var 3))) (.cons (.set 2 (.var 3)) (.cons (.set 3 (.var 4)) .nil)))) (.cons (.ret (.var 2)) .nil))))⟩
def F_law_rat : Fn := ⟨2, 3,
  (.cons (.set 2 (.call "_law_gcd" (.cons (.var 0) (.cons (.var 1) .nil)))) (.cons (.ifs (.cmp .Lt (.var 1) (.int 0)) (.cons (.set 2 (.neg (.var 2))) .nil) .nil) (.cons (.ret (.tup (.cons (.bin .FloorDiv (.var 0) (.var 2)) (.cons (.bin .FloorDiv (.var 1) (.var 2)) .nil)))) .nil)))⟩
def F_law_is_integer : Fn := ⟨1, 1,
  (.cons (.ret (.and (.isi (.var 0) [.int]) (.one (.not (.isi (.var 0) [.bool]))))) .nil)⟩
def F_law_is_rat : Fn := ⟨1, 1,
  (.cons (.ifs (.or (.not (.v (.isi (.var 0) [.tuple]))) (.one (.cmp .NotEq (.bi .len (.cons (.var 0) .nil)) (.int 2)))) (.cons (.ret (.bl false)) .nil) .nil) (.cons (.ifs (.or (.not (.v (.call "_law_is_integer" (.cons (.idx (.var 0) (.int 0)) .nil)))) (.one (.not (.v (.call "_law_is_integer" (.cons (.idx (.var 0) (.int 1)) .nil)))))) (.cons (.ret (.bl false)) .nil) .nil) (.cons (.ret (.and (.cmp .Gt (.idx (.var 0) (.int 1)) (.int 0)) (.one (.cmp .Eq (.call "_law_gcd" (.cons (.idx (.var 0) (.int 0)) (.cons (.idx (.var 0) (.int 1)) .nil))) (.int 1))))) .nil)))⟩
def F_law_digits : Fn := ⟨2, 5,
  (.cons (.set 2 (.call "_law_draws" (.cons (.var 0) (.cons (.var 1) (.cons (.int 132) (.cons (.int 10) .nil)))))) (.cons (.set 3 (.bin .Add (.bin .Mod (.bin .Add (.bin .Mult (.idx (.var 2) (.int 0)) (.int 13)) (.idx (.var 2) (.int 1))) (.int 130)) (.int 1))) (.cons (.ifs (.cmp .Lt (.idx (.var 2) (.int 1)) (.int 5)) (.cons (.set 3 (.bin .Add (.bin .Mod (.idx (.var 2) (.int 0)) (.int 3)) (.int 1))) .nil) .nil) (.cons (.set 4 (.slc (.var 2) (.some (.int 2)) (.some (.bin .Add (.int 2) (.var 3))))) (.cons (.ifs (.cmp .Eq (.idx (.var 4) (.int 0)) (.int 0)) (.cons (.sub (.var 4) (.int 0) (.bin .Add (.int 1) (.bin .Mod (.idx (.var 2) (.int 1)) (.int 9)))) .nil) .nil) (.cons (.ret (.var 4)) .nil))))))⟩
def F_law_whole : Fn := ⟨1, 3,
  (.cons (.set 1 (.int 0)) (.cons (.for_ (.nm 2) (.seq (.var 0)) (.cons (.set 1 (.bin .Add (.bin .Mult (.int 10) (.var 1)) (.var 2))) .nil)) (.cons (.ret (.var 1)) .nil)))⟩
def F_law_text : Fn := ⟨1, 5,
  (.cons (.ifs (.cmp .Eq (.var 0) (.int 0)) (.cons (.ret (.str "0")) .nil) .nil) (.cons (.set 1 (.str "0123456789")) (.cons (.set 2 (.lst .nil)) (.cons (.set 3 (.bi .abs (.cons (.var 0) .nil))) (.cons (.whl (.cmp .Gt (.var 3) (.int 0)) (.cons (.expr (.mth .append (.var 2) (.cons (.idx (.var 1) (.bin .Mod (.bi .int (.cons (.var 3) .nil)) (.int 10))) .nil))) (.cons (.set 3 (.bin .FloorDiv (.var 3) (.int 10))) .nil))) (.cons (.expr (.mth .reverse (.var 2) .nil)) (.cons (.set 4 (.ifx (.cmp .Lt (.var 0) (.int 0)) (.str "-") (.str ""))) (.cons (.ret (.bin .Add (.var 4) (.smt .join (.str "") (.cons (.var 2) .nil)))) .nil))))))))⟩
def F_law_bad : Fn := ⟨3, 4,
  (.cons (.set 3 (.lst (.cons (.str "") (.cons (.bin .Add (.str "+") (.var 0)) (.cons (.bin .Add (.str " ") (.var 0)) (.cons (.bin .Add (.var 0) (.str " ")) (.cons (.bin .Add (.str "0") (.var 1)) (.cons (.str "-0") (.cons (.bin .Add (.str "--") (.var 1)) (.cons (.bin .Add (.var 0) (.str "/")) (.cons (.bin .Add (.str "/") (.var 1)) (.cons (.bin .Add (.var 0) (.str "/0")) .nil)))))))))))) (.cons (.set 3 (.bin .Add (.var 3) (.lst (.cons (.bin .Add (.var 0) (.str "/1")) (.cons (.str "2/4") (.cons (.str "6/3") (.cons (.bin .Add (.bin .Add (.var 1) (.str "/")) (.var 1)) (.cons (.bin .Add (.var 0) (.str ".0")) (.cons (.str "x") (.cons (.bin .Add (.var 1) (.str "//7")) (.cons (.str "0/5") (.cons (.bin .Add (.bin .Add (.str "-") (.var 1)) (.str "-")) .nil)))))))))))) (.cons (.ret (.idx (.var 3) (.bin .Mod (.var 2) (.bi .len (.cons (.var 3) .nil))))) .nil)))⟩
def F_law : Fn := ⟨1, 11,
  (.cons (.set 1 (.call "_law_whole" (.cons (.call "_law_digits" (.cons (.var 0) (.cons (.int 0) .nil))) .nil))) (.cons (.set 2 (.call "_law_whole" (.cons (.call "_law_digits" (.cons (.var 0) (.cons (.int 1) .nil))) .nil))) (.cons (.set 3 (.call "_law_draws" (.cons (.var 0) (.cons (.int 2) (.cons (.int 3) (.cons (.int 60) .nil)))))) (.cons (.ifs (.cmp .Eq (.bin .Mod (.idx (.var 3) (.int 0)) (.int 5)) (.int 0)) (.cons (.set 1 (.int 0)) .nil) .nil) (.cons (.ifs (.cmp .Eq (.bin .Mod (.idx (.var 3) (.int 0)) (.int 2)) (.int 1)) (.cons (.set 1 (.neg (.var 1))) .nil) .nil) (.cons (.ifs (.cmp .Eq (.bin .Mod (.idx (.var 3) (.int 1)) (.int 3)) (.int 0)) (.cons (.set 2 (.int 1)) .nil) .nil) (.cons (.set 4 (.call "_law_rat" (.cons (.var 1) (.cons (.var 2) .nil)))) (.cons (.set 5 (.call "_law_text" (.cons (.idx (.var 4) (.int 0)) .nil))) (.cons (.ifs (.cmp .NotEq (.idx (.var 4) (.int 1)) (.int 1)) (.cons (.set 5 (.bin .Add (.bin .Add (.var 5) (.str "/")) (.call "_law_text" (.cons (.idx (.var 4) (.int 1)) .nil)))) .nil) .nil) (.cons (.set 6 (.call "format_rational" (.cons (.var 4) .nil))) (.cons (.set 7 (.call "parse_rational" (.cons (.var 5) .nil))) (.cons (.ifs (.or (.not (.v (.isi (.var 6) [.str]))) (.or (.cmp .NotEq (.var 6) (.var 5)) (.or (.not (.v (.call "_law_is_rat" (.cons (.var 7) .nil)))) (.one (.cmp .NotEq (.var 7) (.var 4)))))) (.cons (.ret (.bl false)) .nil) .nil) (.cons (.ifs (.or (.cmp .NotEq (.call "format_integer" (.cons (.idx (.var 4) (.int 0)) .nil)) (.call "_law_text" (.cons (.idx (.var 4) (.int 0)) .nil))) (.one (.cmp .NotEq (.call "parse_digits" (.cons (.bin .Add (.str "00") (.call "_law_text" (.cons (.idx (.var 4) (.int 1)) .nil))) .nil)) (.idx (.var 4) (.int 1))))) (.cons (.ret (.bl false)) .nil) .nil) (.cons (.set 8 (.call "_law_bad" (.cons (.var 5) (.cons (.call "_law_text" (.cons (.idx (.var 4) (.int 1)) .nil)) (.cons (.idx (.var 3) (.int 2)) .nil))))) (.cons (.set 9 (.neg (.int 1))) (.cons (.tryas (.cons (.expr (.call "parse_rational" (.cons (.var 8) .nil))) .nil) "NoText" 10 (.cons (.set 9 (.fldx (.var 10) "at")) .nil)) (.cons (.ret (.and (.call "_law_is_integer" (.cons (.var 9) .nil)) (.one (.cmp .Eq (.var 9) (.int 0))))) .nil)))))))))))))))))⟩
def tbl : List (Str × Fn) := [(("format_integer" : Str), F_format_integer), (("parse_digits" : Str), F_parse_digits), (("format_rational" : Str), F_format_rational), (("_is_number" : Str), F_is_number), (("parse_rational" : Str), F_parse_rational), (("_law_cell" : Str), F_law_cell), (("_law_draws" : Str), F_law_draws), (("_law_gcd" : Str), F_law_gcd), (("_law_rat" : Str), F_law_rat), (("_law_is_integer" : Str), F_law_is_integer), (("_law_is_rat" : Str), F_law_is_rat), (("_law_digits" : Str), F_law_digits), (("_law_whole" : Str), F_law_whole), (("_law_text" : Str), F_law_text), (("_law_bad" : Str), F_law_bad), (("law" : Str), F_law)]
def T : Str → Option Fn := fun f => tbl.lookup f
theorem t_format_integer : T "format_integer" = some F_format_integer := rfl
theorem t_parse_digits : T "parse_digits" = some F_parse_digits := rfl
theorem t_format_rational : T "format_rational" = some F_format_rational := rfl
theorem t_is_number : T "_is_number" = some F_is_number := rfl
theorem t_parse_rational : T "parse_rational" = some F_parse_rational := rfl
theorem t_law_cell : T "_law_cell" = some F_law_cell := rfl
theorem t_law_draws : T "_law_draws" = some F_law_draws := rfl
theorem t_law_gcd : T "_law_gcd" = some F_law_gcd := rfl
theorem t_law_rat : T "_law_rat" = some F_law_rat := rfl
theorem t_law_is_integer : T "_law_is_integer" = some F_law_is_integer := rfl
theorem t_law_is_rat : T "_law_is_rat" = some F_law_is_rat := rfl
theorem t_law_digits : T "_law_digits" = some F_law_digits := rfl
theorem t_law_whole : T "_law_whole" = some F_law_whole := rfl
theorem t_law_text : T "_law_text" = some F_law_text := rfl
theorem t_law_bad : T "_law_bad" = some F_law_bad := rfl
theorem t_law : T "law" = some F_law := rfl
def mtT : List ((Str × Str) × Str) := []
def itT : List (Str × Option Str) := []
def fdT : List (Str × Str) := []
def subT : List (Str × Str × Bool) := [("NoText", "NoText", true)]
def xfT : List (Str × Str × Bool) := [("NoText", "at", true)]
def kdT : List (Str × List (Str × D)) := []
def G : Gl0 := { cs := fun x => if x = "DIGITS" then some (.str "0123456789") else if x = "PIECE" then some (.int 50) else none, PY := True, sub := fun c x => ((subT.filter fun z => z.2.1 == x).map fun z => (z.1, z.2.2)).lookup c, mt := fun x y => mtT.lookup (x, y), it := fun x => itT.lookup x, fd := fun x y => fdT.contains (x, y), xf := fun x => xfT.lookup x, kd := fun x => kdT.lookup x }
theorem xf_NoText : G.xf "NoText" = some (("at" : Str), true) := rfl
theorem sub_NoText_NoText : G.sub "NoText" "NoText" = some true := by decide +kernel
def topS (i : Nat) : Stmt := PySem.Challenge.pw_integraph_k02_written_form.main.body.getD i (.Pass ⟨0, 0, 0, 0⟩)
def M : Md := { mks := [], meth := [], fns := [(("format_integer" : Str), 1), (("parse_digits" : Str), 1), (("format_rational" : Str), 1), (("_is_number" : Str), 1), (("parse_rational" : Str), 1), (("_law_cell" : Str), 2), (("_law_draws" : Str), 4), (("_law_gcd" : Str), 2), (("_law_rat" : Str), 2), (("_law_is_integer" : Str), 1), (("_law_is_rat" : Str), 1), (("_law_digits" : Str), 2), (("_law_whole" : Str), 1), (("_law_text" : Str), 1), (("_law_bad" : Str), 3), (("law" : Str), 1)], blt := ["abs", "bool", "divmod", "int", "isinstance", "len", "range", "str", "tuple"], cst := ["DIGITS", "PIECE"], gcd := true, lcm := false, exc := [], exn := ["NoText"], xis := ["NoText"], xfs := ["NoText"] }
theorem xi_NoText : InitT "at" true (defArgs (inClass (topS 3) 0)) (defBody (inClass (topS 3) 0)) (defScope (inClass (topS 3) 0)) := ⟨_, _, _, _, _, _, _, _, _, _, _, _, _, _, _, _, _, _, rfl, rfl, by decide, rfl, rfl, rfl, rfl, (fun _ => rfl), by decide +kernel, rfl, rfl, rfl, by decide, by decide, by decide⟩
abbrev n_format_integer : List Str := ["n", "pieces", "low"]
abbrev p_format_integer : List Str := ["n"]
theorem ft_format_integer : FnT M (topS 7) F_format_integer n_format_integer p_format_integer := ⟨⟨rfl, rfl, rfl, by decide +kernel, rfl, by decide +kernel, by decide +kernel⟩, by decide +kernel, rfl, rfl⟩
abbrev n_parse_digits : List Str := ["text", "out", "at", "piece", "_"]
abbrev p_parse_digits : List Str := ["text"]
theorem ft_parse_digits : FnT M (topS 8) F_parse_digits n_parse_digits p_parse_digits := ⟨⟨rfl, rfl, rfl, by decide +kernel, rfl, by decide +kernel, by decide +kernel⟩, by decide +kernel, rfl, rfl⟩
abbrev n_format_rational : List Str := ["a"]
abbrev p_format_rational : List Str := ["a"]
theorem ft_format_rational : FnT M (topS 9) F_format_rational n_format_rational p_format_rational := ⟨⟨rfl, rfl, rfl, by decide +kernel, rfl, by decide +kernel, by decide +kernel⟩, by decide +kernel, rfl, rfl⟩
abbrev n_is_number : List Str := ["text", "sign"]
abbrev p_is_number : List Str := ["text"]
theorem ft_is_number : FnT M (topS 10) F_is_number n_is_number p_is_number := ⟨⟨rfl, rfl, rfl, by decide +kernel, rfl, by decide +kernel, by decide +kernel⟩, by decide +kernel, rfl, rfl⟩
abbrev n_parse_rational : List Str := ["text", "negative", "n", "d", "top", "slash", "bottom"]
abbrev p_parse_rational : List Str := ["text"]
theorem ft_parse_rational : FnT M (topS 11) F_parse_rational n_parse_rational p_parse_rational := ⟨⟨rfl, rfl, rfl, by decide +kernel, rfl, by decide +kernel, by decide +kernel⟩, by decide +kernel, rfl, rfl⟩
abbrev n_law_cell : List Str := ["_law_script", "_law_k"]
abbrev p_law_cell : List Str := ["_law_script", "_law_k"]
theorem ft_law_cell : FnT M (topS 13) F_law_cell n_law_cell p_law_cell := ⟨⟨rfl, rfl, rfl, by decide +kernel, rfl, by decide +kernel, by decide +kernel⟩, by decide +kernel, rfl, rfl⟩
abbrev n_law_draws : List Str := ["_law_script", "_law_at", "_law_count", "_law_bound", "_law_cell_here", "_law_out", "_law_number", "_law_k", "_law_mixed"]
abbrev p_law_draws : List Str := ["_law_script", "_law_at", "_law_count", "_law_bound"]
theorem ft_law_draws : FnT M (topS 14) F_law_draws n_law_draws p_law_draws := ⟨⟨rfl, rfl, rfl, by decide +kernel, rfl, by decide +kernel, by decide +kernel⟩, by decide +kernel, rfl, rfl⟩
abbrev n_law_gcd : List Str := ["_law_a", "_law_b", "_law_one", "_law_two", "_law_rest"]
abbrev p_law_gcd : List Str := ["_law_a", "_law_b"]
theorem ft_law_gcd : FnT M (topS 15) F_law_gcd n_law_gcd p_law_gcd := ⟨⟨rfl, rfl, rfl, by decide +kernel, rfl, by decide +kernel, by decide +kernel⟩, by decide +kernel, rfl, rfl⟩
abbrev n_law_rat : List Str := ["_law_n", "_law_d", "_law_common"]
abbrev p_law_rat : List Str := ["_law_n", "_law_d"]
theorem ft_law_rat : FnT M (topS 16) F_law_rat n_law_rat p_law_rat := ⟨⟨rfl, rfl, rfl, by decide +kernel, rfl, by decide +kernel, by decide +kernel⟩, by decide +kernel, rfl, rfl⟩
abbrev n_law_is_integer : List Str := ["_law_value"]
abbrev p_law_is_integer : List Str := ["_law_value"]
theorem ft_law_is_integer : FnT M (topS 17) F_law_is_integer n_law_is_integer p_law_is_integer := ⟨⟨rfl, rfl, rfl, by decide +kernel, rfl, by decide +kernel, by decide +kernel⟩, by decide +kernel, rfl, rfl⟩
abbrev n_law_is_rat : List Str := ["_law_value"]
abbrev p_law_is_rat : List Str := ["_law_value"]
theorem ft_law_is_rat : FnT M (topS 18) F_law_is_rat n_law_is_rat p_law_is_rat := ⟨⟨rfl, rfl, rfl, by decide +kernel, rfl, by decide +kernel, by decide +kernel⟩, by decide +kernel, rfl, rfl⟩
abbrev n_law_digits : List Str := ["_law_script", "_law_at", "_law_row", "_law_size", "_law_digits_here"]
abbrev p_law_digits : List Str := ["_law_script", "_law_at"]
theorem ft_law_digits : FnT M (topS 19) F_law_digits n_law_digits p_law_digits := ⟨⟨rfl, rfl, rfl, by decide +kernel, rfl, by decide +kernel, by decide +kernel⟩, by decide +kernel, rfl, rfl⟩
abbrev n_law_whole : List Str := ["_law_digits_here", "_law_out", "_law_d"]
abbrev p_law_whole : List Str := ["_law_digits_here"]
theorem ft_law_whole : FnT M (topS 20) F_law_whole n_law_whole p_law_whole := ⟨⟨rfl, rfl, rfl, by decide +kernel, rfl, by decide +kernel, by decide +kernel⟩, by decide +kernel, rfl, rfl⟩
abbrev n_law_text : List Str := ["_law_n", "_law_marks", "_law_out", "_law_rest", "_law_sign"]
abbrev p_law_text : List Str := ["_law_n"]
theorem ft_law_text : FnT M (topS 21) F_law_text n_law_text p_law_text := ⟨⟨rfl, rfl, rfl, by decide +kernel, rfl, by decide +kernel, by decide +kernel⟩, by decide +kernel, rfl, rfl⟩
abbrev n_law_bad : List Str := ["_law_text_here", "_law_plain", "_law_k", "_law_rows"]
abbrev p_law_bad : List Str := ["_law_text_here", "_law_plain", "_law_k"]
theorem ft_law_bad : FnT M (topS 22) F_law_bad n_law_bad p_law_bad := ⟨⟨rfl, rfl, rfl, by decide +kernel, rfl, by decide +kernel, by decide +kernel⟩, by decide +kernel, rfl, rfl⟩
abbrev n_law : List Str := ["_law_script", "_law_n", "_law_d", "_law_row", "_law_a", "_law_text_here", "_law_told", "_law_back", "_law_bad_here", "_law_where", "e"]
abbrev p_law : List Str := ["_law_script"]
theorem ft_law : FnT M (topS 23) F_law n_law p_law := ⟨⟨rfl, rfl, rfl, by decide +kernel, rfl, by decide +kernel, by decide +kernel⟩, by decide +kernel, rfl, rfl⟩
theorem mok_mk {P : Program} {w : World} {K : PySem.W.Frag} {h base : Heap} {mg : Str → Option Value} (X : K.In h) (Gn : h.Ns mainGlobals mg) (hse : base.NoSeer) (ht : P.given.tree = none)
    {f0 : Addr} {od0 an0 : Option Addr} {sl0 : Array (Option Value)} {oc0 kV0 dc0 pm0 cd0 ct0 : Value}
    {f1 : Addr} {od1 an1 : Option Addr} {sl1 : Array (Option Value)} {oc1 kV1 dc1 pm1 cd1 ct1 : Value}
    {f2 : Addr} {od2 an2 : Option Addr} {sl2 : Array (Option Value)} {oc2 kV2 dc2 pm2 cd2 ct2 : Value}
    {f3 : Addr} {od3 an3 : Option Addr} {sl3 : Array (Option Value)} {oc3 kV3 dc3 pm3 cd3 ct3 : Value}
    {f4 : Addr} {od4 an4 : Option Addr} {sl4 : Array (Option Value)} {oc4 kV4 dc4 pm4 cd4 ct4 : Value}
    {f5 : Addr} {od5 an5 : Option Addr} {sl5 : Array (Option Value)} {oc5 kV5 dc5 pm5 cd5 ct5 : Value}
    {f6 : Addr} {od6 an6 : Option Addr} {sl6 : Array (Option Value)} {oc6 kV6 dc6 pm6 cd6 ct6 : Value}
    {f7 : Addr} {od7 an7 : Option Addr} {sl7 : Array (Option Value)} {oc7 kV7 dc7 pm7 cd7 ct7 : Value}
    {f8 : Addr} {od8 an8 : Option Addr} {sl8 : Array (Option Value)} {oc8 kV8 dc8 pm8 cd8 ct8 : Value}
    {f9 : Addr} {od9 an9 : Option Addr} {sl9 : Array (Option Value)} {oc9 kV9 dc9 pm9 cd9 ct9 : Value}
    {f10 : Addr} {od10 an10 : Option Addr} {sl10 : Array (Option Value)} {oc10 kV10 dc10 pm10 cd10 ct10 : Value}
    {f11 : Addr} {od11 an11 : Option Addr} {sl11 : Array (Option Value)} {oc11 kV11 dc11 pm11 cd11 ct11 : Value}
    {f12 : Addr} {od12 an12 : Option Addr} {sl12 : Array (Option Value)} {oc12 kV12 dc12 pm12 cd12 ct12 : Value}
    {f13 : Addr} {od13 an13 : Option Addr} {sl13 : Array (Option Value)} {oc13 kV13 dc13 pm13 cd13 ct13 : Value}
    {f14 : Addr} {od14 an14 : Option Addr} {sl14 : Array (Option Value)} {oc14 kV14 dc14 pm14 cd14 ct14 : Value}
    {f15 : Addr} {od15 an15 : Option Addr} {sl15 : Array (Option Value)} {oc15 kV15 dc15 pm15 cd15 ct15 : Value}
    (a0 : PySem.W.nsIn K mainGlobals "format_integer" = some (some (.ref f0))) (l0 : K.lookup f0 = some ⟨oc0, od0, .func (PySem.W.fnOf "format_integer" "format_integer" (defArgs (topS 7)) (defBody (topS 7)) (defScope (topS 7)) .none kV0 dc0 pm0 an0 cd0 ct0), sl0⟩) (c0 : PySem.W.codeIn K cd0 "format_integer" = true) (k0 : PySem.W.keepIn K (.ref f0) = true)
    (a1 : PySem.W.nsIn K mainGlobals "parse_digits" = some (some (.ref f1))) (l1 : K.lookup f1 = some ⟨oc1, od1, .func (PySem.W.fnOf "parse_digits" "parse_digits" (defArgs (topS 8)) (defBody (topS 8)) (defScope (topS 8)) .none kV1 dc1 pm1 an1 cd1 ct1), sl1⟩) (c1 : PySem.W.codeIn K cd1 "parse_digits" = true) (k1 : PySem.W.keepIn K (.ref f1) = true)
    (a2 : PySem.W.nsIn K mainGlobals "format_rational" = some (some (.ref f2))) (l2 : K.lookup f2 = some ⟨oc2, od2, .func (PySem.W.fnOf "format_rational" "format_rational" (defArgs (topS 9)) (defBody (topS 9)) (defScope (topS 9)) .none kV2 dc2 pm2 an2 cd2 ct2), sl2⟩) (c2 : PySem.W.codeIn K cd2 "format_rational" = true) (k2 : PySem.W.keepIn K (.ref f2) = true)
    (a3 : PySem.W.nsIn K mainGlobals "_is_number" = some (some (.ref f3))) (l3 : K.lookup f3 = some ⟨oc3, od3, .func (PySem.W.fnOf "_is_number" "_is_number" (defArgs (topS 10)) (defBody (topS 10)) (defScope (topS 10)) .none kV3 dc3 pm3 an3 cd3 ct3), sl3⟩) (c3 : PySem.W.codeIn K cd3 "_is_number" = true) (k3 : PySem.W.keepIn K (.ref f3) = true)
    (a4 : PySem.W.nsIn K mainGlobals "parse_rational" = some (some (.ref f4))) (l4 : K.lookup f4 = some ⟨oc4, od4, .func (PySem.W.fnOf "parse_rational" "parse_rational" (defArgs (topS 11)) (defBody (topS 11)) (defScope (topS 11)) .none kV4 dc4 pm4 an4 cd4 ct4), sl4⟩) (c4 : PySem.W.codeIn K cd4 "parse_rational" = true) (k4 : PySem.W.keepIn K (.ref f4) = true)
    (a5 : PySem.W.nsIn K mainGlobals "_law_cell" = some (some (.ref f5))) (l5 : K.lookup f5 = some ⟨oc5, od5, .func (PySem.W.fnOf "_law_cell" "_law_cell" (defArgs (topS 13)) (defBody (topS 13)) (defScope (topS 13)) .none kV5 dc5 pm5 an5 cd5 ct5), sl5⟩) (c5 : PySem.W.codeIn K cd5 "_law_cell" = true) (k5 : PySem.W.keepIn K (.ref f5) = true)
    (a6 : PySem.W.nsIn K mainGlobals "_law_draws" = some (some (.ref f6))) (l6 : K.lookup f6 = some ⟨oc6, od6, .func (PySem.W.fnOf "_law_draws" "_law_draws" (defArgs (topS 14)) (defBody (topS 14)) (defScope (topS 14)) .none kV6 dc6 pm6 an6 cd6 ct6), sl6⟩) (c6 : PySem.W.codeIn K cd6 "_law_draws" = true) (k6 : PySem.W.keepIn K (.ref f6) = true)
    (a7 : PySem.W.nsIn K mainGlobals "_law_gcd" = some (some (.ref f7))) (l7 : K.lookup f7 = some ⟨oc7, od7, .func (PySem.W.fnOf "_law_gcd" "_law_gcd" (defArgs (topS 15)) (defBody (topS 15)) (defScope (topS 15)) .none kV7 dc7 pm7 an7 cd7 ct7), sl7⟩) (c7 : PySem.W.codeIn K cd7 "_law_gcd" = true) (k7 : PySem.W.keepIn K (.ref f7) = true)
    (a8 : PySem.W.nsIn K mainGlobals "_law_rat" = some (some (.ref f8))) (l8 : K.lookup f8 = some ⟨oc8, od8, .func (PySem.W.fnOf "_law_rat" "_law_rat" (defArgs (topS 16)) (defBody (topS 16)) (defScope (topS 16)) .none kV8 dc8 pm8 an8 cd8 ct8), sl8⟩) (c8 : PySem.W.codeIn K cd8 "_law_rat" = true) (k8 : PySem.W.keepIn K (.ref f8) = true)
    (a9 : PySem.W.nsIn K mainGlobals "_law_is_integer" = some (some (.ref f9))) (l9 : K.lookup f9 = some ⟨oc9, od9, .func (PySem.W.fnOf "_law_is_integer" "_law_is_integer" (defArgs (topS 17)) (defBody (topS 17)) (defScope (topS 17)) .none kV9 dc9 pm9 an9 cd9 ct9), sl9⟩) (c9 : PySem.W.codeIn K cd9 "_law_is_integer" = true) (k9 : PySem.W.keepIn K (.ref f9) = true)
    (a10 : PySem.W.nsIn K mainGlobals "_law_is_rat" = some (some (.ref f10))) (l10 : K.lookup f10 = some ⟨oc10, od10, .func (PySem.W.fnOf "_law_is_rat" "_law_is_rat" (defArgs (topS 18)) (defBody (topS 18)) (defScope (topS 18)) .none kV10 dc10 pm10 an10 cd10 ct10), sl10⟩) (c10 : PySem.W.codeIn K cd10 "_law_is_rat" = true) (k10 : PySem.W.keepIn K (.ref f10) = true)
    (a11 : PySem.W.nsIn K mainGlobals "_law_digits" = some (some (.ref f11))) (l11 : K.lookup f11 = some ⟨oc11, od11, .func (PySem.W.fnOf "_law_digits" "_law_digits" (defArgs (topS 19)) (defBody (topS 19)) (defScope (topS 19)) .none kV11 dc11 pm11 an11 cd11 ct11), sl11⟩) (c11 : PySem.W.codeIn K cd11 "_law_digits" = true) (k11 : PySem.W.keepIn K (.ref f11) = true)
    (a12 : PySem.W.nsIn K mainGlobals "_law_whole" = some (some (.ref f12))) (l12 : K.lookup f12 = some ⟨oc12, od12, .func (PySem.W.fnOf "_law_whole" "_law_whole" (defArgs (topS 20)) (defBody (topS 20)) (defScope (topS 20)) .none kV12 dc12 pm12 an12 cd12 ct12), sl12⟩) (c12 : PySem.W.codeIn K cd12 "_law_whole" = true) (k12 : PySem.W.keepIn K (.ref f12) = true)
    (a13 : PySem.W.nsIn K mainGlobals "_law_text" = some (some (.ref f13))) (l13 : K.lookup f13 = some ⟨oc13, od13, .func (PySem.W.fnOf "_law_text" "_law_text" (defArgs (topS 21)) (defBody (topS 21)) (defScope (topS 21)) .none kV13 dc13 pm13 an13 cd13 ct13), sl13⟩) (c13 : PySem.W.codeIn K cd13 "_law_text" = true) (k13 : PySem.W.keepIn K (.ref f13) = true)
    (a14 : PySem.W.nsIn K mainGlobals "_law_bad" = some (some (.ref f14))) (l14 : K.lookup f14 = some ⟨oc14, od14, .func (PySem.W.fnOf "_law_bad" "_law_bad" (defArgs (topS 22)) (defBody (topS 22)) (defScope (topS 22)) .none kV14 dc14 pm14 an14 cd14 ct14), sl14⟩) (c14 : PySem.W.codeIn K cd14 "_law_bad" = true) (k14 : PySem.W.keepIn K (.ref f14) = true)
    (a15 : PySem.W.nsIn K mainGlobals "law" = some (some (.ref f15))) (l15 : K.lookup f15 = some ⟨oc15, od15, .func (PySem.W.fnOf "law" "law" (defArgs (topS 23)) (defBody (topS 23)) (defScope (topS 23)) .none kV15 dc15 pm15 an15 cd15 ct15), sl15⟩) (c15 : PySem.W.codeIn K cd15 "law" = true) (k15 : PySem.W.keepIn K (.ref f15) = true)
    (z0 : PySem.W.nsIn K mainGlobals "abs" = some none)
    (z1 : PySem.W.nsIn K mainGlobals "bool" = some none)
    (z2 : PySem.W.nsIn K mainGlobals "divmod" = some none)
    (z3 : PySem.W.nsIn K mainGlobals "int" = some none)
    (z4 : PySem.W.nsIn K mainGlobals "isinstance" = some none)
    (z5 : PySem.W.nsIn K mainGlobals "len" = some none)
    (z6 : PySem.W.nsIn K mainGlobals "range" = some none)
    (z7 : PySem.W.nsIn K mainGlobals "str" = some none)
    (z8 : PySem.W.nsIn K mainGlobals "tuple" = some none)
    (zg : PySem.W.nsIn K mainGlobals "gcd" = some (some (.builtin "math.gcd")))
    {y0 : Value} (ya0 : PySem.W.nsIn K mainGlobals "DIGITS" = some (some y0)) (yr0 : RelV (.str "0123456789") y0)
    {y1 : Value} (ya1 : PySem.W.nsIn K mainGlobals "PIECE" = some (some y1)) (yr1 : RelV (.int 50) y1)
    {e0 : Addr} (ea0 : PySem.W.nsIn K mainGlobals "NoText" = some (some (.ref e0))) (ek0 : PySem.W.keepIn K (.ref e0) = true) (eb0 : PySem.W.subIn K (.ref e0) (.type "BaseException") = some true) (et0 : PySem.W.typeIn K (.ref e0) = some (.type "type"))
    (ed0 : PySem.W.hasDictIn K e0 = true)
    (es0_0 : PySem.W.subIn K (.ref e0) (.ref e0) = some true)
    (xn : PySem.W.specialIn K (.builtin "object.__class__") "__get__" = some (some (.builtin "getset_descriptor.__get__"))) (xt : PySem.W.takesIn K (.builtin "object.__class__") = some true)
    (xg0 : PySem.W.findIn K (.ref e0) "__getattribute__" = some (some (.builtin "BaseException.__getattribute__"))) (xk0 : PySem.W.findIn K (.ref e0) "__getattr__" = some none) (xa0 : PySem.W.findIn K (.ref e0) "__class__" = some (some (.builtin "object.__class__"))) (xm0 : PySem.W.mroIn K e0 (.type "object") = some true)
    {QN0 QQ0 : Str} {QA0 QF0 QD0 QC0 : Addr} {QB0 QM0 QV0 : List Value} {QS0 : List Str} {Qb0 : Bool} {Qc0 : Option Bool} {Qd0 Qo0 Qa0 Qe0 Qg0 : Option Addr} {Q00 Q10 Q20 Q30 Q50 : Option Value} {Qh0 Qj0 Qk0 Ql0 Qm0 Qn0 Qp0 : Value} {Qq0 Qr0 Qs0 : Array (Option Value)} {Qt0 : Array Value} {Qu0 : Str} {Qv0 : Tok}
    (Xa0 : K.lookup e0 = some (excClassObj QN0 QQ0 e0 QA0 QB0 QM0 true QS0 QV0 Qb0 Qc0 Qd0 Q00 Q10 Q20 Q30 Q50 "ValueError.__new__"))
    (Xb0 : PySem.HandSPX.refsVE QM0 = true)
    (Xc0 : PySem.W.findIn K (.ref e0) "__setattr__" = some (some (.builtin "object.__setattr__")))
    (Xd0 : PySem.W.findIn K (.ref e0) "at" = some none)
    (Xe0 : PySem.W.findIn K (.ref e0) "__init__" = some (some (.ref QF0)))
    (Xf0 : PySem.W.typeIn K (.ref QF0) = some (.type "function"))
    (Xg0 : K.lookup QF0 = some ⟨Qh0, Qo0, .func (PySem.W.ksFn "__init__" "NoText.__init__" (defArgs (inClass (topS 3) 0)) (defBody (inClass (topS 3) 0)) (defScope (inClass (topS 3) 0)) .none Qj0 Qk0 Ql0 Qa0 (.ref QD0) Qm0 QC0), Qq0⟩)
    (Xh0 : PySem.W.codeIn K (.ref QD0) "NoText.__init__" = true)
    (Xi0 : K.lookup QD0 = some ⟨Qn0, Qe0, .fields Qt0, Qr0⟩)
    (Xj0 : Qt0[2]? = some (.str Qu0 Qv0))
    (Xk0 : ((P.main.file : Str) == Qu0) = true)
    (Xl0 : K.lookup QC0 = some ⟨Qp0, Qg0, .cell (some (.ref e0)), Qs0⟩)
    (Xm0 : PySem.W.ks_superIn K e0 e0 "__init__" = some (some (.builtin "ValueError.__init__")))
    (Xn0 : PySem.W.mroIn K e0 (.ref e0) = some true)
    (Xo0 : PySem.W.subIn K (.ref e0) (.type "ValueError") = some true)
    (Xw0 : PySem.W.nsIn K PySem.cStatics "thirdparty.any" = some none)
    (Xx0 : PySem.W.nsIn K mainGlobals "super" = some none)
    (Xz0 : (P.main.scope.names.lookup ("super" : Str)).isSome = false)
    (Xy0 : PySem.W.nsIn K mainGlobals "str" = some none) :
    Mok M G T P K mg base w where
  blt := fun x hx => by
    have hx : x ∈ M.blt := by simpa using hx
    simp only [M, List.mem_cons, List.not_mem_nil, or_false] at hx
    rcases hx with rfl | rfl | rfl | rfl | rfl | rfl | rfl | rfl | rfl
    · exact PySem.W.mg_none_of X Gn z0
    · exact PySem.W.mg_none_of X Gn z1
    · exact PySem.W.mg_none_of X Gn z2
    · exact PySem.W.mg_none_of X Gn z3
    · exact PySem.W.mg_none_of X Gn z4
    · exact PySem.W.mg_none_of X Gn z5
    · exact PySem.W.mg_none_of X Gn z6
    · exact PySem.W.mg_none_of X Gn z7
    · exact PySem.W.mg_none_of X Gn z8
  lcm := fun h => by cases h
  gcd := fun _ => PySem.W.mg_of X Gn zg
  cst := fun x hx => by
    have hx : x ∈ M.cst := by simpa using hx
    simp only [M, List.mem_cons, List.not_mem_nil, or_false] at hx
    rcases hx with rfl | rfl
    · exact ⟨.str "0123456789", y0, .str "0123456789", rfl, PySem.W.mg_of X Gn ya0, yr0, fun H => by first | exact .int _ | exact .str _⟩
    · exact ⟨.int 50, y1, .int 50, rfl, PySem.W.mg_of X Gn ya1, yr1, fun H => by first | exact .int _ | exact .str _⟩
  fns := fun f n h => by
    have h := mem_of_lookup h
    simp only [M, List.mem_cons, List.not_mem_nil, or_false, Prod.mk.injEq] at h
    rcases h with ⟨rfl, rfl⟩ | ⟨rfl, rfl⟩ | ⟨rfl, rfl⟩ | ⟨rfl, rfl⟩ | ⟨rfl, rfl⟩ | ⟨rfl, rfl⟩ | ⟨rfl, rfl⟩ | ⟨rfl, rfl⟩ | ⟨rfl, rfl⟩ | ⟨rfl, rfl⟩ | ⟨rfl, rfl⟩ | ⟨rfl, rfl⟩ | ⟨rfl, rfl⟩ | ⟨rfl, rfl⟩ | ⟨rfl, rfl⟩ | ⟨rfl, rfl⟩
    · exact ⟨by decide +kernel, _, t_format_integer, rfl⟩
    · exact ⟨by decide +kernel, _, t_parse_digits, rfl⟩
    · exact ⟨by decide +kernel, _, t_format_rational, rfl⟩
    · exact ⟨by decide +kernel, _, t_is_number, rfl⟩
    · exact ⟨by decide +kernel, _, t_parse_rational, rfl⟩
    · exact ⟨by decide +kernel, _, t_law_cell, rfl⟩
    · exact ⟨by decide +kernel, _, t_law_draws, rfl⟩
    · exact ⟨by decide +kernel, _, t_law_gcd, rfl⟩
    · exact ⟨by decide +kernel, _, t_law_rat, rfl⟩
    · exact ⟨by decide +kernel, _, t_law_is_integer, rfl⟩
    · exact ⟨by decide +kernel, _, t_law_is_rat, rfl⟩
    · exact ⟨by decide +kernel, _, t_law_digits, rfl⟩
    · exact ⟨by decide +kernel, _, t_law_whole, rfl⟩
    · exact ⟨by decide +kernel, _, t_law_text, rfl⟩
    · exact ⟨by decide +kernel, _, t_law_bad, rfl⟩
    · exact ⟨by decide +kernel, _, t_law, rfl⟩
  fn := fun f F h => by
    have h := mem_of_lookup (l := tbl) h
    simp only [tbl, List.mem_cons, List.not_mem_nil, or_false, Prod.mk.injEq] at h
    rcases h with ⟨rfl, rfl⟩ | ⟨rfl, rfl⟩ | ⟨rfl, rfl⟩ | ⟨rfl, rfl⟩ | ⟨rfl, rfl⟩ | ⟨rfl, rfl⟩ | ⟨rfl, rfl⟩ | ⟨rfl, rfl⟩ | ⟨rfl, rfl⟩ | ⟨rfl, rfl⟩ | ⟨rfl, rfl⟩ | ⟨rfl, rfl⟩ | ⟨rfl, rfl⟩ | ⟨rfl, rfl⟩ | ⟨rfl, rfl⟩ | ⟨rfl, rfl⟩
    · exact ⟨f0, _, (topS 7), _, _, "format_integer", "format_integer", (at_f (by decide +kernel) (PySem.W.mg_of X Gn a0)), fun_mk (st := (topS 7)) l0 c0 k0, ft_format_integer, (fun_mk (st := (topS 7)) l0 c0 k0).binds (ps := p_format_integer) fun _ _ _ _ _ _ us hl => match us, hl with | [_], _ => rfl⟩
    · exact ⟨f1, _, (topS 8), _, _, "parse_digits", "parse_digits", (at_f (by decide +kernel) (PySem.W.mg_of X Gn a1)), fun_mk (st := (topS 8)) l1 c1 k1, ft_parse_digits, (fun_mk (st := (topS 8)) l1 c1 k1).binds (ps := p_parse_digits) fun _ _ _ _ _ _ us hl => match us, hl with | [_], _ => rfl⟩
    · exact ⟨f2, _, (topS 9), _, _, "format_rational", "format_rational", (at_f (by decide +kernel) (PySem.W.mg_of X Gn a2)), fun_mk (st := (topS 9)) l2 c2 k2, ft_format_rational, (fun_mk (st := (topS 9)) l2 c2 k2).binds (ps := p_format_rational) fun _ _ _ _ _ _ us hl => match us, hl with | [_], _ => rfl⟩
    · exact ⟨f3, _, (topS 10), _, _, "_is_number", "_is_number", (at_f (by decide +kernel) (PySem.W.mg_of X Gn a3)), fun_mk (st := (topS 10)) l3 c3 k3, ft_is_number, (fun_mk (st := (topS 10)) l3 c3 k3).binds (ps := p_is_number) fun _ _ _ _ _ _ us hl => match us, hl with | [_], _ => rfl⟩
    · exact ⟨f4, _, (topS 11), _, _, "parse_rational", "parse_rational", (at_f (by decide +kernel) (PySem.W.mg_of X Gn a4)), fun_mk (st := (topS 11)) l4 c4 k4, ft_parse_rational, (fun_mk (st := (topS 11)) l4 c4 k4).binds (ps := p_parse_rational) fun _ _ _ _ _ _ us hl => match us, hl with | [_], _ => rfl⟩
    · exact ⟨f5, _, (topS 13), _, _, "_law_cell", "_law_cell", (at_f (by decide +kernel) (PySem.W.mg_of X Gn a5)), fun_mk (st := (topS 13)) l5 c5 k5, ft_law_cell, (fun_mk (st := (topS 13)) l5 c5 k5).binds (ps := p_law_cell) fun _ _ _ _ _ _ us hl => match us, hl with | [_, _], _ => rfl⟩
    · exact ⟨f6, _, (topS 14), _, _, "_law_draws", "_law_draws", (at_f (by decide +kernel) (PySem.W.mg_of X Gn a6)), fun_mk (st := (topS 14)) l6 c6 k6, ft_law_draws, (fun_mk (st := (topS 14)) l6 c6 k6).binds (ps := p_law_draws) fun _ _ _ _ _ _ us hl => match us, hl with | [_, _, _, _], _ => rfl⟩
    · exact ⟨f7, _, (topS 15), _, _, "_law_gcd", "_law_gcd", (at_f (by decide +kernel) (PySem.W.mg_of X Gn a7)), fun_mk (st := (topS 15)) l7 c7 k7, ft_law_gcd, (fun_mk (st := (topS 15)) l7 c7 k7).binds (ps := p_law_gcd) fun _ _ _ _ _ _ us hl => match us, hl with | [_, _], _ => rfl⟩
    · exact ⟨f8, _, (topS 16), _, _, "_law_rat", "_law_rat", (at_f (by decide +kernel) (PySem.W.mg_of X Gn a8)), fun_mk (st := (topS 16)) l8 c8 k8, ft_law_rat, (fun_mk (st := (topS 16)) l8 c8 k8).binds (ps := p_law_rat) fun _ _ _ _ _ _ us hl => match us, hl with | [_, _], _ => rfl⟩
    · exact ⟨f9, _, (topS 17), _, _, "_law_is_integer", "_law_is_integer", (at_f (by decide +kernel) (PySem.W.mg_of X Gn a9)), fun_mk (st := (topS 17)) l9 c9 k9, ft_law_is_integer, (fun_mk (st := (topS 17)) l9 c9 k9).binds (ps := p_law_is_integer) fun _ _ _ _ _ _ us hl => match us, hl with | [_], _ => rfl⟩
    · exact ⟨f10, _, (topS 18), _, _, "_law_is_rat", "_law_is_rat", (at_f (by decide +kernel) (PySem.W.mg_of X Gn a10)), fun_mk (st := (topS 18)) l10 c10 k10, ft_law_is_rat, (fun_mk (st := (topS 18)) l10 c10 k10).binds (ps := p_law_is_rat) fun _ _ _ _ _ _ us hl => match us, hl with | [_], _ => rfl⟩
    · exact ⟨f11, _, (topS 19), _, _, "_law_digits", "_law_digits", (at_f (by decide +kernel) (PySem.W.mg_of X Gn a11)), fun_mk (st := (topS 19)) l11 c11 k11, ft_law_digits, (fun_mk (st := (topS 19)) l11 c11 k11).binds (ps := p_law_digits) fun _ _ _ _ _ _ us hl => match us, hl with | [_, _], _ => rfl⟩
    · exact ⟨f12, _, (topS 20), _, _, "_law_whole", "_law_whole", (at_f (by decide +kernel) (PySem.W.mg_of X Gn a12)), fun_mk (st := (topS 20)) l12 c12 k12, ft_law_whole, (fun_mk (st := (topS 20)) l12 c12 k12).binds (ps := p_law_whole) fun _ _ _ _ _ _ us hl => match us, hl with | [_], _ => rfl⟩
    · exact ⟨f13, _, (topS 21), _, _, "_law_text", "_law_text", (at_f (by decide +kernel) (PySem.W.mg_of X Gn a13)), fun_mk (st := (topS 21)) l13 c13 k13, ft_law_text, (fun_mk (st := (topS 21)) l13 c13 k13).binds (ps := p_law_text) fun _ _ _ _ _ _ us hl => match us, hl with | [_], _ => rfl⟩
    · exact ⟨f14, _, (topS 22), _, _, "_law_bad", "_law_bad", (at_f (by decide +kernel) (PySem.W.mg_of X Gn a14)), fun_mk (st := (topS 22)) l14 c14 k14, ft_law_bad, (fun_mk (st := (topS 22)) l14 c14 k14).binds (ps := p_law_bad) fun _ _ _ _ _ _ us hl => match us, hl with | [_, _, _], _ => rfl⟩
    · exact ⟨f15, _, (topS 23), _, _, "law", "law", (at_f (by decide +kernel) (PySem.W.mg_of X Gn a15)), fun_mk (st := (topS 23)) l15 c15 k15, ft_law, (fun_mk (st := (topS 23)) l15 c15 k15).binds (ps := p_law) fun _ _ _ _ _ _ us hl => match us, hl with | [_], _ => rfl⟩
  mts := fun x y key h => by cases h
  mk0 := fun x h => by cases h
  mk1 := fun x h => by cases h
  fds := fun x y h => by cases h
  py := fun _ => ⟨hse, ht⟩
  exc := fun x h => by cases h
  exn := fun x hx => by
    have hx : x ∈ M.exn := by simpa using hx
    simp only [M, List.mem_cons, List.not_mem_nil, or_false] at hx
    rcases hx with rfl
    · refine ⟨_, .inl (PySem.W.mg_of X Gn ea0), fun c b hc => ?_⟩
      have hc : ((subT.filter fun z => z.2.1 == ("NoText" : Str)).map fun z => (z.1, z.2.2)).lookup c = some b := hc
      have hc := mem_of_lookup hc
      rw [show (subT.filter fun z => z.2.1 == ("NoText" : Str)).map (fun z => (z.1, z.2.2)) = ([("NoText", true)] : List (Str × Bool)) from by decide +kernel] at hc
      simp only [List.mem_cons, List.not_mem_nil, or_false, Prod.mk.injEq] at hc
      rcases hc with ⟨rfl, rfl⟩
      · exact ⟨_, PySem.W.mg_of X Gn ea0, PySem.W.exm_ref eb0 ed0 et0 es0_0⟩
  exi := fun x hx => by
    have hx : x ∈ M.xis := by simpa using hx
    simp only [M, List.mem_cons, List.not_mem_nil, or_false] at hx
    rcases hx with rfl
    · refine ⟨.ref e0, .ref e0, .own _, .inl (PySem.W.mg_of X Gn ea0), fun k b hc => ?_⟩
      have hc : ((subT.filter fun z => z.2.1 == ("NoText" : Str)).map fun z => (z.1, z.2.2)).lookup k = some b := hc
      have hc := mem_of_lookup hc
      rw [show (subT.filter fun z => z.2.1 == ("NoText" : Str)).map (fun z => (z.1, z.2.2)) = ([("NoText", true)] : List (Str × Bool)) from by decide +kernel] at hc
      simp only [List.mem_cons, List.not_mem_nil, or_false, Prod.mk.injEq] at hc
      rcases hc with ⟨rfl, rfl⟩
      · exact ⟨_, PySem.W.mg_of X Gn ea0, ⟨xg0, xk0, eb0, ed0, xa0, xn, xt, xm0⟩, kit_self⟩
  xff := fun x f b h => by
    have h : xfT.lookup x = some (f, b) := h
    have h := memL h
    simp only [xfT, List.mem_cons, List.not_mem_nil, or_false, Prod.mk.injEq] at h
    rcases h with ⟨rfl, rfl, rfl⟩
    · exact ⟨e0, QF0, PySem.W.mg_of X Gn ea0, ⟨⟨_, _, _, _, _, _, _, _, _, _, _, _, _, _, _, Xa0, Xb0⟩, Xc0, Xd0, Xe0, Xf0, ek0, eb0, et0, ⟨Qh0, Qo0, "NoText.__init__", defArgs (inClass (topS 3) 0), defBody (inClass (topS 3) 0), defScope (inClass (topS 3) 0), .none, Qj0, Qk0, Ql0, Qa0, QD0, Qm0, QC0, Qq0, Xg0, Xh0, ⟨_, _, _, _, _, _, Xi0, Xj0, Xk0⟩, ⟨_, _, _, Xl0⟩, xi_NoText, fun s v w => BindsTo.of_eq rfl⟩, Xm0, Xn0, Xo0, Xw0, PySem.W.mg_none_of X Gn Xx0, (fun _ => PySem.W.mg_none_of X Gn Xy0), Xz0⟩, ⟨xg0, xk0, Xd0, ed0, eb0⟩⟩
  xfs := fun x hx => by
    have hx : x ∈ M.xfs := by simpa using hx
    simp only [M, List.mem_cons, List.not_mem_nil, or_false] at hx
    rcases hx with rfl
    · exact ⟨_, _, xf_NoText⟩
open LA
open PySem.NumText (AllDigits digitsVal)
variable {k : Nat} {S : Sto} {Q : DK} {E : XS}
theorem hPY : G.PY := trivial
theorem law_rat_ok {n d : Int} (hd : d ≠ 0) (h : Q (QD (Rat.divInt n d)) S) : semF G T (k + 2) "_law_rat" [.int n, .int d] S Q E := by
  refine call_of t_law_rat rfl ?_
  simp -dsimp -implicitDefEqProofs only [ent, List.map_cons, List.map_nil, List.length_cons, List.length_nil, Nat.reduceAdd, Nat.reduceSub, Nat.zero_add, List.replicate, List.cons_append, List.nil_append, F_law_rat]
  simp -dsimp -implicitDefEqProofs only [↓cov3, ↓cov2, ↓cov1, ↓E_var, ↓E_int, ↓E_bl, ↓E_non, ↓E_str, ↓E_glo, ↓E_tup, ↓E_lst, ↓E_bin, ↓E_neg, ↓E_cmp, ↓E_chn, ↓E_and, ↓E_or, ↓E_one, ↓E_not, ↓E_ifx, ↓E_idx, ↓E_slc, ↓E_call, ↓E_bi, ↓E_isi, ↓E_mth, ↓E_lc, ↓E_fld, ↓E_mcl, ↓E_mk, ↓Es_nil, ↓Es_cons, ↓O_no, ↓O_some, ↓Q_no, ↓Q_c, ↓C_and, ↓C_or, ↓C_one, ↓C_not, ↓C_cmp, ↓C_chn, ↓C_v, ↓I_seq, ↓I_rng1, ↓I_rng2, ↓I_rng3, ↓I_enu, ↓I_zip, ↓I_rev, ↓S_set, ↓S_asg, ↓S_par2, ↓S_sub, ↓S_expr, ↓S_ret, ↓S_retN, ↓S_ifs, ↓S_for, ↓S_brk, ↓S_cnt, ↓S_pass, ↓S_raise, ↓S_try, ↓S_tryas, ↓E_isx, ↓E_isxs, kW_nx, kW_rt, kW_bk, kW_ct, kW_ex, gx_sub, gx_cs, gx_PY, ↓S_never, ↓S_setf, ex_t, ex_f, ↓S_nil, ↓S_cons, ↓kN_nx, ↓kN_rt, ↓kN_bk, ↓kN_ct, ↓kN_ex, ↓kL_nx, ↓kL_rt, ↓kL_bk, ↓kL_ct, ↓kL_ex, ↓kX_nx, ↓kX_rt, ↓kX_bk, ↓kX_ct, ↓kX_ex, ↓kend_nx, ↓kend_rt, ↓kend_bk, ↓kend_ct, ↓kend_ex, vr_some, gt_0, gt_s, stn_0, stn_s, wip_0, wip_s, wips_0, wips_s, neg_i, isi_s, o_i, tru_non, tru_bl, tru_int, tru_tup, tru_rol, c_Eq, c_NotEq, c_Lt, c_LtE, c_Gt, c_GtE, cs_Eq, cs_NotEq, cb_Eq, cb_NotEq, c2_Eq, c2_NotEq, is_non, isnot_non, is_bl, isnot_bl, is_int, isnot_int, is_str, isnot_str, is_tup, isnot_tup, is_rol, isnot_rol, is_ref, isnot_ref, is_b, isnot_b, in_s, notin_s, b_add, b_sub, b_mul, b_fdiv, b_mod, b_pow, b_addt, b_adds, atI0, atI1, atI2, atI3, slc_t, slc_r, len_s, abs_i, str_i, int_i, int_b, min_i, max_i, lcm_i, gcd_i, seq_t, seq_r, r1_i, r2_i, r3_i, a_nm, a_nil, a_cons, vrl_some, vrn_some, put_lget, Option.isSome_some, tru_ref, b_addl, idx_t, idx_r, idx_l, slc_l, len_t, len_r, len_l, tuple_t, tuple_r, tuple_l, list_t, list_r, list_l, app_l, rev_l, pop_l, popat_l, mT_l, seq_l, enu_l, enu_t, fld_i, mcl_i, setf_i, vri_some, vrk_some, mk_0, mk_1, b_mull, zip_l, rev_i, rev_t, in_t, notin_t, fl_s, fl_i, fl_b, fl_n, inL_nil, inL_ss, inL_ii, List.all_cons, List.all_nil, Bool.and_self, Bool.and_true, Bool.true_and, zip_t, zip_m, a_t, a_l, sub_l, isTs, isT, Option.map_some, List.length_cons, List.length_nil, List.lookup_nil, Nat.reduceAdd, Nat.reduceSub, Nat.reduceLT, Nat.zero_add, Bool.false_eq_true, Bool.true_eq_false, if_false, if_true, decide_eq_true_eq, Bool.not_true, Bool.not_false, ite_true, ite_false, reduceIte, Bool.not_eq_true', decide_eq_false_iff_not, Int.cast_ofNat_Int, Int.reduceEq, Int.reduceLT, Int.reduceLE, Int.reduceNeg, Int.reduceAdd, Int.reduceSub, Int.reduceMul, Int.reduceToNat, decide_true, decide_false, not_true, not_false, not_true_eq_false, not_false_eq_true, true_and, and_true, eq_self, reduceCtorEq, List.isEmpty_nil, List.isEmpty_cons, List.nil_append, List.cons_append, ↓E_smt, ↓E_fldx, ↓E_dct, ↓E_gix, ↓E_rsl,  ↓E_lck, ↓S_raisef, ↓S_trym, ↓S_aug, H_nil, H_cons0, H_cons1, gx_xf, gx_kd, okx_nil, okx_ref, xpl_ref, xfS_i, xfS_s, fldxS_p, gixS_s, vrp_some, vlo_some, vrC_some, idx_s, idx_d, slc_s, b_muls, int_s, ord_s, divmod_i, sorted_x, dict_r, sm_join, sm_part, sm_sw, sm_strip, sm_lstrip, sm_zfill, sm_split, sm_digit, sm_alnum, isstr_s, seq_s, rsl_l]
  refine gcd_ok t_law_gcd n d ?_
  simp -dsimp -implicitDefEqProofs only [↓cov3, ↓cov2, ↓cov1, ↓E_var, ↓E_int, ↓E_bl, ↓E_non, ↓E_str, ↓E_glo, ↓E_tup, ↓E_lst, ↓E_bin, ↓E_neg, ↓E_cmp, ↓E_chn, ↓E_and, ↓E_or, ↓E_one, ↓E_not, ↓E_ifx, ↓E_idx, ↓E_slc, ↓E_call, ↓E_bi, ↓E_isi, ↓E_mth, ↓E_lc, ↓E_fld, ↓E_mcl, ↓E_mk, ↓Es_nil, ↓Es_cons, ↓O_no, ↓O_some, ↓Q_no, ↓Q_c, ↓C_and, ↓C_or, ↓C_one, ↓C_not, ↓C_cmp, ↓C_chn, ↓C_v, ↓I_seq, ↓I_rng1, ↓I_rng2, ↓I_rng3, ↓I_enu, ↓I_zip, ↓I_rev, ↓S_set, ↓S_asg, ↓S_par2, ↓S_sub, ↓S_expr, ↓S_ret, ↓S_retN, ↓S_ifs, ↓S_for, ↓S_brk, ↓S_cnt, ↓S_pass, ↓S_raise, ↓S_try, ↓S_tryas, ↓E_isx, ↓E_isxs, kW_nx, kW_rt, kW_bk, kW_ct, kW_ex, gx_sub, gx_cs, gx_PY, ↓S_never, ↓S_setf, ex_t, ex_f, ↓S_nil, ↓S_cons, ↓kN_nx, ↓kN_rt, ↓kN_bk, ↓kN_ct, ↓kN_ex, ↓kL_nx, ↓kL_rt, ↓kL_bk, ↓kL_ct, ↓kL_ex, ↓kX_nx, ↓kX_rt, ↓kX_bk, ↓kX_ct, ↓kX_ex, ↓kend_nx, ↓kend_rt, ↓kend_bk, ↓kend_ct, ↓kend_ex, vr_some, gt_0, gt_s, stn_0, stn_s, wip_0, wip_s, wips_0, wips_s, neg_i, isi_s, o_i, tru_non, tru_bl, tru_int, tru_tup, tru_rol, c_Eq, c_NotEq, c_Lt, c_LtE, c_Gt, c_GtE, cs_Eq, cs_NotEq, cb_Eq, cb_NotEq, c2_Eq, c2_NotEq, is_non, isnot_non, is_bl, isnot_bl, is_int, isnot_int, is_str, isnot_str, is_tup, isnot_tup, is_rol, isnot_rol, is_ref, isnot_ref, is_b, isnot_b, in_s, notin_s, b_add, b_sub, b_mul, b_fdiv, b_mod, b_pow, b_addt, b_adds, atI0, atI1, atI2, atI3, slc_t, slc_r, len_s, abs_i, str_i, int_i, int_b, min_i, max_i, lcm_i, gcd_i, seq_t, seq_r, r1_i, r2_i, r3_i, a_nm, a_nil, a_cons, vrl_some, vrn_some, put_lget, Option.isSome_some, tru_ref, b_addl, idx_t, idx_r, idx_l, slc_l, len_t, len_r, len_l, tuple_t, tuple_r, tuple_l, list_t, list_r, list_l, app_l, rev_l, pop_l, popat_l, mT_l, seq_l, enu_l, enu_t, fld_i, mcl_i, setf_i, vri_some, vrk_some, mk_0, mk_1, b_mull, zip_l, rev_i, rev_t, in_t, notin_t, fl_s, fl_i, fl_b, fl_n, inL_nil, inL_ss, inL_ii, List.all_cons, List.all_nil, Bool.and_self, Bool.and_true, Bool.true_and, zip_t, zip_m, a_t, a_l, sub_l, isTs, isT, Option.map_some, List.length_cons, List.length_nil, List.lookup_nil, Nat.reduceAdd, Nat.reduceSub, Nat.reduceLT, Nat.zero_add, Bool.false_eq_true, Bool.true_eq_false, if_false, if_true, decide_eq_true_eq, Bool.not_true, Bool.not_false, ite_true, ite_false, reduceIte, Bool.not_eq_true', decide_eq_false_iff_not, Int.cast_ofNat_Int, Int.reduceEq, Int.reduceLT, Int.reduceLE, Int.reduceNeg, Int.reduceAdd, Int.reduceSub, Int.reduceMul, Int.reduceToNat, decide_true, decide_false, not_true, not_false, not_true_eq_false, not_false_eq_true, true_and, and_true, eq_self, reduceCtorEq, List.isEmpty_nil, List.isEmpty_cons, List.nil_append, List.cons_append, ↓E_smt, ↓E_fldx, ↓E_dct, ↓E_gix, ↓E_rsl,  ↓E_lck, ↓S_raisef, ↓S_trym, ↓S_aug, H_nil, H_cons0, H_cons1, gx_xf, gx_kd, okx_nil, okx_ref, xpl_ref, xfS_i, xfS_s, fldxS_p, gixS_s, vrp_some, vlo_some, vrC_some, idx_s, idx_d, slc_s, b_muls, int_s, ord_s, divmod_i, sorted_x, dict_r, sm_join, sm_part, sm_sw, sm_strip, sm_lstrip, sm_zfill, sm_split, sm_digit, sm_alnum, isstr_s, seq_s, rsl_l]
  have key : ∀ g : Int, (g = if d < 0 then -((Nat.gcd n.natAbs d.natAbs : Nat) : Int) else ((Nat.gcd n.natAbs d.natAbs : Nat) : Int)) → FdOk G.PY n g ∧ FdOk G.PY d g ∧ Q (.tup [.int (n.fdiv g), .int (d.fdiv g)]) S := by
    intro g hg
    obtain ⟨g0, e1, e2⟩ := ratio hd g hg
    refine ⟨⟨g0, .inr trivial⟩, ⟨g0, .inr trivial⟩, ?_⟩
    rw [e1, e2]
    exact h
  refine ite2 (fun hn => ?_) fun hn => ?_
  · exact key _ (by rw [if_pos hn])
  · exact key _ (by rw [if_neg hn])
theorem is_int_ok (n : Int) (h : Q (.bl true) S) : semF G T (k + 1) "_law_is_integer" [.int n] S Q E := by
  refine call_of t_law_is_integer rfl ?_
  simp -dsimp -implicitDefEqProofs only [ent, List.map_cons, List.map_nil, List.length_cons, List.length_nil, Nat.reduceAdd, Nat.reduceSub, Nat.zero_add, List.replicate, List.cons_append, List.nil_append, F_law_is_integer]
  simp -dsimp -implicitDefEqProofs only [↓cov3, ↓cov2, ↓cov1, ↓E_var, ↓E_int, ↓E_bl, ↓E_non, ↓E_str, ↓E_glo, ↓E_tup, ↓E_lst, ↓E_bin, ↓E_neg, ↓E_cmp, ↓E_chn, ↓E_and, ↓E_or, ↓E_one, ↓E_not, ↓E_ifx, ↓E_idx, ↓E_slc, ↓E_call, ↓E_bi, ↓E_isi, ↓E_mth, ↓E_lc, ↓E_fld, ↓E_mcl, ↓E_mk, ↓Es_nil, ↓Es_cons, ↓O_no, ↓O_some, ↓Q_no, ↓Q_c, ↓C_and, ↓C_or, ↓C_one, ↓C_not, ↓C_cmp, ↓C_chn, ↓C_v, ↓I_seq, ↓I_rng1, ↓I_rng2, ↓I_rng3, ↓I_enu, ↓I_zip, ↓I_rev, ↓S_set, ↓S_asg, ↓S_par2, ↓S_sub, ↓S_expr, ↓S_ret, ↓S_retN, ↓S_ifs, ↓S_for, ↓S_brk, ↓S_cnt, ↓S_pass, ↓S_raise, ↓S_try, ↓S_tryas, ↓E_isx, ↓E_isxs, kW_nx, kW_rt, kW_bk, kW_ct, kW_ex, gx_sub, gx_cs, gx_PY, ↓S_never, ↓S_setf, ex_t, ex_f, ↓S_nil, ↓S_cons, ↓kN_nx, ↓kN_rt, ↓kN_bk, ↓kN_ct, ↓kN_ex, ↓kL_nx, ↓kL_rt, ↓kL_bk, ↓kL_ct, ↓kL_ex, ↓kX_nx, ↓kX_rt, ↓kX_bk, ↓kX_ct, ↓kX_ex, ↓kend_nx, ↓kend_rt, ↓kend_bk, ↓kend_ct, ↓kend_ex, vr_some, gt_0, gt_s, stn_0, stn_s, wip_0, wip_s, wips_0, wips_s, neg_i, isi_s, o_i, tru_non, tru_bl, tru_int, tru_tup, tru_rol, c_Eq, c_NotEq, c_Lt, c_LtE, c_Gt, c_GtE, cs_Eq, cs_NotEq, cb_Eq, cb_NotEq, c2_Eq, c2_NotEq, is_non, isnot_non, is_bl, isnot_bl, is_int, isnot_int, is_str, isnot_str, is_tup, isnot_tup, is_rol, isnot_rol, is_ref, isnot_ref, is_b, isnot_b, in_s, notin_s, b_add, b_sub, b_mul, b_fdiv, b_mod, b_pow, b_addt, b_adds, atI0, atI1, atI2, atI3, slc_t, slc_r, len_s, abs_i, str_i, int_i, int_b, min_i, max_i, lcm_i, gcd_i, seq_t, seq_r, r1_i, r2_i, r3_i, a_nm, a_nil, a_cons, vrl_some, vrn_some, put_lget, Option.isSome_some, tru_ref, b_addl, idx_t, idx_r, idx_l, slc_l, len_t, len_r, len_l, tuple_t, tuple_r, tuple_l, list_t, list_r, list_l, app_l, rev_l, pop_l, popat_l, mT_l, seq_l, enu_l, enu_t, fld_i, mcl_i, setf_i, vri_some, vrk_some, mk_0, mk_1, b_mull, zip_l, rev_i, rev_t, in_t, notin_t, fl_s, fl_i, fl_b, fl_n, inL_nil, inL_ss, inL_ii, List.all_cons, List.all_nil, Bool.and_self, Bool.and_true, Bool.true_and, zip_t, zip_m, a_t, a_l, sub_l, isTs, isT, Option.map_some, List.length_cons, List.length_nil, List.lookup_nil, Nat.reduceAdd, Nat.reduceSub, Nat.reduceLT, Nat.zero_add, Bool.false_eq_true, Bool.true_eq_false, if_false, if_true, decide_eq_true_eq, Bool.not_true, Bool.not_false, ite_true, ite_false, reduceIte, Bool.not_eq_true', decide_eq_false_iff_not, Int.cast_ofNat_Int, Int.reduceEq, Int.reduceLT, Int.reduceLE, Int.reduceNeg, Int.reduceAdd, Int.reduceSub, Int.reduceMul, Int.reduceToNat, decide_true, decide_false, not_true, not_false, not_true_eq_false, not_false_eq_true, true_and, and_true, eq_self, reduceCtorEq, List.isEmpty_nil, List.isEmpty_cons, List.nil_append, List.cons_append, ↓E_smt, ↓E_fldx, ↓E_dct, ↓E_gix, ↓E_rsl,  ↓E_lck, ↓S_raisef, ↓S_trym, ↓S_aug, H_nil, H_cons0, H_cons1, gx_xf, gx_kd, okx_nil, okx_ref, xpl_ref, xfS_i, xfS_s, fldxS_p, gixS_s, vrp_some, vlo_some, vrC_some, idx_s, idx_d, slc_s, b_muls, int_s, ord_s, divmod_i, sorted_x, dict_r, sm_join, sm_part, sm_sw, sm_strip, sm_lstrip, sm_zfill, sm_split, sm_digit, sm_alnum, isstr_s, seq_s, rsl_l]
  exact h
theorem is_rat_ok (q : Rat) (h : Q (.bl true) S) : semF G T (k + 2) "_law_is_rat" [QD q] S Q E := by
  refine call_of t_law_is_rat rfl ?_
  simp -dsimp -implicitDefEqProofs only [ent, List.map_cons, List.map_nil, List.length_cons, List.length_nil, Nat.reduceAdd, Nat.reduceSub, Nat.zero_add, List.replicate, List.cons_append, List.nil_append, F_law_is_rat, QD]
  simp -dsimp -implicitDefEqProofs only [↓cov3, ↓cov2, ↓cov1, ↓E_var, ↓E_int, ↓E_bl, ↓E_non, ↓E_str, ↓E_glo, ↓E_tup, ↓E_lst, ↓E_bin, ↓E_neg, ↓E_cmp, ↓E_chn, ↓E_and, ↓E_or, ↓E_one, ↓E_not, ↓E_ifx, ↓E_idx, ↓E_slc, ↓E_call, ↓E_bi, ↓E_isi, ↓E_mth, ↓E_lc, ↓E_fld, ↓E_mcl, ↓E_mk, ↓Es_nil, ↓Es_cons, ↓O_no, ↓O_some, ↓Q_no, ↓Q_c, ↓C_and, ↓C_or, ↓C_one, ↓C_not, ↓C_cmp, ↓C_chn, ↓C_v, ↓I_seq, ↓I_rng1, ↓I_rng2, ↓I_rng3, ↓I_enu, ↓I_zip, ↓I_rev, ↓S_set, ↓S_asg, ↓S_par2, ↓S_sub, ↓S_expr, ↓S_ret, ↓S_retN, ↓S_ifs, ↓S_for, ↓S_brk, ↓S_cnt, ↓S_pass, ↓S_raise, ↓S_try, ↓S_tryas, ↓E_isx, ↓E_isxs, kW_nx, kW_rt, kW_bk, kW_ct, kW_ex, gx_sub, gx_cs, gx_PY, ↓S_never, ↓S_setf, ex_t, ex_f, ↓S_nil, ↓S_cons, ↓kN_nx, ↓kN_rt, ↓kN_bk, ↓kN_ct, ↓kN_ex, ↓kL_nx, ↓kL_rt, ↓kL_bk, ↓kL_ct, ↓kL_ex, ↓kX_nx, ↓kX_rt, ↓kX_bk, ↓kX_ct, ↓kX_ex, ↓kend_nx, ↓kend_rt, ↓kend_bk, ↓kend_ct, ↓kend_ex, vr_some, gt_0, gt_s, stn_0, stn_s, wip_0, wip_s, wips_0, wips_s, neg_i, isi_s, o_i, tru_non, tru_bl, tru_int, tru_tup, tru_rol, c_Eq, c_NotEq, c_Lt, c_LtE, c_Gt, c_GtE, cs_Eq, cs_NotEq, cb_Eq, cb_NotEq, c2_Eq, c2_NotEq, is_non, isnot_non, is_bl, isnot_bl, is_int, isnot_int, is_str, isnot_str, is_tup, isnot_tup, is_rol, isnot_rol, is_ref, isnot_ref, is_b, isnot_b, in_s, notin_s, b_add, b_sub, b_mul, b_fdiv, b_mod, b_pow, b_addt, b_adds, atI0, atI1, atI2, atI3, slc_t, slc_r, len_s, abs_i, str_i, int_i, int_b, min_i, max_i, lcm_i, gcd_i, seq_t, seq_r, r1_i, r2_i, r3_i, a_nm, a_nil, a_cons, vrl_some, vrn_some, put_lget, Option.isSome_some, tru_ref, b_addl, idx_t, idx_r, idx_l, slc_l, len_t, len_r, len_l, tuple_t, tuple_r, tuple_l, list_t, list_r, list_l, app_l, rev_l, pop_l, popat_l, mT_l, seq_l, enu_l, enu_t, fld_i, mcl_i, setf_i, vri_some, vrk_some, mk_0, mk_1, b_mull, zip_l, rev_i, rev_t, in_t, notin_t, fl_s, fl_i, fl_b, fl_n, inL_nil, inL_ss, inL_ii, List.all_cons, List.all_nil, Bool.and_self, Bool.and_true, Bool.true_and, zip_t, zip_m, a_t, a_l, sub_l, isTs, isT, Option.map_some, List.length_cons, List.length_nil, List.lookup_nil, Nat.reduceAdd, Nat.reduceSub, Nat.reduceLT, Nat.zero_add, Bool.false_eq_true, Bool.true_eq_false, if_false, if_true, decide_eq_true_eq, Bool.not_true, Bool.not_false, ite_true, ite_false, reduceIte, Bool.not_eq_true', decide_eq_false_iff_not, Int.cast_ofNat_Int, Int.reduceEq, Int.reduceLT, Int.reduceLE, Int.reduceNeg, Int.reduceAdd, Int.reduceSub, Int.reduceMul, Int.reduceToNat, decide_true, decide_false, not_true, not_false, not_true_eq_false, not_false_eq_true, true_and, and_true, eq_self, reduceCtorEq, List.isEmpty_nil, List.isEmpty_cons, List.nil_append, List.cons_append, ↓E_smt, ↓E_fldx, ↓E_dct, ↓E_gix, ↓E_rsl,  ↓E_lck, ↓S_raisef, ↓S_trym, ↓S_aug, H_nil, H_cons0, H_cons1, gx_xf, gx_kd, okx_nil, okx_ref, xpl_ref, xfS_i, xfS_s, fldxS_p, gixS_s, vrp_some, vlo_some, vrC_some, idx_s, idx_d, slc_s, b_muls, int_s, ord_s, divmod_i, sorted_x, dict_r, sm_join, sm_part, sm_sw, sm_strip, sm_lstrip, sm_zfill, sm_split, sm_digit, sm_alnum, isstr_s, seq_s, rsl_l]
  refine is_int_ok _ ?_
  simp -dsimp -implicitDefEqProofs only [↓cov3, ↓cov2, ↓cov1, ↓E_var, ↓E_int, ↓E_bl, ↓E_non, ↓E_str, ↓E_glo, ↓E_tup, ↓E_lst, ↓E_bin, ↓E_neg, ↓E_cmp, ↓E_chn, ↓E_and, ↓E_or, ↓E_one, ↓E_not, ↓E_ifx, ↓E_idx, ↓E_slc, ↓E_call, ↓E_bi, ↓E_isi, ↓E_mth, ↓E_lc, ↓E_fld, ↓E_mcl, ↓E_mk, ↓Es_nil, ↓Es_cons, ↓O_no, ↓O_some, ↓Q_no, ↓Q_c, ↓C_and, ↓C_or, ↓C_one, ↓C_not, ↓C_cmp, ↓C_chn, ↓C_v, ↓I_seq, ↓I_rng1, ↓I_rng2, ↓I_rng3, ↓I_enu, ↓I_zip, ↓I_rev, ↓S_set, ↓S_asg, ↓S_par2, ↓S_sub, ↓S_expr, ↓S_ret, ↓S_retN, ↓S_ifs, ↓S_for, ↓S_brk, ↓S_cnt, ↓S_pass, ↓S_raise, ↓S_try, ↓S_tryas, ↓E_isx, ↓E_isxs, kW_nx, kW_rt, kW_bk, kW_ct, kW_ex, gx_sub, gx_cs, gx_PY, ↓S_never, ↓S_setf, ex_t, ex_f, ↓S_nil, ↓S_cons, ↓kN_nx, ↓kN_rt, ↓kN_bk, ↓kN_ct, ↓kN_ex, ↓kL_nx, ↓kL_rt, ↓kL_bk, ↓kL_ct, ↓kL_ex, ↓kX_nx, ↓kX_rt, ↓kX_bk, ↓kX_ct, ↓kX_ex, ↓kend_nx, ↓kend_rt, ↓kend_bk, ↓kend_ct, ↓kend_ex, vr_some, gt_0, gt_s, stn_0, stn_s, wip_0, wip_s, wips_0, wips_s, neg_i, isi_s, o_i, tru_non, tru_bl, tru_int, tru_tup, tru_rol, c_Eq, c_NotEq, c_Lt, c_LtE, c_Gt, c_GtE, cs_Eq, cs_NotEq, cb_Eq, cb_NotEq, c2_Eq, c2_NotEq, is_non, isnot_non, is_bl, isnot_bl, is_int, isnot_int, is_str, isnot_str, is_tup, isnot_tup, is_rol, isnot_rol, is_ref, isnot_ref, is_b, isnot_b, in_s, notin_s, b_add, b_sub, b_mul, b_fdiv, b_mod, b_pow, b_addt, b_adds, atI0, atI1, atI2, atI3, slc_t, slc_r, len_s, abs_i, str_i, int_i, int_b, min_i, max_i, lcm_i, gcd_i, seq_t, seq_r, r1_i, r2_i, r3_i, a_nm, a_nil, a_cons, vrl_some, vrn_some, put_lget, Option.isSome_some, tru_ref, b_addl, idx_t, idx_r, idx_l, slc_l, len_t, len_r, len_l, tuple_t, tuple_r, tuple_l, list_t, list_r, list_l, app_l, rev_l, pop_l, popat_l, mT_l, seq_l, enu_l, enu_t, fld_i, mcl_i, setf_i, vri_some, vrk_some, mk_0, mk_1, b_mull, zip_l, rev_i, rev_t, in_t, notin_t, fl_s, fl_i, fl_b, fl_n, inL_nil, inL_ss, inL_ii, List.all_cons, List.all_nil, Bool.and_self, Bool.and_true, Bool.true_and, zip_t, zip_m, a_t, a_l, sub_l, isTs, isT, Option.map_some, List.length_cons, List.length_nil, List.lookup_nil, Nat.reduceAdd, Nat.reduceSub, Nat.reduceLT, Nat.zero_add, Bool.false_eq_true, Bool.true_eq_false, if_false, if_true, decide_eq_true_eq, Bool.not_true, Bool.not_false, ite_true, ite_false, reduceIte, Bool.not_eq_true', decide_eq_false_iff_not, Int.cast_ofNat_Int, Int.reduceEq, Int.reduceLT, Int.reduceLE, Int.reduceNeg, Int.reduceAdd, Int.reduceSub, Int.reduceMul, Int.reduceToNat, decide_true, decide_false, not_true, not_false, not_true_eq_false, not_false_eq_true, true_and, and_true, eq_self, reduceCtorEq, List.isEmpty_nil, List.isEmpty_cons, List.nil_append, List.cons_append, ↓E_smt, ↓E_fldx, ↓E_dct, ↓E_gix, ↓E_rsl,  ↓E_lck, ↓S_raisef, ↓S_trym, ↓S_aug, H_nil, H_cons0, H_cons1, gx_xf, gx_kd, okx_nil, okx_ref, xpl_ref, xfS_i, xfS_s, fldxS_p, gixS_s, vrp_some, vlo_some, vrC_some, idx_s, idx_d, slc_s, b_muls, int_s, ord_s, divmod_i, sorted_x, dict_r, sm_join, sm_part, sm_sw, sm_strip, sm_lstrip, sm_zfill, sm_split, sm_digit, sm_alnum, isstr_s, seq_s, rsl_l]
  refine is_int_ok _ ?_
  simp -dsimp -implicitDefEqProofs only [↓cov3, ↓cov2, ↓cov1, ↓E_var, ↓E_int, ↓E_bl, ↓E_non, ↓E_str, ↓E_glo, ↓E_tup, ↓E_lst, ↓E_bin, ↓E_neg, ↓E_cmp, ↓E_chn, ↓E_and, ↓E_or, ↓E_one, ↓E_not, ↓E_ifx, ↓E_idx, ↓E_slc, ↓E_call, ↓E_bi, ↓E_isi, ↓E_mth, ↓E_lc, ↓E_fld, ↓E_mcl, ↓E_mk, ↓Es_nil, ↓Es_cons, ↓O_no, ↓O_some, ↓Q_no, ↓Q_c, ↓C_and, ↓C_or, ↓C_one, ↓C_not, ↓C_cmp, ↓C_chn, ↓C_v, ↓I_seq, ↓I_rng1, ↓I_rng2, ↓I_rng3, ↓I_enu, ↓I_zip, ↓I_rev, ↓S_set, ↓S_asg, ↓S_par2, ↓S_sub, ↓S_expr, ↓S_ret, ↓S_retN, ↓S_ifs, ↓S_for, ↓S_brk, ↓S_cnt, ↓S_pass, ↓S_raise, ↓S_try, ↓S_tryas, ↓E_isx, ↓E_isxs, kW_nx, kW_rt, kW_bk, kW_ct, kW_ex, gx_sub, gx_cs, gx_PY, ↓S_never, ↓S_setf, ex_t, ex_f, ↓S_nil, ↓S_cons, ↓kN_nx, ↓kN_rt, ↓kN_bk, ↓kN_ct, ↓kN_ex, ↓kL_nx, ↓kL_rt, ↓kL_bk, ↓kL_ct, ↓kL_ex, ↓kX_nx, ↓kX_rt, ↓kX_bk, ↓kX_ct, ↓kX_ex, ↓kend_nx, ↓kend_rt, ↓kend_bk, ↓kend_ct, ↓kend_ex, vr_some, gt_0, gt_s, stn_0, stn_s, wip_0, wip_s, wips_0, wips_s, neg_i, isi_s, o_i, tru_non, tru_bl, tru_int, tru_tup, tru_rol, c_Eq, c_NotEq, c_Lt, c_LtE, c_Gt, c_GtE, cs_Eq, cs_NotEq, cb_Eq, cb_NotEq, c2_Eq, c2_NotEq, is_non, isnot_non, is_bl, isnot_bl, is_int, isnot_int, is_str, isnot_str, is_tup, isnot_tup, is_rol, isnot_rol, is_ref, isnot_ref, is_b, isnot_b, in_s, notin_s, b_add, b_sub, b_mul, b_fdiv, b_mod, b_pow, b_addt, b_adds, atI0, atI1, atI2, atI3, slc_t, slc_r, len_s, abs_i, str_i, int_i, int_b, min_i, max_i, lcm_i, gcd_i, seq_t, seq_r, r1_i, r2_i, r3_i, a_nm, a_nil, a_cons, vrl_some, vrn_some, put_lget, Option.isSome_some, tru_ref, b_addl, idx_t, idx_r, idx_l, slc_l, len_t, len_r, len_l, tuple_t, tuple_r, tuple_l, list_t, list_r, list_l, app_l, rev_l, pop_l, popat_l, mT_l, seq_l, enu_l, enu_t, fld_i, mcl_i, setf_i, vri_some, vrk_some, mk_0, mk_1, b_mull, zip_l, rev_i, rev_t, in_t, notin_t, fl_s, fl_i, fl_b, fl_n, inL_nil, inL_ss, inL_ii, List.all_cons, List.all_nil, Bool.and_self, Bool.and_true, Bool.true_and, zip_t, zip_m, a_t, a_l, sub_l, isTs, isT, Option.map_some, List.length_cons, List.length_nil, List.lookup_nil, Nat.reduceAdd, Nat.reduceSub, Nat.reduceLT, Nat.zero_add, Bool.false_eq_true, Bool.true_eq_false, if_false, if_true, decide_eq_true_eq, Bool.not_true, Bool.not_false, ite_true, ite_false, reduceIte, Bool.not_eq_true', decide_eq_false_iff_not, Int.cast_ofNat_Int, Int.reduceEq, Int.reduceLT, Int.reduceLE, Int.reduceNeg, Int.reduceAdd, Int.reduceSub, Int.reduceMul, Int.reduceToNat, decide_true, decide_false, not_true, not_false, not_true_eq_false, not_false_eq_true, true_and, and_true, eq_self, reduceCtorEq, List.isEmpty_nil, List.isEmpty_cons, List.nil_append, List.cons_append, ↓E_smt, ↓E_fldx, ↓E_dct, ↓E_gix, ↓E_rsl,  ↓E_lck, ↓S_raisef, ↓S_trym, ↓S_aug, H_nil, H_cons0, H_cons1, gx_xf, gx_kd, okx_nil, okx_ref, xpl_ref, xfS_i, xfS_s, fldxS_p, gixS_s, vrp_some, vlo_some, vrC_some, idx_s, idx_d, slc_s, b_muls, int_s, ord_s, divmod_i, sorted_x, dict_r, sm_join, sm_part, sm_sw, sm_strip, sm_lstrip, sm_zfill, sm_split, sm_digit, sm_alnum, isstr_s, seq_s, rsl_l]
  rw [if_pos (den_pos q)]
  refine gcd_ok t_law_gcd _ _ ?_
  simp -dsimp -implicitDefEqProofs only [↓cov3, ↓cov2, ↓cov1, ↓E_var, ↓E_int, ↓E_bl, ↓E_non, ↓E_str, ↓E_glo, ↓E_tup, ↓E_lst, ↓E_bin, ↓E_neg, ↓E_cmp, ↓E_chn, ↓E_and, ↓E_or, ↓E_one, ↓E_not, ↓E_ifx, ↓E_idx, ↓E_slc, ↓E_call, ↓E_bi, ↓E_isi, ↓E_mth, ↓E_lc, ↓E_fld, ↓E_mcl, ↓E_mk, ↓Es_nil, ↓Es_cons, ↓O_no, ↓O_some, ↓Q_no, ↓Q_c, ↓C_and, ↓C_or, ↓C_one, ↓C_not, ↓C_cmp, ↓C_chn, ↓C_v, ↓I_seq, ↓I_rng1, ↓I_rng2, ↓I_rng3, ↓I_enu, ↓I_zip, ↓I_rev, ↓S_set, ↓S_asg, ↓S_par2, ↓S_sub, ↓S_expr, ↓S_ret, ↓S_retN, ↓S_ifs, ↓S_for, ↓S_brk, ↓S_cnt, ↓S_pass, ↓S_raise, ↓S_try, ↓S_tryas, ↓E_isx, ↓E_isxs, kW_nx, kW_rt, kW_bk, kW_ct, kW_ex, gx_sub, gx_cs, gx_PY, ↓S_never, ↓S_setf, ex_t, ex_f, ↓S_nil, ↓S_cons, ↓kN_nx, ↓kN_rt, ↓kN_bk, ↓kN_ct, ↓kN_ex, ↓kL_nx, ↓kL_rt, ↓kL_bk, ↓kL_ct, ↓kL_ex, ↓kX_nx, ↓kX_rt, ↓kX_bk, ↓kX_ct, ↓kX_ex, ↓kend_nx, ↓kend_rt, ↓kend_bk, ↓kend_ct, ↓kend_ex, vr_some, gt_0, gt_s, stn_0, stn_s, wip_0, wip_s, wips_0, wips_s, neg_i, isi_s, o_i, tru_non, tru_bl, tru_int, tru_tup, tru_rol, c_Eq, c_NotEq, c_Lt, c_LtE, c_Gt, c_GtE, cs_Eq, cs_NotEq, cb_Eq, cb_NotEq, c2_Eq, c2_NotEq, is_non, isnot_non, is_bl, isnot_bl, is_int, isnot_int, is_str, isnot_str, is_tup, isnot_tup, is_rol, isnot_rol, is_ref, isnot_ref, is_b, isnot_b, in_s, notin_s, b_add, b_sub, b_mul, b_fdiv, b_mod, b_pow, b_addt, b_adds, atI0, atI1, atI2, atI3, slc_t, slc_r, len_s, abs_i, str_i, int_i, int_b, min_i, max_i, lcm_i, gcd_i, seq_t, seq_r, r1_i, r2_i, r3_i, a_nm, a_nil, a_cons, vrl_some, vrn_some, put_lget, Option.isSome_some, tru_ref, b_addl, idx_t, idx_r, idx_l, slc_l, len_t, len_r, len_l, tuple_t, tuple_r, tuple_l, list_t, list_r, list_l, app_l, rev_l, pop_l, popat_l, mT_l, seq_l, enu_l, enu_t, fld_i, mcl_i, setf_i, vri_some, vrk_some, mk_0, mk_1, b_mull, zip_l, rev_i, rev_t, in_t, notin_t, fl_s, fl_i, fl_b, fl_n, inL_nil, inL_ss, inL_ii, List.all_cons, List.all_nil, Bool.and_self, Bool.and_true, Bool.true_and, zip_t, zip_m, a_t, a_l, sub_l, isTs, isT, Option.map_some, List.length_cons, List.length_nil, List.lookup_nil, Nat.reduceAdd, Nat.reduceSub, Nat.reduceLT, Nat.zero_add, Bool.false_eq_true, Bool.true_eq_false, if_false, if_true, decide_eq_true_eq, Bool.not_true, Bool.not_false, ite_true, ite_false, reduceIte, Bool.not_eq_true', decide_eq_false_iff_not, Int.cast_ofNat_Int, Int.reduceEq, Int.reduceLT, Int.reduceLE, Int.reduceNeg, Int.reduceAdd, Int.reduceSub, Int.reduceMul, Int.reduceToNat, decide_true, decide_false, not_true, not_false, not_true_eq_false, not_false_eq_true, true_and, and_true, eq_self, reduceCtorEq, List.isEmpty_nil, List.isEmpty_cons, List.nil_append, List.cons_append, ↓E_smt, ↓E_fldx, ↓E_dct, ↓E_gix, ↓E_rsl,  ↓E_lck, ↓S_raisef, ↓S_trym, ↓S_aug, H_nil, H_cons0, H_cons1, gx_xf, gx_kd, okx_nil, okx_ref, xpl_ref, xfS_i, xfS_s, fldxS_p, gixS_s, vrp_some, vlo_some, vrC_some, idx_s, idx_d, slc_s, b_muls, int_s, ord_s, divmod_i, sorted_x, dict_r, sm_join, sm_part, sm_sw, sm_strip, sm_lstrip, sm_zfill, sm_split, sm_digit, sm_alnum, isstr_s, seq_s, rsl_l]
  rw [show Nat.gcd q.num.natAbs (q.den : Int).natAbs = 1 from q.reduced]
  exact h
theorem szt {n : Nat} (h : n ≤ 200000) : n ≤ sizeLine := by rw [sizeLine_eq]; omega
theorem szlt {n : Nat} (h : n ≤ 200000) : n < sizeLine := by rw [sizeLine_eq]; omega
theorem c_PIECE : G.cs "PIECE" = some (.int 50) := rfl
theorem c_DIG : G.cs "DIGITS" = some (.str (tx (lt "0123456789"))) := by rw [← ofs]; rfl
theorem l_e : ("" : Str) = tx [] := ofs ""
theorem l_m : ("-" : Str) = tx [45] := ofs "-"
theorem l_s : ("/" : Str) = tx [47] := ofs "/"
theorem l_0 : ("0" : Str) = tx [48] := ofs "0"
def fi (z : Int) : List Nat := if z < 0 then 45 :: dg z.natAbs else dg z.natAbs
theorem log_lt {n : Nat} (h : n < 2 ^ 1900) : n.log2 < 1920 := by
  by_cases h0 : n = 0
  · subst h0; decide
  · exact Nat.lt_of_lt_of_le ((Nat.log2_lt h0).mpr h) (by decide)
theorem rgc_ok {n : Nat} (h : n ≤ 1000) : RgC 0 (n : Int) 50 ((n + 49) / 50) := by
  have e : Builtin.Range.rangeSize 0 (n : Int) 50 = (((n + 49) / 50 : Nat) : Int) := by
    unfold Builtin.Range.rangeSize
    rw [if_pos (by decide)]
    split <;> omega
  refine ⟨by decide, by decide, ?_, e⟩
  unfold Builtin.Range.small
  rw [e]
  have f : ∀ z : Int, -1000000 ≤ z → z ≤ 1000000 → Builtin.Range.rangeFitsLong z = true := fun z h1 h2 => by
    unfold Builtin.Range.rangeFitsLong
    rw [Bool.and_eq_true, decide_eq_true_eq, decide_eq_true_eq]
    exact ⟨by omega, by omega⟩
  rw [if_pos (by decide), f 0 (by omega) (by omega), f n (by omega) (by omega), f 50 (by omega) (by omega), f _ (by omega) (by omega), f _ (by omega) (by omega)]
  cases ((((n + 49) / 50 : Nat) : Int) == 0) <;> rfl
theorem format_nat (n : Nat) (hn : n < 10 ^ 500) (h : ∀ S', Sub S S' → Q (.str (tx (dg n))) S') : semF G T (k + 1) "format_integer" [.int n] S Q E := by
  refine call_of t_format_integer rfl ?_
  simp -dsimp -implicitDefEqProofs only [ent, List.map_cons, List.map_nil, List.length_cons, List.length_nil, Nat.reduceAdd, Nat.reduceSub, Nat.zero_add, List.replicate, List.cons_append, List.nil_append, F_format_integer]
  simp -dsimp -implicitDefEqProofs only [↓cov3, ↓cov2, ↓cov1, ↓E_var, ↓E_int, ↓E_bl, ↓E_non, ↓E_str, ↓E_glo, ↓E_tup, ↓E_lst, ↓E_bin, ↓E_neg, ↓E_cmp, ↓E_chn, ↓E_and, ↓E_or, ↓E_one, ↓E_not, ↓E_ifx, ↓E_idx, ↓E_slc, ↓E_call, ↓E_bi, ↓E_isi, ↓E_mth, ↓E_lc, ↓E_fld, ↓E_mcl, ↓E_mk, ↓Es_nil, ↓Es_cons, ↓O_no, ↓O_some, ↓Q_no, ↓Q_c, ↓C_and, ↓C_or, ↓C_one, ↓C_not, ↓C_cmp, ↓C_chn, ↓C_v, ↓I_seq, ↓I_rng1, ↓I_rng2, ↓I_rng3, ↓I_enu, ↓I_zip, ↓I_rev, ↓S_set, ↓S_asg, ↓S_par2, ↓S_sub, ↓S_expr, ↓S_ret, ↓S_retN, ↓S_ifs, ↓S_for, ↓S_brk, ↓S_cnt, ↓S_pass, ↓S_raise, ↓S_try, ↓S_tryas, ↓E_isx, ↓E_isxs, kW_nx, kW_rt, kW_bk, kW_ct, kW_ex, gx_sub, gx_cs, gx_PY, ↓S_never, ↓S_setf, ex_t, ex_f, ↓S_nil, ↓S_cons, ↓kN_nx, ↓kN_rt, ↓kN_bk, ↓kN_ct, ↓kN_ex, ↓kL_nx, ↓kL_rt, ↓kL_bk, ↓kL_ct, ↓kL_ex, ↓kX_nx, ↓kX_rt, ↓kX_bk, ↓kX_ct, ↓kX_ex, ↓kend_nx, ↓kend_rt, ↓kend_bk, ↓kend_ct, ↓kend_ex, vr_some, gt_0, gt_s, stn_0, stn_s, wip_0, wip_s, wips_0, wips_s, neg_i, isi_s, o_i, tru_non, tru_bl, tru_int, tru_tup, tru_rol, c_Eq, c_NotEq, c_Lt, c_LtE, c_Gt, c_GtE, cs_Eq, cs_NotEq, cb_Eq, cb_NotEq, c2_Eq, c2_NotEq, is_non, isnot_non, is_bl, isnot_bl, is_int, isnot_int, is_str, isnot_str, is_tup, isnot_tup, is_rol, isnot_rol, is_ref, isnot_ref, is_b, isnot_b, in_s, notin_s, b_add, b_sub, b_mul, b_fdiv, b_mod, b_pow, b_addt, b_adds, atI0, atI1, atI2, atI3, slc_t, slc_r, len_s, abs_i, str_i, int_i, int_b, min_i, max_i, lcm_i, gcd_i, seq_t, seq_r, r1_i, r2_i, r3_i, a_nm, a_nil, a_cons, vrl_some, vrn_some, put_lget, Option.isSome_some, tru_ref, b_addl, idx_t, idx_r, idx_l, slc_l, len_t, len_r, len_l, tuple_t, tuple_r, tuple_l, list_t, list_r, list_l, app_l, rev_l, pop_l, popat_l, mT_l, seq_l, enu_l, enu_t, fld_i, mcl_i, setf_i, vri_some, vrk_some, mk_0, mk_1, b_mull, zip_l, rev_i, rev_t, in_t, notin_t, fl_s, fl_i, fl_b, fl_n, inL_nil, inL_ss, inL_ii, List.all_cons, List.all_nil, Bool.and_self, Bool.and_true, Bool.true_and, zip_t, zip_m, a_t, a_l, sub_l, isTs, isT, Option.map_some, List.length_cons, List.length_nil, List.lookup_nil, Nat.reduceAdd, Nat.reduceSub, Nat.reduceLT, Nat.zero_add, Bool.false_eq_true, Bool.true_eq_false, if_false, if_true, decide_eq_true_eq, Bool.not_true, Bool.not_false, ite_true, ite_false, reduceIte, Bool.not_eq_true', decide_eq_false_iff_not, Int.cast_ofNat_Int, Int.reduceEq, Int.reduceLT, Int.reduceLE, Int.reduceNeg, Int.reduceAdd, Int.reduceSub, Int.reduceMul, Int.reduceToNat, decide_true, decide_false, not_true, not_false, not_true_eq_false, not_false_eq_true, true_and, and_true, eq_self, reduceCtorEq, List.isEmpty_nil, List.isEmpty_cons, List.nil_append, List.cons_append, ↓E_smt, ↓E_fldx, ↓E_dct, ↓E_gix, ↓E_rsl,  ↓E_lck, ↓S_raisef, ↓S_trym, ↓S_aug, H_nil, H_cons0, H_cons1, gx_xf, gx_kd, okx_nil, okx_ref, xpl_ref, xfS_i, xfS_s, fldxS_p, gixS_s, vrp_some, vlo_some, vrC_some, idx_s, idx_d, slc_s, b_muls, int_s, ord_s, divmod_i, sorted_x, dict_r, sm_join, sm_part, sm_sw, sm_strip, sm_lstrip, sm_zfill, sm_split, sm_digit, sm_alnum, isstr_s, seq_s, rsl_l]
  rw [if_neg (by omega)]
  intro p np
  have hp10 : (10 : Nat) ^ 50 = 100000000000000000000000000000000000000000000000000 := by decide +kernel
  refine whl_by (α := Nat × Option D) (fun x => [some (.int (x.1 : Nat)), some (.ref p), x.2]) (fun x S' => ∃ zs, S' p = some (.lst ((zs.map tx).map D.str)) ∧ dg n = dg x.1 ++ zs.reverse.flatten ∧ zs.length ≤ zs.reverse.flatten.length ∧ Sub S S' ∧ x.1 ≤ n) (fun x => x.1) (n, none) rfl
    ⟨[], put_same, by simp, Nat.zero_le _, Sub.new np, Nat.le_refl _⟩ ?_
  rintro ⟨m, z⟩ S' N ⟨zs, hz, hd, hzl, hs, hmn⟩ hN
  have hlen : (dg n).length ≤ 500 := dg_len hn (by decide)
  have hfl : zs.reverse.flatten.length ≤ 500 := by
    rw [hd, List.length_append] at hlen
    omega
  have h50 : CPow 10 50 := ⟨by decide, by decide, by decide⟩
  simp -dsimp -implicitDefEqProofs only [↓cov3, ↓cov2, ↓cov1, ↓E_var, ↓E_int, ↓E_bl, ↓E_non, ↓E_str, ↓E_glo, ↓E_tup, ↓E_lst, ↓E_bin, ↓E_neg, ↓E_cmp, ↓E_chn, ↓E_and, ↓E_or, ↓E_one, ↓E_not, ↓E_ifx, ↓E_idx, ↓E_slc, ↓E_call, ↓E_bi, ↓E_isi, ↓E_mth, ↓E_lc, ↓E_fld, ↓E_mcl, ↓E_mk, ↓Es_nil, ↓Es_cons, ↓O_no, ↓O_some, ↓Q_no, ↓Q_c, ↓C_and, ↓C_or, ↓C_one, ↓C_not, ↓C_cmp, ↓C_chn, ↓C_v, ↓I_seq, ↓I_rng1, ↓I_rng2, ↓I_rng3, ↓I_enu, ↓I_zip, ↓I_rev, ↓S_set, ↓S_asg, ↓S_par2, ↓S_sub, ↓S_expr, ↓S_ret, ↓S_retN, ↓S_ifs, ↓S_for, ↓S_brk, ↓S_cnt, ↓S_pass, ↓S_raise, ↓S_try, ↓S_tryas, ↓E_isx, ↓E_isxs, kW_nx, kW_rt, kW_bk, kW_ct, kW_ex, gx_sub, gx_cs, gx_PY, ↓S_never, ↓S_setf, ex_t, ex_f, ↓S_nil, ↓S_cons, ↓kN_nx, ↓kN_rt, ↓kN_bk, ↓kN_ct, ↓kN_ex, ↓kL_nx, ↓kL_rt, ↓kL_bk, ↓kL_ct, ↓kL_ex, ↓kX_nx, ↓kX_rt, ↓kX_bk, ↓kX_ct, ↓kX_ex, ↓kend_nx, ↓kend_rt, ↓kend_bk, ↓kend_ct, ↓kend_ex, vr_some, gt_0, gt_s, stn_0, stn_s, wip_0, wip_s, wips_0, wips_s, neg_i, isi_s, o_i, tru_non, tru_bl, tru_int, tru_tup, tru_rol, c_Eq, c_NotEq, c_Lt, c_LtE, c_Gt, c_GtE, cs_Eq, cs_NotEq, cb_Eq, cb_NotEq, c2_Eq, c2_NotEq, is_non, isnot_non, is_bl, isnot_bl, is_int, isnot_int, is_str, isnot_str, is_tup, isnot_tup, is_rol, isnot_rol, is_ref, isnot_ref, is_b, isnot_b, in_s, notin_s, b_add, b_sub, b_mul, b_fdiv, b_mod, b_pow, b_addt, b_adds, atI0, atI1, atI2, atI3, slc_t, slc_r, len_s, abs_i, str_i, int_i, int_b, min_i, max_i, lcm_i, gcd_i, seq_t, seq_r, r1_i, r2_i, r3_i, a_nm, a_nil, a_cons, vrl_some, vrn_some, put_lget, Option.isSome_some, tru_ref, b_addl, idx_t, idx_r, idx_l, slc_l, len_t, len_r, len_l, tuple_t, tuple_r, tuple_l, list_t, list_r, list_l, app_l, rev_l, pop_l, popat_l, mT_l, seq_l, enu_l, enu_t, fld_i, mcl_i, setf_i, vri_some, vrk_some, mk_0, mk_1, b_mull, zip_l, rev_i, rev_t, in_t, notin_t, fl_s, fl_i, fl_b, fl_n, inL_nil, inL_ss, inL_ii, List.all_cons, List.all_nil, Bool.and_self, Bool.and_true, Bool.true_and, zip_t, zip_m, a_t, a_l, sub_l, isTs, isT, Option.map_some, List.length_cons, List.length_nil, List.lookup_nil, Nat.reduceAdd, Nat.reduceSub, Nat.reduceLT, Nat.zero_add, Bool.false_eq_true, Bool.true_eq_false, if_false, if_true, decide_eq_true_eq, Bool.not_true, Bool.not_false, ite_true, ite_false, reduceIte, Bool.not_eq_true', decide_eq_false_iff_not, Int.cast_ofNat_Int, Int.reduceEq, Int.reduceLT, Int.reduceLE, Int.reduceNeg, Int.reduceAdd, Int.reduceSub, Int.reduceMul, Int.reduceToNat, decide_true, decide_false, not_true, not_false, not_true_eq_false, not_false_eq_true, true_and, and_true, eq_self, reduceCtorEq, List.isEmpty_nil, List.isEmpty_cons, List.nil_append, List.cons_append, ↓E_smt, ↓E_fldx, ↓E_dct, ↓E_gix, ↓E_rsl,  ↓E_lck, ↓S_raisef, ↓S_trym, ↓S_aug, H_nil, H_cons0, H_cons1, gx_xf, gx_kd, okx_nil, okx_ref, xpl_ref, xfS_i, xfS_s, fldxS_p, gixS_s, vrp_some, vlo_some, vrC_some, idx_s, idx_d, slc_s, b_muls, int_s, ord_s, divmod_i, sorted_x, dict_r, sm_join, sm_part, sm_sw, sm_strip, sm_lstrip, sm_zfill, sm_split, sm_digit, sm_alnum, isstr_s, seq_s, rsl_l, lget_of hz, c_PIECE, List.length_map]
  refine ⟨h50, ite2 (fun hlt => ⟨h50, ?_⟩) fun hge => ?_⟩
  · have c1 : (10 : Int) ^ 50 = ((10 ^ 50 : Nat) : Int) := by decide +kernel
    rw [c1] at hlt ⊢
    have c2 : 10 ^ 50 ≤ m := Int.ofNat_le.mp hlt
    have e1 : ((m : Int) % ((10 ^ 50 : Nat) : Int)) = ((m % 10 ^ 50 : Nat) : Int) := rfl
    have e2 : ((m : Int) / ((10 ^ 50 : Nat) : Int)) = ((m / 10 ^ 50 : Nat) : Int) := rfl
    rw [e1, e2, str_nat]
    have hmod : m % 10 ^ 50 < 10 ^ 50 := Nat.mod_lt _ (Nat.pow_pos (by decide))
    refine ⟨⟨by rw [← c1]; decide +kernel, PyProof.noPylong_of_log2 (by decide +kernel)⟩, log_lt (Nat.lt_of_lt_of_le hmod (by decide +kernel)), by decide +kernel, szlt (by omega), ?_⟩
    have e3 : Txt.zfill (tx (dg (m % 10 ^ 50))) 50 = tx (pz 50 (m % 10 ^ 50)) := by
      rw [show (50 : Int) = ((50 : Nat) : Int) from rfl, zf_tx (dg_all _) (dg_ne _) (dg_len hmod (by decide)), pz_eq 50 _ hmod (by decide)]
    rw [e3]
    refine hN (m / 10 ^ 50, _) _ ⟨zs ++ [pz 50 (m % 10 ^ 50)], ?_, ?_, ?_, hs.write np, ?_⟩ ?_
    · rw [put_same]
      simp
    · rw [hd, dg_split 50 m c2, List.reverse_append, List.append_assoc]
      rfl
    · rw [List.reverse_append, List.length_append]
      show zs.length + 1 ≤ (pz 50 (m % 10 ^ 50) ++ zs.reverse.flatten).length
      rw [List.length_append, pz_len]
      omega
    · exact Nat.le_trans (Nat.div_le_self _ _) hmn
    · exact Nat.div_lt_self (Nat.lt_of_lt_of_le (Nat.pow_pos (by decide)) c2) (by decide +kernel)
  · have c1 : (10 : Int) ^ 50 = ((10 ^ 50 : Nat) : Int) := by decide +kernel
    rw [c1] at hge
    have c2 : m < 10 ^ 50 := Nat.lt_of_not_le fun h => hge (Int.ofNat_le.mpr h)
    rw [str_nat]
    refine ⟨log_lt (Nat.lt_of_lt_of_le c2 (by decide +kernel)), szlt (by omega), fun c nc => ?_⟩
    have hs2 : Sub S (put S' p (.lst ((zs.map tx).map D.str ++ [D.str (tx (dg m))]))) := hs.write np
    generalize put S' p (.lst ((zs.map tx).map D.str ++ [D.str (tx (dg m))])) = S2 at *
    have e : (((zs.map tx).map D.str) ++ [D.str (tx (dg m))]).reverse = ((dg m :: zs.reverse).map tx).map D.str := by simp
    rw [e, l_e]
    refine ⟨_, lget_of put_same, ?_, ?_⟩
    · rw [sum_tx, List.flatten_cons, ← hd]
      show _ + _ * 0 ≤ _
      omega
    · rw [LA.join_nil, List.flatten_cons, ← hd]
      exact h _ (hs2.trans (Sub.new nc))
theorem format_ok (z : Int) (hn : z.natAbs < 10 ^ 500) (h : ∀ S', Sub S S' → Q (.str (tx (fi z))) S') : semF G T (k + 2) "format_integer" [.int z] S Q E := by
  by_cases hz : z < 0
  · refine call_of t_format_integer rfl ?_
    simp -dsimp -implicitDefEqProofs only [ent, List.map_cons, List.map_nil, List.length_cons, List.length_nil, Nat.reduceAdd, Nat.reduceSub, Nat.zero_add, List.replicate, List.cons_append, List.nil_append, F_format_integer]
    simp -dsimp -implicitDefEqProofs only [↓cov3, ↓cov2, ↓cov1, ↓E_var, ↓E_int, ↓E_bl, ↓E_non, ↓E_str, ↓E_glo, ↓E_tup, ↓E_lst, ↓E_bin, ↓E_neg, ↓E_cmp, ↓E_chn, ↓E_and, ↓E_or, ↓E_one, ↓E_not, ↓E_ifx, ↓E_idx, ↓E_slc, ↓E_call, ↓E_bi, ↓E_isi, ↓E_mth, ↓E_lc, ↓E_fld, ↓E_mcl, ↓E_mk, ↓Es_nil, ↓Es_cons, ↓O_no, ↓O_some, ↓Q_no, ↓Q_c, ↓C_and, ↓C_or, ↓C_one, ↓C_not, ↓C_cmp, ↓C_chn, ↓C_v, ↓I_seq, ↓I_rng1, ↓I_rng2, ↓I_rng3, ↓I_enu, ↓I_zip, ↓I_rev, ↓S_set, ↓S_asg, ↓S_par2, ↓S_sub, ↓S_expr, ↓S_ret, ↓S_retN, ↓S_ifs, ↓S_for, ↓S_brk, ↓S_cnt, ↓S_pass, ↓S_raise, ↓S_try, ↓S_tryas, ↓E_isx, ↓E_isxs, kW_nx, kW_rt, kW_bk, kW_ct, kW_ex, gx_sub, gx_cs, gx_PY, ↓S_never, ↓S_setf, ex_t, ex_f, ↓S_nil, ↓S_cons, ↓kN_nx, ↓kN_rt, ↓kN_bk, ↓kN_ct, ↓kN_ex, ↓kL_nx, ↓kL_rt, ↓kL_bk, ↓kL_ct, ↓kL_ex, ↓kX_nx, ↓kX_rt, ↓kX_bk, ↓kX_ct, ↓kX_ex, ↓kend_nx, ↓kend_rt, ↓kend_bk, ↓kend_ct, ↓kend_ex, vr_some, gt_0, gt_s, stn_0, stn_s, wip_0, wip_s, wips_0, wips_s, neg_i, isi_s, o_i, tru_non, tru_bl, tru_int, tru_tup, tru_rol, c_Eq, c_NotEq, c_Lt, c_LtE, c_Gt, c_GtE, cs_Eq, cs_NotEq, cb_Eq, cb_NotEq, c2_Eq, c2_NotEq, is_non, isnot_non, is_bl, isnot_bl, is_int, isnot_int, is_str, isnot_str, is_tup, isnot_tup, is_rol, isnot_rol, is_ref, isnot_ref, is_b, isnot_b, in_s, notin_s, b_add, b_sub, b_mul, b_fdiv, b_mod, b_pow, b_addt, b_adds, atI0, atI1, atI2, atI3, slc_t, slc_r, len_s, abs_i, str_i, int_i, int_b, min_i, max_i, lcm_i, gcd_i, seq_t, seq_r, r1_i, r2_i, r3_i, a_nm, a_nil, a_cons, vrl_some, vrn_some, put_lget, Option.isSome_some, tru_ref, b_addl, idx_t, idx_r, idx_l, slc_l, len_t, len_r, len_l, tuple_t, tuple_r, tuple_l, list_t, list_r, list_l, app_l, rev_l, pop_l, popat_l, mT_l, seq_l, enu_l, enu_t, fld_i, mcl_i, setf_i, vri_some, vrk_some, mk_0, mk_1, b_mull, zip_l, rev_i, rev_t, in_t, notin_t, fl_s, fl_i, fl_b, fl_n, inL_nil, inL_ss, inL_ii, List.all_cons, List.all_nil, Bool.and_self, Bool.and_true, Bool.true_and, zip_t, zip_m, a_t, a_l, sub_l, isTs, isT, Option.map_some, List.length_cons, List.length_nil, List.lookup_nil, Nat.reduceAdd, Nat.reduceSub, Nat.reduceLT, Nat.zero_add, Bool.false_eq_true, Bool.true_eq_false, if_false, if_true, decide_eq_true_eq, Bool.not_true, Bool.not_false, ite_true, ite_false, reduceIte, Bool.not_eq_true', decide_eq_false_iff_not, Int.cast_ofNat_Int, Int.reduceEq, Int.reduceLT, Int.reduceLE, Int.reduceNeg, Int.reduceAdd, Int.reduceSub, Int.reduceMul, Int.reduceToNat, decide_true, decide_false, not_true, not_false, not_true_eq_false, not_false_eq_true, true_and, and_true, eq_self, reduceCtorEq, List.isEmpty_nil, List.isEmpty_cons, List.nil_append, List.cons_append, ↓E_smt, ↓E_fldx, ↓E_dct, ↓E_gix, ↓E_rsl,  ↓E_lck, ↓S_raisef, ↓S_trym, ↓S_aug, H_nil, H_cons0, H_cons1, gx_xf, gx_kd, okx_nil, okx_ref, xpl_ref, xfS_i, xfS_s, fldxS_p, gixS_s, vrp_some, vlo_some, vrC_some, idx_s, idx_d, slc_s, b_muls, int_s, ord_s, divmod_i, sorted_x, dict_r, sm_join, sm_part, sm_sw, sm_strip, sm_lstrip, sm_zfill, sm_split, sm_digit, sm_alnum, isstr_s, seq_s, rsl_l]
    rw [if_pos hz, show -z = ((z.natAbs : Nat) : Int) by omega]
    refine format_nat z.natAbs hn fun S' hs => ?_
    simp -dsimp -implicitDefEqProofs only [↓cov3, ↓cov2, ↓cov1, ↓E_var, ↓E_int, ↓E_bl, ↓E_non, ↓E_str, ↓E_glo, ↓E_tup, ↓E_lst, ↓E_bin, ↓E_neg, ↓E_cmp, ↓E_chn, ↓E_and, ↓E_or, ↓E_one, ↓E_not, ↓E_ifx, ↓E_idx, ↓E_slc, ↓E_call, ↓E_bi, ↓E_isi, ↓E_mth, ↓E_lc, ↓E_fld, ↓E_mcl, ↓E_mk, ↓Es_nil, ↓Es_cons, ↓O_no, ↓O_some, ↓Q_no, ↓Q_c, ↓C_and, ↓C_or, ↓C_one, ↓C_not, ↓C_cmp, ↓C_chn, ↓C_v, ↓I_seq, ↓I_rng1, ↓I_rng2, ↓I_rng3, ↓I_enu, ↓I_zip, ↓I_rev, ↓S_set, ↓S_asg, ↓S_par2, ↓S_sub, ↓S_expr, ↓S_ret, ↓S_retN, ↓S_ifs, ↓S_for, ↓S_brk, ↓S_cnt, ↓S_pass, ↓S_raise, ↓S_try, ↓S_tryas, ↓E_isx, ↓E_isxs, kW_nx, kW_rt, kW_bk, kW_ct, kW_ex, gx_sub, gx_cs, gx_PY, ↓S_never, ↓S_setf, ex_t, ex_f, ↓S_nil, ↓S_cons, ↓kN_nx, ↓kN_rt, ↓kN_bk, ↓kN_ct, ↓kN_ex, ↓kL_nx, ↓kL_rt, ↓kL_bk, ↓kL_ct, ↓kL_ex, ↓kX_nx, ↓kX_rt, ↓kX_bk, ↓kX_ct, ↓kX_ex, ↓kend_nx, ↓kend_rt, ↓kend_bk, ↓kend_ct, ↓kend_ex, vr_some, gt_0, gt_s, stn_0, stn_s, wip_0, wip_s, wips_0, wips_s, neg_i, isi_s, o_i, tru_non, tru_bl, tru_int, tru_tup, tru_rol, c_Eq, c_NotEq, c_Lt, c_LtE, c_Gt, c_GtE, cs_Eq, cs_NotEq, cb_Eq, cb_NotEq, c2_Eq, c2_NotEq, is_non, isnot_non, is_bl, isnot_bl, is_int, isnot_int, is_str, isnot_str, is_tup, isnot_tup, is_rol, isnot_rol, is_ref, isnot_ref, is_b, isnot_b, in_s, notin_s, b_add, b_sub, b_mul, b_fdiv, b_mod, b_pow, b_addt, b_adds, atI0, atI1, atI2, atI3, slc_t, slc_r, len_s, abs_i, str_i, int_i, int_b, min_i, max_i, lcm_i, gcd_i, seq_t, seq_r, r1_i, r2_i, r3_i, a_nm, a_nil, a_cons, vrl_some, vrn_some, put_lget, Option.isSome_some, tru_ref, b_addl, idx_t, idx_r, idx_l, slc_l, len_t, len_r, len_l, tuple_t, tuple_r, tuple_l, list_t, list_r, list_l, app_l, rev_l, pop_l, popat_l, mT_l, seq_l, enu_l, enu_t, fld_i, mcl_i, setf_i, vri_some, vrk_some, mk_0, mk_1, b_mull, zip_l, rev_i, rev_t, in_t, notin_t, fl_s, fl_i, fl_b, fl_n, inL_nil, inL_ss, inL_ii, List.all_cons, List.all_nil, Bool.and_self, Bool.and_true, Bool.true_and, zip_t, zip_m, a_t, a_l, sub_l, isTs, isT, Option.map_some, List.length_cons, List.length_nil, List.lookup_nil, Nat.reduceAdd, Nat.reduceSub, Nat.reduceLT, Nat.zero_add, Bool.false_eq_true, Bool.true_eq_false, if_false, if_true, decide_eq_true_eq, Bool.not_true, Bool.not_false, ite_true, ite_false, reduceIte, Bool.not_eq_true', decide_eq_false_iff_not, Int.cast_ofNat_Int, Int.reduceEq, Int.reduceLT, Int.reduceLE, Int.reduceNeg, Int.reduceAdd, Int.reduceSub, Int.reduceMul, Int.reduceToNat, decide_true, decide_false, not_true, not_false, not_true_eq_false, not_false_eq_true, true_and, and_true, eq_self, reduceCtorEq, List.isEmpty_nil, List.isEmpty_cons, List.nil_append, List.cons_append, ↓E_smt, ↓E_fldx, ↓E_dct, ↓E_gix, ↓E_rsl,  ↓E_lck, ↓S_raisef, ↓S_trym, ↓S_aug, H_nil, H_cons0, H_cons1, gx_xf, gx_kd, okx_nil, okx_ref, xpl_ref, xfS_i, xfS_s, fldxS_p, gixS_s, vrp_some, vlo_some, vrC_some, idx_s, idx_d, slc_s, b_muls, int_s, ord_s, divmod_i, sorted_x, dict_r, sm_join, sm_part, sm_sw, sm_strip, sm_lstrip, sm_zfill, sm_split, sm_digit, sm_alnum, isstr_s, seq_s, rsl_l, l_m, app_tx, len_tx]
    have := dg_len hn (by decide)
    refine ⟨szt (by show 1 + _ ≤ _; omega), ?_⟩
    have h2 := h S' hs
    unfold fi at h2
    rw [if_pos hz] at h2
    exact h2
  · have e : z = ((z.natAbs : Nat) : Int) := by omega
    unfold fi at h
    rw [if_neg hz] at h
    rw [e]
    exact format_nat (k := k + 1) z.natAbs hn h
theorem digits_ok (l : List Nat) (hl : l.length ≤ 640) (hd : AllDigits l) (h : Q (.int (digitsVal l)) S) : semF G T (k + 1) "parse_digits" [.str (tx l)] S Q E := by
  refine call_of t_parse_digits rfl ?_
  simp -dsimp -implicitDefEqProofs only [ent, List.map_cons, List.map_nil, List.length_cons, List.length_nil, Nat.reduceAdd, Nat.reduceSub, Nat.zero_add, List.replicate, List.cons_append, List.nil_append, F_parse_digits]
  simp -dsimp -implicitDefEqProofs only [↓cov3, ↓cov2, ↓cov1, ↓E_var, ↓E_int, ↓E_bl, ↓E_non, ↓E_str, ↓E_glo, ↓E_tup, ↓E_lst, ↓E_bin, ↓E_neg, ↓E_cmp, ↓E_chn, ↓E_and, ↓E_or, ↓E_one, ↓E_not, ↓E_ifx, ↓E_idx, ↓E_slc, ↓E_call, ↓E_bi, ↓E_isi, ↓E_mth, ↓E_lc, ↓E_fld, ↓E_mcl, ↓E_mk, ↓Es_nil, ↓Es_cons, ↓O_no, ↓O_some, ↓Q_no, ↓Q_c, ↓C_and, ↓C_or, ↓C_one, ↓C_not, ↓C_cmp, ↓C_chn, ↓C_v, ↓I_seq, ↓I_rng1, ↓I_rng2, ↓I_rng3, ↓I_enu, ↓I_zip, ↓I_rev, ↓S_set, ↓S_asg, ↓S_par2, ↓S_sub, ↓S_expr, ↓S_ret, ↓S_retN, ↓S_ifs, ↓S_for, ↓S_brk, ↓S_cnt, ↓S_pass, ↓S_raise, ↓S_try, ↓S_tryas, ↓E_isx, ↓E_isxs, kW_nx, kW_rt, kW_bk, kW_ct, kW_ex, gx_sub, gx_cs, gx_PY, ↓S_never, ↓S_setf, ex_t, ex_f, ↓S_nil, ↓S_cons, ↓kN_nx, ↓kN_rt, ↓kN_bk, ↓kN_ct, ↓kN_ex, ↓kL_nx, ↓kL_rt, ↓kL_bk, ↓kL_ct, ↓kL_ex, ↓kX_nx, ↓kX_rt, ↓kX_bk, ↓kX_ct, ↓kX_ex, ↓kend_nx, ↓kend_rt, ↓kend_bk, ↓kend_ct, ↓kend_ex, vr_some, gt_0, gt_s, stn_0, stn_s, wip_0, wip_s, wips_0, wips_s, neg_i, isi_s, o_i, tru_non, tru_bl, tru_int, tru_tup, tru_rol, c_Eq, c_NotEq, c_Lt, c_LtE, c_Gt, c_GtE, cs_Eq, cs_NotEq, cb_Eq, cb_NotEq, c2_Eq, c2_NotEq, is_non, isnot_non, is_bl, isnot_bl, is_int, isnot_int, is_str, isnot_str, is_tup, isnot_tup, is_rol, isnot_rol, is_ref, isnot_ref, is_b, isnot_b, in_s, notin_s, b_add, b_sub, b_mul, b_fdiv, b_mod, b_pow, b_addt, b_adds, atI0, atI1, atI2, atI3, slc_t, slc_r, len_s, abs_i, str_i, int_i, int_b, min_i, max_i, lcm_i, gcd_i, seq_t, seq_r, r1_i, r2_i, r3_i, a_nm, a_nil, a_cons, vrl_some, vrn_some, put_lget, Option.isSome_some, tru_ref, b_addl, idx_t, idx_r, idx_l, slc_l, len_t, len_r, len_l, tuple_t, tuple_r, tuple_l, list_t, list_r, list_l, app_l, rev_l, pop_l, popat_l, mT_l, seq_l, enu_l, enu_t, fld_i, mcl_i, setf_i, vri_some, vrk_some, mk_0, mk_1, b_mull, zip_l, rev_i, rev_t, in_t, notin_t, fl_s, fl_i, fl_b, fl_n, inL_nil, inL_ss, inL_ii, List.all_cons, List.all_nil, Bool.and_self, Bool.and_true, Bool.true_and, zip_t, zip_m, a_t, a_l, sub_l, isTs, isT, Option.map_some, List.length_cons, List.length_nil, List.lookup_nil, Nat.reduceAdd, Nat.reduceSub, Nat.reduceLT, Nat.zero_add, Bool.false_eq_true, Bool.true_eq_false, if_false, if_true, decide_eq_true_eq, Bool.not_true, Bool.not_false, ite_true, ite_false, reduceIte, Bool.not_eq_true', decide_eq_false_iff_not, Int.cast_ofNat_Int, Int.reduceEq, Int.reduceLT, Int.reduceLE, Int.reduceNeg, Int.reduceAdd, Int.reduceSub, Int.reduceMul, Int.reduceToNat, decide_true, decide_false, not_true, not_false, not_true_eq_false, not_false_eq_true, true_and, and_true, eq_self, reduceCtorEq, List.isEmpty_nil, List.isEmpty_cons, List.nil_append, List.cons_append, ↓E_smt, ↓E_fldx, ↓E_dct, ↓E_gix, ↓E_rsl,  ↓E_lck, ↓S_raisef, ↓S_trym, ↓S_aug, H_nil, H_cons0, H_cons1, gx_xf, gx_kd, okx_nil, okx_ref, xpl_ref, xfS_i, xfS_s, fldxS_p, gixS_s, vrp_some, vlo_some, vrC_some, idx_s, idx_d, slc_s, b_muls, int_s, ord_s, divmod_i, sorted_x, dict_r, sm_join, sm_part, sm_sw, sm_strip, sm_lstrip, sm_zfill, sm_split, sm_digit, sm_alnum, isstr_s, seq_s, rsl_l, c_PIECE, len_tx]
  refine ⟨szt (by omega), (l.length + 49) / 50, rgc_ok (by omega), ?_⟩
  have hall : ∀ x : List Nat, (∀ c ∈ x, c ∈ l) → AllDigits x := fun x hx c hc => hd c (hx c hc)
  refine for_rngc (fun i σ S' => S' = S ∧ ∃ z2 z3 z4, σ = [some (.str (tx l)), some (.int (digitsVal (l.take (50 * i)))), z2, z3, z4]) ⟨rfl, _, _, _, by rw [Nat.mul_zero, List.take_zero, dv_nil]; rfl⟩ ?_ ?_
  · rintro i σ S' N hi ⟨rfl, z2, z3, z4, rfl⟩ hN
    have hi2 : 50 * i < l.length := by omega
    have ec : ∀ v : Int, v = (0 : Int) + (i : Nat) * 50 → cutS (tx l) (some v) (some (v + 50)) = tx ((l.drop (50 * i)).take 50) := by
      rintro v rfl
      rw [show (0 : Int) + (i : Nat) * 50 = ((50 * i : Nat) : Int) by omega, show (((50 * i : Nat) : Int) + 50) = ((50 * i + 50 : Nat) : Int) by omega]
      unfold cutS
      rw [HT.sIx_nat, HT.sIx_nat, len_tx]
      show tx ((l.drop (min (50 * i) l.length)).take (min (50 * i + 50) l.length - min (50 * i) l.length)) = _
      rw [Nat.min_eq_left (Nat.le_of_lt hi2)]
      refine tx_inj.mpr ?_
      rw [List.take_eq_take_iff, List.length_drop]
      omega
    simp -dsimp -implicitDefEqProofs only [↓cov3, ↓cov2, ↓cov1, ↓E_var, ↓E_int, ↓E_bl, ↓E_non, ↓E_str, ↓E_glo, ↓E_tup, ↓E_lst, ↓E_bin, ↓E_neg, ↓E_cmp, ↓E_chn, ↓E_and, ↓E_or, ↓E_one, ↓E_not, ↓E_ifx, ↓E_idx, ↓E_slc, ↓E_call, ↓E_bi, ↓E_isi, ↓E_mth, ↓E_lc, ↓E_fld, ↓E_mcl, ↓E_mk, ↓Es_nil, ↓Es_cons, ↓O_no, ↓O_some, ↓Q_no, ↓Q_c, ↓C_and, ↓C_or, ↓C_one, ↓C_not, ↓C_cmp, ↓C_chn, ↓C_v, ↓I_seq, ↓I_rng1, ↓I_rng2, ↓I_rng3, ↓I_enu, ↓I_zip, ↓I_rev, ↓S_set, ↓S_asg, ↓S_par2, ↓S_sub, ↓S_expr, ↓S_ret, ↓S_retN, ↓S_ifs, ↓S_for, ↓S_brk, ↓S_cnt, ↓S_pass, ↓S_raise, ↓S_try, ↓S_tryas, ↓E_isx, ↓E_isxs, kW_nx, kW_rt, kW_bk, kW_ct, kW_ex, gx_sub, gx_cs, gx_PY, ↓S_never, ↓S_setf, ex_t, ex_f, ↓S_nil, ↓S_cons, ↓kN_nx, ↓kN_rt, ↓kN_bk, ↓kN_ct, ↓kN_ex, ↓kL_nx, ↓kL_rt, ↓kL_bk, ↓kL_ct, ↓kL_ex, ↓kX_nx, ↓kX_rt, ↓kX_bk, ↓kX_ct, ↓kX_ex, ↓kend_nx, ↓kend_rt, ↓kend_bk, ↓kend_ct, ↓kend_ex, vr_some, gt_0, gt_s, stn_0, stn_s, wip_0, wip_s, wips_0, wips_s, neg_i, isi_s, o_i, tru_non, tru_bl, tru_int, tru_tup, tru_rol, c_Eq, c_NotEq, c_Lt, c_LtE, c_Gt, c_GtE, cs_Eq, cs_NotEq, cb_Eq, cb_NotEq, c2_Eq, c2_NotEq, is_non, isnot_non, is_bl, isnot_bl, is_int, isnot_int, is_str, isnot_str, is_tup, isnot_tup, is_rol, isnot_rol, is_ref, isnot_ref, is_b, isnot_b, in_s, notin_s, b_add, b_sub, b_mul, b_fdiv, b_mod, b_pow, b_addt, b_adds, atI0, atI1, atI2, atI3, slc_t, slc_r, len_s, abs_i, str_i, int_i, int_b, min_i, max_i, lcm_i, gcd_i, seq_t, seq_r, r1_i, r2_i, r3_i, a_nm, a_nil, a_cons, vrl_some, vrn_some, put_lget, Option.isSome_some, tru_ref, b_addl, idx_t, idx_r, idx_l, slc_l, len_t, len_r, len_l, tuple_t, tuple_r, tuple_l, list_t, list_r, list_l, app_l, rev_l, pop_l, popat_l, mT_l, seq_l, enu_l, enu_t, fld_i, mcl_i, setf_i, vri_some, vrk_some, mk_0, mk_1, b_mull, zip_l, rev_i, rev_t, in_t, notin_t, fl_s, fl_i, fl_b, fl_n, inL_nil, inL_ss, inL_ii, List.all_cons, List.all_nil, Bool.and_self, Bool.and_true, Bool.true_and, zip_t, zip_m, a_t, a_l, sub_l, isTs, isT, Option.map_some, List.length_cons, List.length_nil, List.lookup_nil, Nat.reduceAdd, Nat.reduceSub, Nat.reduceLT, Nat.zero_add, Bool.false_eq_true, Bool.true_eq_false, if_false, if_true, decide_eq_true_eq, Bool.not_true, Bool.not_false, ite_true, ite_false, reduceIte, Bool.not_eq_true', decide_eq_false_iff_not, Int.cast_ofNat_Int, Int.reduceEq, Int.reduceLT, Int.reduceLE, Int.reduceNeg, Int.reduceAdd, Int.reduceSub, Int.reduceMul, Int.reduceToNat, decide_true, decide_false, not_true, not_false, not_true_eq_false, not_false_eq_true, true_and, and_true, eq_self, reduceCtorEq, List.isEmpty_nil, List.isEmpty_cons, List.nil_append, List.cons_append, ↓E_smt, ↓E_fldx, ↓E_dct, ↓E_gix, ↓E_rsl,  ↓E_lck, ↓S_raisef, ↓S_trym, ↓S_aug, H_nil, H_cons0, H_cons1, gx_xf, gx_kd, okx_nil, okx_ref, xpl_ref, xfS_i, xfS_s, fldxS_p, gixS_s, vrp_some, vlo_some, vrC_some, idx_s, idx_d, slc_s, b_muls, int_s, ord_s, divmod_i, sorted_x, dict_r, sm_join, sm_part, sm_sw, sm_strip, sm_lstrip, sm_zfill, sm_split, sm_digit, sm_alnum, isstr_s, seq_s, rsl_l, c_PIECE, len_tx]
    rw [ec _ rfl]
    generalize hp : (l.drop (50 * i)).take 50 = p
    have hpd : AllDigits p := hall p fun c hc => by
      rw [← hp] at hc
      exact List.mem_of_mem_drop (List.mem_of_mem_take hc)
    have hpl : p.length ≤ 50 := by rw [← hp, List.length_take]; omega
    have hpn : p ≠ [] := fun e => by
      have := congrArg List.length e
      rw [← hp, List.length_take, List.length_drop] at this
      simp only [List.length_nil] at this
      omega
    have etk : l.take (50 * (i + 1)) = l.take (50 * i) ++ p := by
      rw [show 50 * (i + 1) = 50 * i + 50 by omega, List.take_add, hp]
    refine ⟨szt (by omega), ?_⟩
    refine for_str (fun j σ S'' => S'' = S' ∧ ∃ z4, σ = [some (.str (tx l)), some (.int ((digitsVal (l.take (50 * i)) * 10 ^ j : Nat))), some (.int ((0 : Int) + (i : Nat) * 50)), some (.str (tx p)), z4]) ⟨rfl, _, by rw [Nat.pow_zero, Nat.mul_one]⟩ ?_ ?_
    · rintro j σ S'' N2 hj ⟨rfl, z4, rfl⟩ hN2
      simp -dsimp -implicitDefEqProofs only [↓cov3, ↓cov2, ↓cov1, ↓E_var, ↓E_int, ↓E_bl, ↓E_non, ↓E_str, ↓E_glo, ↓E_tup, ↓E_lst, ↓E_bin, ↓E_neg, ↓E_cmp, ↓E_chn, ↓E_and, ↓E_or, ↓E_one, ↓E_not, ↓E_ifx, ↓E_idx, ↓E_slc, ↓E_call, ↓E_bi, ↓E_isi, ↓E_mth, ↓E_lc, ↓E_fld, ↓E_mcl, ↓E_mk, ↓Es_nil, ↓Es_cons, ↓O_no, ↓O_some, ↓Q_no, ↓Q_c, ↓C_and, ↓C_or, ↓C_one, ↓C_not, ↓C_cmp, ↓C_chn, ↓C_v, ↓I_seq, ↓I_rng1, ↓I_rng2, ↓I_rng3, ↓I_enu, ↓I_zip, ↓I_rev, ↓S_set, ↓S_asg, ↓S_par2, ↓S_sub, ↓S_expr, ↓S_ret, ↓S_retN, ↓S_ifs, ↓S_for, ↓S_brk, ↓S_cnt, ↓S_pass, ↓S_raise, ↓S_try, ↓S_tryas, ↓E_isx, ↓E_isxs, kW_nx, kW_rt, kW_bk, kW_ct, kW_ex, gx_sub, gx_cs, gx_PY, ↓S_never, ↓S_setf, ex_t, ex_f, ↓S_nil, ↓S_cons, ↓kN_nx, ↓kN_rt, ↓kN_bk, ↓kN_ct, ↓kN_ex, ↓kL_nx, ↓kL_rt, ↓kL_bk, ↓kL_ct, ↓kL_ex, ↓kX_nx, ↓kX_rt, ↓kX_bk, ↓kX_ct, ↓kX_ex, ↓kend_nx, ↓kend_rt, ↓kend_bk, ↓kend_ct, ↓kend_ex, vr_some, gt_0, gt_s, stn_0, stn_s, wip_0, wip_s, wips_0, wips_s, neg_i, isi_s, o_i, tru_non, tru_bl, tru_int, tru_tup, tru_rol, c_Eq, c_NotEq, c_Lt, c_LtE, c_Gt, c_GtE, cs_Eq, cs_NotEq, cb_Eq, cb_NotEq, c2_Eq, c2_NotEq, is_non, isnot_non, is_bl, isnot_bl, is_int, isnot_int, is_str, isnot_str, is_tup, isnot_tup, is_rol, isnot_rol, is_ref, isnot_ref, is_b, isnot_b, in_s, notin_s, b_add, b_sub, b_mul, b_fdiv, b_mod, b_pow, b_addt, b_adds, atI0, atI1, atI2, atI3, slc_t, slc_r, len_s, abs_i, str_i, int_i, int_b, min_i, max_i, lcm_i, gcd_i, seq_t, seq_r, r1_i, r2_i, r3_i, a_nm, a_nil, a_cons, vrl_some, vrn_some, put_lget, Option.isSome_some, tru_ref, b_addl, idx_t, idx_r, idx_l, slc_l, len_t, len_r, len_l, tuple_t, tuple_r, tuple_l, list_t, list_r, list_l, app_l, rev_l, pop_l, popat_l, mT_l, seq_l, enu_l, enu_t, fld_i, mcl_i, setf_i, vri_some, vrk_some, mk_0, mk_1, b_mull, zip_l, rev_i, rev_t, in_t, notin_t, fl_s, fl_i, fl_b, fl_n, inL_nil, inL_ss, inL_ii, List.all_cons, List.all_nil, Bool.and_self, Bool.and_true, Bool.true_and, zip_t, zip_m, a_t, a_l, sub_l, isTs, isT, Option.map_some, List.length_cons, List.length_nil, List.lookup_nil, Nat.reduceAdd, Nat.reduceSub, Nat.reduceLT, Nat.zero_add, Bool.false_eq_true, Bool.true_eq_false, if_false, if_true, decide_eq_true_eq, Bool.not_true, Bool.not_false, ite_true, ite_false, reduceIte, Bool.not_eq_true', decide_eq_false_iff_not, Int.cast_ofNat_Int, Int.reduceEq, Int.reduceLT, Int.reduceLE, Int.reduceNeg, Int.reduceAdd, Int.reduceSub, Int.reduceMul, Int.reduceToNat, decide_true, decide_false, not_true, not_false, not_true_eq_false, not_false_eq_true, true_and, and_true, eq_self, reduceCtorEq, List.isEmpty_nil, List.isEmpty_cons, List.nil_append, List.cons_append, ↓E_smt, ↓E_fldx, ↓E_dct, ↓E_gix, ↓E_rsl,  ↓E_lck, ↓S_raisef, ↓S_trym, ↓S_aug, H_nil, H_cons0, H_cons1, gx_xf, gx_kd, okx_nil, okx_ref, xpl_ref, xfS_i, xfS_s, fldxS_p, gixS_s, vrp_some, vlo_some, vrC_some, idx_s, idx_d, slc_s, b_muls, int_s, ord_s, divmod_i, sorted_x, dict_r, sm_join, sm_part, sm_sw, sm_strip, sm_lstrip, sm_zfill, sm_split, sm_digit, sm_alnum, isstr_s, seq_s, rsl_l]
      refine ⟨mulR (by decide) (by decide), ?_⟩
      rw [show ((digitsVal (l.take (50 * i)) * 10 ^ j : Nat) : Int) * 10 = ((digitsVal (l.take (50 * i)) * 10 ^ (j + 1) : Nat) : Int) by rw [Nat.pow_succ, ← Nat.mul_assoc]; rfl]
      exact hN2 _ _ ⟨rfl, _, rfl⟩
    · rintro σ S'' ⟨rfl, z4, rfl⟩
      simp -dsimp -implicitDefEqProofs only [↓cov3, ↓cov2, ↓cov1, ↓E_var, ↓E_int, ↓E_bl, ↓E_non, ↓E_str, ↓E_glo, ↓E_tup, ↓E_lst, ↓E_bin, ↓E_neg, ↓E_cmp, ↓E_chn, ↓E_and, ↓E_or, ↓E_one, ↓E_not, ↓E_ifx, ↓E_idx, ↓E_slc, ↓E_call, ↓E_bi, ↓E_isi, ↓E_mth, ↓E_lc, ↓E_fld, ↓E_mcl, ↓E_mk, ↓Es_nil, ↓Es_cons, ↓O_no, ↓O_some, ↓Q_no, ↓Q_c, ↓C_and, ↓C_or, ↓C_one, ↓C_not, ↓C_cmp, ↓C_chn, ↓C_v, ↓I_seq, ↓I_rng1, ↓I_rng2, ↓I_rng3, ↓I_enu, ↓I_zip, ↓I_rev, ↓S_set, ↓S_asg, ↓S_par2, ↓S_sub, ↓S_expr, ↓S_ret, ↓S_retN, ↓S_ifs, ↓S_for, ↓S_brk, ↓S_cnt, ↓S_pass, ↓S_raise, ↓S_try, ↓S_tryas, ↓E_isx, ↓E_isxs, kW_nx, kW_rt, kW_bk, kW_ct, kW_ex, gx_sub, gx_cs, gx_PY, ↓S_never, ↓S_setf, ex_t, ex_f, ↓S_nil, ↓S_cons, ↓kN_nx, ↓kN_rt, ↓kN_bk, ↓kN_ct, ↓kN_ex, ↓kL_nx, ↓kL_rt, ↓kL_bk, ↓kL_ct, ↓kL_ex, ↓kX_nx, ↓kX_rt, ↓kX_bk, ↓kX_ct, ↓kX_ex, ↓kend_nx, ↓kend_rt, ↓kend_bk, ↓kend_ct, ↓kend_ex, vr_some, gt_0, gt_s, stn_0, stn_s, wip_0, wip_s, wips_0, wips_s, neg_i, isi_s, o_i, tru_non, tru_bl, tru_int, tru_tup, tru_rol, c_Eq, c_NotEq, c_Lt, c_LtE, c_Gt, c_GtE, cs_Eq, cs_NotEq, cb_Eq, cb_NotEq, c2_Eq, c2_NotEq, is_non, isnot_non, is_bl, isnot_bl, is_int, isnot_int, is_str, isnot_str, is_tup, isnot_tup, is_rol, isnot_rol, is_ref, isnot_ref, is_b, isnot_b, in_s, notin_s, b_add, b_sub, b_mul, b_fdiv, b_mod, b_pow, b_addt, b_adds, atI0, atI1, atI2, atI3, slc_t, slc_r, len_s, abs_i, str_i, int_i, int_b, min_i, max_i, lcm_i, gcd_i, seq_t, seq_r, r1_i, r2_i, r3_i, a_nm, a_nil, a_cons, vrl_some, vrn_some, put_lget, Option.isSome_some, tru_ref, b_addl, idx_t, idx_r, idx_l, slc_l, len_t, len_r, len_l, tuple_t, tuple_r, tuple_l, list_t, list_r, list_l, app_l, rev_l, pop_l, popat_l, mT_l, seq_l, enu_l, enu_t, fld_i, mcl_i, setf_i, vri_some, vrk_some, mk_0, mk_1, b_mull, zip_l, rev_i, rev_t, in_t, notin_t, fl_s, fl_i, fl_b, fl_n, inL_nil, inL_ss, inL_ii, List.all_cons, List.all_nil, Bool.and_self, Bool.and_true, Bool.true_and, zip_t, zip_m, a_t, a_l, sub_l, isTs, isT, Option.map_some, List.length_cons, List.length_nil, List.lookup_nil, Nat.reduceAdd, Nat.reduceSub, Nat.reduceLT, Nat.zero_add, Bool.false_eq_true, Bool.true_eq_false, if_false, if_true, decide_eq_true_eq, Bool.not_true, Bool.not_false, ite_true, ite_false, reduceIte, Bool.not_eq_true', decide_eq_false_iff_not, Int.cast_ofNat_Int, Int.reduceEq, Int.reduceLT, Int.reduceLE, Int.reduceNeg, Int.reduceAdd, Int.reduceSub, Int.reduceMul, Int.reduceToNat, decide_true, decide_false, not_true, not_false, not_true_eq_false, not_false_eq_true, true_and, and_true, eq_self, reduceCtorEq, List.isEmpty_nil, List.isEmpty_cons, List.nil_append, List.cons_append, ↓E_smt, ↓E_fldx, ↓E_dct, ↓E_gix, ↓E_rsl,  ↓E_lck, ↓S_raisef, ↓S_trym, ↓S_aug, H_nil, H_cons0, H_cons1, gx_xf, gx_kd, okx_nil, okx_ref, xpl_ref, xfS_i, xfS_s, fldxS_p, gixS_s, vrp_some, vlo_some, vrC_some, idx_s, idx_d, slc_s, b_muls, int_s, ord_s, divmod_i, sorted_x, dict_r, sm_join, sm_part, sm_sw, sm_strip, sm_lstrip, sm_zfill, sm_split, sm_digit, sm_alnum, isstr_s, seq_s, rsl_l]
      refine ⟨digitsVal p, int_tx hpd hpn (by omega), by rw [len_tx]; omega, ?_⟩
      have e5 : ((digitsVal (l.take (50 * i)) * 10 ^ p.length : Nat) : Int) + ((digitsVal p : Nat) : Int) = ((digitsVal (l.take (50 * (i + 1))) : Nat) : Int) := by
        rw [etk, dv_app]
        rfl
      rw [e5]
      exact hN _ _ ⟨rfl, _, _, _, rfl⟩
  · rintro σ S' ⟨rfl, z2, z3, z4, rfl⟩
    simp -dsimp -implicitDefEqProofs only [↓cov3, ↓cov2, ↓cov1, ↓E_var, ↓E_int, ↓E_bl, ↓E_non, ↓E_str, ↓E_glo, ↓E_tup, ↓E_lst, ↓E_bin, ↓E_neg, ↓E_cmp, ↓E_chn, ↓E_and, ↓E_or, ↓E_one, ↓E_not, ↓E_ifx, ↓E_idx, ↓E_slc, ↓E_call, ↓E_bi, ↓E_isi, ↓E_mth, ↓E_lc, ↓E_fld, ↓E_mcl, ↓E_mk, ↓Es_nil, ↓Es_cons, ↓O_no, ↓O_some, ↓Q_no, ↓Q_c, ↓C_and, ↓C_or, ↓C_one, ↓C_not, ↓C_cmp, ↓C_chn, ↓C_v, ↓I_seq, ↓I_rng1, ↓I_rng2, ↓I_rng3, ↓I_enu, ↓I_zip, ↓I_rev, ↓S_set, ↓S_asg, ↓S_par2, ↓S_sub, ↓S_expr, ↓S_ret, ↓S_retN, ↓S_ifs, ↓S_for, ↓S_brk, ↓S_cnt, ↓S_pass, ↓S_raise, ↓S_try, ↓S_tryas, ↓E_isx, ↓E_isxs, kW_nx, kW_rt, kW_bk, kW_ct, kW_ex, gx_sub, gx_cs, gx_PY, ↓S_never, ↓S_setf, ex_t, ex_f, ↓S_nil, ↓S_cons, ↓kN_nx, ↓kN_rt, ↓kN_bk, ↓kN_ct, ↓kN_ex, ↓kL_nx, ↓kL_rt, ↓kL_bk, ↓kL_ct, ↓kL_ex, ↓kX_nx, ↓kX_rt, ↓kX_bk, ↓kX_ct, ↓kX_ex, ↓kend_nx, ↓kend_rt, ↓kend_bk, ↓kend_ct, ↓kend_ex, vr_some, gt_0, gt_s, stn_0, stn_s, wip_0, wip_s, wips_0, wips_s, neg_i, isi_s, o_i, tru_non, tru_bl, tru_int, tru_tup, tru_rol, c_Eq, c_NotEq, c_Lt, c_LtE, c_Gt, c_GtE, cs_Eq, cs_NotEq, cb_Eq, cb_NotEq, c2_Eq, c2_NotEq, is_non, isnot_non, is_bl, isnot_bl, is_int, isnot_int, is_str, isnot_str, is_tup, isnot_tup, is_rol, isnot_rol, is_ref, isnot_ref, is_b, isnot_b, in_s, notin_s, b_add, b_sub, b_mul, b_fdiv, b_mod, b_pow, b_addt, b_adds, atI0, atI1, atI2, atI3, slc_t, slc_r, len_s, abs_i, str_i, int_i, int_b, min_i, max_i, lcm_i, gcd_i, seq_t, seq_r, r1_i, r2_i, r3_i, a_nm, a_nil, a_cons, vrl_some, vrn_some, put_lget, Option.isSome_some, tru_ref, b_addl, idx_t, idx_r, idx_l, slc_l, len_t, len_r, len_l, tuple_t, tuple_r, tuple_l, list_t, list_r, list_l, app_l, rev_l, pop_l, popat_l, mT_l, seq_l, enu_l, enu_t, fld_i, mcl_i, setf_i, vri_some, vrk_some, mk_0, mk_1, b_mull, zip_l, rev_i, rev_t, in_t, notin_t, fl_s, fl_i, fl_b, fl_n, inL_nil, inL_ss, inL_ii, List.all_cons, List.all_nil, Bool.and_self, Bool.and_true, Bool.true_and, zip_t, zip_m, a_t, a_l, sub_l, isTs, isT, Option.map_some, List.length_cons, List.length_nil, List.lookup_nil, Nat.reduceAdd, Nat.reduceSub, Nat.reduceLT, Nat.zero_add, Bool.false_eq_true, Bool.true_eq_false, if_false, if_true, decide_eq_true_eq, Bool.not_true, Bool.not_false, ite_true, ite_false, reduceIte, Bool.not_eq_true', decide_eq_false_iff_not, Int.cast_ofNat_Int, Int.reduceEq, Int.reduceLT, Int.reduceLE, Int.reduceNeg, Int.reduceAdd, Int.reduceSub, Int.reduceMul, Int.reduceToNat, decide_true, decide_false, not_true, not_false, not_true_eq_false, not_false_eq_true, true_and, and_true, eq_self, reduceCtorEq, List.isEmpty_nil, List.isEmpty_cons, List.nil_append, List.cons_append, ↓E_smt, ↓E_fldx, ↓E_dct, ↓E_gix, ↓E_rsl,  ↓E_lck, ↓S_raisef, ↓S_trym, ↓S_aug, H_nil, H_cons0, H_cons1, gx_xf, gx_kd, okx_nil, okx_ref, xpl_ref, xfS_i, xfS_s, fldxS_p, gixS_s, vrp_some, vlo_some, vrC_some, idx_s, idx_d, slc_s, b_muls, int_s, ord_s, divmod_i, sorted_x, dict_r, sm_join, sm_part, sm_sw, sm_strip, sm_lstrip, sm_zfill, sm_split, sm_digit, sm_alnum, isstr_s, seq_s, rsl_l]
    rw [List.take_of_length_le (by omega)]
    exact h
theorem mem_DIG (c : Nat) : decide (c ∈ lt "0123456789") = isD c := by
  have e : lt "0123456789" = [48, 49, 50, 51, 52, 53, 54, 55, 56, 57] := by decide +kernel
  unfold isD
  rw [e, decide_eq_decide]
  simp only [List.mem_cons, List.not_mem_nil, or_false]
  omega
theorem is_number_ok (l : List Nat) (hl : l.length ≤ 1000) (h : Q (.bl (num l)) S) : semF G T (k + 1) "_is_number" [.str (tx l)] S Q E := by
  refine call_of t_is_number rfl ?_
  simp -dsimp -implicitDefEqProofs only [ent, List.map_cons, List.map_nil, List.length_cons, List.length_nil, Nat.reduceAdd, Nat.reduceSub, Nat.zero_add, List.replicate, List.cons_append, List.nil_append, F_is_number]
  cases l with
  | nil =>
    simp -dsimp -implicitDefEqProofs only [↓cov3, ↓cov2, ↓cov1, ↓E_var, ↓E_int, ↓E_bl, ↓E_non, ↓E_str, ↓E_glo, ↓E_tup, ↓E_lst, ↓E_bin, ↓E_neg, ↓E_cmp, ↓E_chn, ↓E_and, ↓E_or, ↓E_one, ↓E_not, ↓E_ifx, ↓E_idx, ↓E_slc, ↓E_call, ↓E_bi, ↓E_isi, ↓E_mth, ↓E_lc, ↓E_fld, ↓E_mcl, ↓E_mk, ↓Es_nil, ↓Es_cons, ↓O_no, ↓O_some, ↓Q_no, ↓Q_c, ↓C_and, ↓C_or, ↓C_one, ↓C_not, ↓C_cmp, ↓C_chn, ↓C_v, ↓I_seq, ↓I_rng1, ↓I_rng2, ↓I_rng3, ↓I_enu, ↓I_zip, ↓I_rev, ↓S_set, ↓S_asg, ↓S_par2, ↓S_sub, ↓S_expr, ↓S_ret, ↓S_retN, ↓S_ifs, ↓S_for, ↓S_brk, ↓S_cnt, ↓S_pass, ↓S_raise, ↓S_try, ↓S_tryas, ↓E_isx, ↓E_isxs, kW_nx, kW_rt, kW_bk, kW_ct, kW_ex, gx_sub, gx_cs, gx_PY, ↓S_never, ↓S_setf, ex_t, ex_f, ↓S_nil, ↓S_cons, ↓kN_nx, ↓kN_rt, ↓kN_bk, ↓kN_ct, ↓kN_ex, ↓kL_nx, ↓kL_rt, ↓kL_bk, ↓kL_ct, ↓kL_ex, ↓kX_nx, ↓kX_rt, ↓kX_bk, ↓kX_ct, ↓kX_ex, ↓kend_nx, ↓kend_rt, ↓kend_bk, ↓kend_ct, ↓kend_ex, vr_some, gt_0, gt_s, stn_0, stn_s, wip_0, wip_s, wips_0, wips_s, neg_i, isi_s, o_i, tru_non, tru_bl, tru_int, tru_tup, tru_rol, c_Eq, c_NotEq, c_Lt, c_LtE, c_Gt, c_GtE, cs_Eq, cs_NotEq, cb_Eq, cb_NotEq, c2_Eq, c2_NotEq, is_non, isnot_non, is_bl, isnot_bl, is_int, isnot_int, is_str, isnot_str, is_tup, isnot_tup, is_rol, isnot_rol, is_ref, isnot_ref, is_b, isnot_b, in_s, notin_s, b_add, b_sub, b_mul, b_fdiv, b_mod, b_pow, b_addt, b_adds, atI0, atI1, atI2, atI3, slc_t, slc_r, len_s, abs_i, str_i, int_i, int_b, min_i, max_i, lcm_i, gcd_i, seq_t, seq_r, r1_i, r2_i, r3_i, a_nm, a_nil, a_cons, vrl_some, vrn_some, put_lget, Option.isSome_some, tru_ref, b_addl, idx_t, idx_r, idx_l, slc_l, len_t, len_r, len_l, tuple_t, tuple_r, tuple_l, list_t, list_r, list_l, app_l, rev_l, pop_l, popat_l, mT_l, seq_l, enu_l, enu_t, fld_i, mcl_i, setf_i, vri_some, vrk_some, mk_0, mk_1, b_mull, zip_l, rev_i, rev_t, in_t, notin_t, fl_s, fl_i, fl_b, fl_n, inL_nil, inL_ss, inL_ii, List.all_cons, List.all_nil, Bool.and_self, Bool.and_true, Bool.true_and, zip_t, zip_m, a_t, a_l, sub_l, isTs, isT, Option.map_some, List.length_cons, List.length_nil, List.lookup_nil, Nat.reduceAdd, Nat.reduceSub, Nat.reduceLT, Nat.zero_add, Bool.false_eq_true, Bool.true_eq_false, if_false, if_true, decide_eq_true_eq, Bool.not_true, Bool.not_false, ite_true, ite_false, reduceIte, Bool.not_eq_true', decide_eq_false_iff_not, Int.cast_ofNat_Int, Int.reduceEq, Int.reduceLT, Int.reduceLE, Int.reduceNeg, Int.reduceAdd, Int.reduceSub, Int.reduceMul, Int.reduceToNat, decide_true, decide_false, not_true, not_false, not_true_eq_false, not_false_eq_true, true_and, and_true, eq_self, reduceCtorEq, List.isEmpty_nil, List.isEmpty_cons, List.nil_append, List.cons_append, ↓E_smt, ↓E_fldx, ↓E_dct, ↓E_gix, ↓E_rsl,  ↓E_lck, ↓S_raisef, ↓S_trym, ↓S_aug, H_nil, H_cons0, H_cons1, gx_xf, gx_kd, okx_nil, okx_ref, xpl_ref, xfS_i, xfS_s, fldxS_p, gixS_s, vrp_some, vlo_some, vrC_some, idx_s, idx_d, slc_s, b_muls, int_s, ord_s, divmod_i, sorted_x, dict_r, sm_join, sm_part, sm_sw, sm_strip, sm_lstrip, sm_zfill, sm_split, sm_digit, sm_alnum, isstr_s, seq_s, rsl_l, l_e, tx_inj, if_true]
    exact h
  | cons c r =>
    have e0 : atI (tx (c :: r)).cps.toList 0 = some c := atI0
    have key : num (c :: r) = (!(decide (1 < r.length + 1) && decide (c = 48)) && (c :: r).all isD) := by
      unfold num
      simp only [List.isEmpty_cons, Bool.not_false, Bool.true_and, List.length_cons, List.head?_cons, Option.some.injEq]
    rw [List.length_cons] at hl
    have fin : (decide (1 < r.length + 1) && decide (c = 48)) = false → FOR G (semF G T k) (.stri (tx (c :: r))) (.nm 1) (.cons (.ifs (.cmp .NotIn (.var 1) (.glo "DIGITS")) (.cons (.ret (.bl false)) .nil) .nil) .nil)
        (kN (kend Q E) (cov (fun σ1 S1 => semSs G (semF G T k) (.cons (.ret (.bl true)) .nil) (kend Q E) σ1 S1) .mk)) [some (.str (tx (c :: r))), none] S := by
      intro hf
      rw [key, hf] at h
      simp only [Bool.not_false, Bool.true_and] at h
      generalize hcr : c :: r = l at *
      refine for_str (fun i σ S' => S' = S ∧ ∃ z, σ = [some (.str (tx l)), z] ∧ ∀ c ∈ l.take i, isD c = true) ⟨rfl, none, rfl, fun c hc => by cases hc⟩ ?_ ?_
      · rintro i σ S' N hi ⟨rfl, z, rfl, hI⟩ hN
        simp -dsimp -implicitDefEqProofs only [↓cov3, ↓cov2, ↓cov1, ↓E_var, ↓E_int, ↓E_bl, ↓E_non, ↓E_str, ↓E_glo, ↓E_tup, ↓E_lst, ↓E_bin, ↓E_neg, ↓E_cmp, ↓E_chn, ↓E_and, ↓E_or, ↓E_one, ↓E_not, ↓E_ifx, ↓E_idx, ↓E_slc, ↓E_call, ↓E_bi, ↓E_isi, ↓E_mth, ↓E_lc, ↓E_fld, ↓E_mcl, ↓E_mk, ↓Es_nil, ↓Es_cons, ↓O_no, ↓O_some, ↓Q_no, ↓Q_c, ↓C_and, ↓C_or, ↓C_one, ↓C_not, ↓C_cmp, ↓C_chn, ↓C_v, ↓I_seq, ↓I_rng1, ↓I_rng2, ↓I_rng3, ↓I_enu, ↓I_zip, ↓I_rev, ↓S_set, ↓S_asg, ↓S_par2, ↓S_sub, ↓S_expr, ↓S_ret, ↓S_retN, ↓S_ifs, ↓S_for, ↓S_brk, ↓S_cnt, ↓S_pass, ↓S_raise, ↓S_try, ↓S_tryas, ↓E_isx, ↓E_isxs, kW_nx, kW_rt, kW_bk, kW_ct, kW_ex, gx_sub, gx_cs, gx_PY, ↓S_never, ↓S_setf, ex_t, ex_f, ↓S_nil, ↓S_cons, ↓kN_nx, ↓kN_rt, ↓kN_bk, ↓kN_ct, ↓kN_ex, ↓kL_nx, ↓kL_rt, ↓kL_bk, ↓kL_ct, ↓kL_ex, ↓kX_nx, ↓kX_rt, ↓kX_bk, ↓kX_ct, ↓kX_ex, ↓kend_nx, ↓kend_rt, ↓kend_bk, ↓kend_ct, ↓kend_ex, vr_some, gt_0, gt_s, stn_0, stn_s, wip_0, wip_s, wips_0, wips_s, neg_i, isi_s, o_i, tru_non, tru_bl, tru_int, tru_tup, tru_rol, c_Eq, c_NotEq, c_Lt, c_LtE, c_Gt, c_GtE, cs_Eq, cs_NotEq, cb_Eq, cb_NotEq, c2_Eq, c2_NotEq, is_non, isnot_non, is_bl, isnot_bl, is_int, isnot_int, is_str, isnot_str, is_tup, isnot_tup, is_rol, isnot_rol, is_ref, isnot_ref, is_b, isnot_b, in_s, notin_s, b_add, b_sub, b_mul, b_fdiv, b_mod, b_pow, b_addt, b_adds, atI0, atI1, atI2, atI3, slc_t, slc_r, len_s, abs_i, str_i, int_i, int_b, min_i, max_i, lcm_i, gcd_i, seq_t, seq_r, r1_i, r2_i, r3_i, a_nm, a_nil, a_cons, vrl_some, vrn_some, put_lget, Option.isSome_some, tru_ref, b_addl, idx_t, idx_r, idx_l, slc_l, len_t, len_r, len_l, tuple_t, tuple_r, tuple_l, list_t, list_r, list_l, app_l, rev_l, pop_l, popat_l, mT_l, seq_l, enu_l, enu_t, fld_i, mcl_i, setf_i, vri_some, vrk_some, mk_0, mk_1, b_mull, zip_l, rev_i, rev_t, in_t, notin_t, fl_s, fl_i, fl_b, fl_n, inL_nil, inL_ss, inL_ii, List.all_cons, List.all_nil, Bool.and_self, Bool.and_true, Bool.true_and, zip_t, zip_m, a_t, a_l, sub_l, isTs, isT, Option.map_some, List.length_cons, List.length_nil, List.lookup_nil, Nat.reduceAdd, Nat.reduceSub, Nat.reduceLT, Nat.zero_add, Bool.false_eq_true, Bool.true_eq_false, if_false, if_true, decide_eq_true_eq, Bool.not_true, Bool.not_false, ite_true, ite_false, reduceIte, Bool.not_eq_true', decide_eq_false_iff_not, Int.cast_ofNat_Int, Int.reduceEq, Int.reduceLT, Int.reduceLE, Int.reduceNeg, Int.reduceAdd, Int.reduceSub, Int.reduceMul, Int.reduceToNat, decide_true, decide_false, not_true, not_false, not_true_eq_false, not_false_eq_true, true_and, and_true, eq_self, reduceCtorEq, List.isEmpty_nil, List.isEmpty_cons, List.nil_append, List.cons_append, ↓E_smt, ↓E_fldx, ↓E_dct, ↓E_gix, ↓E_rsl,  ↓E_lck, ↓S_raisef, ↓S_trym, ↓S_aug, H_nil, H_cons0, H_cons1, gx_xf, gx_kd, okx_nil, okx_ref, xpl_ref, xfS_i, xfS_s, fldxS_p, gixS_s, vrp_some, vlo_some, vrC_some, idx_s, idx_d, slc_s, b_muls, int_s, ord_s, divmod_i, sorted_x, dict_r, sm_join, sm_part, sm_sw, sm_strip, sm_lstrip, sm_zfill, sm_split, sm_digit, sm_alnum, isstr_s, seq_s, rsl_l, c_DIG, occ_one]
        refine ite2 (fun hc => ?_) fun hc => ?_
        · have : l.all isD = false := by
            rw [List.all_eq_false]
            refine ⟨l.getD i 0, ?_, ?_⟩
            · rw [List.getD_eq_getElem?_getD, List.getElem?_eq_getElem hi]
              exact List.getElem_mem hi
            · rw [← mem_DIG]
              simpa using hc
          rw [this] at h
          exact h
        · refine hN _ _ ⟨rfl, _, rfl, fun c hm => ?_⟩
          rw [List.take_succ, List.getElem?_eq_getElem hi] at hm
          rcases List.mem_append.mp hm with hm | hm
          · exact hI c hm
          · rw [Option.toList_some, List.mem_singleton] at hm
            subst hm
            rw [List.getD_eq_getElem?_getD, List.getElem?_eq_getElem hi] at hc
            rw [← mem_DIG]
            simpa using hc
      · rintro σ S' ⟨rfl, z, rfl, hI⟩
        simp -dsimp -implicitDefEqProofs only [↓cov3, ↓cov2, ↓cov1, ↓E_var, ↓E_int, ↓E_bl, ↓E_non, ↓E_str, ↓E_glo, ↓E_tup, ↓E_lst, ↓E_bin, ↓E_neg, ↓E_cmp, ↓E_chn, ↓E_and, ↓E_or, ↓E_one, ↓E_not, ↓E_ifx, ↓E_idx, ↓E_slc, ↓E_call, ↓E_bi, ↓E_isi, ↓E_mth, ↓E_lc, ↓E_fld, ↓E_mcl, ↓E_mk, ↓Es_nil, ↓Es_cons, ↓O_no, ↓O_some, ↓Q_no, ↓Q_c, ↓C_and, ↓C_or, ↓C_one, ↓C_not, ↓C_cmp, ↓C_chn, ↓C_v, ↓I_seq, ↓I_rng1, ↓I_rng2, ↓I_rng3, ↓I_enu, ↓I_zip, ↓I_rev, ↓S_set, ↓S_asg, ↓S_par2, ↓S_sub, ↓S_expr, ↓S_ret, ↓S_retN, ↓S_ifs, ↓S_for, ↓S_brk, ↓S_cnt, ↓S_pass, ↓S_raise, ↓S_try, ↓S_tryas, ↓E_isx, ↓E_isxs, kW_nx, kW_rt, kW_bk, kW_ct, kW_ex, gx_sub, gx_cs, gx_PY, ↓S_never, ↓S_setf, ex_t, ex_f, ↓S_nil, ↓S_cons, ↓kN_nx, ↓kN_rt, ↓kN_bk, ↓kN_ct, ↓kN_ex, ↓kL_nx, ↓kL_rt, ↓kL_bk, ↓kL_ct, ↓kL_ex, ↓kX_nx, ↓kX_rt, ↓kX_bk, ↓kX_ct, ↓kX_ex, ↓kend_nx, ↓kend_rt, ↓kend_bk, ↓kend_ct, ↓kend_ex, vr_some, gt_0, gt_s, stn_0, stn_s, wip_0, wip_s, wips_0, wips_s, neg_i, isi_s, o_i, tru_non, tru_bl, tru_int, tru_tup, tru_rol, c_Eq, c_NotEq, c_Lt, c_LtE, c_Gt, c_GtE, cs_Eq, cs_NotEq, cb_Eq, cb_NotEq, c2_Eq, c2_NotEq, is_non, isnot_non, is_bl, isnot_bl, is_int, isnot_int, is_str, isnot_str, is_tup, isnot_tup, is_rol, isnot_rol, is_ref, isnot_ref, is_b, isnot_b, in_s, notin_s, b_add, b_sub, b_mul, b_fdiv, b_mod, b_pow, b_addt, b_adds, atI0, atI1, atI2, atI3, slc_t, slc_r, len_s, abs_i, str_i, int_i, int_b, min_i, max_i, lcm_i, gcd_i, seq_t, seq_r, r1_i, r2_i, r3_i, a_nm, a_nil, a_cons, vrl_some, vrn_some, put_lget, Option.isSome_some, tru_ref, b_addl, idx_t, idx_r, idx_l, slc_l, len_t, len_r, len_l, tuple_t, tuple_r, tuple_l, list_t, list_r, list_l, app_l, rev_l, pop_l, popat_l, mT_l, seq_l, enu_l, enu_t, fld_i, mcl_i, setf_i, vri_some, vrk_some, mk_0, mk_1, b_mull, zip_l, rev_i, rev_t, in_t, notin_t, fl_s, fl_i, fl_b, fl_n, inL_nil, inL_ss, inL_ii, List.all_cons, List.all_nil, Bool.and_self, Bool.and_true, Bool.true_and, zip_t, zip_m, a_t, a_l, sub_l, isTs, isT, Option.map_some, List.length_cons, List.length_nil, List.lookup_nil, Nat.reduceAdd, Nat.reduceSub, Nat.reduceLT, Nat.zero_add, Bool.false_eq_true, Bool.true_eq_false, if_false, if_true, decide_eq_true_eq, Bool.not_true, Bool.not_false, ite_true, ite_false, reduceIte, Bool.not_eq_true', decide_eq_false_iff_not, Int.cast_ofNat_Int, Int.reduceEq, Int.reduceLT, Int.reduceLE, Int.reduceNeg, Int.reduceAdd, Int.reduceSub, Int.reduceMul, Int.reduceToNat, decide_true, decide_false, not_true, not_false, not_true_eq_false, not_false_eq_true, true_and, and_true, eq_self, reduceCtorEq, List.isEmpty_nil, List.isEmpty_cons, List.nil_append, List.cons_append, ↓E_smt, ↓E_fldx, ↓E_dct, ↓E_gix, ↓E_rsl,  ↓E_lck, ↓S_raisef, ↓S_trym, ↓S_aug, H_nil, H_cons0, H_cons1, gx_xf, gx_kd, okx_nil, okx_ref, xpl_ref, xfS_i, xfS_s, fldxS_p, gixS_s, vrp_some, vlo_some, vrC_some, idx_s, idx_d, slc_s, b_muls, int_s, ord_s, divmod_i, sorted_x, dict_r, sm_join, sm_part, sm_sw, sm_strip, sm_lstrip, sm_zfill, sm_split, sm_digit, sm_alnum, isstr_s, seq_s, rsl_l]
        rw [List.take_length] at hI
        rw [List.all_eq_true.mpr hI] at h
        exact h
    simp -dsimp -implicitDefEqProofs only [↓cov3, ↓cov2, ↓cov1, ↓E_var, ↓E_int, ↓E_bl, ↓E_non, ↓E_str, ↓E_glo, ↓E_tup, ↓E_lst, ↓E_bin, ↓E_neg, ↓E_cmp, ↓E_chn, ↓E_and, ↓E_or, ↓E_one, ↓E_not, ↓E_ifx, ↓E_idx, ↓E_slc, ↓E_call, ↓E_bi, ↓E_isi, ↓E_mth, ↓E_lc, ↓E_fld, ↓E_mcl, ↓E_mk, ↓Es_nil, ↓Es_cons, ↓O_no, ↓O_some, ↓Q_no, ↓Q_c, ↓C_and, ↓C_or, ↓C_one, ↓C_not, ↓C_cmp, ↓C_chn, ↓C_v, ↓I_seq, ↓I_rng1, ↓I_rng2, ↓I_rng3, ↓I_enu, ↓I_zip, ↓I_rev, ↓S_set, ↓S_asg, ↓S_par2, ↓S_sub, ↓S_expr, ↓S_ret, ↓S_retN, ↓S_ifs, ↓S_for, ↓S_brk, ↓S_cnt, ↓S_pass, ↓S_raise, ↓S_try, ↓S_tryas, ↓E_isx, ↓E_isxs, kW_nx, kW_rt, kW_bk, kW_ct, kW_ex, gx_sub, gx_cs, gx_PY, ↓S_never, ↓S_setf, ex_t, ex_f, ↓S_nil, ↓S_cons, ↓kN_nx, ↓kN_rt, ↓kN_bk, ↓kN_ct, ↓kN_ex, ↓kL_nx, ↓kL_rt, ↓kL_bk, ↓kL_ct, ↓kL_ex, ↓kX_nx, ↓kX_rt, ↓kX_bk, ↓kX_ct, ↓kX_ex, ↓kend_nx, ↓kend_rt, ↓kend_bk, ↓kend_ct, ↓kend_ex, vr_some, gt_0, gt_s, stn_0, stn_s, wip_0, wip_s, wips_0, wips_s, neg_i, isi_s, o_i, tru_non, tru_bl, tru_int, tru_tup, tru_rol, c_Eq, c_NotEq, c_Lt, c_LtE, c_Gt, c_GtE, cs_Eq, cs_NotEq, cb_Eq, cb_NotEq, c2_Eq, c2_NotEq, is_non, isnot_non, is_bl, isnot_bl, is_int, isnot_int, is_str, isnot_str, is_tup, isnot_tup, is_rol, isnot_rol, is_ref, isnot_ref, is_b, isnot_b, in_s, notin_s, b_add, b_sub, b_mul, b_fdiv, b_mod, b_pow, b_addt, b_adds, atI0, atI1, atI2, atI3, slc_t, slc_r, len_s, abs_i, str_i, int_i, int_b, min_i, max_i, lcm_i, gcd_i, seq_t, seq_r, r1_i, r2_i, r3_i, a_nm, a_nil, a_cons, vrl_some, vrn_some, put_lget, Option.isSome_some, tru_ref, b_addl, idx_t, idx_r, idx_l, slc_l, len_t, len_r, len_l, tuple_t, tuple_r, tuple_l, list_t, list_r, list_l, app_l, rev_l, pop_l, popat_l, mT_l, seq_l, enu_l, enu_t, fld_i, mcl_i, setf_i, vri_some, vrk_some, mk_0, mk_1, b_mull, zip_l, rev_i, rev_t, in_t, notin_t, fl_s, fl_i, fl_b, fl_n, inL_nil, inL_ss, inL_ii, List.all_cons, List.all_nil, Bool.and_self, Bool.and_true, Bool.true_and, zip_t, zip_m, a_t, a_l, sub_l, isTs, isT, Option.map_some, List.length_cons, List.length_nil, List.lookup_nil, Nat.reduceAdd, Nat.reduceSub, Nat.reduceLT, Nat.zero_add, Bool.false_eq_true, Bool.true_eq_false, if_false, if_true, decide_eq_true_eq, Bool.not_true, Bool.not_false, ite_true, ite_false, reduceIte, Bool.not_eq_true', decide_eq_false_iff_not, Int.cast_ofNat_Int, Int.reduceEq, Int.reduceLT, Int.reduceLE, Int.reduceNeg, Int.reduceAdd, Int.reduceSub, Int.reduceMul, Int.reduceToNat, decide_true, decide_false, not_true, not_false, not_true_eq_false, not_false_eq_true, true_and, and_true, eq_self, reduceCtorEq, List.isEmpty_nil, List.isEmpty_cons, List.nil_append, List.cons_append, ↓E_smt, ↓E_fldx, ↓E_dct, ↓E_gix, ↓E_rsl,  ↓E_lck, ↓S_raisef, ↓S_trym, ↓S_aug, H_nil, H_cons0, H_cons1, gx_xf, gx_kd, okx_nil, okx_ref, xpl_ref, xfS_i, xfS_s, fldxS_p, gixS_s, vrp_some, vlo_some, vrC_some, idx_s, idx_d, slc_s, b_muls, int_s, ord_s, divmod_i, sorted_x, dict_r, sm_join, sm_part, sm_sw, sm_strip, sm_lstrip, sm_zfill, sm_split, sm_digit, sm_alnum, isstr_s, seq_s, rsl_l, l_e, tx_inj, len_tx, e0, one_tx, l_0, List.cons.injEq, and_true, if_false, List.length_cons, reduceCtorEq]
    refine ⟨szt (by omega), ite2 (fun h1 => ⟨szt (by omega), ite2 (fun h2 => ?_) fun h2 => ?_⟩) fun h1 => ?_⟩
    · rw [key, h2, decide_eq_true (show 1 < r.length + 1 by omega)] at h
      exact h
    · exact fin (by rw [decide_eq_false h2, Bool.and_false])
    · exact fin (by rw [decide_eq_false (show ¬ 1 < r.length + 1 by omega), Bool.false_and])
def slD : Option (List Nat) → List Nat
  | none => []
  | some _ => [47]
def btD : Option (List Nat) → List Nat
  | none => []
  | some b => b
theorem slD_n : slD none = [] := rfl
theorem slD_s (b : List Nat) : slD (some b) = [47] := rfl
theorem btD_n : btD none = [] := rfl
theorem btD_s (b : List Nat) : btD (some b) = b := rfl
def atD : List (Str × D) := [("at", .int 0)]
theorem parse_ok (neg : Bool) (a : List Nat) (bo : Option (List Nat)) (h47 : 47 ∉ a) (hh : neg = false → (jn a bo).head? ≠ some 45) (hl : (jn a bo).length ≤ 640)
    (h : prOk neg a bo = true → Q (.tup [.int (if neg then -(digitsVal a : Int) else digitsVal a), .int (dnm bo)]) S)
    (hE : prOk neg a bo = false → ∀ p S', Sub S S' → S p = none → S' p = some (.xd [("at", .int 0)]) → E ⟨"NoText", [("", .ref p)]⟩ S') :
    semF G T (k + 2) "parse_rational" [.str (tx (sg neg ++ jn a bo))] S Q E := by
  refine call_of t_parse_rational rfl ?_
  simp -dsimp -implicitDefEqProofs only [ent, List.map_cons, List.map_nil, List.length_cons, List.length_nil, Nat.reduceAdd, Nat.reduceSub, Nat.zero_add, List.replicate, List.cons_append, List.nil_append, F_parse_rational]
  simp -dsimp -implicitDefEqProofs only [↓cov3, ↓cov2, ↓cov1, ↓E_var, ↓E_int, ↓E_bl, ↓E_non, ↓E_str, ↓E_glo, ↓E_tup, ↓E_lst, ↓E_bin, ↓E_neg, ↓E_cmp, ↓E_chn, ↓E_and, ↓E_or, ↓E_one, ↓E_not, ↓E_ifx, ↓E_idx, ↓E_slc, ↓E_call, ↓E_bi, ↓E_isi, ↓E_mth, ↓E_lc, ↓E_fld, ↓E_mcl, ↓E_mk, ↓Es_nil, ↓Es_cons, ↓O_no, ↓O_some, ↓Q_no, ↓Q_c, ↓C_and, ↓C_or, ↓C_one, ↓C_not, ↓C_cmp, ↓C_chn, ↓C_v, ↓I_seq, ↓I_rng1, ↓I_rng2, ↓I_rng3, ↓I_enu, ↓I_zip, ↓I_rev, ↓S_set, ↓S_asg, ↓S_par2, ↓S_sub, ↓S_expr, ↓S_ret, ↓S_retN, ↓S_ifs, ↓S_for, ↓S_brk, ↓S_cnt, ↓S_pass, ↓S_raise, ↓S_try, ↓S_tryas, ↓E_isx, ↓E_isxs, kW_nx, kW_rt, kW_bk, kW_ct, kW_ex, gx_sub, gx_cs, gx_PY, ↓S_never, ↓S_setf, ex_t, ex_f, ↓S_nil, ↓S_cons, ↓kN_nx, ↓kN_rt, ↓kN_bk, ↓kN_ct, ↓kN_ex, ↓kL_nx, ↓kL_rt, ↓kL_bk, ↓kL_ct, ↓kL_ex, ↓kX_nx, ↓kX_rt, ↓kX_bk, ↓kX_ct, ↓kX_ex, ↓kend_nx, ↓kend_rt, ↓kend_bk, ↓kend_ct, ↓kend_ex, vr_some, gt_0, gt_s, stn_0, stn_s, wip_0, wip_s, wips_0, wips_s, neg_i, isi_s, o_i, tru_non, tru_bl, tru_int, tru_tup, tru_rol, c_Eq, c_NotEq, c_Lt, c_LtE, c_Gt, c_GtE, cs_Eq, cs_NotEq, cb_Eq, cb_NotEq, c2_Eq, c2_NotEq, is_non, isnot_non, is_bl, isnot_bl, is_int, isnot_int, is_str, isnot_str, is_tup, isnot_tup, is_rol, isnot_rol, is_ref, isnot_ref, is_b, isnot_b, in_s, notin_s, b_add, b_sub, b_mul, b_fdiv, b_mod, b_pow, b_addt, b_adds, atI0, atI1, atI2, atI3, slc_t, slc_r, len_s, abs_i, str_i, int_i, int_b, min_i, max_i, lcm_i, gcd_i, seq_t, seq_r, r1_i, r2_i, r3_i, a_nm, a_nil, a_cons, vrl_some, vrn_some, put_lget, Option.isSome_some, tru_ref, b_addl, idx_t, idx_r, idx_l, slc_l, len_t, len_r, len_l, tuple_t, tuple_r, tuple_l, list_t, list_r, list_l, app_l, rev_l, pop_l, popat_l, mT_l, seq_l, enu_l, enu_t, fld_i, mcl_i, setf_i, vri_some, vrk_some, mk_0, mk_1, b_mull, zip_l, rev_i, rev_t, in_t, notin_t, fl_s, fl_i, fl_b, fl_n, inL_nil, inL_ss, inL_ii, List.all_cons, List.all_nil, Bool.and_self, Bool.and_true, Bool.true_and, zip_t, zip_m, a_t, a_l, sub_l, isTs, isT, Option.map_some, List.length_cons, List.length_nil, List.lookup_nil, Nat.reduceAdd, Nat.reduceSub, Nat.reduceLT, Nat.zero_add, Bool.false_eq_true, Bool.true_eq_false, if_false, if_true, decide_eq_true_eq, Bool.not_true, Bool.not_false, ite_true, ite_false, reduceIte, Bool.not_eq_true', decide_eq_false_iff_not, Int.cast_ofNat_Int, Int.reduceEq, Int.reduceLT, Int.reduceLE, Int.reduceNeg, Int.reduceAdd, Int.reduceSub, Int.reduceMul, Int.reduceToNat, decide_true, decide_false, not_true, not_false, not_true_eq_false, not_false_eq_true, true_and, and_true, eq_self, reduceCtorEq, List.isEmpty_nil, List.isEmpty_cons, List.nil_append, List.cons_append, ↓E_smt, ↓E_fldx, ↓E_dct, ↓E_gix, ↓E_rsl,  ↓E_lck, ↓S_raisef, ↓S_trym, ↓S_aug, H_nil, H_cons0, H_cons1, gx_xf, gx_kd, okx_nil, okx_ref, xpl_ref, xfS_i, xfS_s, fldxS_p, gixS_s, vrp_some, vlo_some, vrC_some, idx_s, idx_d, slc_s, b_muls, int_s, ord_s, divmod_i, sorted_x, dict_r, sm_join, sm_part, sm_sw, sm_strip, sm_lstrip, sm_zfill, sm_split, sm_digit, sm_alnum, isstr_s, seq_s, rsl_l, l_m, l_s, sw_tx, len_tx]
  have hs1 : (sg neg).length ≤ 1 := by cases neg <;> simp [sg]
  have ehd : decide ((sg neg ++ jn a bo).head? = some 45) = neg := by
    cases neg
    · exact decide_eq_false (hh rfl)
    · rfl
  have ecut : cutS (tx (sg neg ++ jn a bo)) (some (if (sg neg ++ jn a bo).head? = some 45 then 1 else 0)) none = tx (jn a bo) := by
    cases neg
    · rw [if_neg (by exact hh rfl)]
      exact cut_lo _ 0 (Nat.zero_le _)
    · rw [if_pos (show (sg true ++ jn a bo).head? = some 45 from rfl)]
      exact cut_lo _ 1 (by show 1 ≤ (45 :: jn a bo).length; rw [List.length_cons]; omega)
  rw [ecut]
  have epart : Txt.partition (tx (jn a bo)) (tx [47]) = (tx a, tx (slD bo), tx (btD bo)) := by
    cases bo with
    | none => exact part_none h47
    | some b => exact part_some h47
  have hal : a.length ≤ 640 := by
    cases bo with
    | none => exact hl
    | some b =>
      have : (a ++ 47 :: b).length ≤ 640 := hl
      rw [List.length_append] at this
      omega
  rw [epart, ehd]
  refine ⟨szt (by rw [List.length_append]; omega), rfl, szt (by rw [len_tx]; omega), is_number_ok a (by omega) ?_⟩
  cases ha : num a
  · have hp : prOk neg a bo = false := bad_num ha
    simp -dsimp -implicitDefEqProofs only [↓cov3, ↓cov2, ↓cov1, ↓E_var, ↓E_int, ↓E_bl, ↓E_non, ↓E_str, ↓E_glo, ↓E_tup, ↓E_lst, ↓E_bin, ↓E_neg, ↓E_cmp, ↓E_chn, ↓E_and, ↓E_or, ↓E_one, ↓E_not, ↓E_ifx, ↓E_idx, ↓E_slc, ↓E_call, ↓E_bi, ↓E_isi, ↓E_mth, ↓E_lc, ↓E_fld, ↓E_mcl, ↓E_mk, ↓Es_nil, ↓Es_cons, ↓O_no, ↓O_some, ↓Q_no, ↓Q_c, ↓C_and, ↓C_or, ↓C_one, ↓C_not, ↓C_cmp, ↓C_chn, ↓C_v, ↓I_seq, ↓I_rng1, ↓I_rng2, ↓I_rng3, ↓I_enu, ↓I_zip, ↓I_rev, ↓S_set, ↓S_asg, ↓S_par2, ↓S_sub, ↓S_expr, ↓S_ret, ↓S_retN, ↓S_ifs, ↓S_for, ↓S_brk, ↓S_cnt, ↓S_pass, ↓S_raise, ↓S_try, ↓S_tryas, ↓E_isx, ↓E_isxs, kW_nx, kW_rt, kW_bk, kW_ct, kW_ex, gx_sub, gx_cs, gx_PY, ↓S_never, ↓S_setf, ex_t, ex_f, ↓S_nil, ↓S_cons, ↓kN_nx, ↓kN_rt, ↓kN_bk, ↓kN_ct, ↓kN_ex, ↓kL_nx, ↓kL_rt, ↓kL_bk, ↓kL_ct, ↓kL_ex, ↓kX_nx, ↓kX_rt, ↓kX_bk, ↓kX_ct, ↓kX_ex, ↓kend_nx, ↓kend_rt, ↓kend_bk, ↓kend_ct, ↓kend_ex, vr_some, gt_0, gt_s, stn_0, stn_s, wip_0, wip_s, wips_0, wips_s, neg_i, isi_s, o_i, tru_non, tru_bl, tru_int, tru_tup, tru_rol, c_Eq, c_NotEq, c_Lt, c_LtE, c_Gt, c_GtE, cs_Eq, cs_NotEq, cb_Eq, cb_NotEq, c2_Eq, c2_NotEq, is_non, isnot_non, is_bl, isnot_bl, is_int, isnot_int, is_str, isnot_str, is_tup, isnot_tup, is_rol, isnot_rol, is_ref, isnot_ref, is_b, isnot_b, in_s, notin_s, b_add, b_sub, b_mul, b_fdiv, b_mod, b_pow, b_addt, b_adds, atI0, atI1, atI2, atI3, slc_t, slc_r, len_s, abs_i, str_i, int_i, int_b, min_i, max_i, lcm_i, gcd_i, seq_t, seq_r, r1_i, r2_i, r3_i, a_nm, a_nil, a_cons, vrl_some, vrn_some, put_lget, Option.isSome_some, tru_ref, b_addl, idx_t, idx_r, idx_l, slc_l, len_t, len_r, len_l, tuple_t, tuple_r, tuple_l, list_t, list_r, list_l, app_l, rev_l, pop_l, popat_l, mT_l, seq_l, enu_l, enu_t, fld_i, mcl_i, setf_i, vri_some, vrk_some, mk_0, mk_1, b_mull, zip_l, rev_i, rev_t, in_t, notin_t, fl_s, fl_i, fl_b, fl_n, inL_nil, inL_ss, inL_ii, List.all_cons, List.all_nil, Bool.and_self, Bool.and_true, Bool.true_and, zip_t, zip_m, a_t, a_l, sub_l, isTs, isT, Option.map_some, List.length_cons, List.length_nil, List.lookup_nil, Nat.reduceAdd, Nat.reduceSub, Nat.reduceLT, Nat.zero_add, Bool.false_eq_true, Bool.true_eq_false, if_false, if_true, decide_eq_true_eq, Bool.not_true, Bool.not_false, ite_true, ite_false, reduceIte, Bool.not_eq_true', decide_eq_false_iff_not, Int.cast_ofNat_Int, Int.reduceEq, Int.reduceLT, Int.reduceLE, Int.reduceNeg, Int.reduceAdd, Int.reduceSub, Int.reduceMul, Int.reduceToNat, decide_true, decide_false, not_true, not_false, not_true_eq_false, not_false_eq_true, true_and, and_true, eq_self, reduceCtorEq, List.isEmpty_nil, List.isEmpty_cons, List.nil_append, List.cons_append, ↓E_smt, ↓E_fldx, ↓E_dct, ↓E_gix, ↓E_rsl,  ↓E_lck, ↓S_raisef, ↓S_trym, ↓S_aug, H_nil, H_cons0, H_cons1, gx_xf, gx_kd, okx_nil, okx_ref, xpl_ref, xfS_i, xfS_s, fldxS_p, gixS_s, vrp_some, vlo_some, vrC_some, idx_s, idx_d, slc_s, b_muls, int_s, ord_s, divmod_i, sorted_x, dict_r, sm_join, sm_part, sm_sw, sm_strip, sm_lstrip, sm_zfill, sm_split, sm_digit, sm_alnum, isstr_s, seq_s, rsl_l, xf_NoText, sub_NoText_NoText]
    exact ⟨by decide, fun p np => hE hp p _ (Sub.new np) np put_same⟩
  · obtain ⟨had, han⟩ := num_all ha
    cases bo with
    | none =>
      simp -dsimp -implicitDefEqProofs only [↓cov3, ↓cov2, ↓cov1, ↓E_var, ↓E_int, ↓E_bl, ↓E_non, ↓E_str, ↓E_glo, ↓E_tup, ↓E_lst, ↓E_bin, ↓E_neg, ↓E_cmp, ↓E_chn, ↓E_and, ↓E_or, ↓E_one, ↓E_not, ↓E_ifx, ↓E_idx, ↓E_slc, ↓E_call, ↓E_bi, ↓E_isi, ↓E_mth, ↓E_lc, ↓E_fld, ↓E_mcl, ↓E_mk, ↓Es_nil, ↓Es_cons, ↓O_no, ↓O_some, ↓Q_no, ↓Q_c, ↓C_and, ↓C_or, ↓C_one, ↓C_not, ↓C_cmp, ↓C_chn, ↓C_v, ↓I_seq, ↓I_rng1, ↓I_rng2, ↓I_rng3, ↓I_enu, ↓I_zip, ↓I_rev, ↓S_set, ↓S_asg, ↓S_par2, ↓S_sub, ↓S_expr, ↓S_ret, ↓S_retN, ↓S_ifs, ↓S_for, ↓S_brk, ↓S_cnt, ↓S_pass, ↓S_raise, ↓S_try, ↓S_tryas, ↓E_isx, ↓E_isxs, kW_nx, kW_rt, kW_bk, kW_ct, kW_ex, gx_sub, gx_cs, gx_PY, ↓S_never, ↓S_setf, ex_t, ex_f, ↓S_nil, ↓S_cons, ↓kN_nx, ↓kN_rt, ↓kN_bk, ↓kN_ct, ↓kN_ex, ↓kL_nx, ↓kL_rt, ↓kL_bk, ↓kL_ct, ↓kL_ex, ↓kX_nx, ↓kX_rt, ↓kX_bk, ↓kX_ct, ↓kX_ex, ↓kend_nx, ↓kend_rt, ↓kend_bk, ↓kend_ct, ↓kend_ex, vr_some, gt_0, gt_s, stn_0, stn_s, wip_0, wip_s, wips_0, wips_s, neg_i, isi_s, o_i, tru_non, tru_bl, tru_int, tru_tup, tru_rol, c_Eq, c_NotEq, c_Lt, c_LtE, c_Gt, c_GtE, cs_Eq, cs_NotEq, cb_Eq, cb_NotEq, c2_Eq, c2_NotEq, is_non, isnot_non, is_bl, isnot_bl, is_int, isnot_int, is_str, isnot_str, is_tup, isnot_tup, is_rol, isnot_rol, is_ref, isnot_ref, is_b, isnot_b, in_s, notin_s, b_add, b_sub, b_mul, b_fdiv, b_mod, b_pow, b_addt, b_adds, atI0, atI1, atI2, atI3, slc_t, slc_r, len_s, abs_i, str_i, int_i, int_b, min_i, max_i, lcm_i, gcd_i, seq_t, seq_r, r1_i, r2_i, r3_i, a_nm, a_nil, a_cons, vrl_some, vrn_some, put_lget, Option.isSome_some, tru_ref, b_addl, idx_t, idx_r, idx_l, slc_l, len_t, len_r, len_l, tuple_t, tuple_r, tuple_l, list_t, list_r, list_l, app_l, rev_l, pop_l, popat_l, mT_l, seq_l, enu_l, enu_t, fld_i, mcl_i, setf_i, vri_some, vrk_some, mk_0, mk_1, b_mull, zip_l, rev_i, rev_t, in_t, notin_t, fl_s, fl_i, fl_b, fl_n, inL_nil, inL_ss, inL_ii, List.all_cons, List.all_nil, Bool.and_self, Bool.and_true, Bool.true_and, zip_t, zip_m, a_t, a_l, sub_l, isTs, isT, Option.map_some, List.length_cons, List.length_nil, List.lookup_nil, Nat.reduceAdd, Nat.reduceSub, Nat.reduceLT, Nat.zero_add, Bool.false_eq_true, Bool.true_eq_false, if_false, if_true, decide_eq_true_eq, Bool.not_true, Bool.not_false, ite_true, ite_false, reduceIte, Bool.not_eq_true', decide_eq_false_iff_not, Int.cast_ofNat_Int, Int.reduceEq, Int.reduceLT, Int.reduceLE, Int.reduceNeg, Int.reduceAdd, Int.reduceSub, Int.reduceMul, Int.reduceToNat, decide_true, decide_false, not_true, not_false, not_true_eq_false, not_false_eq_true, true_and, and_true, eq_self, reduceCtorEq, List.isEmpty_nil, List.isEmpty_cons, List.nil_append, List.cons_append, ↓E_smt, ↓E_fldx, ↓E_dct, ↓E_gix, ↓E_rsl,  ↓E_lck, ↓S_raisef, ↓S_trym, ↓S_aug, H_nil, H_cons0, H_cons1, gx_xf, gx_kd, okx_nil, okx_ref, xpl_ref, xfS_i, xfS_s, fldxS_p, gixS_s, vrp_some, vlo_some, vrC_some, idx_s, idx_d, slc_s, b_muls, int_s, ord_s, divmod_i, sorted_x, dict_r, sm_join, sm_part, sm_sw, sm_strip, sm_lstrip, sm_zfill, sm_split, sm_digit, sm_alnum, isstr_s, seq_s, rsl_l, tx_inj, slD_n, btD_n, if_false, reduceCtorEq, l_s, decide_false, Bool.false_eq_true]
      refine digits_ok (k := k) a (by omega) had ?_
      simp -dsimp -implicitDefEqProofs only [↓cov3, ↓cov2, ↓cov1, ↓E_var, ↓E_int, ↓E_bl, ↓E_non, ↓E_str, ↓E_glo, ↓E_tup, ↓E_lst, ↓E_bin, ↓E_neg, ↓E_cmp, ↓E_chn, ↓E_and, ↓E_or, ↓E_one, ↓E_not, ↓E_ifx, ↓E_idx, ↓E_slc, ↓E_call, ↓E_bi, ↓E_isi, ↓E_mth, ↓E_lc, ↓E_fld, ↓E_mcl, ↓E_mk, ↓Es_nil, ↓Es_cons, ↓O_no, ↓O_some, ↓Q_no, ↓Q_c, ↓C_and, ↓C_or, ↓C_one, ↓C_not, ↓C_cmp, ↓C_chn, ↓C_v, ↓I_seq, ↓I_rng1, ↓I_rng2, ↓I_rng3, ↓I_enu, ↓I_zip, ↓I_rev, ↓S_set, ↓S_asg, ↓S_par2, ↓S_sub, ↓S_expr, ↓S_ret, ↓S_retN, ↓S_ifs, ↓S_for, ↓S_brk, ↓S_cnt, ↓S_pass, ↓S_raise, ↓S_try, ↓S_tryas, ↓E_isx, ↓E_isxs, kW_nx, kW_rt, kW_bk, kW_ct, kW_ex, gx_sub, gx_cs, gx_PY, ↓S_never, ↓S_setf, ex_t, ex_f, ↓S_nil, ↓S_cons, ↓kN_nx, ↓kN_rt, ↓kN_bk, ↓kN_ct, ↓kN_ex, ↓kL_nx, ↓kL_rt, ↓kL_bk, ↓kL_ct, ↓kL_ex, ↓kX_nx, ↓kX_rt, ↓kX_bk, ↓kX_ct, ↓kX_ex, ↓kend_nx, ↓kend_rt, ↓kend_bk, ↓kend_ct, ↓kend_ex, vr_some, gt_0, gt_s, stn_0, stn_s, wip_0, wip_s, wips_0, wips_s, neg_i, isi_s, o_i, tru_non, tru_bl, tru_int, tru_tup, tru_rol, c_Eq, c_NotEq, c_Lt, c_LtE, c_Gt, c_GtE, cs_Eq, cs_NotEq, cb_Eq, cb_NotEq, c2_Eq, c2_NotEq, is_non, isnot_non, is_bl, isnot_bl, is_int, isnot_int, is_str, isnot_str, is_tup, isnot_tup, is_rol, isnot_rol, is_ref, isnot_ref, is_b, isnot_b, in_s, notin_s, b_add, b_sub, b_mul, b_fdiv, b_mod, b_pow, b_addt, b_adds, atI0, atI1, atI2, atI3, slc_t, slc_r, len_s, abs_i, str_i, int_i, int_b, min_i, max_i, lcm_i, gcd_i, seq_t, seq_r, r1_i, r2_i, r3_i, a_nm, a_nil, a_cons, vrl_some, vrn_some, put_lget, Option.isSome_some, tru_ref, b_addl, idx_t, idx_r, idx_l, slc_l, len_t, len_r, len_l, tuple_t, tuple_r, tuple_l, list_t, list_r, list_l, app_l, rev_l, pop_l, popat_l, mT_l, seq_l, enu_l, enu_t, fld_i, mcl_i, setf_i, vri_some, vrk_some, mk_0, mk_1, b_mull, zip_l, rev_i, rev_t, in_t, notin_t, fl_s, fl_i, fl_b, fl_n, inL_nil, inL_ss, inL_ii, List.all_cons, List.all_nil, Bool.and_self, Bool.and_true, Bool.true_and, zip_t, zip_m, a_t, a_l, sub_l, isTs, isT, Option.map_some, List.length_cons, List.length_nil, List.lookup_nil, Nat.reduceAdd, Nat.reduceSub, Nat.reduceLT, Nat.zero_add, Bool.false_eq_true, Bool.true_eq_false, if_false, if_true, decide_eq_true_eq, Bool.not_true, Bool.not_false, ite_true, ite_false, reduceIte, Bool.not_eq_true', decide_eq_false_iff_not, Int.cast_ofNat_Int, Int.reduceEq, Int.reduceLT, Int.reduceLE, Int.reduceNeg, Int.reduceAdd, Int.reduceSub, Int.reduceMul, Int.reduceToNat, decide_true, decide_false, not_true, not_false, not_true_eq_false, not_false_eq_true, true_and, and_true, eq_self, reduceCtorEq, List.isEmpty_nil, List.isEmpty_cons, List.nil_append, List.cons_append, ↓E_smt, ↓E_fldx, ↓E_dct, ↓E_gix, ↓E_rsl,  ↓E_lck, ↓S_raisef, ↓S_trym, ↓S_aug, H_nil, H_cons0, H_cons1, gx_xf, gx_kd, okx_nil, okx_ref, xpl_ref, xfS_i, xfS_s, fldxS_p, gixS_s, vrp_some, vlo_some, vrC_some, idx_s, idx_d, slc_s, b_muls, int_s, ord_s, divmod_i, sorted_x, dict_r, sm_join, sm_part, sm_sw, sm_strip, sm_lstrip, sm_zfill, sm_split, sm_digit, sm_alnum, isstr_s, seq_s, rsl_l, tx_inj, slD_n, btD_n, if_false, reduceCtorEq, l_s, decide_false, Bool.false_eq_true]
      have eg : ((((digitsVal a : Nat) : Int).natAbs.gcd (Int.natAbs 1) : Nat) : Int) = 1 := by
        rw [show Int.natAbs 1 = 1 from rfl, Nat.gcd_one_right]
        rfl
      rw [eg]
      have hp : prOk neg a none = !(neg && decide (digitsVal a = 0)) := by
        unfold prOk dnm
        simp only [ha, Nat.gcd_one_right, decide_true, Bool.true_and]
      rw [hp] at h hE
      refine ite2 (fun hh => absurd rfl hh) fun _ => ?_
      cases neg
      · simp -dsimp -implicitDefEqProofs only [↓cov3, ↓cov2, ↓cov1, ↓E_var, ↓E_int, ↓E_bl, ↓E_non, ↓E_str, ↓E_glo, ↓E_tup, ↓E_lst, ↓E_bin, ↓E_neg, ↓E_cmp, ↓E_chn, ↓E_and, ↓E_or, ↓E_one, ↓E_not, ↓E_ifx, ↓E_idx, ↓E_slc, ↓E_call, ↓E_bi, ↓E_isi, ↓E_mth, ↓E_lc, ↓E_fld, ↓E_mcl, ↓E_mk, ↓Es_nil, ↓Es_cons, ↓O_no, ↓O_some, ↓Q_no, ↓Q_c, ↓C_and, ↓C_or, ↓C_one, ↓C_not, ↓C_cmp, ↓C_chn, ↓C_v, ↓I_seq, ↓I_rng1, ↓I_rng2, ↓I_rng3, ↓I_enu, ↓I_zip, ↓I_rev, ↓S_set, ↓S_asg, ↓S_par2, ↓S_sub, ↓S_expr, ↓S_ret, ↓S_retN, ↓S_ifs, ↓S_for, ↓S_brk, ↓S_cnt, ↓S_pass, ↓S_raise, ↓S_try, ↓S_tryas, ↓E_isx, ↓E_isxs, kW_nx, kW_rt, kW_bk, kW_ct, kW_ex, gx_sub, gx_cs, gx_PY, ↓S_never, ↓S_setf, ex_t, ex_f, ↓S_nil, ↓S_cons, ↓kN_nx, ↓kN_rt, ↓kN_bk, ↓kN_ct, ↓kN_ex, ↓kL_nx, ↓kL_rt, ↓kL_bk, ↓kL_ct, ↓kL_ex, ↓kX_nx, ↓kX_rt, ↓kX_bk, ↓kX_ct, ↓kX_ex, ↓kend_nx, ↓kend_rt, ↓kend_bk, ↓kend_ct, ↓kend_ex, vr_some, gt_0, gt_s, stn_0, stn_s, wip_0, wip_s, wips_0, wips_s, neg_i, isi_s, o_i, tru_non, tru_bl, tru_int, tru_tup, tru_rol, c_Eq, c_NotEq, c_Lt, c_LtE, c_Gt, c_GtE, cs_Eq, cs_NotEq, cb_Eq, cb_NotEq, c2_Eq, c2_NotEq, is_non, isnot_non, is_bl, isnot_bl, is_int, isnot_int, is_str, isnot_str, is_tup, isnot_tup, is_rol, isnot_rol, is_ref, isnot_ref, is_b, isnot_b, in_s, notin_s, b_add, b_sub, b_mul, b_fdiv, b_mod, b_pow, b_addt, b_adds, atI0, atI1, atI2, atI3, slc_t, slc_r, len_s, abs_i, str_i, int_i, int_b, min_i, max_i, lcm_i, gcd_i, seq_t, seq_r, r1_i, r2_i, r3_i, a_nm, a_nil, a_cons, vrl_some, vrn_some, put_lget, Option.isSome_some, tru_ref, b_addl, idx_t, idx_r, idx_l, slc_l, len_t, len_r, len_l, tuple_t, tuple_r, tuple_l, list_t, list_r, list_l, app_l, rev_l, pop_l, popat_l, mT_l, seq_l, enu_l, enu_t, fld_i, mcl_i, setf_i, vri_some, vrk_some, mk_0, mk_1, b_mull, zip_l, rev_i, rev_t, in_t, notin_t, fl_s, fl_i, fl_b, fl_n, inL_nil, inL_ss, inL_ii, List.all_cons, List.all_nil, Bool.and_self, Bool.and_true, Bool.true_and, zip_t, zip_m, a_t, a_l, sub_l, isTs, isT, Option.map_some, List.length_cons, List.length_nil, List.lookup_nil, Nat.reduceAdd, Nat.reduceSub, Nat.reduceLT, Nat.zero_add, Bool.false_eq_true, Bool.true_eq_false, if_false, if_true, decide_eq_true_eq, Bool.not_true, Bool.not_false, ite_true, ite_false, reduceIte, Bool.not_eq_true', decide_eq_false_iff_not, Int.cast_ofNat_Int, Int.reduceEq, Int.reduceLT, Int.reduceLE, Int.reduceNeg, Int.reduceAdd, Int.reduceSub, Int.reduceMul, Int.reduceToNat, decide_true, decide_false, not_true, not_false, not_true_eq_false, not_false_eq_true, true_and, and_true, eq_self, reduceCtorEq, List.isEmpty_nil, List.isEmpty_cons, List.nil_append, List.cons_append, ↓E_smt, ↓E_fldx, ↓E_dct, ↓E_gix, ↓E_rsl,  ↓E_lck, ↓S_raisef, ↓S_trym, ↓S_aug, H_nil, H_cons0, H_cons1, gx_xf, gx_kd, okx_nil, okx_ref, xpl_ref, xfS_i, xfS_s, fldxS_p, gixS_s, vrp_some, vlo_some, vrC_some, idx_s, idx_d, slc_s, b_muls, int_s, ord_s, divmod_i, sorted_x, dict_r, sm_join, sm_part, sm_sw, sm_strip, sm_lstrip, sm_zfill, sm_split, sm_digit, sm_alnum, isstr_s, seq_s, rsl_l, xf_NoText, sub_NoText_NoText, Bool.false_eq_true, if_false]
        exact h rfl
      · simp -dsimp -implicitDefEqProofs only [↓cov3, ↓cov2, ↓cov1, ↓E_var, ↓E_int, ↓E_bl, ↓E_non, ↓E_str, ↓E_glo, ↓E_tup, ↓E_lst, ↓E_bin, ↓E_neg, ↓E_cmp, ↓E_chn, ↓E_and, ↓E_or, ↓E_one, ↓E_not, ↓E_ifx, ↓E_idx, ↓E_slc, ↓E_call, ↓E_bi, ↓E_isi, ↓E_mth, ↓E_lc, ↓E_fld, ↓E_mcl, ↓E_mk, ↓Es_nil, ↓Es_cons, ↓O_no, ↓O_some, ↓Q_no, ↓Q_c, ↓C_and, ↓C_or, ↓C_one, ↓C_not, ↓C_cmp, ↓C_chn, ↓C_v, ↓I_seq, ↓I_rng1, ↓I_rng2, ↓I_rng3, ↓I_enu, ↓I_zip, ↓I_rev, ↓S_set, ↓S_asg, ↓S_par2, ↓S_sub, ↓S_expr, ↓S_ret, ↓S_retN, ↓S_ifs, ↓S_for, ↓S_brk, ↓S_cnt, ↓S_pass, ↓S_raise, ↓S_try, ↓S_tryas, ↓E_isx, ↓E_isxs, kW_nx, kW_rt, kW_bk, kW_ct, kW_ex, gx_sub, gx_cs, gx_PY, ↓S_never, ↓S_setf, ex_t, ex_f, ↓S_nil, ↓S_cons, ↓kN_nx, ↓kN_rt, ↓kN_bk, ↓kN_ct, ↓kN_ex, ↓kL_nx, ↓kL_rt, ↓kL_bk, ↓kL_ct, ↓kL_ex, ↓kX_nx, ↓kX_rt, ↓kX_bk, ↓kX_ct, ↓kX_ex, ↓kend_nx, ↓kend_rt, ↓kend_bk, ↓kend_ct, ↓kend_ex, vr_some, gt_0, gt_s, stn_0, stn_s, wip_0, wip_s, wips_0, wips_s, neg_i, isi_s, o_i, tru_non, tru_bl, tru_int, tru_tup, tru_rol, c_Eq, c_NotEq, c_Lt, c_LtE, c_Gt, c_GtE, cs_Eq, cs_NotEq, cb_Eq, cb_NotEq, c2_Eq, c2_NotEq, is_non, isnot_non, is_bl, isnot_bl, is_int, isnot_int, is_str, isnot_str, is_tup, isnot_tup, is_rol, isnot_rol, is_ref, isnot_ref, is_b, isnot_b, in_s, notin_s, b_add, b_sub, b_mul, b_fdiv, b_mod, b_pow, b_addt, b_adds, atI0, atI1, atI2, atI3, slc_t, slc_r, len_s, abs_i, str_i, int_i, int_b, min_i, max_i, lcm_i, gcd_i, seq_t, seq_r, r1_i, r2_i, r3_i, a_nm, a_nil, a_cons, vrl_some, vrn_some, put_lget, Option.isSome_some, tru_ref, b_addl, idx_t, idx_r, idx_l, slc_l, len_t, len_r, len_l, tuple_t, tuple_r, tuple_l, list_t, list_r, list_l, app_l, rev_l, pop_l, popat_l, mT_l, seq_l, enu_l, enu_t, fld_i, mcl_i, setf_i, vri_some, vrk_some, mk_0, mk_1, b_mull, zip_l, rev_i, rev_t, in_t, notin_t, fl_s, fl_i, fl_b, fl_n, inL_nil, inL_ss, inL_ii, List.all_cons, List.all_nil, Bool.and_self, Bool.and_true, Bool.true_and, zip_t, zip_m, a_t, a_l, sub_l, isTs, isT, Option.map_some, List.length_cons, List.length_nil, List.lookup_nil, Nat.reduceAdd, Nat.reduceSub, Nat.reduceLT, Nat.zero_add, Bool.false_eq_true, Bool.true_eq_false, if_false, if_true, decide_eq_true_eq, Bool.not_true, Bool.not_false, ite_true, ite_false, reduceIte, Bool.not_eq_true', decide_eq_false_iff_not, Int.cast_ofNat_Int, Int.reduceEq, Int.reduceLT, Int.reduceLE, Int.reduceNeg, Int.reduceAdd, Int.reduceSub, Int.reduceMul, Int.reduceToNat, decide_true, decide_false, not_true, not_false, not_true_eq_false, not_false_eq_true, true_and, and_true, eq_self, reduceCtorEq, List.isEmpty_nil, List.isEmpty_cons, List.nil_append, List.cons_append, ↓E_smt, ↓E_fldx, ↓E_dct, ↓E_gix, ↓E_rsl,  ↓E_lck, ↓S_raisef, ↓S_trym, ↓S_aug, H_nil, H_cons0, H_cons1, gx_xf, gx_kd, okx_nil, okx_ref, xpl_ref, xfS_i, xfS_s, fldxS_p, gixS_s, vrp_some, vlo_some, vrC_some, idx_s, idx_d, slc_s, b_muls, int_s, ord_s, divmod_i, sorted_x, dict_r, sm_join, sm_part, sm_sw, sm_strip, sm_lstrip, sm_zfill, sm_split, sm_digit, sm_alnum, isstr_s, seq_s, rsl_l, xf_NoText, sub_NoText_NoText, if_true]
        refine ite2 (fun h0 => ⟨by decide, fun p np => ?_⟩) fun h0 => ?_
        · exact hE (by rw [decide_eq_true (show digitsVal a = 0 by omega)]; rfl) p _ (Sub.new np) np put_same
        · exact h (by rw [decide_eq_false (show ¬ digitsVal a = 0 by omega)]; rfl)
    | some b =>
      have hbl : b.length ≤ 640 := by
        have : (a ++ 47 :: b).length ≤ 640 := hl
        rw [List.length_append, List.length_cons] at this
        omega
      simp -dsimp -implicitDefEqProofs only [↓cov3, ↓cov2, ↓cov1, ↓E_var, ↓E_int, ↓E_bl, ↓E_non, ↓E_str, ↓E_glo, ↓E_tup, ↓E_lst, ↓E_bin, ↓E_neg, ↓E_cmp, ↓E_chn, ↓E_and, ↓E_or, ↓E_one, ↓E_not, ↓E_ifx, ↓E_idx, ↓E_slc, ↓E_call, ↓E_bi, ↓E_isi, ↓E_mth, ↓E_lc, ↓E_fld, ↓E_mcl, ↓E_mk, ↓Es_nil, ↓Es_cons, ↓O_no, ↓O_some, ↓Q_no, ↓Q_c, ↓C_and, ↓C_or, ↓C_one, ↓C_not, ↓C_cmp, ↓C_chn, ↓C_v, ↓I_seq, ↓I_rng1, ↓I_rng2, ↓I_rng3, ↓I_enu, ↓I_zip, ↓I_rev, ↓S_set, ↓S_asg, ↓S_par2, ↓S_sub, ↓S_expr, ↓S_ret, ↓S_retN, ↓S_ifs, ↓S_for, ↓S_brk, ↓S_cnt, ↓S_pass, ↓S_raise, ↓S_try, ↓S_tryas, ↓E_isx, ↓E_isxs, kW_nx, kW_rt, kW_bk, kW_ct, kW_ex, gx_sub, gx_cs, gx_PY, ↓S_never, ↓S_setf, ex_t, ex_f, ↓S_nil, ↓S_cons, ↓kN_nx, ↓kN_rt, ↓kN_bk, ↓kN_ct, ↓kN_ex, ↓kL_nx, ↓kL_rt, ↓kL_bk, ↓kL_ct, ↓kL_ex, ↓kX_nx, ↓kX_rt, ↓kX_bk, ↓kX_ct, ↓kX_ex, ↓kend_nx, ↓kend_rt, ↓kend_bk, ↓kend_ct, ↓kend_ex, vr_some, gt_0, gt_s, stn_0, stn_s, wip_0, wip_s, wips_0, wips_s, neg_i, isi_s, o_i, tru_non, tru_bl, tru_int, tru_tup, tru_rol, c_Eq, c_NotEq, c_Lt, c_LtE, c_Gt, c_GtE, cs_Eq, cs_NotEq, cb_Eq, cb_NotEq, c2_Eq, c2_NotEq, is_non, isnot_non, is_bl, isnot_bl, is_int, isnot_int, is_str, isnot_str, is_tup, isnot_tup, is_rol, isnot_rol, is_ref, isnot_ref, is_b, isnot_b, in_s, notin_s, b_add, b_sub, b_mul, b_fdiv, b_mod, b_pow, b_addt, b_adds, atI0, atI1, atI2, atI3, slc_t, slc_r, len_s, abs_i, str_i, int_i, int_b, min_i, max_i, lcm_i, gcd_i, seq_t, seq_r, r1_i, r2_i, r3_i, a_nm, a_nil, a_cons, vrl_some, vrn_some, put_lget, Option.isSome_some, tru_ref, b_addl, idx_t, idx_r, idx_l, slc_l, len_t, len_r, len_l, tuple_t, tuple_r, tuple_l, list_t, list_r, list_l, app_l, rev_l, pop_l, popat_l, mT_l, seq_l, enu_l, enu_t, fld_i, mcl_i, setf_i, vri_some, vrk_some, mk_0, mk_1, b_mull, zip_l, rev_i, rev_t, in_t, notin_t, fl_s, fl_i, fl_b, fl_n, inL_nil, inL_ss, inL_ii, List.all_cons, List.all_nil, Bool.and_self, Bool.and_true, Bool.true_and, zip_t, zip_m, a_t, a_l, sub_l, isTs, isT, Option.map_some, List.length_cons, List.length_nil, List.lookup_nil, Nat.reduceAdd, Nat.reduceSub, Nat.reduceLT, Nat.zero_add, Bool.false_eq_true, Bool.true_eq_false, if_false, if_true, decide_eq_true_eq, Bool.not_true, Bool.not_false, ite_true, ite_false, reduceIte, Bool.not_eq_true', decide_eq_false_iff_not, Int.cast_ofNat_Int, Int.reduceEq, Int.reduceLT, Int.reduceLE, Int.reduceNeg, Int.reduceAdd, Int.reduceSub, Int.reduceMul, Int.reduceToNat, decide_true, decide_false, not_true, not_false, not_true_eq_false, not_false_eq_true, true_and, and_true, eq_self, reduceCtorEq, List.isEmpty_nil, List.isEmpty_cons, List.nil_append, List.cons_append, ↓E_smt, ↓E_fldx, ↓E_dct, ↓E_gix, ↓E_rsl,  ↓E_lck, ↓S_raisef, ↓S_trym, ↓S_aug, H_nil, H_cons0, H_cons1, gx_xf, gx_kd, okx_nil, okx_ref, xpl_ref, xfS_i, xfS_s, fldxS_p, gixS_s, vrp_some, vlo_some, vrC_some, idx_s, idx_d, slc_s, b_muls, int_s, ord_s, divmod_i, sorted_x, dict_r, sm_join, sm_part, sm_sw, sm_strip, sm_lstrip, sm_zfill, sm_split, sm_digit, sm_alnum, isstr_s, seq_s, rsl_l, tx_inj, slD_s, btD_s, if_true, l_s, decide_true]
      refine is_number_ok b (by omega) ?_
      cases hnb : num b
      · have hp : prOk neg a (some b) = false := bad_bot hnb
        simp -dsimp -implicitDefEqProofs only [↓cov3, ↓cov2, ↓cov1, ↓E_var, ↓E_int, ↓E_bl, ↓E_non, ↓E_str, ↓E_glo, ↓E_tup, ↓E_lst, ↓E_bin, ↓E_neg, ↓E_cmp, ↓E_chn, ↓E_and, ↓E_or, ↓E_one, ↓E_not, ↓E_ifx, ↓E_idx, ↓E_slc, ↓E_call, ↓E_bi, ↓E_isi, ↓E_mth, ↓E_lc, ↓E_fld, ↓E_mcl, ↓E_mk, ↓Es_nil, ↓Es_cons, ↓O_no, ↓O_some, ↓Q_no, ↓Q_c, ↓C_and, ↓C_or, ↓C_one, ↓C_not, ↓C_cmp, ↓C_chn, ↓C_v, ↓I_seq, ↓I_rng1, ↓I_rng2, ↓I_rng3, ↓I_enu, ↓I_zip, ↓I_rev, ↓S_set, ↓S_asg, ↓S_par2, ↓S_sub, ↓S_expr, ↓S_ret, ↓S_retN, ↓S_ifs, ↓S_for, ↓S_brk, ↓S_cnt, ↓S_pass, ↓S_raise, ↓S_try, ↓S_tryas, ↓E_isx, ↓E_isxs, kW_nx, kW_rt, kW_bk, kW_ct, kW_ex, gx_sub, gx_cs, gx_PY, ↓S_never, ↓S_setf, ex_t, ex_f, ↓S_nil, ↓S_cons, ↓kN_nx, ↓kN_rt, ↓kN_bk, ↓kN_ct, ↓kN_ex, ↓kL_nx, ↓kL_rt, ↓kL_bk, ↓kL_ct, ↓kL_ex, ↓kX_nx, ↓kX_rt, ↓kX_bk, ↓kX_ct, ↓kX_ex, ↓kend_nx, ↓kend_rt, ↓kend_bk, ↓kend_ct, ↓kend_ex, vr_some, gt_0, gt_s, stn_0, stn_s, wip_0, wip_s, wips_0, wips_s, neg_i, isi_s, o_i, tru_non, tru_bl, tru_int, tru_tup, tru_rol, c_Eq, c_NotEq, c_Lt, c_LtE, c_Gt, c_GtE, cs_Eq, cs_NotEq, cb_Eq, cb_NotEq, c2_Eq, c2_NotEq, is_non, isnot_non, is_bl, isnot_bl, is_int, isnot_int, is_str, isnot_str, is_tup, isnot_tup, is_rol, isnot_rol, is_ref, isnot_ref, is_b, isnot_b, in_s, notin_s, b_add, b_sub, b_mul, b_fdiv, b_mod, b_pow, b_addt, b_adds, atI0, atI1, atI2, atI3, slc_t, slc_r, len_s, abs_i, str_i, int_i, int_b, min_i, max_i, lcm_i, gcd_i, seq_t, seq_r, r1_i, r2_i, r3_i, a_nm, a_nil, a_cons, vrl_some, vrn_some, put_lget, Option.isSome_some, tru_ref, b_addl, idx_t, idx_r, idx_l, slc_l, len_t, len_r, len_l, tuple_t, tuple_r, tuple_l, list_t, list_r, list_l, app_l, rev_l, pop_l, popat_l, mT_l, seq_l, enu_l, enu_t, fld_i, mcl_i, setf_i, vri_some, vrk_some, mk_0, mk_1, b_mull, zip_l, rev_i, rev_t, in_t, notin_t, fl_s, fl_i, fl_b, fl_n, inL_nil, inL_ss, inL_ii, List.all_cons, List.all_nil, Bool.and_self, Bool.and_true, Bool.true_and, zip_t, zip_m, a_t, a_l, sub_l, isTs, isT, Option.map_some, List.length_cons, List.length_nil, List.lookup_nil, Nat.reduceAdd, Nat.reduceSub, Nat.reduceLT, Nat.zero_add, Bool.false_eq_true, Bool.true_eq_false, if_false, if_true, decide_eq_true_eq, Bool.not_true, Bool.not_false, ite_true, ite_false, reduceIte, Bool.not_eq_true', decide_eq_false_iff_not, Int.cast_ofNat_Int, Int.reduceEq, Int.reduceLT, Int.reduceLE, Int.reduceNeg, Int.reduceAdd, Int.reduceSub, Int.reduceMul, Int.reduceToNat, decide_true, decide_false, not_true, not_false, not_true_eq_false, not_false_eq_true, true_and, and_true, eq_self, reduceCtorEq, List.isEmpty_nil, List.isEmpty_cons, List.nil_append, List.cons_append, ↓E_smt, ↓E_fldx, ↓E_dct, ↓E_gix, ↓E_rsl,  ↓E_lck, ↓S_raisef, ↓S_trym, ↓S_aug, H_nil, H_cons0, H_cons1, gx_xf, gx_kd, okx_nil, okx_ref, xpl_ref, xfS_i, xfS_s, fldxS_p, gixS_s, vrp_some, vlo_some, vrC_some, idx_s, idx_d, slc_s, b_muls, int_s, ord_s, divmod_i, sorted_x, dict_r, sm_join, sm_part, sm_sw, sm_strip, sm_lstrip, sm_zfill, sm_split, sm_digit, sm_alnum, isstr_s, seq_s, rsl_l, xf_NoText, sub_NoText_NoText]
        exact ⟨by decide, fun p np => hE hp p _ (Sub.new np) np put_same⟩
      obtain ⟨hbd, hbn⟩ := num_all hnb
      simp -dsimp -implicitDefEqProofs only [↓cov3, ↓cov2, ↓cov1, ↓E_var, ↓E_int, ↓E_bl, ↓E_non, ↓E_str, ↓E_glo, ↓E_tup, ↓E_lst, ↓E_bin, ↓E_neg, ↓E_cmp, ↓E_chn, ↓E_and, ↓E_or, ↓E_one, ↓E_not, ↓E_ifx, ↓E_idx, ↓E_slc, ↓E_call, ↓E_bi, ↓E_isi, ↓E_mth, ↓E_lc, ↓E_fld, ↓E_mcl, ↓E_mk, ↓Es_nil, ↓Es_cons, ↓O_no, ↓O_some, ↓Q_no, ↓Q_c, ↓C_and, ↓C_or, ↓C_one, ↓C_not, ↓C_cmp, ↓C_chn, ↓C_v, ↓I_seq, ↓I_rng1, ↓I_rng2, ↓I_rng3, ↓I_enu, ↓I_zip, ↓I_rev, ↓S_set, ↓S_asg, ↓S_par2, ↓S_sub, ↓S_expr, ↓S_ret, ↓S_retN, ↓S_ifs, ↓S_for, ↓S_brk, ↓S_cnt, ↓S_pass, ↓S_raise, ↓S_try, ↓S_tryas, ↓E_isx, ↓E_isxs, kW_nx, kW_rt, kW_bk, kW_ct, kW_ex, gx_sub, gx_cs, gx_PY, ↓S_never, ↓S_setf, ex_t, ex_f, ↓S_nil, ↓S_cons, ↓kN_nx, ↓kN_rt, ↓kN_bk, ↓kN_ct, ↓kN_ex, ↓kL_nx, ↓kL_rt, ↓kL_bk, ↓kL_ct, ↓kL_ex, ↓kX_nx, ↓kX_rt, ↓kX_bk, ↓kX_ct, ↓kX_ex, ↓kend_nx, ↓kend_rt, ↓kend_bk, ↓kend_ct, ↓kend_ex, vr_some, gt_0, gt_s, stn_0, stn_s, wip_0, wip_s, wips_0, wips_s, neg_i, isi_s, o_i, tru_non, tru_bl, tru_int, tru_tup, tru_rol, c_Eq, c_NotEq, c_Lt, c_LtE, c_Gt, c_GtE, cs_Eq, cs_NotEq, cb_Eq, cb_NotEq, c2_Eq, c2_NotEq, is_non, isnot_non, is_bl, isnot_bl, is_int, isnot_int, is_str, isnot_str, is_tup, isnot_tup, is_rol, isnot_rol, is_ref, isnot_ref, is_b, isnot_b, in_s, notin_s, b_add, b_sub, b_mul, b_fdiv, b_mod, b_pow, b_addt, b_adds, atI0, atI1, atI2, atI3, slc_t, slc_r, len_s, abs_i, str_i, int_i, int_b, min_i, max_i, lcm_i, gcd_i, seq_t, seq_r, r1_i, r2_i, r3_i, a_nm, a_nil, a_cons, vrl_some, vrn_some, put_lget, Option.isSome_some, tru_ref, b_addl, idx_t, idx_r, idx_l, slc_l, len_t, len_r, len_l, tuple_t, tuple_r, tuple_l, list_t, list_r, list_l, app_l, rev_l, pop_l, popat_l, mT_l, seq_l, enu_l, enu_t, fld_i, mcl_i, setf_i, vri_some, vrk_some, mk_0, mk_1, b_mull, zip_l, rev_i, rev_t, in_t, notin_t, fl_s, fl_i, fl_b, fl_n, inL_nil, inL_ss, inL_ii, List.all_cons, List.all_nil, Bool.and_self, Bool.and_true, Bool.true_and, zip_t, zip_m, a_t, a_l, sub_l, isTs, isT, Option.map_some, List.length_cons, List.length_nil, List.lookup_nil, Nat.reduceAdd, Nat.reduceSub, Nat.reduceLT, Nat.zero_add, Bool.false_eq_true, Bool.true_eq_false, if_false, if_true, decide_eq_true_eq, Bool.not_true, Bool.not_false, ite_true, ite_false, reduceIte, Bool.not_eq_true', decide_eq_false_iff_not, Int.cast_ofNat_Int, Int.reduceEq, Int.reduceLT, Int.reduceLE, Int.reduceNeg, Int.reduceAdd, Int.reduceSub, Int.reduceMul, Int.reduceToNat, decide_true, decide_false, not_true, not_false, not_true_eq_false, not_false_eq_true, true_and, and_true, eq_self, reduceCtorEq, List.isEmpty_nil, List.isEmpty_cons, List.nil_append, List.cons_append, ↓E_smt, ↓E_fldx, ↓E_dct, ↓E_gix, ↓E_rsl,  ↓E_lck, ↓S_raisef, ↓S_trym, ↓S_aug, H_nil, H_cons0, H_cons1, gx_xf, gx_kd, okx_nil, okx_ref, xpl_ref, xfS_i, xfS_s, fldxS_p, gixS_s, vrp_some, vlo_some, vrC_some, idx_s, idx_d, slc_s, b_muls, int_s, ord_s, divmod_i, sorted_x, dict_r, sm_join, sm_part, sm_sw, sm_strip, sm_lstrip, sm_zfill, sm_split, sm_digit, sm_alnum, isstr_s, seq_s, rsl_l, tx_inj, slD_s, btD_s, if_true, l_s, decide_true]
      refine digits_ok (k := k) a (by omega) had ?_
      simp -dsimp -implicitDefEqProofs only [↓cov3, ↓cov2, ↓cov1, ↓E_var, ↓E_int, ↓E_bl, ↓E_non, ↓E_str, ↓E_glo, ↓E_tup, ↓E_lst, ↓E_bin, ↓E_neg, ↓E_cmp, ↓E_chn, ↓E_and, ↓E_or, ↓E_one, ↓E_not, ↓E_ifx, ↓E_idx, ↓E_slc, ↓E_call, ↓E_bi, ↓E_isi, ↓E_mth, ↓E_lc, ↓E_fld, ↓E_mcl, ↓E_mk, ↓Es_nil, ↓Es_cons, ↓O_no, ↓O_some, ↓Q_no, ↓Q_c, ↓C_and, ↓C_or, ↓C_one, ↓C_not, ↓C_cmp, ↓C_chn, ↓C_v, ↓I_seq, ↓I_rng1, ↓I_rng2, ↓I_rng3, ↓I_enu, ↓I_zip, ↓I_rev, ↓S_set, ↓S_asg, ↓S_par2, ↓S_sub, ↓S_expr, ↓S_ret, ↓S_retN, ↓S_ifs, ↓S_for, ↓S_brk, ↓S_cnt, ↓S_pass, ↓S_raise, ↓S_try, ↓S_tryas, ↓E_isx, ↓E_isxs, kW_nx, kW_rt, kW_bk, kW_ct, kW_ex, gx_sub, gx_cs, gx_PY, ↓S_never, ↓S_setf, ex_t, ex_f, ↓S_nil, ↓S_cons, ↓kN_nx, ↓kN_rt, ↓kN_bk, ↓kN_ct, ↓kN_ex, ↓kL_nx, ↓kL_rt, ↓kL_bk, ↓kL_ct, ↓kL_ex, ↓kX_nx, ↓kX_rt, ↓kX_bk, ↓kX_ct, ↓kX_ex, ↓kend_nx, ↓kend_rt, ↓kend_bk, ↓kend_ct, ↓kend_ex, vr_some, gt_0, gt_s, stn_0, stn_s, wip_0, wip_s, wips_0, wips_s, neg_i, isi_s, o_i, tru_non, tru_bl, tru_int, tru_tup, tru_rol, c_Eq, c_NotEq, c_Lt, c_LtE, c_Gt, c_GtE, cs_Eq, cs_NotEq, cb_Eq, cb_NotEq, c2_Eq, c2_NotEq, is_non, isnot_non, is_bl, isnot_bl, is_int, isnot_int, is_str, isnot_str, is_tup, isnot_tup, is_rol, isnot_rol, is_ref, isnot_ref, is_b, isnot_b, in_s, notin_s, b_add, b_sub, b_mul, b_fdiv, b_mod, b_pow, b_addt, b_adds, atI0, atI1, atI2, atI3, slc_t, slc_r, len_s, abs_i, str_i, int_i, int_b, min_i, max_i, lcm_i, gcd_i, seq_t, seq_r, r1_i, r2_i, r3_i, a_nm, a_nil, a_cons, vrl_some, vrn_some, put_lget, Option.isSome_some, tru_ref, b_addl, idx_t, idx_r, idx_l, slc_l, len_t, len_r, len_l, tuple_t, tuple_r, tuple_l, list_t, list_r, list_l, app_l, rev_l, pop_l, popat_l, mT_l, seq_l, enu_l, enu_t, fld_i, mcl_i, setf_i, vri_some, vrk_some, mk_0, mk_1, b_mull, zip_l, rev_i, rev_t, in_t, notin_t, fl_s, fl_i, fl_b, fl_n, inL_nil, inL_ss, inL_ii, List.all_cons, List.all_nil, Bool.and_self, Bool.and_true, Bool.true_and, zip_t, zip_m, a_t, a_l, sub_l, isTs, isT, Option.map_some, List.length_cons, List.length_nil, List.lookup_nil, Nat.reduceAdd, Nat.reduceSub, Nat.reduceLT, Nat.zero_add, Bool.false_eq_true, Bool.true_eq_false, if_false, if_true, decide_eq_true_eq, Bool.not_true, Bool.not_false, ite_true, ite_false, reduceIte, Bool.not_eq_true', decide_eq_false_iff_not, Int.cast_ofNat_Int, Int.reduceEq, Int.reduceLT, Int.reduceLE, Int.reduceNeg, Int.reduceAdd, Int.reduceSub, Int.reduceMul, Int.reduceToNat, decide_true, decide_false, not_true, not_false, not_true_eq_false, not_false_eq_true, true_and, and_true, eq_self, reduceCtorEq, List.isEmpty_nil, List.isEmpty_cons, List.nil_append, List.cons_append, ↓E_smt, ↓E_fldx, ↓E_dct, ↓E_gix, ↓E_rsl,  ↓E_lck, ↓S_raisef, ↓S_trym, ↓S_aug, H_nil, H_cons0, H_cons1, gx_xf, gx_kd, okx_nil, okx_ref, xpl_ref, xfS_i, xfS_s, fldxS_p, gixS_s, vrp_some, vlo_some, vrC_some, idx_s, idx_d, slc_s, b_muls, int_s, ord_s, divmod_i, sorted_x, dict_r, sm_join, sm_part, sm_sw, sm_strip, sm_lstrip, sm_zfill, sm_split, sm_digit, sm_alnum, isstr_s, seq_s, rsl_l, tx_inj, slD_s, btD_s, if_true, l_s, decide_true]
      refine digits_ok (k := k) b (by omega) hbd ?_
      simp -dsimp -implicitDefEqProofs only [↓cov3, ↓cov2, ↓cov1, ↓E_var, ↓E_int, ↓E_bl, ↓E_non, ↓E_str, ↓E_glo, ↓E_tup, ↓E_lst, ↓E_bin, ↓E_neg, ↓E_cmp, ↓E_chn, ↓E_and, ↓E_or, ↓E_one, ↓E_not, ↓E_ifx, ↓E_idx, ↓E_slc, ↓E_call, ↓E_bi, ↓E_isi, ↓E_mth, ↓E_lc, ↓E_fld, ↓E_mcl, ↓E_mk, ↓Es_nil, ↓Es_cons, ↓O_no, ↓O_some, ↓Q_no, ↓Q_c, ↓C_and, ↓C_or, ↓C_one, ↓C_not, ↓C_cmp, ↓C_chn, ↓C_v, ↓I_seq, ↓I_rng1, ↓I_rng2, ↓I_rng3, ↓I_enu, ↓I_zip, ↓I_rev, ↓S_set, ↓S_asg, ↓S_par2, ↓S_sub, ↓S_expr, ↓S_ret, ↓S_retN, ↓S_ifs, ↓S_for, ↓S_brk, ↓S_cnt, ↓S_pass, ↓S_raise, ↓S_try, ↓S_tryas, ↓E_isx, ↓E_isxs, kW_nx, kW_rt, kW_bk, kW_ct, kW_ex, gx_sub, gx_cs, gx_PY, ↓S_never, ↓S_setf, ex_t, ex_f, ↓S_nil, ↓S_cons, ↓kN_nx, ↓kN_rt, ↓kN_bk, ↓kN_ct, ↓kN_ex, ↓kL_nx, ↓kL_rt, ↓kL_bk, ↓kL_ct, ↓kL_ex, ↓kX_nx, ↓kX_rt, ↓kX_bk, ↓kX_ct, ↓kX_ex, ↓kend_nx, ↓kend_rt, ↓kend_bk, ↓kend_ct, ↓kend_ex, vr_some, gt_0, gt_s, stn_0, stn_s, wip_0, wip_s, wips_0, wips_s, neg_i, isi_s, o_i, tru_non, tru_bl, tru_int, tru_tup, tru_rol, c_Eq, c_NotEq, c_Lt, c_LtE, c_Gt, c_GtE, cs_Eq, cs_NotEq, cb_Eq, cb_NotEq, c2_Eq, c2_NotEq, is_non, isnot_non, is_bl, isnot_bl, is_int, isnot_int, is_str, isnot_str, is_tup, isnot_tup, is_rol, isnot_rol, is_ref, isnot_ref, is_b, isnot_b, in_s, notin_s, b_add, b_sub, b_mul, b_fdiv, b_mod, b_pow, b_addt, b_adds, atI0, atI1, atI2, atI3, slc_t, slc_r, len_s, abs_i, str_i, int_i, int_b, min_i, max_i, lcm_i, gcd_i, seq_t, seq_r, r1_i, r2_i, r3_i, a_nm, a_nil, a_cons, vrl_some, vrn_some, put_lget, Option.isSome_some, tru_ref, b_addl, idx_t, idx_r, idx_l, slc_l, len_t, len_r, len_l, tuple_t, tuple_r, tuple_l, list_t, list_r, list_l, app_l, rev_l, pop_l, popat_l, mT_l, seq_l, enu_l, enu_t, fld_i, mcl_i, setf_i, vri_some, vrk_some, mk_0, mk_1, b_mull, zip_l, rev_i, rev_t, in_t, notin_t, fl_s, fl_i, fl_b, fl_n, inL_nil, inL_ss, inL_ii, List.all_cons, List.all_nil, Bool.and_self, Bool.and_true, Bool.true_and, zip_t, zip_m, a_t, a_l, sub_l, isTs, isT, Option.map_some, List.length_cons, List.length_nil, List.lookup_nil, Nat.reduceAdd, Nat.reduceSub, Nat.reduceLT, Nat.zero_add, Bool.false_eq_true, Bool.true_eq_false, if_false, if_true, decide_eq_true_eq, Bool.not_true, Bool.not_false, ite_true, ite_false, reduceIte, Bool.not_eq_true', decide_eq_false_iff_not, Int.cast_ofNat_Int, Int.reduceEq, Int.reduceLT, Int.reduceLE, Int.reduceNeg, Int.reduceAdd, Int.reduceSub, Int.reduceMul, Int.reduceToNat, decide_true, decide_false, not_true, not_false, not_true_eq_false, not_false_eq_true, true_and, and_true, eq_self, reduceCtorEq, List.isEmpty_nil, List.isEmpty_cons, List.nil_append, List.cons_append, ↓E_smt, ↓E_fldx, ↓E_dct, ↓E_gix, ↓E_rsl,  ↓E_lck, ↓S_raisef, ↓S_trym, ↓S_aug, H_nil, H_cons0, H_cons1, gx_xf, gx_kd, okx_nil, okx_ref, xpl_ref, xfS_i, xfS_s, fldxS_p, gixS_s, vrp_some, vlo_some, vrC_some, idx_s, idx_d, slc_s, b_muls, int_s, ord_s, divmod_i, sorted_x, dict_r, sm_join, sm_part, sm_sw, sm_strip, sm_lstrip, sm_zfill, sm_split, sm_digit, sm_alnum, isstr_s, seq_s, rsl_l, tx_inj, slD_s, btD_s, if_true, l_s, decide_true, xf_NoText, sub_NoText_NoText]
      have hp : prOk neg a (some b) = (decide (2 ≤ digitsVal b) && (decide (Nat.gcd (digitsVal a) (digitsVal b) = 1) && !(neg && decide (digitsVal a = 0)))) := by
        unfold prOk dnm
        simp only [ha, hnb, Bool.true_and]
      rw [hp] at h hE
      refine ite2 (fun h2 => ⟨by decide, fun p np => ?_⟩) fun h2 => ite2 (fun hg => ⟨by decide, fun p np => ?_⟩) fun hg => ?_
      · exact hE (by rw [decide_eq_false (show ¬ 2 ≤ digitsVal b by omega)]; rfl) p _ (Sub.new np) np put_same
      · refine hE ?_ p _ (Sub.new np) np put_same
        rw [decide_eq_false (p := (digitsVal a).gcd (digitsVal b) = 1), Bool.false_and, Bool.and_false]
        intro e
        refine hg ?_
        rw [Int.natAbs_natCast, Int.natAbs_natCast, e]
        rfl
      have hg1 : (digitsVal a).gcd (digitsVal b) = 1 := by
        have hg := Decidable.not_not.mp hg
        rw [Int.natAbs_natCast, Int.natAbs_natCast] at hg
        exact Int.ofNat.inj hg
      rw [decide_eq_true hg1, decide_eq_true (show 2 ≤ digitsVal b by omega)] at h hE
      cases neg
      · simp -dsimp -implicitDefEqProofs only [↓cov3, ↓cov2, ↓cov1, ↓E_var, ↓E_int, ↓E_bl, ↓E_non, ↓E_str, ↓E_glo, ↓E_tup, ↓E_lst, ↓E_bin, ↓E_neg, ↓E_cmp, ↓E_chn, ↓E_and, ↓E_or, ↓E_one, ↓E_not, ↓E_ifx, ↓E_idx, ↓E_slc, ↓E_call, ↓E_bi, ↓E_isi, ↓E_mth, ↓E_lc, ↓E_fld, ↓E_mcl, ↓E_mk, ↓Es_nil, ↓Es_cons, ↓O_no, ↓O_some, ↓Q_no, ↓Q_c, ↓C_and, ↓C_or, ↓C_one, ↓C_not, ↓C_cmp, ↓C_chn, ↓C_v, ↓I_seq, ↓I_rng1, ↓I_rng2, ↓I_rng3, ↓I_enu, ↓I_zip, ↓I_rev, ↓S_set, ↓S_asg, ↓S_par2, ↓S_sub, ↓S_expr, ↓S_ret, ↓S_retN, ↓S_ifs, ↓S_for, ↓S_brk, ↓S_cnt, ↓S_pass, ↓S_raise, ↓S_try, ↓S_tryas, ↓E_isx, ↓E_isxs, kW_nx, kW_rt, kW_bk, kW_ct, kW_ex, gx_sub, gx_cs, gx_PY, ↓S_never, ↓S_setf, ex_t, ex_f, ↓S_nil, ↓S_cons, ↓kN_nx, ↓kN_rt, ↓kN_bk, ↓kN_ct, ↓kN_ex, ↓kL_nx, ↓kL_rt, ↓kL_bk, ↓kL_ct, ↓kL_ex, ↓kX_nx, ↓kX_rt, ↓kX_bk, ↓kX_ct, ↓kX_ex, ↓kend_nx, ↓kend_rt, ↓kend_bk, ↓kend_ct, ↓kend_ex, vr_some, gt_0, gt_s, stn_0, stn_s, wip_0, wip_s, wips_0, wips_s, neg_i, isi_s, o_i, tru_non, tru_bl, tru_int, tru_tup, tru_rol, c_Eq, c_NotEq, c_Lt, c_LtE, c_Gt, c_GtE, cs_Eq, cs_NotEq, cb_Eq, cb_NotEq, c2_Eq, c2_NotEq, is_non, isnot_non, is_bl, isnot_bl, is_int, isnot_int, is_str, isnot_str, is_tup, isnot_tup, is_rol, isnot_rol, is_ref, isnot_ref, is_b, isnot_b, in_s, notin_s, b_add, b_sub, b_mul, b_fdiv, b_mod, b_pow, b_addt, b_adds, atI0, atI1, atI2, atI3, slc_t, slc_r, len_s, abs_i, str_i, int_i, int_b, min_i, max_i, lcm_i, gcd_i, seq_t, seq_r, r1_i, r2_i, r3_i, a_nm, a_nil, a_cons, vrl_some, vrn_some, put_lget, Option.isSome_some, tru_ref, b_addl, idx_t, idx_r, idx_l, slc_l, len_t, len_r, len_l, tuple_t, tuple_r, tuple_l, list_t, list_r, list_l, app_l, rev_l, pop_l, popat_l, mT_l, seq_l, enu_l, enu_t, fld_i, mcl_i, setf_i, vri_some, vrk_some, mk_0, mk_1, b_mull, zip_l, rev_i, rev_t, in_t, notin_t, fl_s, fl_i, fl_b, fl_n, inL_nil, inL_ss, inL_ii, List.all_cons, List.all_nil, Bool.and_self, Bool.and_true, Bool.true_and, zip_t, zip_m, a_t, a_l, sub_l, isTs, isT, Option.map_some, List.length_cons, List.length_nil, List.lookup_nil, Nat.reduceAdd, Nat.reduceSub, Nat.reduceLT, Nat.zero_add, Bool.false_eq_true, Bool.true_eq_false, if_false, if_true, decide_eq_true_eq, Bool.not_true, Bool.not_false, ite_true, ite_false, reduceIte, Bool.not_eq_true', decide_eq_false_iff_not, Int.cast_ofNat_Int, Int.reduceEq, Int.reduceLT, Int.reduceLE, Int.reduceNeg, Int.reduceAdd, Int.reduceSub, Int.reduceMul, Int.reduceToNat, decide_true, decide_false, not_true, not_false, not_true_eq_false, not_false_eq_true, true_and, and_true, eq_self, reduceCtorEq, List.isEmpty_nil, List.isEmpty_cons, List.nil_append, List.cons_append, ↓E_smt, ↓E_fldx, ↓E_dct, ↓E_gix, ↓E_rsl,  ↓E_lck, ↓S_raisef, ↓S_trym, ↓S_aug, H_nil, H_cons0, H_cons1, gx_xf, gx_kd, okx_nil, okx_ref, xpl_ref, xfS_i, xfS_s, fldxS_p, gixS_s, vrp_some, vlo_some, vrC_some, idx_s, idx_d, slc_s, b_muls, int_s, ord_s, divmod_i, sorted_x, dict_r, sm_join, sm_part, sm_sw, sm_strip, sm_lstrip, sm_zfill, sm_split, sm_digit, sm_alnum, isstr_s, seq_s, rsl_l, xf_NoText, sub_NoText_NoText, Bool.false_eq_true, if_false]
        exact h rfl
      · simp -dsimp -implicitDefEqProofs only [↓cov3, ↓cov2, ↓cov1, ↓E_var, ↓E_int, ↓E_bl, ↓E_non, ↓E_str, ↓E_glo, ↓E_tup, ↓E_lst, ↓E_bin, ↓E_neg, ↓E_cmp, ↓E_chn, ↓E_and, ↓E_or, ↓E_one, ↓E_not, ↓E_ifx, ↓E_idx, ↓E_slc, ↓E_call, ↓E_bi, ↓E_isi, ↓E_mth, ↓E_lc, ↓E_fld, ↓E_mcl, ↓E_mk, ↓Es_nil, ↓Es_cons, ↓O_no, ↓O_some, ↓Q_no, ↓Q_c, ↓C_and, ↓C_or, ↓C_one, ↓C_not, ↓C_cmp, ↓C_chn, ↓C_v, ↓I_seq, ↓I_rng1, ↓I_rng2, ↓I_rng3, ↓I_enu, ↓I_zip, ↓I_rev, ↓S_set, ↓S_asg, ↓S_par2, ↓S_sub, ↓S_expr, ↓S_ret, ↓S_retN, ↓S_ifs, ↓S_for, ↓S_brk, ↓S_cnt, ↓S_pass, ↓S_raise, ↓S_try, ↓S_tryas, ↓E_isx, ↓E_isxs, kW_nx, kW_rt, kW_bk, kW_ct, kW_ex, gx_sub, gx_cs, gx_PY, ↓S_never, ↓S_setf, ex_t, ex_f, ↓S_nil, ↓S_cons, ↓kN_nx, ↓kN_rt, ↓kN_bk, ↓kN_ct, ↓kN_ex, ↓kL_nx, ↓kL_rt, ↓kL_bk, ↓kL_ct, ↓kL_ex, ↓kX_nx, ↓kX_rt, ↓kX_bk, ↓kX_ct, ↓kX_ex, ↓kend_nx, ↓kend_rt, ↓kend_bk, ↓kend_ct, ↓kend_ex, vr_some, gt_0, gt_s, stn_0, stn_s, wip_0, wip_s, wips_0, wips_s, neg_i, isi_s, o_i, tru_non, tru_bl, tru_int, tru_tup, tru_rol, c_Eq, c_NotEq, c_Lt, c_LtE, c_Gt, c_GtE, cs_Eq, cs_NotEq, cb_Eq, cb_NotEq, c2_Eq, c2_NotEq, is_non, isnot_non, is_bl, isnot_bl, is_int, isnot_int, is_str, isnot_str, is_tup, isnot_tup, is_rol, isnot_rol, is_ref, isnot_ref, is_b, isnot_b, in_s, notin_s, b_add, b_sub, b_mul, b_fdiv, b_mod, b_pow, b_addt, b_adds, atI0, atI1, atI2, atI3, slc_t, slc_r, len_s, abs_i, str_i, int_i, int_b, min_i, max_i, lcm_i, gcd_i, seq_t, seq_r, r1_i, r2_i, r3_i, a_nm, a_nil, a_cons, vrl_some, vrn_some, put_lget, Option.isSome_some, tru_ref, b_addl, idx_t, idx_r, idx_l, slc_l, len_t, len_r, len_l, tuple_t, tuple_r, tuple_l, list_t, list_r, list_l, app_l, rev_l, pop_l, popat_l, mT_l, seq_l, enu_l, enu_t, fld_i, mcl_i, setf_i, vri_some, vrk_some, mk_0, mk_1, b_mull, zip_l, rev_i, rev_t, in_t, notin_t, fl_s, fl_i, fl_b, fl_n, inL_nil, inL_ss, inL_ii, List.all_cons, List.all_nil, Bool.and_self, Bool.and_true, Bool.true_and, zip_t, zip_m, a_t, a_l, sub_l, isTs, isT, Option.map_some, List.length_cons, List.length_nil, List.lookup_nil, Nat.reduceAdd, Nat.reduceSub, Nat.reduceLT, Nat.zero_add, Bool.false_eq_true, Bool.true_eq_false, if_false, if_true, decide_eq_true_eq, Bool.not_true, Bool.not_false, ite_true, ite_false, reduceIte, Bool.not_eq_true', decide_eq_false_iff_not, Int.cast_ofNat_Int, Int.reduceEq, Int.reduceLT, Int.reduceLE, Int.reduceNeg, Int.reduceAdd, Int.reduceSub, Int.reduceMul, Int.reduceToNat, decide_true, decide_false, not_true, not_false, not_true_eq_false, not_false_eq_true, true_and, and_true, eq_self, reduceCtorEq, List.isEmpty_nil, List.isEmpty_cons, List.nil_append, List.cons_append, ↓E_smt, ↓E_fldx, ↓E_dct, ↓E_gix, ↓E_rsl,  ↓E_lck, ↓S_raisef, ↓S_trym, ↓S_aug, H_nil, H_cons0, H_cons1, gx_xf, gx_kd, okx_nil, okx_ref, xpl_ref, xfS_i, xfS_s, fldxS_p, gixS_s, vrp_some, vlo_some, vrC_some, idx_s, idx_d, slc_s, b_muls, int_s, ord_s, divmod_i, sorted_x, dict_r, sm_join, sm_part, sm_sw, sm_strip, sm_lstrip, sm_zfill, sm_split, sm_digit, sm_alnum, isstr_s, seq_s, rsl_l, xf_NoText, sub_NoText_NoText, if_true]
        refine ite2 (fun h0 => ⟨by decide, fun p np => ?_⟩) fun h0 => ?_
        · exact hE (by rw [decide_eq_true (show digitsVal a = 0 by omega)]; rfl) p _ (Sub.new np) np put_same
        · exact h (by rw [decide_eq_false (show ¬ digitsVal a = 0 by omega)]; rfl)
/-- decimal digits of a list -/
def DigL (ds : List Int) : Prop := 1 ≤ ds.length ∧ ds.length ≤ 130 ∧ (∀ z ∈ ds, 0 ≤ z ∧ z < 10) ∧ 0 < ds.getD 0 0
theorem digl_ok (ns : List Int) (i : Nat) (hi : i ≤ 10) (h : ∀ p ds S', DigL ds → Sub S S' → S' p = some (.lst (ds.map D.int)) → Q (.ref p) S') : semF G T (k + 3) "_law_digits" [.rol (ns.map D.int), .int i] S Q E := by
  refine call_of t_law_digits rfl ?_
  simp -dsimp -implicitDefEqProofs only [ent, List.map_cons, List.map_nil, List.length_cons, List.length_nil, Nat.reduceAdd, Nat.reduceSub, Nat.zero_add, List.replicate, List.cons_append, List.nil_append, F_law_digits]
  simp -dsimp -implicitDefEqProofs only [↓cov3, ↓cov2, ↓cov1, ↓E_var, ↓E_int, ↓E_bl, ↓E_non, ↓E_str, ↓E_glo, ↓E_tup, ↓E_lst, ↓E_bin, ↓E_neg, ↓E_cmp, ↓E_chn, ↓E_and, ↓E_or, ↓E_one, ↓E_not, ↓E_ifx, ↓E_idx, ↓E_slc, ↓E_call, ↓E_bi, ↓E_isi, ↓E_mth, ↓E_lc, ↓E_fld, ↓E_mcl, ↓E_mk, ↓Es_nil, ↓Es_cons, ↓O_no, ↓O_some, ↓Q_no, ↓Q_c, ↓C_and, ↓C_or, ↓C_one, ↓C_not, ↓C_cmp, ↓C_chn, ↓C_v, ↓I_seq, ↓I_rng1, ↓I_rng2, ↓I_rng3, ↓I_enu, ↓I_zip, ↓I_rev, ↓S_set, ↓S_asg, ↓S_par2, ↓S_sub, ↓S_expr, ↓S_ret, ↓S_retN, ↓S_for, ↓S_brk, ↓S_cnt, ↓S_pass, ↓S_raise, ↓S_tryas, ↓E_isx, ↓E_isxs, kW_nx, kW_rt, kW_bk, kW_ct, kW_ex, gx_sub, gx_cs, gx_PY, ↓S_never, ↓S_setf, ex_t, ex_f, ↓S_nil, ↓S_cons, ↓kN_nx, ↓kN_rt, ↓kN_bk, ↓kN_ct, ↓kN_ex, ↓kL_nx, ↓kL_rt, ↓kL_bk, ↓kL_ct, ↓kL_ex, ↓kX_nx, ↓kX_rt, ↓kX_bk, ↓kX_ct, ↓kX_ex, ↓kend_nx, ↓kend_rt, ↓kend_bk, ↓kend_ct, ↓kend_ex, vr_some, gt_0, gt_s, stn_0, stn_s, wip_0, wip_s, wips_0, wips_s, neg_i, isi_s, o_i, tru_non, tru_bl, tru_int, tru_tup, tru_rol, c_Eq, c_NotEq, c_Lt, c_LtE, c_Gt, c_GtE, cs_Eq, cs_NotEq, cb_Eq, cb_NotEq, c2_Eq, c2_NotEq, is_non, isnot_non, is_bl, isnot_bl, is_int, isnot_int, is_str, isnot_str, is_tup, isnot_tup, is_rol, isnot_rol, is_ref, isnot_ref, is_b, isnot_b, in_s, notin_s, b_add, b_sub, b_mul, b_fdiv, b_mod, b_pow, b_addt, b_adds, atI0, atI1, atI2, atI3, slc_t, slc_r, len_s, abs_i, str_i, int_i, int_b, min_i, max_i, lcm_i, gcd_i, seq_t, seq_r, r1_i, r2_i, r3_i, a_nm, a_nil, a_cons, vrl_some, vrn_some, put_lget, Option.isSome_some, tru_ref, b_addl, idx_t, idx_r, idx_l, slc_l, len_t, len_r, len_l, tuple_t, tuple_r, tuple_l, list_t, list_r, list_l, app_l, rev_l, pop_l, popat_l, mT_l, seq_l, enu_l, enu_t, fld_i, mcl_i, setf_i, vri_some, vrk_some, mk_0, mk_1, b_mull, zip_l, rev_i, rev_t, in_t, notin_t, fl_s, fl_i, fl_b, fl_n, inL_nil, inL_ss, inL_ii, List.all_cons, List.all_nil, Bool.and_self, Bool.and_true, Bool.true_and, zip_t, zip_m, a_t, a_l, sub_l, isTs, isT, Option.map_some, List.length_cons, List.length_nil, List.lookup_nil, Nat.reduceAdd, Nat.reduceSub, Nat.reduceLT, Nat.zero_add, Bool.false_eq_true, Bool.true_eq_false, if_false, if_true, decide_eq_true_eq, Bool.not_true, Bool.not_false, ite_true, ite_false, reduceIte, Bool.not_eq_true', decide_eq_false_iff_not, Int.cast_ofNat_Int, Int.reduceEq, Int.reduceLT, Int.reduceLE, Int.reduceNeg, Int.reduceAdd, Int.reduceSub, Int.reduceMul, Int.reduceToNat, decide_true, decide_false, not_true, not_false, not_true_eq_false, not_false_eq_true, true_and, and_true, eq_self, reduceCtorEq, List.isEmpty_nil, List.isEmpty_cons, List.nil_append, List.cons_append, ↓E_smt, ↓E_fldx, ↓E_dct, ↓E_gix, ↓E_rsl,  ↓E_lck, ↓S_raisef, ↓S_trym, ↓S_aug, H_nil, H_cons0, H_cons1, gx_xf, gx_kd, okx_nil, okx_ref, xpl_ref, xfS_i, xfS_s, fldxS_p, gixS_s, vrp_some, vlo_some, vrC_some, idx_s, idx_d, slc_s, b_muls, int_s, ord_s, divmod_i, sorted_x, dict_r, sm_join, sm_part, sm_sw, sm_strip, sm_lstrip, sm_zfill, sm_split, sm_digit, sm_alnum, isstr_s, seq_s, rsl_l]
  refine draws_ok t_law_draws t_law_cell ns i 132 10 (by omega) (by omega) (by omega) (by omega) fun row r S1 hr hs1 hr1 => ?_
  have e0 : atI (row.map D.int) 0 = some (.int (row.getD 0 0)) := hr.at rfl (by omega)
  have e1 : atI (row.map D.int) 1 = some (.int (row.getD 1 0)) := hr.at rfl (by omega)
  have g0 := hr.get (i := 0) (by omega)
  have g1 := hr.get (i := 1) (by omega)
  generalize row.getD 0 0 = u at *
  generalize row.getD 1 0 = v at *
  simp -dsimp -implicitDefEqProofs only [↓cov3, ↓cov2, ↓cov1, ↓E_var, ↓E_int, ↓E_bl, ↓E_non, ↓E_str, ↓E_glo, ↓E_tup, ↓E_lst, ↓E_bin, ↓E_neg, ↓E_cmp, ↓E_chn, ↓E_and, ↓E_or, ↓E_one, ↓E_not, ↓E_ifx, ↓E_idx, ↓E_slc, ↓E_call, ↓E_bi, ↓E_isi, ↓E_mth, ↓E_lc, ↓E_fld, ↓E_mcl, ↓E_mk, ↓Es_nil, ↓Es_cons, ↓O_no, ↓O_some, ↓Q_no, ↓Q_c, ↓C_and, ↓C_or, ↓C_one, ↓C_not, ↓C_cmp, ↓C_chn, ↓C_v, ↓I_seq, ↓I_rng1, ↓I_rng2, ↓I_rng3, ↓I_enu, ↓I_zip, ↓I_rev, ↓S_set, ↓S_asg, ↓S_par2, ↓S_sub, ↓S_expr, ↓S_ret, ↓S_retN, ↓S_for, ↓S_brk, ↓S_cnt, ↓S_pass, ↓S_raise, ↓S_tryas, ↓E_isx, ↓E_isxs, kW_nx, kW_rt, kW_bk, kW_ct, kW_ex, gx_sub, gx_cs, gx_PY, ↓S_never, ↓S_setf, ex_t, ex_f, ↓S_nil, ↓S_cons, ↓kN_nx, ↓kN_rt, ↓kN_bk, ↓kN_ct, ↓kN_ex, ↓kL_nx, ↓kL_rt, ↓kL_bk, ↓kL_ct, ↓kL_ex, ↓kX_nx, ↓kX_rt, ↓kX_bk, ↓kX_ct, ↓kX_ex, ↓kend_nx, ↓kend_rt, ↓kend_bk, ↓kend_ct, ↓kend_ex, vr_some, gt_0, gt_s, stn_0, stn_s, wip_0, wip_s, wips_0, wips_s, neg_i, isi_s, o_i, tru_non, tru_bl, tru_int, tru_tup, tru_rol, c_Eq, c_NotEq, c_Lt, c_LtE, c_Gt, c_GtE, cs_Eq, cs_NotEq, cb_Eq, cb_NotEq, c2_Eq, c2_NotEq, is_non, isnot_non, is_bl, isnot_bl, is_int, isnot_int, is_str, isnot_str, is_tup, isnot_tup, is_rol, isnot_rol, is_ref, isnot_ref, is_b, isnot_b, in_s, notin_s, b_add, b_sub, b_mul, b_fdiv, b_mod, b_pow, b_addt, b_adds, atI0, atI1, atI2, atI3, slc_t, slc_r, len_s, abs_i, str_i, int_i, int_b, min_i, max_i, lcm_i, gcd_i, seq_t, seq_r, r1_i, r2_i, r3_i, a_nm, a_nil, a_cons, vrl_some, vrn_some, put_lget, Option.isSome_some, tru_ref, b_addl, idx_t, idx_r, idx_l, slc_l, len_t, len_r, len_l, tuple_t, tuple_r, tuple_l, list_t, list_r, list_l, app_l, rev_l, pop_l, popat_l, mT_l, seq_l, enu_l, enu_t, fld_i, mcl_i, setf_i, vri_some, vrk_some, mk_0, mk_1, b_mull, zip_l, rev_i, rev_t, in_t, notin_t, fl_s, fl_i, fl_b, fl_n, inL_nil, inL_ss, inL_ii, List.all_cons, List.all_nil, Bool.and_self, Bool.and_true, Bool.true_and, zip_t, zip_m, a_t, a_l, sub_l, isTs, isT, Option.map_some, List.length_cons, List.length_nil, List.lookup_nil, Nat.reduceAdd, Nat.reduceSub, Nat.reduceLT, Nat.zero_add, Bool.false_eq_true, Bool.true_eq_false, if_false, if_true, decide_eq_true_eq, Bool.not_true, Bool.not_false, ite_true, ite_false, reduceIte, Bool.not_eq_true', decide_eq_false_iff_not, Int.cast_ofNat_Int, Int.reduceEq, Int.reduceLT, Int.reduceLE, Int.reduceNeg, Int.reduceAdd, Int.reduceSub, Int.reduceMul, Int.reduceToNat, decide_true, decide_false, not_true, not_false, not_true_eq_false, not_false_eq_true, true_and, and_true, eq_self, reduceCtorEq, List.isEmpty_nil, List.isEmpty_cons, List.nil_append, List.cons_append, ↓E_smt, ↓E_fldx, ↓E_dct, ↓E_gix, ↓E_rsl,  ↓E_lck, ↓S_raisef, ↓S_trym, ↓S_aug, H_nil, H_cons0, H_cons1, gx_xf, gx_kd, okx_nil, okx_ref, xpl_ref, xfS_i, xfS_s, fldxS_p, gixS_s, vrp_some, vlo_some, vrC_some, idx_s, idx_d, slc_s, b_muls, int_s, ord_s, divmod_i, sorted_x, dict_r, sm_join, sm_part, sm_sw, sm_strip, sm_lstrip, sm_zfill, sm_split, sm_digit, sm_alnum, isstr_s, seq_s, rsl_l, lget_of hr1, e0, e1]
  refine ⟨mulR (by decide) (by decide), by omega, ?_⟩
  refine join (fun σ' S' => S' = S1 ∧ ∃ n : Nat, 1 ≤ n ∧ n ≤ 130 ∧ σ' = [some (.rol (ns.map D.int)), some (.int i), some (.ref r), some (.int n), none]) ?_ ?_
  · rintro _ S' ⟨e, n, hn1, hn2, rfl⟩
    rw [e]
    clear e S'
    simp -dsimp -implicitDefEqProofs only [↓cov3, ↓cov2, ↓cov1, ↓E_var, ↓E_int, ↓E_bl, ↓E_non, ↓E_str, ↓E_glo, ↓E_tup, ↓E_lst, ↓E_bin, ↓E_neg, ↓E_cmp, ↓E_chn, ↓E_and, ↓E_or, ↓E_one, ↓E_not, ↓E_ifx, ↓E_idx, ↓E_slc, ↓E_call, ↓E_bi, ↓E_isi, ↓E_mth, ↓E_lc, ↓E_fld, ↓E_mcl, ↓E_mk, ↓Es_nil, ↓Es_cons, ↓O_no, ↓O_some, ↓Q_no, ↓Q_c, ↓C_and, ↓C_or, ↓C_one, ↓C_not, ↓C_cmp, ↓C_chn, ↓C_v, ↓I_seq, ↓I_rng1, ↓I_rng2, ↓I_rng3, ↓I_enu, ↓I_zip, ↓I_rev, ↓S_set, ↓S_asg, ↓S_par2, ↓S_sub, ↓S_expr, ↓S_ret, ↓S_retN, ↓S_for, ↓S_brk, ↓S_cnt, ↓S_pass, ↓S_raise, ↓S_tryas, ↓E_isx, ↓E_isxs, kW_nx, kW_rt, kW_bk, kW_ct, kW_ex, gx_sub, gx_cs, gx_PY, ↓S_never, ↓S_setf, ex_t, ex_f, ↓S_nil, ↓S_cons, ↓kN_nx, ↓kN_rt, ↓kN_bk, ↓kN_ct, ↓kN_ex, ↓kL_nx, ↓kL_rt, ↓kL_bk, ↓kL_ct, ↓kL_ex, ↓kX_nx, ↓kX_rt, ↓kX_bk, ↓kX_ct, ↓kX_ex, ↓kend_nx, ↓kend_rt, ↓kend_bk, ↓kend_ct, ↓kend_ex, vr_some, gt_0, gt_s, stn_0, stn_s, wip_0, wip_s, wips_0, wips_s, neg_i, isi_s, o_i, tru_non, tru_bl, tru_int, tru_tup, tru_rol, c_Eq, c_NotEq, c_Lt, c_LtE, c_Gt, c_GtE, cs_Eq, cs_NotEq, cb_Eq, cb_NotEq, c2_Eq, c2_NotEq, is_non, isnot_non, is_bl, isnot_bl, is_int, isnot_int, is_str, isnot_str, is_tup, isnot_tup, is_rol, isnot_rol, is_ref, isnot_ref, is_b, isnot_b, in_s, notin_s, b_add, b_sub, b_mul, b_fdiv, b_mod, b_pow, b_addt, b_adds, atI0, atI1, atI2, atI3, slc_t, slc_r, len_s, abs_i, str_i, int_i, int_b, min_i, max_i, lcm_i, gcd_i, seq_t, seq_r, r1_i, r2_i, r3_i, a_nm, a_nil, a_cons, vrl_some, vrn_some, put_lget, Option.isSome_some, tru_ref, b_addl, idx_t, idx_r, idx_l, slc_l, len_t, len_r, len_l, tuple_t, tuple_r, tuple_l, list_t, list_r, list_l, app_l, rev_l, pop_l, popat_l, mT_l, seq_l, enu_l, enu_t, fld_i, mcl_i, setf_i, vri_some, vrk_some, mk_0, mk_1, b_mull, zip_l, rev_i, rev_t, in_t, notin_t, fl_s, fl_i, fl_b, fl_n, inL_nil, inL_ss, inL_ii, List.all_cons, List.all_nil, Bool.and_self, Bool.and_true, Bool.true_and, zip_t, zip_m, a_t, a_l, sub_l, isTs, isT, Option.map_some, List.length_cons, List.length_nil, List.lookup_nil, Nat.reduceAdd, Nat.reduceSub, Nat.reduceLT, Nat.zero_add, Bool.false_eq_true, Bool.true_eq_false, if_false, if_true, decide_eq_true_eq, Bool.not_true, Bool.not_false, ite_true, ite_false, reduceIte, Bool.not_eq_true', decide_eq_false_iff_not, Int.cast_ofNat_Int, Int.reduceEq, Int.reduceLT, Int.reduceLE, Int.reduceNeg, Int.reduceAdd, Int.reduceSub, Int.reduceMul, Int.reduceToNat, decide_true, decide_false, not_true, not_false, not_true_eq_false, not_false_eq_true, true_and, and_true, eq_self, reduceCtorEq, List.isEmpty_nil, List.isEmpty_cons, List.nil_append, List.cons_append, ↓E_smt, ↓E_fldx, ↓E_dct, ↓E_gix, ↓E_rsl,  ↓E_lck, ↓S_raisef, ↓S_trym, ↓S_aug, H_nil, H_cons0, H_cons1, gx_xf, gx_kd, okx_nil, okx_ref, xpl_ref, xfS_i, xfS_s, fldxS_p, gixS_s, vrp_some, vlo_some, vrC_some, idx_s, idx_d, slc_s, b_muls, int_s, ord_s, divmod_i, sorted_x, dict_r, sm_join, sm_part, sm_sw, sm_strip, sm_lstrip, sm_zfill, sm_split, sm_digit, sm_alnum, isstr_s, seq_s, rsl_l, lget_of hr1, e0, e1]
    rw [cutD_i (zs := row) (a := 2) (b := 2 + (n : Int)) (lo := 2) (hi := n + 2) rfl (by omega) (by omega) (by rw [hr.1]; omega)]
    have hc := hr.cut (lo := 2) (hi := n + 2) (by omega) (by omega)
    rw [show n + 2 - 2 = n by omega] at hc ⊢
    generalize (row.drop 2).take n = ds at *
    intro p np
    have hp0 : (put S1 p (.lst (ds.map D.int))) p = some (.lst (ds.map D.int)) := put_same
    have hsp : Sub S1 (put S1 p (.lst (ds.map D.int))) := Sub.new np
    have ed : atI (ds.map D.int) 0 = some (.int (ds.getD 0 0)) := hc.at rfl (by omega)
    have gd := hc.get (i := 0) (by omega)
    generalize hS2 : put S1 p (.lst (ds.map D.int)) = S2 at *
    have hr2 := hsp _ _ hr1
    simp -dsimp -implicitDefEqProofs only [↓cov3, ↓cov2, ↓cov1, ↓E_var, ↓E_int, ↓E_bl, ↓E_non, ↓E_str, ↓E_glo, ↓E_tup, ↓E_lst, ↓E_bin, ↓E_neg, ↓E_cmp, ↓E_chn, ↓E_and, ↓E_or, ↓E_one, ↓E_not, ↓E_ifx, ↓E_idx, ↓E_slc, ↓E_call, ↓E_bi, ↓E_isi, ↓E_mth, ↓E_lc, ↓E_fld, ↓E_mcl, ↓E_mk, ↓Es_nil, ↓Es_cons, ↓O_no, ↓O_some, ↓Q_no, ↓Q_c, ↓C_and, ↓C_or, ↓C_one, ↓C_not, ↓C_cmp, ↓C_chn, ↓C_v, ↓I_seq, ↓I_rng1, ↓I_rng2, ↓I_rng3, ↓I_enu, ↓I_zip, ↓I_rev, ↓S_set, ↓S_asg, ↓S_par2, ↓S_sub, ↓S_expr, ↓S_ret, ↓S_retN, ↓S_ifs, ↓S_for, ↓S_brk, ↓S_cnt, ↓S_pass, ↓S_raise, ↓S_try, ↓S_tryas, ↓E_isx, ↓E_isxs, kW_nx, kW_rt, kW_bk, kW_ct, kW_ex, gx_sub, gx_cs, gx_PY, ↓S_never, ↓S_setf, ex_t, ex_f, ↓S_nil, ↓S_cons, ↓kN_nx, ↓kN_rt, ↓kN_bk, ↓kN_ct, ↓kN_ex, ↓kL_nx, ↓kL_rt, ↓kL_bk, ↓kL_ct, ↓kL_ex, ↓kX_nx, ↓kX_rt, ↓kX_bk, ↓kX_ct, ↓kX_ex, ↓kend_nx, ↓kend_rt, ↓kend_bk, ↓kend_ct, ↓kend_ex, vr_some, gt_0, gt_s, stn_0, stn_s, wip_0, wip_s, wips_0, wips_s, neg_i, isi_s, o_i, tru_non, tru_bl, tru_int, tru_tup, tru_rol, c_Eq, c_NotEq, c_Lt, c_LtE, c_Gt, c_GtE, cs_Eq, cs_NotEq, cb_Eq, cb_NotEq, c2_Eq, c2_NotEq, is_non, isnot_non, is_bl, isnot_bl, is_int, isnot_int, is_str, isnot_str, is_tup, isnot_tup, is_rol, isnot_rol, is_ref, isnot_ref, is_b, isnot_b, in_s, notin_s, b_add, b_sub, b_mul, b_fdiv, b_mod, b_pow, b_addt, b_adds, atI0, atI1, atI2, atI3, slc_t, slc_r, len_s, abs_i, str_i, int_i, int_b, min_i, max_i, lcm_i, gcd_i, seq_t, seq_r, r1_i, r2_i, r3_i, a_nm, a_nil, a_cons, vrl_some, vrn_some, put_lget, Option.isSome_some, tru_ref, b_addl, idx_t, idx_r, idx_l, slc_l, len_t, len_r, len_l, tuple_t, tuple_r, tuple_l, list_t, list_r, list_l, app_l, rev_l, pop_l, popat_l, mT_l, seq_l, enu_l, enu_t, fld_i, mcl_i, setf_i, vri_some, vrk_some, mk_0, mk_1, b_mull, zip_l, rev_i, rev_t, in_t, notin_t, fl_s, fl_i, fl_b, fl_n, inL_nil, inL_ss, inL_ii, List.all_cons, List.all_nil, Bool.and_self, Bool.and_true, Bool.true_and, zip_t, zip_m, a_t, a_l, sub_l, isTs, isT, Option.map_some, List.length_cons, List.length_nil, List.lookup_nil, Nat.reduceAdd, Nat.reduceSub, Nat.reduceLT, Nat.zero_add, Bool.false_eq_true, Bool.true_eq_false, if_false, if_true, decide_eq_true_eq, Bool.not_true, Bool.not_false, ite_true, ite_false, reduceIte, Bool.not_eq_true', decide_eq_false_iff_not, Int.cast_ofNat_Int, Int.reduceEq, Int.reduceLT, Int.reduceLE, Int.reduceNeg, Int.reduceAdd, Int.reduceSub, Int.reduceMul, Int.reduceToNat, decide_true, decide_false, not_true, not_false, not_true_eq_false, not_false_eq_true, true_and, and_true, eq_self, reduceCtorEq, List.isEmpty_nil, List.isEmpty_cons, List.nil_append, List.cons_append, ↓E_smt, ↓E_fldx, ↓E_dct, ↓E_gix, ↓E_rsl,  ↓E_lck, ↓S_raisef, ↓S_trym, ↓S_aug, H_nil, H_cons0, H_cons1, gx_xf, gx_kd, okx_nil, okx_ref, xpl_ref, xfS_i, xfS_s, fldxS_p, gixS_s, vrp_some, vlo_some, vrC_some, idx_s, idx_d, slc_s, b_muls, int_s, ord_s, divmod_i, sorted_x, dict_r, sm_join, sm_part, sm_sw, sm_strip, sm_lstrip, sm_zfill, sm_split, sm_digit, sm_alnum, isstr_s, seq_s, rsl_l, lget_of hp0, ed]
    refine ite2 (fun hz => ?_) fun hz => ?_
    · simp -dsimp -implicitDefEqProofs only [↓cov3, ↓cov2, ↓cov1, ↓E_var, ↓E_int, ↓E_bl, ↓E_non, ↓E_str, ↓E_glo, ↓E_tup, ↓E_lst, ↓E_bin, ↓E_neg, ↓E_cmp, ↓E_chn, ↓E_and, ↓E_or, ↓E_one, ↓E_not, ↓E_ifx, ↓E_idx, ↓E_slc, ↓E_call, ↓E_bi, ↓E_isi, ↓E_mth, ↓E_lc, ↓E_fld, ↓E_mcl, ↓E_mk, ↓Es_nil, ↓Es_cons, ↓O_no, ↓O_some, ↓Q_no, ↓Q_c, ↓C_and, ↓C_or, ↓C_one, ↓C_not, ↓C_cmp, ↓C_chn, ↓C_v, ↓I_seq, ↓I_rng1, ↓I_rng2, ↓I_rng3, ↓I_enu, ↓I_zip, ↓I_rev, ↓S_set, ↓S_asg, ↓S_par2, ↓S_sub, ↓S_expr, ↓S_ret, ↓S_retN, ↓S_ifs, ↓S_for, ↓S_brk, ↓S_cnt, ↓S_pass, ↓S_raise, ↓S_try, ↓S_tryas, ↓E_isx, ↓E_isxs, kW_nx, kW_rt, kW_bk, kW_ct, kW_ex, gx_sub, gx_cs, gx_PY, ↓S_never, ↓S_setf, ex_t, ex_f, ↓S_nil, ↓S_cons, ↓kN_nx, ↓kN_rt, ↓kN_bk, ↓kN_ct, ↓kN_ex, ↓kL_nx, ↓kL_rt, ↓kL_bk, ↓kL_ct, ↓kL_ex, ↓kX_nx, ↓kX_rt, ↓kX_bk, ↓kX_ct, ↓kX_ex, ↓kend_nx, ↓kend_rt, ↓kend_bk, ↓kend_ct, ↓kend_ex, vr_some, gt_0, gt_s, stn_0, stn_s, wip_0, wip_s, wips_0, wips_s, neg_i, isi_s, o_i, tru_non, tru_bl, tru_int, tru_tup, tru_rol, c_Eq, c_NotEq, c_Lt, c_LtE, c_Gt, c_GtE, cs_Eq, cs_NotEq, cb_Eq, cb_NotEq, c2_Eq, c2_NotEq, is_non, isnot_non, is_bl, isnot_bl, is_int, isnot_int, is_str, isnot_str, is_tup, isnot_tup, is_rol, isnot_rol, is_ref, isnot_ref, is_b, isnot_b, in_s, notin_s, b_add, b_sub, b_mul, b_fdiv, b_mod, b_pow, b_addt, b_adds, atI0, atI1, atI2, atI3, slc_t, slc_r, len_s, abs_i, str_i, int_i, int_b, min_i, max_i, lcm_i, gcd_i, seq_t, seq_r, r1_i, r2_i, r3_i, a_nm, a_nil, a_cons, vrl_some, vrn_some, put_lget, Option.isSome_some, tru_ref, b_addl, idx_t, idx_r, idx_l, slc_l, len_t, len_r, len_l, tuple_t, tuple_r, tuple_l, list_t, list_r, list_l, app_l, rev_l, pop_l, popat_l, mT_l, seq_l, enu_l, enu_t, fld_i, mcl_i, setf_i, vri_some, vrk_some, mk_0, mk_1, b_mull, zip_l, rev_i, rev_t, in_t, notin_t, fl_s, fl_i, fl_b, fl_n, inL_nil, inL_ss, inL_ii, List.all_cons, List.all_nil, Bool.and_self, Bool.and_true, Bool.true_and, zip_t, zip_m, a_t, a_l, sub_l, isTs, isT, Option.map_some, List.length_cons, List.length_nil, List.lookup_nil, Nat.reduceAdd, Nat.reduceSub, Nat.reduceLT, Nat.zero_add, Bool.false_eq_true, Bool.true_eq_false, if_false, if_true, decide_eq_true_eq, Bool.not_true, Bool.not_false, ite_true, ite_false, reduceIte, Bool.not_eq_true', decide_eq_false_iff_not, Int.cast_ofNat_Int, Int.reduceEq, Int.reduceLT, Int.reduceLE, Int.reduceNeg, Int.reduceAdd, Int.reduceSub, Int.reduceMul, Int.reduceToNat, decide_true, decide_false, not_true, not_false, not_true_eq_false, not_false_eq_true, true_and, and_true, eq_self, reduceCtorEq, List.isEmpty_nil, List.isEmpty_cons, List.nil_append, List.cons_append, ↓E_smt, ↓E_fldx, ↓E_dct, ↓E_gix, ↓E_rsl,  ↓E_lck, ↓S_raisef, ↓S_trym, ↓S_aug, H_nil, H_cons0, H_cons1, gx_xf, gx_kd, okx_nil, okx_ref, xpl_ref, xfS_i, xfS_s, fldxS_p, gixS_s, vrp_some, vlo_some, vrC_some, idx_s, idx_d, slc_s, b_muls, int_s, ord_s, divmod_i, sorted_x, dict_r, sm_join, sm_part, sm_sw, sm_strip, sm_lstrip, sm_zfill, sm_split, sm_digit, sm_alnum, isstr_s, seq_s, rsl_l, lget_of hr2, e1, lget_of hp0]
      rw [List.length_map, ixN_at' (n := ds.length) (z := 0) (i := 0) rfl (by rw [hc.1]; omega)]
      simp -dsimp -implicitDefEqProofs only [↓cov3, ↓cov2, ↓cov1, ↓E_var, ↓E_int, ↓E_bl, ↓E_non, ↓E_str, ↓E_glo, ↓E_tup, ↓E_lst, ↓E_bin, ↓E_neg, ↓E_cmp, ↓E_chn, ↓E_and, ↓E_or, ↓E_one, ↓E_not, ↓E_ifx, ↓E_idx, ↓E_slc, ↓E_call, ↓E_bi, ↓E_isi, ↓E_mth, ↓E_lc, ↓E_fld, ↓E_mcl, ↓E_mk, ↓Es_nil, ↓Es_cons, ↓O_no, ↓O_some, ↓Q_no, ↓Q_c, ↓C_and, ↓C_or, ↓C_one, ↓C_not, ↓C_cmp, ↓C_chn, ↓C_v, ↓I_seq, ↓I_rng1, ↓I_rng2, ↓I_rng3, ↓I_enu, ↓I_zip, ↓I_rev, ↓S_set, ↓S_asg, ↓S_par2, ↓S_sub, ↓S_expr, ↓S_ret, ↓S_retN, ↓S_ifs, ↓S_for, ↓S_brk, ↓S_cnt, ↓S_pass, ↓S_raise, ↓S_try, ↓S_tryas, ↓E_isx, ↓E_isxs, kW_nx, kW_rt, kW_bk, kW_ct, kW_ex, gx_sub, gx_cs, gx_PY, ↓S_never, ↓S_setf, ex_t, ex_f, ↓S_nil, ↓S_cons, ↓kN_nx, ↓kN_rt, ↓kN_bk, ↓kN_ct, ↓kN_ex, ↓kL_nx, ↓kL_rt, ↓kL_bk, ↓kL_ct, ↓kL_ex, ↓kX_nx, ↓kX_rt, ↓kX_bk, ↓kX_ct, ↓kX_ex, ↓kend_nx, ↓kend_rt, ↓kend_bk, ↓kend_ct, ↓kend_ex, vr_some, gt_0, gt_s, stn_0, stn_s, wip_0, wip_s, wips_0, wips_s, neg_i, isi_s, o_i, tru_non, tru_bl, tru_int, tru_tup, tru_rol, c_Eq, c_NotEq, c_Lt, c_LtE, c_Gt, c_GtE, cs_Eq, cs_NotEq, cb_Eq, cb_NotEq, c2_Eq, c2_NotEq, is_non, isnot_non, is_bl, isnot_bl, is_int, isnot_int, is_str, isnot_str, is_tup, isnot_tup, is_rol, isnot_rol, is_ref, isnot_ref, is_b, isnot_b, in_s, notin_s, b_add, b_sub, b_mul, b_fdiv, b_mod, b_pow, b_addt, b_adds, atI0, atI1, atI2, atI3, slc_t, slc_r, len_s, abs_i, str_i, int_i, int_b, min_i, max_i, lcm_i, gcd_i, seq_t, seq_r, r1_i, r2_i, r3_i, a_nm, a_nil, a_cons, vrl_some, vrn_some, put_lget, Option.isSome_some, tru_ref, b_addl, idx_t, idx_r, idx_l, slc_l, len_t, len_r, len_l, tuple_t, tuple_r, tuple_l, list_t, list_r, list_l, app_l, rev_l, pop_l, popat_l, mT_l, seq_l, enu_l, enu_t, fld_i, mcl_i, setf_i, vri_some, vrk_some, mk_0, mk_1, b_mull, zip_l, rev_i, rev_t, in_t, notin_t, fl_s, fl_i, fl_b, fl_n, inL_nil, inL_ss, inL_ii, List.all_cons, List.all_nil, Bool.and_self, Bool.and_true, Bool.true_and, zip_t, zip_m, a_t, a_l, sub_l, isTs, isT, Option.map_some, List.length_cons, List.length_nil, List.lookup_nil, Nat.reduceAdd, Nat.reduceSub, Nat.reduceLT, Nat.zero_add, Bool.false_eq_true, Bool.true_eq_false, if_false, if_true, decide_eq_true_eq, Bool.not_true, Bool.not_false, ite_true, ite_false, reduceIte, Bool.not_eq_true', decide_eq_false_iff_not, Int.cast_ofNat_Int, Int.reduceEq, Int.reduceLT, Int.reduceLE, Int.reduceNeg, Int.reduceAdd, Int.reduceSub, Int.reduceMul, Int.reduceToNat, decide_true, decide_false, not_true, not_false, not_true_eq_false, not_false_eq_true, true_and, and_true, eq_self, reduceCtorEq, List.isEmpty_nil, List.isEmpty_cons, List.nil_append, List.cons_append, ↓E_smt, ↓E_fldx, ↓E_dct, ↓E_gix, ↓E_rsl,  ↓E_lck, ↓S_raisef, ↓S_trym, ↓S_aug, H_nil, H_cons0, H_cons1, gx_xf, gx_kd, okx_nil, okx_ref, xpl_ref, xfS_i, xfS_s, fldxS_p, gixS_s, vrp_some, vlo_some, vrC_some, idx_s, idx_d, slc_s, b_muls, int_s, ord_s, divmod_i, sorted_x, dict_r, sm_join, sm_part, sm_sw, sm_strip, sm_lstrip, sm_zfill, sm_split, sm_digit, sm_alnum, isstr_s, seq_s, rsl_l]
      have hm1 := Int.fmod_nonneg_of_pos v (b := 9) (by decide)
      have hm2 := Int.fmod_lt_of_pos v (b := 9) (by decide)
      refine ⟨by omega, h p (ds.set 0 (1 + v.fmod 9)) _ ⟨by rw [List.length_set, hc.1]; omega, by rw [List.length_set, hc.1]; omega, fun z hz => ?_, ?_⟩ ?_ ?_⟩
      · rcases List.mem_or_eq_of_mem_set hz with hz | rfl
        · exact hc.2 z hz
        · omega
      · rw [List.getD_eq_getElem?_getD, List.getElem?_set_self (by rw [hc.1]; omega)]
        show 0 < 1 + v.fmod 9
        omega
      · exact (hs1.trans hsp).write (hs1.none np)
      · rw [put_same, List.map_set]
    · exact h p ds _ ⟨by rw [hc.1]; omega, by rw [hc.1]; omega, hc.2, by omega⟩ (hs1.trans hsp) hp0
  · intro N hN
    have m1 := Int.fmod_nonneg_of_pos (u * 13 + v) (b := 130) (by decide)
    have m2 := Int.fmod_lt_of_pos (u * 13 + v) (b := 130) (by decide)
    have m3 := Int.fmod_nonneg_of_pos u (b := 3) (by decide)
    have m4 := Int.fmod_lt_of_pos u (b := 3) (by decide)
    simp -dsimp -implicitDefEqProofs only [↓cov3, ↓cov2, ↓cov1, ↓E_var, ↓E_int, ↓E_bl, ↓E_non, ↓E_str, ↓E_glo, ↓E_tup, ↓E_lst, ↓E_bin, ↓E_neg, ↓E_cmp, ↓E_chn, ↓E_and, ↓E_or, ↓E_one, ↓E_not, ↓E_ifx, ↓E_idx, ↓E_slc, ↓E_call, ↓E_bi, ↓E_isi, ↓E_mth, ↓E_lc, ↓E_fld, ↓E_mcl, ↓E_mk, ↓Es_nil, ↓Es_cons, ↓O_no, ↓O_some, ↓Q_no, ↓Q_c, ↓C_and, ↓C_or, ↓C_one, ↓C_not, ↓C_cmp, ↓C_chn, ↓C_v, ↓I_seq, ↓I_rng1, ↓I_rng2, ↓I_rng3, ↓I_enu, ↓I_zip, ↓I_rev, ↓S_set, ↓S_asg, ↓S_par2, ↓S_sub, ↓S_expr, ↓S_ret, ↓S_retN, ↓S_ifs, ↓S_for, ↓S_brk, ↓S_cnt, ↓S_pass, ↓S_raise, ↓S_try, ↓S_tryas, ↓E_isx, ↓E_isxs, kW_nx, kW_rt, kW_bk, kW_ct, kW_ex, gx_sub, gx_cs, gx_PY, ↓S_never, ↓S_setf, ex_t, ex_f, ↓S_nil, ↓S_cons, ↓kN_nx, ↓kN_rt, ↓kN_bk, ↓kN_ct, ↓kN_ex, ↓kL_nx, ↓kL_rt, ↓kL_bk, ↓kL_ct, ↓kL_ex, ↓kX_nx, ↓kX_rt, ↓kX_bk, ↓kX_ct, ↓kX_ex, ↓kend_nx, ↓kend_rt, ↓kend_bk, ↓kend_ct, ↓kend_ex, vr_some, gt_0, gt_s, stn_0, stn_s, wip_0, wip_s, wips_0, wips_s, neg_i, isi_s, o_i, tru_non, tru_bl, tru_int, tru_tup, tru_rol, c_Eq, c_NotEq, c_Lt, c_LtE, c_Gt, c_GtE, cs_Eq, cs_NotEq, cb_Eq, cb_NotEq, c2_Eq, c2_NotEq, is_non, isnot_non, is_bl, isnot_bl, is_int, isnot_int, is_str, isnot_str, is_tup, isnot_tup, is_rol, isnot_rol, is_ref, isnot_ref, is_b, isnot_b, in_s, notin_s, b_add, b_sub, b_mul, b_fdiv, b_mod, b_pow, b_addt, b_adds, atI0, atI1, atI2, atI3, slc_t, slc_r, len_s, abs_i, str_i, int_i, int_b, min_i, max_i, lcm_i, gcd_i, seq_t, seq_r, r1_i, r2_i, r3_i, a_nm, a_nil, a_cons, vrl_some, vrn_some, put_lget, Option.isSome_some, tru_ref, b_addl, idx_t, idx_r, idx_l, slc_l, len_t, len_r, len_l, tuple_t, tuple_r, tuple_l, list_t, list_r, list_l, app_l, rev_l, pop_l, popat_l, mT_l, seq_l, enu_l, enu_t, fld_i, mcl_i, setf_i, vri_some, vrk_some, mk_0, mk_1, b_mull, zip_l, rev_i, rev_t, in_t, notin_t, fl_s, fl_i, fl_b, fl_n, inL_nil, inL_ss, inL_ii, List.all_cons, List.all_nil, Bool.and_self, Bool.and_true, Bool.true_and, zip_t, zip_m, a_t, a_l, sub_l, isTs, isT, Option.map_some, List.length_cons, List.length_nil, List.lookup_nil, Nat.reduceAdd, Nat.reduceSub, Nat.reduceLT, Nat.zero_add, Bool.false_eq_true, Bool.true_eq_false, if_false, if_true, decide_eq_true_eq, Bool.not_true, Bool.not_false, ite_true, ite_false, reduceIte, Bool.not_eq_true', decide_eq_false_iff_not, Int.cast_ofNat_Int, Int.reduceEq, Int.reduceLT, Int.reduceLE, Int.reduceNeg, Int.reduceAdd, Int.reduceSub, Int.reduceMul, Int.reduceToNat, decide_true, decide_false, not_true, not_false, not_true_eq_false, not_false_eq_true, true_and, and_true, eq_self, reduceCtorEq, List.isEmpty_nil, List.isEmpty_cons, List.nil_append, List.cons_append, ↓E_smt, ↓E_fldx, ↓E_dct, ↓E_gix, ↓E_rsl,  ↓E_lck, ↓S_raisef, ↓S_trym, ↓S_aug, H_nil, H_cons0, H_cons1, gx_xf, gx_kd, okx_nil, okx_ref, xpl_ref, xfS_i, xfS_s, fldxS_p, gixS_s, vrp_some, vlo_some, vrC_some, idx_s, idx_d, slc_s, b_muls, int_s, ord_s, divmod_i, sorted_x, dict_r, sm_join, sm_part, sm_sw, sm_strip, sm_lstrip, sm_zfill, sm_split, sm_digit, sm_alnum, isstr_s, seq_s, rsl_l, lget_of hr1, e0, e1]
    refine ite2 (fun h5 => ⟨by omega, ?_⟩) fun h5 => ?_
    · refine hN _ _ ⟨rfl, (u.fmod 3).toNat + 1, by omega, by omega, ?_⟩
      rw [show (((u.fmod 3).toNat + 1 : Nat) : Int) = u.fmod 3 + 1 by omega]
    · refine hN _ _ ⟨rfl, ((u * 13 + v).fmod 130).toNat + 1, by omega, by omega, ?_⟩
      rw [show ((((u * 13 + v).fmod 130).toNat + 1 : Nat) : Int) = (u * 13 + v).fmod 130 + 1 by omega]
theorem whole_ok (p : Addr) (ds : List Int) (hd : DigL ds) (hp : S p = some (.lst (ds.map D.int))) (h : ∀ n : Nat, 0 < n → n < 10 ^ 130 → Q (.int n) S) : semF G T (k + 1) "_law_whole" [.ref p] S Q E := by
  refine call_of t_law_whole rfl ?_
  simp -dsimp -implicitDefEqProofs only [ent, List.map_cons, List.map_nil, List.length_cons, List.length_nil, Nat.reduceAdd, Nat.reduceSub, Nat.zero_add, List.replicate, List.cons_append, List.nil_append, F_law_whole]
  simp -dsimp -implicitDefEqProofs only [↓cov3, ↓cov2, ↓cov1, ↓E_var, ↓E_int, ↓E_bl, ↓E_non, ↓E_str, ↓E_glo, ↓E_tup, ↓E_lst, ↓E_bin, ↓E_neg, ↓E_cmp, ↓E_chn, ↓E_and, ↓E_or, ↓E_one, ↓E_not, ↓E_ifx, ↓E_idx, ↓E_slc, ↓E_call, ↓E_bi, ↓E_isi, ↓E_mth, ↓E_lc, ↓E_fld, ↓E_mcl, ↓E_mk, ↓Es_nil, ↓Es_cons, ↓O_no, ↓O_some, ↓Q_no, ↓Q_c, ↓C_and, ↓C_or, ↓C_one, ↓C_not, ↓C_cmp, ↓C_chn, ↓C_v, ↓I_seq, ↓I_rng1, ↓I_rng2, ↓I_rng3, ↓I_enu, ↓I_zip, ↓I_rev, ↓S_set, ↓S_asg, ↓S_par2, ↓S_sub, ↓S_expr, ↓S_ret, ↓S_retN, ↓S_ifs, ↓S_for, ↓S_brk, ↓S_cnt, ↓S_pass, ↓S_raise, ↓S_try, ↓S_tryas, ↓E_isx, ↓E_isxs, kW_nx, kW_rt, kW_bk, kW_ct, kW_ex, gx_sub, gx_cs, gx_PY, ↓S_never, ↓S_setf, ex_t, ex_f, ↓S_nil, ↓S_cons, ↓kN_nx, ↓kN_rt, ↓kN_bk, ↓kN_ct, ↓kN_ex, ↓kL_nx, ↓kL_rt, ↓kL_bk, ↓kL_ct, ↓kL_ex, ↓kX_nx, ↓kX_rt, ↓kX_bk, ↓kX_ct, ↓kX_ex, ↓kend_nx, ↓kend_rt, ↓kend_bk, ↓kend_ct, ↓kend_ex, vr_some, gt_0, gt_s, stn_0, stn_s, wip_0, wip_s, wips_0, wips_s, neg_i, isi_s, o_i, tru_non, tru_bl, tru_int, tru_tup, tru_rol, c_Eq, c_NotEq, c_Lt, c_LtE, c_Gt, c_GtE, cs_Eq, cs_NotEq, cb_Eq, cb_NotEq, c2_Eq, c2_NotEq, is_non, isnot_non, is_bl, isnot_bl, is_int, isnot_int, is_str, isnot_str, is_tup, isnot_tup, is_rol, isnot_rol, is_ref, isnot_ref, is_b, isnot_b, in_s, notin_s, b_add, b_sub, b_mul, b_fdiv, b_mod, b_pow, b_addt, b_adds, atI0, atI1, atI2, atI3, slc_t, slc_r, len_s, abs_i, str_i, int_i, int_b, min_i, max_i, lcm_i, gcd_i, seq_t, seq_r, r1_i, r2_i, r3_i, a_nm, a_nil, a_cons, vrl_some, vrn_some, put_lget, Option.isSome_some, tru_ref, b_addl, idx_t, idx_r, idx_l, slc_l, len_t, len_r, len_l, tuple_t, tuple_r, tuple_l, list_t, list_r, list_l, app_l, rev_l, pop_l, popat_l, mT_l, seq_l, enu_l, enu_t, fld_i, mcl_i, setf_i, vri_some, vrk_some, mk_0, mk_1, b_mull, zip_l, rev_i, rev_t, in_t, notin_t, fl_s, fl_i, fl_b, fl_n, inL_nil, inL_ss, inL_ii, List.all_cons, List.all_nil, Bool.and_self, Bool.and_true, Bool.true_and, zip_t, zip_m, a_t, a_l, sub_l, isTs, isT, Option.map_some, List.length_cons, List.length_nil, List.lookup_nil, Nat.reduceAdd, Nat.reduceSub, Nat.reduceLT, Nat.zero_add, Bool.false_eq_true, Bool.true_eq_false, if_false, if_true, decide_eq_true_eq, Bool.not_true, Bool.not_false, ite_true, ite_false, reduceIte, Bool.not_eq_true', decide_eq_false_iff_not, Int.cast_ofNat_Int, Int.reduceEq, Int.reduceLT, Int.reduceLE, Int.reduceNeg, Int.reduceAdd, Int.reduceSub, Int.reduceMul, Int.reduceToNat, decide_true, decide_false, not_true, not_false, not_true_eq_false, not_false_eq_true, true_and, and_true, eq_self, reduceCtorEq, List.isEmpty_nil, List.isEmpty_cons, List.nil_append, List.cons_append, ↓E_smt, ↓E_fldx, ↓E_dct, ↓E_gix, ↓E_rsl,  ↓E_lck, ↓S_raisef, ↓S_trym, ↓S_aug, H_nil, H_cons0, H_cons1, gx_xf, gx_kd, okx_nil, okx_ref, xpl_ref, xfS_i, xfS_s, fldxS_p, gixS_s, vrp_some, vlo_some, vrC_some, idx_s, idx_d, slc_s, b_muls, int_s, ord_s, divmod_i, sorted_x, dict_r, sm_join, sm_part, sm_sw, sm_strip, sm_lstrip, sm_zfill, sm_split, sm_digit, sm_alnum, isstr_s, seq_s, rsl_l, lget_of hp]
  refine for_lst (xs := ds.map D.int) (fun i σ S' => S' = S ∧ ∃ (n : Nat) (z : Option D), σ = [some (.ref p), some (.int n), z] ∧ n < 10 ^ i ∧ (0 < i → 0 < n)) (fun i σ S' h => h.1 ▸ hp) ⟨rfl, 0, _, rfl, by decide, fun h => by cases h⟩ ?_ ?_
  · rintro i σ S' N hi ⟨rfl, n, z, rfl, h1, h2⟩ hN
    rw [List.length_map] at hi
    have e : (ds.map D.int).getD i .non = .int (ds.getD i 0) := by
      rw [List.getD_eq_getElem?_getD, List.getElem?_map, List.getElem?_eq_getElem hi, List.getD_eq_getElem?_getD, List.getElem?_eq_getElem hi]
      rfl
    have g : 0 ≤ ds.getD i 0 ∧ ds.getD i 0 < 10 := by
      rw [List.getD_eq_getElem?_getD, List.getElem?_eq_getElem hi]
      exact hd.2.2.1 _ (List.getElem_mem hi)
    rw [e]
    simp -dsimp -implicitDefEqProofs only [↓cov3, ↓cov2, ↓cov1, ↓E_var, ↓E_int, ↓E_bl, ↓E_non, ↓E_str, ↓E_glo, ↓E_tup, ↓E_lst, ↓E_bin, ↓E_neg, ↓E_cmp, ↓E_chn, ↓E_and, ↓E_or, ↓E_one, ↓E_not, ↓E_ifx, ↓E_idx, ↓E_slc, ↓E_call, ↓E_bi, ↓E_isi, ↓E_mth, ↓E_lc, ↓E_fld, ↓E_mcl, ↓E_mk, ↓Es_nil, ↓Es_cons, ↓O_no, ↓O_some, ↓Q_no, ↓Q_c, ↓C_and, ↓C_or, ↓C_one, ↓C_not, ↓C_cmp, ↓C_chn, ↓C_v, ↓I_seq, ↓I_rng1, ↓I_rng2, ↓I_rng3, ↓I_enu, ↓I_zip, ↓I_rev, ↓S_set, ↓S_asg, ↓S_par2, ↓S_sub, ↓S_expr, ↓S_ret, ↓S_retN, ↓S_ifs, ↓S_for, ↓S_brk, ↓S_cnt, ↓S_pass, ↓S_raise, ↓S_try, ↓S_tryas, ↓E_isx, ↓E_isxs, kW_nx, kW_rt, kW_bk, kW_ct, kW_ex, gx_sub, gx_cs, gx_PY, ↓S_never, ↓S_setf, ex_t, ex_f, ↓S_nil, ↓S_cons, ↓kN_nx, ↓kN_rt, ↓kN_bk, ↓kN_ct, ↓kN_ex, ↓kL_nx, ↓kL_rt, ↓kL_bk, ↓kL_ct, ↓kL_ex, ↓kX_nx, ↓kX_rt, ↓kX_bk, ↓kX_ct, ↓kX_ex, ↓kend_nx, ↓kend_rt, ↓kend_bk, ↓kend_ct, ↓kend_ex, vr_some, gt_0, gt_s, stn_0, stn_s, wip_0, wip_s, wips_0, wips_s, neg_i, isi_s, o_i, tru_non, tru_bl, tru_int, tru_tup, tru_rol, c_Eq, c_NotEq, c_Lt, c_LtE, c_Gt, c_GtE, cs_Eq, cs_NotEq, cb_Eq, cb_NotEq, c2_Eq, c2_NotEq, is_non, isnot_non, is_bl, isnot_bl, is_int, isnot_int, is_str, isnot_str, is_tup, isnot_tup, is_rol, isnot_rol, is_ref, isnot_ref, is_b, isnot_b, in_s, notin_s, b_add, b_sub, b_mul, b_fdiv, b_mod, b_pow, b_addt, b_adds, atI0, atI1, atI2, atI3, slc_t, slc_r, len_s, abs_i, str_i, int_i, int_b, min_i, max_i, lcm_i, gcd_i, seq_t, seq_r, r1_i, r2_i, r3_i, a_nm, a_nil, a_cons, vrl_some, vrn_some, put_lget, Option.isSome_some, tru_ref, b_addl, idx_t, idx_r, idx_l, slc_l, len_t, len_r, len_l, tuple_t, tuple_r, tuple_l, list_t, list_r, list_l, app_l, rev_l, pop_l, popat_l, mT_l, seq_l, enu_l, enu_t, fld_i, mcl_i, setf_i, vri_some, vrk_some, mk_0, mk_1, b_mull, zip_l, rev_i, rev_t, in_t, notin_t, fl_s, fl_i, fl_b, fl_n, inL_nil, inL_ss, inL_ii, List.all_cons, List.all_nil, Bool.and_self, Bool.and_true, Bool.true_and, zip_t, zip_m, a_t, a_l, sub_l, isTs, isT, Option.map_some, List.length_cons, List.length_nil, List.lookup_nil, Nat.reduceAdd, Nat.reduceSub, Nat.reduceLT, Nat.zero_add, Bool.false_eq_true, Bool.true_eq_false, if_false, if_true, decide_eq_true_eq, Bool.not_true, Bool.not_false, ite_true, ite_false, reduceIte, Bool.not_eq_true', decide_eq_false_iff_not, Int.cast_ofNat_Int, Int.reduceEq, Int.reduceLT, Int.reduceLE, Int.reduceNeg, Int.reduceAdd, Int.reduceSub, Int.reduceMul, Int.reduceToNat, decide_true, decide_false, not_true, not_false, not_true_eq_false, not_false_eq_true, true_and, and_true, eq_self, reduceCtorEq, List.isEmpty_nil, List.isEmpty_cons, List.nil_append, List.cons_append, ↓E_smt, ↓E_fldx, ↓E_dct, ↓E_gix, ↓E_rsl,  ↓E_lck, ↓S_raisef, ↓S_trym, ↓S_aug, H_nil, H_cons0, H_cons1, gx_xf, gx_kd, okx_nil, okx_ref, xpl_ref, xfS_i, xfS_s, fldxS_p, gixS_s, vrp_some, vlo_some, vrC_some, idx_s, idx_d, slc_s, b_muls, int_s, ord_s, divmod_i, sorted_x, dict_r, sm_join, sm_part, sm_sw, sm_strip, sm_lstrip, sm_zfill, sm_split, sm_digit, sm_alnum, isstr_s, seq_s, rsl_l]
    refine ⟨mulL (by decide) (by decide), ?_⟩
    rw [show (10 * (n : Int) + ds.getD i 0) = ((10 * n + (ds.getD i 0).toNat : Nat) : Int) by omega]
    refine hN _ _ ⟨rfl, _, _, rfl, by rw [Nat.pow_succ]; omega, fun _ => ?_⟩
    by_cases hi0 : i = 0
    · subst hi0
      have := hd.2.2.2
      omega
    · have := h2 (by omega)
      omega
  · rintro σ S' ⟨rfl, n, z, rfl, h1, h2⟩
    simp -dsimp -implicitDefEqProofs only [↓cov3, ↓cov2, ↓cov1, ↓E_var, ↓E_int, ↓E_bl, ↓E_non, ↓E_str, ↓E_glo, ↓E_tup, ↓E_lst, ↓E_bin, ↓E_neg, ↓E_cmp, ↓E_chn, ↓E_and, ↓E_or, ↓E_one, ↓E_not, ↓E_ifx, ↓E_idx, ↓E_slc, ↓E_call, ↓E_bi, ↓E_isi, ↓E_mth, ↓E_lc, ↓E_fld, ↓E_mcl, ↓E_mk, ↓Es_nil, ↓Es_cons, ↓O_no, ↓O_some, ↓Q_no, ↓Q_c, ↓C_and, ↓C_or, ↓C_one, ↓C_not, ↓C_cmp, ↓C_chn, ↓C_v, ↓I_seq, ↓I_rng1, ↓I_rng2, ↓I_rng3, ↓I_enu, ↓I_zip, ↓I_rev, ↓S_set, ↓S_asg, ↓S_par2, ↓S_sub, ↓S_expr, ↓S_ret, ↓S_retN, ↓S_ifs, ↓S_for, ↓S_brk, ↓S_cnt, ↓S_pass, ↓S_raise, ↓S_try, ↓S_tryas, ↓E_isx, ↓E_isxs, kW_nx, kW_rt, kW_bk, kW_ct, kW_ex, gx_sub, gx_cs, gx_PY, ↓S_never, ↓S_setf, ex_t, ex_f, ↓S_nil, ↓S_cons, ↓kN_nx, ↓kN_rt, ↓kN_bk, ↓kN_ct, ↓kN_ex, ↓kL_nx, ↓kL_rt, ↓kL_bk, ↓kL_ct, ↓kL_ex, ↓kX_nx, ↓kX_rt, ↓kX_bk, ↓kX_ct, ↓kX_ex, ↓kend_nx, ↓kend_rt, ↓kend_bk, ↓kend_ct, ↓kend_ex, vr_some, gt_0, gt_s, stn_0, stn_s, wip_0, wip_s, wips_0, wips_s, neg_i, isi_s, o_i, tru_non, tru_bl, tru_int, tru_tup, tru_rol, c_Eq, c_NotEq, c_Lt, c_LtE, c_Gt, c_GtE, cs_Eq, cs_NotEq, cb_Eq, cb_NotEq, c2_Eq, c2_NotEq, is_non, isnot_non, is_bl, isnot_bl, is_int, isnot_int, is_str, isnot_str, is_tup, isnot_tup, is_rol, isnot_rol, is_ref, isnot_ref, is_b, isnot_b, in_s, notin_s, b_add, b_sub, b_mul, b_fdiv, b_mod, b_pow, b_addt, b_adds, atI0, atI1, atI2, atI3, slc_t, slc_r, len_s, abs_i, str_i, int_i, int_b, min_i, max_i, lcm_i, gcd_i, seq_t, seq_r, r1_i, r2_i, r3_i, a_nm, a_nil, a_cons, vrl_some, vrn_some, put_lget, Option.isSome_some, tru_ref, b_addl, idx_t, idx_r, idx_l, slc_l, len_t, len_r, len_l, tuple_t, tuple_r, tuple_l, list_t, list_r, list_l, app_l, rev_l, pop_l, popat_l, mT_l, seq_l, enu_l, enu_t, fld_i, mcl_i, setf_i, vri_some, vrk_some, mk_0, mk_1, b_mull, zip_l, rev_i, rev_t, in_t, notin_t, fl_s, fl_i, fl_b, fl_n, inL_nil, inL_ss, inL_ii, List.all_cons, List.all_nil, Bool.and_self, Bool.and_true, Bool.true_and, zip_t, zip_m, a_t, a_l, sub_l, isTs, isT, Option.map_some, List.length_cons, List.length_nil, List.lookup_nil, Nat.reduceAdd, Nat.reduceSub, Nat.reduceLT, Nat.zero_add, Bool.false_eq_true, Bool.true_eq_false, if_false, if_true, decide_eq_true_eq, Bool.not_true, Bool.not_false, ite_true, ite_false, reduceIte, Bool.not_eq_true', decide_eq_false_iff_not, Int.cast_ofNat_Int, Int.reduceEq, Int.reduceLT, Int.reduceLE, Int.reduceNeg, Int.reduceAdd, Int.reduceSub, Int.reduceMul, Int.reduceToNat, decide_true, decide_false, not_true, not_false, not_true_eq_false, not_false_eq_true, true_and, and_true, eq_self, reduceCtorEq, List.isEmpty_nil, List.isEmpty_cons, List.nil_append, List.cons_append, ↓E_smt, ↓E_fldx, ↓E_dct, ↓E_gix, ↓E_rsl,  ↓E_lck, ↓S_raisef, ↓S_trym, ↓S_aug, H_nil, H_cons0, H_cons1, gx_xf, gx_kd, okx_nil, okx_ref, xpl_ref, xfS_i, xfS_s, fldxS_p, gixS_s, vrp_some, vlo_some, vrC_some, idx_s, idx_d, slc_s, b_muls, int_s, ord_s, divmod_i, sorted_x, dict_r, sm_join, sm_part, sm_sw, sm_strip, sm_lstrip, sm_zfill, sm_split, sm_digit, sm_alnum, isstr_s, seq_s, rsl_l]
    rw [List.length_map] at h1 h2
    exact h n (h2 (by have := hd.1; omega)) (Nat.lt_of_lt_of_le h1 (Nat.pow_le_pow_right (by decide) hd.2.1))
theorem l_00 : ("00" : Str) = tx [48, 48] := ofs "00"
theorem l_dig : ("0123456789" : Str) = tx [48, 49, 50, 51, 52, 53, 54, 55, 56, 57] := ofs "0123456789"
theorem dig_at (m : Nat) (h : m < 10) : atI (tx [48, 49, 50, 51, 52, 53, 54, 55, 56, 57]).cps.toList (m : Int) = some (48 + m) := by
  have : m = 0 ∨ m = 1 ∨ m = 2 ∨ m = 3 ∨ m = 4 ∨ m = 5 ∨ m = 6 ∨ m = 7 ∨ m = 8 ∨ m = 9 := by omega
  rcases this with rfl | rfl | rfl | rfl | rfl | rfl | rfl | rfl | rfl | rfl <;> rfl
theorem text_ok (z : Int) (hz : z.natAbs < 10 ^ 500) (h : ∀ S', Sub S S' → Q (.str (tx (fi z))) S') : semF G T (k + 1) "_law_text" [.int z] S Q E := by
  refine call_of t_law_text rfl ?_
  simp -dsimp -implicitDefEqProofs only [ent, List.map_cons, List.map_nil, List.length_cons, List.length_nil, Nat.reduceAdd, Nat.reduceSub, Nat.zero_add, List.replicate, List.cons_append, List.nil_append, F_law_text]
  simp -dsimp -implicitDefEqProofs only [↓cov3, ↓cov2, ↓cov1, ↓E_var, ↓E_int, ↓E_bl, ↓E_non, ↓E_str, ↓E_glo, ↓E_tup, ↓E_lst, ↓E_bin, ↓E_neg, ↓E_cmp, ↓E_chn, ↓E_and, ↓E_or, ↓E_one, ↓E_not, ↓E_ifx, ↓E_idx, ↓E_slc, ↓E_call, ↓E_bi, ↓E_isi, ↓E_mth, ↓E_lc, ↓E_fld, ↓E_mcl, ↓E_mk, ↓Es_nil, ↓Es_cons, ↓O_no, ↓O_some, ↓Q_no, ↓Q_c, ↓C_and, ↓C_or, ↓C_one, ↓C_not, ↓C_cmp, ↓C_chn, ↓C_v, ↓I_seq, ↓I_rng1, ↓I_rng2, ↓I_rng3, ↓I_enu, ↓I_zip, ↓I_rev, ↓S_set, ↓S_asg, ↓S_par2, ↓S_sub, ↓S_expr, ↓S_ret, ↓S_retN, ↓S_ifs, ↓S_for, ↓S_brk, ↓S_cnt, ↓S_pass, ↓S_raise, ↓S_try, ↓S_tryas, ↓E_isx, ↓E_isxs, kW_nx, kW_rt, kW_bk, kW_ct, kW_ex, gx_sub, gx_cs, gx_PY, ↓S_never, ↓S_setf, ex_t, ex_f, ↓S_nil, ↓S_cons, ↓kN_nx, ↓kN_rt, ↓kN_bk, ↓kN_ct, ↓kN_ex, ↓kL_nx, ↓kL_rt, ↓kL_bk, ↓kL_ct, ↓kL_ex, ↓kX_nx, ↓kX_rt, ↓kX_bk, ↓kX_ct, ↓kX_ex, ↓kend_nx, ↓kend_rt, ↓kend_bk, ↓kend_ct, ↓kend_ex, vr_some, gt_0, gt_s, stn_0, stn_s, wip_0, wip_s, wips_0, wips_s, neg_i, isi_s, o_i, tru_non, tru_bl, tru_int, tru_tup, tru_rol, c_Eq, c_NotEq, c_Lt, c_LtE, c_Gt, c_GtE, cs_Eq, cs_NotEq, cb_Eq, cb_NotEq, c2_Eq, c2_NotEq, is_non, isnot_non, is_bl, isnot_bl, is_int, isnot_int, is_str, isnot_str, is_tup, isnot_tup, is_rol, isnot_rol, is_ref, isnot_ref, is_b, isnot_b, in_s, notin_s, b_add, b_sub, b_mul, b_fdiv, b_mod, b_pow, b_addt, b_adds, atI0, atI1, atI2, atI3, slc_t, slc_r, len_s, abs_i, str_i, int_i, int_b, min_i, max_i, lcm_i, gcd_i, seq_t, seq_r, r1_i, r2_i, r3_i, a_nm, a_nil, a_cons, vrl_some, vrn_some, put_lget, Option.isSome_some, tru_ref, b_addl, idx_t, idx_r, idx_l, slc_l, len_t, len_r, len_l, tuple_t, tuple_r, tuple_l, list_t, list_r, list_l, app_l, rev_l, pop_l, popat_l, mT_l, seq_l, enu_l, enu_t, fld_i, mcl_i, setf_i, vri_some, vrk_some, mk_0, mk_1, b_mull, zip_l, rev_i, rev_t, in_t, notin_t, fl_s, fl_i, fl_b, fl_n, inL_nil, inL_ss, inL_ii, List.all_cons, List.all_nil, Bool.and_self, Bool.and_true, Bool.true_and, zip_t, zip_m, a_t, a_l, sub_l, isTs, isT, Option.map_some, List.length_cons, List.length_nil, List.lookup_nil, Nat.reduceAdd, Nat.reduceSub, Nat.reduceLT, Nat.zero_add, Bool.false_eq_true, Bool.true_eq_false, if_false, if_true, decide_eq_true_eq, Bool.not_true, Bool.not_false, ite_true, ite_false, reduceIte, Bool.not_eq_true', decide_eq_false_iff_not, Int.cast_ofNat_Int, Int.reduceEq, Int.reduceLT, Int.reduceLE, Int.reduceNeg, Int.reduceAdd, Int.reduceSub, Int.reduceMul, Int.reduceToNat, decide_true, decide_false, not_true, not_false, not_true_eq_false, not_false_eq_true, true_and, and_true, eq_self, reduceCtorEq, List.isEmpty_nil, List.isEmpty_cons, List.nil_append, List.cons_append, ↓E_smt, ↓E_fldx, ↓E_dct, ↓E_gix, ↓E_rsl,  ↓E_lck, ↓S_raisef, ↓S_trym, ↓S_aug, H_nil, H_cons0, H_cons1, gx_xf, gx_kd, okx_nil, okx_ref, xpl_ref, xfS_i, xfS_s, fldxS_p, gixS_s, vrp_some, vlo_some, vrC_some, idx_s, idx_d, slc_s, b_muls, int_s, ord_s, divmod_i, sorted_x, dict_r, sm_join, sm_part, sm_sw, sm_strip, sm_lstrip, sm_zfill, sm_split, sm_digit, sm_alnum, isstr_s, seq_s, rsl_l]
  refine ite2 (fun h0 => ?_) fun h0 => ?_
  · subst h0
    rw [l_0]
    have := h S (Sub.refl _)
    rw [show fi 0 = [48] from dg_lt (by decide)] at this
    exact this
  intro p np
  have hlen : (dg z.natAbs).length ≤ 500 := dg_len hz (by decide)
  rw [show (if z < 0 then -z else z) = ((z.natAbs : Nat) : Int) by split <;> omega]
  refine whl_by (α := Nat) (fun m => [some (.int z), some (.str "0123456789"), some (.ref p), some (.int m), none]) (fun m S' => ∃ zs : List (List Nat), S' p = some (.lst ((zs.map tx).map D.str)) ∧ dg z.natAbs = (if m = 0 then [] else dg m) ++ zs.reverse.flatten ∧ (∀ c ∈ zs, c.length = 1) ∧ Sub S S') (fun m => m) z.natAbs rfl
    ⟨[], put_same, by rw [if_neg (by omega)]; simp, (fun c hc => by cases hc), Sub.new np⟩ ?_
  rintro m S' N ⟨zs, hzs, hd, h1, hs⟩ hN
  have hfl : zs.length ≤ 500 := by
    have e : zs.reverse.flatten.length = zs.length := by
      have : ∀ l : List (List Nat), (∀ c ∈ l, c.length = 1) → l.flatten.length = l.length := by
        intro l
        induction l with
        | nil => intro _; rfl
        | cons c l ih =>
          intro hl
          rw [List.flatten_cons, List.length_append, ih fun x hx => hl x (List.mem_cons_of_mem _ hx), hl c List.mem_cons_self, List.length_cons]
          omega
      rw [this _ fun c hc => h1 c (List.mem_reverse.mp hc), List.length_reverse]
    rw [hd, List.length_append] at hlen
    omega
  simp -dsimp -implicitDefEqProofs only [↓cov3, ↓cov2, ↓cov1, ↓E_var, ↓E_int, ↓E_bl, ↓E_non, ↓E_str, ↓E_glo, ↓E_tup, ↓E_lst, ↓E_bin, ↓E_neg, ↓E_cmp, ↓E_chn, ↓E_and, ↓E_or, ↓E_one, ↓E_not, ↓E_ifx, ↓E_idx, ↓E_slc, ↓E_call, ↓E_bi, ↓E_isi, ↓E_mth, ↓E_lc, ↓E_fld, ↓E_mcl, ↓E_mk, ↓Es_nil, ↓Es_cons, ↓O_no, ↓O_some, ↓Q_no, ↓Q_c, ↓C_and, ↓C_or, ↓C_one, ↓C_not, ↓C_cmp, ↓C_chn, ↓C_v, ↓I_seq, ↓I_rng1, ↓I_rng2, ↓I_rng3, ↓I_enu, ↓I_zip, ↓I_rev, ↓S_set, ↓S_asg, ↓S_par2, ↓S_sub, ↓S_expr, ↓S_ret, ↓S_retN, ↓S_ifs, ↓S_for, ↓S_brk, ↓S_cnt, ↓S_pass, ↓S_raise, ↓S_try, ↓S_tryas, ↓E_isx, ↓E_isxs, kW_nx, kW_rt, kW_bk, kW_ct, kW_ex, gx_sub, gx_cs, gx_PY, ↓S_never, ↓S_setf, ex_t, ex_f, ↓S_nil, ↓S_cons, ↓kN_nx, ↓kN_rt, ↓kN_bk, ↓kN_ct, ↓kN_ex, ↓kL_nx, ↓kL_rt, ↓kL_bk, ↓kL_ct, ↓kL_ex, ↓kX_nx, ↓kX_rt, ↓kX_bk, ↓kX_ct, ↓kX_ex, ↓kend_nx, ↓kend_rt, ↓kend_bk, ↓kend_ct, ↓kend_ex, vr_some, gt_0, gt_s, stn_0, stn_s, wip_0, wip_s, wips_0, wips_s, neg_i, isi_s, o_i, tru_non, tru_bl, tru_int, tru_tup, tru_rol, c_Eq, c_NotEq, c_Lt, c_LtE, c_Gt, c_GtE, cs_Eq, cs_NotEq, cb_Eq, cb_NotEq, c2_Eq, c2_NotEq, is_non, isnot_non, is_bl, isnot_bl, is_int, isnot_int, is_str, isnot_str, is_tup, isnot_tup, is_rol, isnot_rol, is_ref, isnot_ref, is_b, isnot_b, in_s, notin_s, b_add, b_sub, b_mul, b_fdiv, b_mod, b_pow, b_addt, b_adds, atI0, atI1, atI2, atI3, slc_t, slc_r, len_s, abs_i, str_i, int_i, int_b, min_i, max_i, lcm_i, gcd_i, seq_t, seq_r, r1_i, r2_i, r3_i, a_nm, a_nil, a_cons, vrl_some, vrn_some, put_lget, Option.isSome_some, tru_ref, b_addl, idx_t, idx_r, idx_l, slc_l, len_t, len_r, len_l, tuple_t, tuple_r, tuple_l, list_t, list_r, list_l, app_l, rev_l, pop_l, popat_l, mT_l, seq_l, enu_l, enu_t, fld_i, mcl_i, setf_i, vri_some, vrk_some, mk_0, mk_1, b_mull, zip_l, rev_i, rev_t, in_t, notin_t, fl_s, fl_i, fl_b, fl_n, inL_nil, inL_ss, inL_ii, List.all_cons, List.all_nil, Bool.and_self, Bool.and_true, Bool.true_and, zip_t, zip_m, a_t, a_l, sub_l, isTs, isT, Option.map_some, List.length_cons, List.length_nil, List.lookup_nil, Nat.reduceAdd, Nat.reduceSub, Nat.reduceLT, Nat.zero_add, Bool.false_eq_true, Bool.true_eq_false, if_false, if_true, decide_eq_true_eq, Bool.not_true, Bool.not_false, ite_true, ite_false, reduceIte, Bool.not_eq_true', decide_eq_false_iff_not, Int.cast_ofNat_Int, Int.reduceEq, Int.reduceLT, Int.reduceLE, Int.reduceNeg, Int.reduceAdd, Int.reduceSub, Int.reduceMul, Int.reduceToNat, decide_true, decide_false, not_true, not_false, not_true_eq_false, not_false_eq_true, true_and, and_true, eq_self, reduceCtorEq, List.isEmpty_nil, List.isEmpty_cons, List.nil_append, List.cons_append, ↓E_smt, ↓E_fldx, ↓E_dct, ↓E_gix, ↓E_rsl,  ↓E_lck, ↓S_raisef, ↓S_trym, ↓S_aug, H_nil, H_cons0, H_cons1, gx_xf, gx_kd, okx_nil, okx_ref, xpl_ref, xfS_i, xfS_s, fldxS_p, gixS_s, vrp_some, vlo_some, vrC_some, idx_s, idx_d, slc_s, b_muls, int_s, ord_s, divmod_i, sorted_x, dict_r, sm_join, sm_part, sm_sw, sm_strip, sm_lstrip, sm_zfill, sm_split, sm_digit, sm_alnum, isstr_s, seq_s, rsl_l, lget_of hzs, l_dig, one_tx]
  refine ite2 (fun hlt => ?_) fun hge => ?_
  · have hm : (m : Int).fmod 10 = ((m % 10 : Nat) : Int) := by rw [Int.fmod_eq_emod_of_nonneg _ (by omega)]; rfl
    have hq : (m : Int).fdiv 10 = ((m / 10 : Nat) : Int) := by rw [Int.fdiv_eq_ediv_of_nonneg _ (by omega)]; rfl
    rw [hm, dig_at _ (by omega)]
    simp -dsimp -implicitDefEqProofs only [↓cov3, ↓cov2, ↓cov1, ↓E_var, ↓E_int, ↓E_bl, ↓E_non, ↓E_str, ↓E_glo, ↓E_tup, ↓E_lst, ↓E_bin, ↓E_neg, ↓E_cmp, ↓E_chn, ↓E_and, ↓E_or, ↓E_one, ↓E_not, ↓E_ifx, ↓E_idx, ↓E_slc, ↓E_call, ↓E_bi, ↓E_isi, ↓E_mth, ↓E_lc, ↓E_fld, ↓E_mcl, ↓E_mk, ↓Es_nil, ↓Es_cons, ↓O_no, ↓O_some, ↓Q_no, ↓Q_c, ↓C_and, ↓C_or, ↓C_one, ↓C_not, ↓C_cmp, ↓C_chn, ↓C_v, ↓I_seq, ↓I_rng1, ↓I_rng2, ↓I_rng3, ↓I_enu, ↓I_zip, ↓I_rev, ↓S_set, ↓S_asg, ↓S_par2, ↓S_sub, ↓S_expr, ↓S_ret, ↓S_retN, ↓S_ifs, ↓S_for, ↓S_brk, ↓S_cnt, ↓S_pass, ↓S_raise, ↓S_try, ↓S_tryas, ↓E_isx, ↓E_isxs, kW_nx, kW_rt, kW_bk, kW_ct, kW_ex, gx_sub, gx_cs, gx_PY, ↓S_never, ↓S_setf, ex_t, ex_f, ↓S_nil, ↓S_cons, ↓kN_nx, ↓kN_rt, ↓kN_bk, ↓kN_ct, ↓kN_ex, ↓kL_nx, ↓kL_rt, ↓kL_bk, ↓kL_ct, ↓kL_ex, ↓kX_nx, ↓kX_rt, ↓kX_bk, ↓kX_ct, ↓kX_ex, ↓kend_nx, ↓kend_rt, ↓kend_bk, ↓kend_ct, ↓kend_ex, vr_some, gt_0, gt_s, stn_0, stn_s, wip_0, wip_s, wips_0, wips_s, neg_i, isi_s, o_i, tru_non, tru_bl, tru_int, tru_tup, tru_rol, c_Eq, c_NotEq, c_Lt, c_LtE, c_Gt, c_GtE, cs_Eq, cs_NotEq, cb_Eq, cb_NotEq, c2_Eq, c2_NotEq, is_non, isnot_non, is_bl, isnot_bl, is_int, isnot_int, is_str, isnot_str, is_tup, isnot_tup, is_rol, isnot_rol, is_ref, isnot_ref, is_b, isnot_b, in_s, notin_s, b_add, b_sub, b_mul, b_fdiv, b_mod, b_pow, b_addt, b_adds, atI0, atI1, atI2, atI3, slc_t, slc_r, len_s, abs_i, str_i, int_i, int_b, min_i, max_i, lcm_i, gcd_i, seq_t, seq_r, r1_i, r2_i, r3_i, a_nm, a_nil, a_cons, vrl_some, vrn_some, put_lget, Option.isSome_some, tru_ref, b_addl, idx_t, idx_r, idx_l, slc_l, len_t, len_r, len_l, tuple_t, tuple_r, tuple_l, list_t, list_r, list_l, app_l, rev_l, pop_l, popat_l, mT_l, seq_l, enu_l, enu_t, fld_i, mcl_i, setf_i, vri_some, vrk_some, mk_0, mk_1, b_mull, zip_l, rev_i, rev_t, in_t, notin_t, fl_s, fl_i, fl_b, fl_n, inL_nil, inL_ss, inL_ii, List.all_cons, List.all_nil, Bool.and_self, Bool.and_true, Bool.true_and, zip_t, zip_m, a_t, a_l, sub_l, isTs, isT, Option.map_some, List.length_cons, List.length_nil, List.lookup_nil, Nat.reduceAdd, Nat.reduceSub, Nat.reduceLT, Nat.zero_add, Bool.false_eq_true, Bool.true_eq_false, if_false, if_true, decide_eq_true_eq, Bool.not_true, Bool.not_false, ite_true, ite_false, reduceIte, Bool.not_eq_true', decide_eq_false_iff_not, Int.cast_ofNat_Int, Int.reduceEq, Int.reduceLT, Int.reduceLE, Int.reduceNeg, Int.reduceAdd, Int.reduceSub, Int.reduceMul, Int.reduceToNat, decide_true, decide_false, not_true, not_false, not_true_eq_false, not_false_eq_true, true_and, and_true, eq_self, reduceCtorEq, List.isEmpty_nil, List.isEmpty_cons, List.nil_append, List.cons_append, ↓E_smt, ↓E_fldx, ↓E_dct, ↓E_gix, ↓E_rsl,  ↓E_lck, ↓S_raisef, ↓S_trym, ↓S_aug, H_nil, H_cons0, H_cons1, gx_xf, gx_kd, okx_nil, okx_ref, xpl_ref, xfS_i, xfS_s, fldxS_p, gixS_s, vrp_some, vlo_some, vrC_some, idx_s, idx_d, slc_s, b_muls, int_s, ord_s, divmod_i, sorted_x, dict_r, sm_join, sm_part, sm_sw, sm_strip, sm_lstrip, sm_zfill, sm_split, sm_digit, sm_alnum, isstr_s, seq_s, rsl_l, lget_of hzs, one_tx, len_tx, List.length_map, hq]
    refine ⟨by decide, szt (by decide), szlt (by omega), ⟨by decide, .inr trivial⟩, ?_⟩
    refine hN (m / 10) _ ⟨zs ++ [[48 + m % 10]], ?_, ?_, ?_, hs.write np⟩ (by omega)
    · rw [put_same]
      simp
    · rw [hd, if_neg (by omega), List.reverse_append]
      by_cases h10 : m < 10
      · rw [if_pos (by omega), dg_lt h10, Nat.mod_eq_of_lt h10]
        rfl
      · rw [if_neg (by omega), dg_ge (by omega), List.append_assoc]
        rfl
    · intro c hc
      rcases List.mem_append.mp hc with hc | hc
      · exact h1 c hc
      · rw [List.mem_singleton.mp hc]
        rfl
  · have h0m : m = 0 := by omega
    subst h0m
    rw [if_pos rfl, List.nil_append] at hd
    have hp2 : (put S' p (.lst ((zs.map tx).map D.str).reverse)) p = some (.lst ((zs.reverse.map tx).map D.str)) := by
      rw [put_same]
      simp
    have hs2 := hs.write (o := .lst ((zs.map tx).map D.str).reverse) np
    generalize put S' p (.lst ((zs.map tx).map D.str).reverse) = S2 at *
    have hfi : Sub S S2 → (z < 0 → Q (.str (tx (45 :: dg z.natAbs))) S2) ∧ (¬ z < 0 → Q (.str (tx (dg z.natAbs))) S2) := fun hs => by
      have := h S2 hs
      unfold fi at this
      exact ⟨fun hz => by rw [if_pos hz] at this; exact this, fun hz => by rw [if_neg hz] at this; exact this⟩
    obtain ⟨q1, q2⟩ := hfi hs2
    rw [l_e, l_m]
    have hj : Txt.join (tx []) (zs.reverse.map tx) = tx (dg z.natAbs) := by rw [LA.join_nil, hd]
    have hsum : ((zs.reverse.map tx).map (·.length)).sum + (zs.reverse.map tx).length * (tx []).length ≤ 16777216 := by
      rw [sum_tx, ← hd]
      show _ + _ * 0 ≤ _
      omega
    refine ite2 (fun hz => ⟨_, lget_of hp2, hsum, ?_⟩) fun hz => ⟨_, lget_of hp2, hsum, ?_⟩
    · rw [hj, app_tx]
      exact ⟨szt (by rw [len_tx, len_tx]; show 1 + _ ≤ _; omega), q1 hz⟩
    · rw [hj, app_tx]
      exact ⟨szt (by rw [len_tx, len_tx]; show 0 + _ ≤ _; omega), q2 hz⟩
theorem l_pl : ("+" : Str) = tx [43] := ofs "+"
theorem l_sp : (" " : Str) = tx [32] := ofs " "
theorem l_m0 : ("-0" : Str) = tx [45, 48] := ofs "-0"
theorem l_mm : ("--" : Str) = tx [45, 45] := ofs "--"
theorem l_s0 : ("/0" : Str) = tx [47, 48] := ofs "/0"
theorem l_s1 : ("/1" : Str) = tx [47, 49] := ofs "/1"
theorem l_24 : ("2/4" : Str) = tx [50, 47, 52] := ofs "2/4"
theorem l_63 : ("6/3" : Str) = tx [54, 47, 51] := ofs "6/3"
theorem l_d0 : (".0" : Str) = tx [46, 48] := ofs ".0"
theorem l_x : ("x" : Str) = tx [120] := ofs "x"
theorem l_ss7 : ("//7" : Str) = tx [47, 47, 55] := ofs "//7"
theorem l_05 : ("0/5" : Str) = tx [48, 47, 53] := ofs "0/5"
theorem wf_one (z : Int) : wf (decide (z < 0)) z.natAbs 1 = fi z := by
  unfold wf fi sg
  rw [if_pos rfl]
  by_cases h : z < 0
  · rw [decide_eq_true h, if_pos h]; rfl
  · rw [decide_eq_false h, if_neg h]; rfl
theorem wf_more (z : Int) {y : Nat} (hy : y ≠ 1) : wf (decide (z < 0)) z.natAbs y = fi z ++ 47 :: dg y := by
  unfold wf fi sg
  rw [if_neg hy]
  by_cases h : z < 0
  · rw [decide_eq_true h, if_pos h]; rfl
  · rw [decide_eq_false h, if_neg h]; rfl
theorem fi_nat (n : Nat) : fi n = dg n := by
  unfold fi
  rw [if_neg (by omega)]
  rfl
theorem fi_len {z : Int} (h : z.natAbs < 10 ^ 130) : (fi z).length ≤ 131 := by
  have := dg_len h (by decide)
  unfold fi
  split
  · rw [List.length_cons]; omega
  · omega
def wq (q : Rat) : List Nat := wf (decide (q.num < 0)) q.num.natAbs q.den
theorem lt500 {n : Nat} (h : n < 10 ^ 130) : n < 10 ^ 500 := Nat.lt_of_lt_of_le h (Nat.pow_le_pow_right (by decide) (by decide))
theorem format_rat_ok (q : Rat) (hn : q.num.natAbs < 10 ^ 130) (hd : q.den < 10 ^ 130) (h : ∀ S', Sub S S' → Q (.str (tx (wq q))) S') : semF G T (k + 3) "format_rational" [QD q] S Q E := by
  refine call_of t_format_rational rfl ?_
  simp -dsimp -implicitDefEqProofs only [ent, List.map_cons, List.map_nil, List.length_cons, List.length_nil, Nat.reduceAdd, Nat.reduceSub, Nat.zero_add, List.replicate, List.cons_append, List.nil_append, F_format_rational, QD]
  simp -dsimp -implicitDefEqProofs only [↓cov3, ↓cov2, ↓cov1, ↓E_var, ↓E_int, ↓E_bl, ↓E_non, ↓E_str, ↓E_glo, ↓E_tup, ↓E_lst, ↓E_bin, ↓E_neg, ↓E_cmp, ↓E_chn, ↓E_and, ↓E_or, ↓E_one, ↓E_not, ↓E_ifx, ↓E_idx, ↓E_slc, ↓E_call, ↓E_bi, ↓E_isi, ↓E_mth, ↓E_lc, ↓E_fld, ↓E_mcl, ↓E_mk, ↓Es_nil, ↓Es_cons, ↓O_no, ↓O_some, ↓Q_no, ↓Q_c, ↓C_and, ↓C_or, ↓C_one, ↓C_not, ↓C_cmp, ↓C_chn, ↓C_v, ↓I_seq, ↓I_rng1, ↓I_rng2, ↓I_rng3, ↓I_enu, ↓I_zip, ↓I_rev, ↓S_set, ↓S_asg, ↓S_par2, ↓S_sub, ↓S_expr, ↓S_ret, ↓S_retN, ↓S_ifs, ↓S_for, ↓S_brk, ↓S_cnt, ↓S_pass, ↓S_raise, ↓S_try, ↓S_tryas, ↓E_isx, ↓E_isxs, kW_nx, kW_rt, kW_bk, kW_ct, kW_ex, gx_sub, gx_cs, gx_PY, ↓S_never, ↓S_setf, ex_t, ex_f, ↓S_nil, ↓S_cons, ↓kN_nx, ↓kN_rt, ↓kN_bk, ↓kN_ct, ↓kN_ex, ↓kL_nx, ↓kL_rt, ↓kL_bk, ↓kL_ct, ↓kL_ex, ↓kX_nx, ↓kX_rt, ↓kX_bk, ↓kX_ct, ↓kX_ex, ↓kend_nx, ↓kend_rt, ↓kend_bk, ↓kend_ct, ↓kend_ex, vr_some, gt_0, gt_s, stn_0, stn_s, wip_0, wip_s, wips_0, wips_s, neg_i, isi_s, o_i, tru_non, tru_bl, tru_int, tru_tup, tru_rol, c_Eq, c_NotEq, c_Lt, c_LtE, c_Gt, c_GtE, cs_Eq, cs_NotEq, cb_Eq, cb_NotEq, c2_Eq, c2_NotEq, is_non, isnot_non, is_bl, isnot_bl, is_int, isnot_int, is_str, isnot_str, is_tup, isnot_tup, is_rol, isnot_rol, is_ref, isnot_ref, is_b, isnot_b, in_s, notin_s, b_add, b_sub, b_mul, b_fdiv, b_mod, b_pow, b_addt, b_adds, atI0, atI1, atI2, atI3, slc_t, slc_r, len_s, abs_i, str_i, int_i, int_b, min_i, max_i, lcm_i, gcd_i, seq_t, seq_r, r1_i, r2_i, r3_i, a_nm, a_nil, a_cons, vrl_some, vrn_some, put_lget, Option.isSome_some, tru_ref, b_addl, idx_t, idx_r, idx_l, slc_l, len_t, len_r, len_l, tuple_t, tuple_r, tuple_l, list_t, list_r, list_l, app_l, rev_l, pop_l, popat_l, mT_l, seq_l, enu_l, enu_t, fld_i, mcl_i, setf_i, vri_some, vrk_some, mk_0, mk_1, b_mull, zip_l, rev_i, rev_t, in_t, notin_t, fl_s, fl_i, fl_b, fl_n, inL_nil, inL_ss, inL_ii, List.all_cons, List.all_nil, Bool.and_self, Bool.and_true, Bool.true_and, zip_t, zip_m, a_t, a_l, sub_l, isTs, isT, Option.map_some, List.length_cons, List.length_nil, List.lookup_nil, Nat.reduceAdd, Nat.reduceSub, Nat.reduceLT, Nat.zero_add, Bool.false_eq_true, Bool.true_eq_false, if_false, if_true, decide_eq_true_eq, Bool.not_true, Bool.not_false, ite_true, ite_false, reduceIte, Bool.not_eq_true', decide_eq_false_iff_not, Int.cast_ofNat_Int, Int.reduceEq, Int.reduceLT, Int.reduceLE, Int.reduceNeg, Int.reduceAdd, Int.reduceSub, Int.reduceMul, Int.reduceToNat, decide_true, decide_false, not_true, not_false, not_true_eq_false, not_false_eq_true, true_and, and_true, eq_self, reduceCtorEq, List.isEmpty_nil, List.isEmpty_cons, List.nil_append, List.cons_append, ↓E_smt, ↓E_fldx, ↓E_dct, ↓E_gix, ↓E_rsl,  ↓E_lck, ↓S_raisef, ↓S_trym, ↓S_aug, H_nil, H_cons0, H_cons1, gx_xf, gx_kd, okx_nil, okx_ref, xpl_ref, xfS_i, xfS_s, fldxS_p, gixS_s, vrp_some, vlo_some, vrC_some, idx_s, idx_d, slc_s, b_muls, int_s, ord_s, divmod_i, sorted_x, dict_r, sm_join, sm_part, sm_sw, sm_strip, sm_lstrip, sm_zfill, sm_split, sm_digit, sm_alnum, isstr_s, seq_s, rsl_l]
  unfold wq at h
  refine ite2 (fun h1 => ?_) fun h1 => ?_
  · refine format_ok q.num (lt500 hn) fun S' hs => ?_
    have := h S' hs
    rw [show q.den = 1 by omega, wf_one] at this
    exact this
  · refine format_ok q.num (lt500 hn) fun S1 hs1 => ?_
    have l1 := fi_len hn
    have l2 := dg_len hd (by decide)
    simp -dsimp -implicitDefEqProofs only [↓cov3, ↓cov2, ↓cov1, ↓E_var, ↓E_int, ↓E_bl, ↓E_non, ↓E_str, ↓E_glo, ↓E_tup, ↓E_lst, ↓E_bin, ↓E_neg, ↓E_cmp, ↓E_chn, ↓E_and, ↓E_or, ↓E_one, ↓E_not, ↓E_ifx, ↓E_idx, ↓E_slc, ↓E_call, ↓E_bi, ↓E_isi, ↓E_mth, ↓E_lc, ↓E_fld, ↓E_mcl, ↓E_mk, ↓Es_nil, ↓Es_cons, ↓O_no, ↓O_some, ↓Q_no, ↓Q_c, ↓C_and, ↓C_or, ↓C_one, ↓C_not, ↓C_cmp, ↓C_chn, ↓C_v, ↓I_seq, ↓I_rng1, ↓I_rng2, ↓I_rng3, ↓I_enu, ↓I_zip, ↓I_rev, ↓S_set, ↓S_asg, ↓S_par2, ↓S_sub, ↓S_expr, ↓S_ret, ↓S_retN, ↓S_ifs, ↓S_for, ↓S_brk, ↓S_cnt, ↓S_pass, ↓S_raise, ↓S_try, ↓S_tryas, ↓E_isx, ↓E_isxs, kW_nx, kW_rt, kW_bk, kW_ct, kW_ex, gx_sub, gx_cs, gx_PY, ↓S_never, ↓S_setf, ex_t, ex_f, ↓S_nil, ↓S_cons, ↓kN_nx, ↓kN_rt, ↓kN_bk, ↓kN_ct, ↓kN_ex, ↓kL_nx, ↓kL_rt, ↓kL_bk, ↓kL_ct, ↓kL_ex, ↓kX_nx, ↓kX_rt, ↓kX_bk, ↓kX_ct, ↓kX_ex, ↓kend_nx, ↓kend_rt, ↓kend_bk, ↓kend_ct, ↓kend_ex, vr_some, gt_0, gt_s, stn_0, stn_s, wip_0, wip_s, wips_0, wips_s, neg_i, isi_s, o_i, tru_non, tru_bl, tru_int, tru_tup, tru_rol, c_Eq, c_NotEq, c_Lt, c_LtE, c_Gt, c_GtE, cs_Eq, cs_NotEq, cb_Eq, cb_NotEq, c2_Eq, c2_NotEq, is_non, isnot_non, is_bl, isnot_bl, is_int, isnot_int, is_str, isnot_str, is_tup, isnot_tup, is_rol, isnot_rol, is_ref, isnot_ref, is_b, isnot_b, in_s, notin_s, b_add, b_sub, b_mul, b_fdiv, b_mod, b_pow, b_addt, b_adds, atI0, atI1, atI2, atI3, slc_t, slc_r, len_s, abs_i, str_i, int_i, int_b, min_i, max_i, lcm_i, gcd_i, seq_t, seq_r, r1_i, r2_i, r3_i, a_nm, a_nil, a_cons, vrl_some, vrn_some, put_lget, Option.isSome_some, tru_ref, b_addl, idx_t, idx_r, idx_l, slc_l, len_t, len_r, len_l, tuple_t, tuple_r, tuple_l, list_t, list_r, list_l, app_l, rev_l, pop_l, popat_l, mT_l, seq_l, enu_l, enu_t, fld_i, mcl_i, setf_i, vri_some, vrk_some, mk_0, mk_1, b_mull, zip_l, rev_i, rev_t, in_t, notin_t, fl_s, fl_i, fl_b, fl_n, inL_nil, inL_ss, inL_ii, List.all_cons, List.all_nil, Bool.and_self, Bool.and_true, Bool.true_and, zip_t, zip_m, a_t, a_l, sub_l, isTs, isT, Option.map_some, List.length_cons, List.length_nil, List.lookup_nil, Nat.reduceAdd, Nat.reduceSub, Nat.reduceLT, Nat.zero_add, Bool.false_eq_true, Bool.true_eq_false, if_false, if_true, decide_eq_true_eq, Bool.not_true, Bool.not_false, ite_true, ite_false, reduceIte, Bool.not_eq_true', decide_eq_false_iff_not, Int.cast_ofNat_Int, Int.reduceEq, Int.reduceLT, Int.reduceLE, Int.reduceNeg, Int.reduceAdd, Int.reduceSub, Int.reduceMul, Int.reduceToNat, decide_true, decide_false, not_true, not_false, not_true_eq_false, not_false_eq_true, true_and, and_true, eq_self, reduceCtorEq, List.isEmpty_nil, List.isEmpty_cons, List.nil_append, List.cons_append, ↓E_smt, ↓E_fldx, ↓E_dct, ↓E_gix, ↓E_rsl,  ↓E_lck, ↓S_raisef, ↓S_trym, ↓S_aug, H_nil, H_cons0, H_cons1, gx_xf, gx_kd, okx_nil, okx_ref, xpl_ref, xfS_i, xfS_s, fldxS_p, gixS_s, vrp_some, vlo_some, vrC_some, idx_s, idx_d, slc_s, b_muls, int_s, ord_s, divmod_i, sorted_x, dict_r, sm_join, sm_part, sm_sw, sm_strip, sm_lstrip, sm_zfill, sm_split, sm_digit, sm_alnum, isstr_s, seq_s, rsl_l, l_s, app_tx, len_tx]
    refine ⟨szt (by show _ + 1 ≤ _; omega), format_ok (q.den : Int) (lt500 (by rw [Int.natAbs_natCast]; exact hd)) fun S2 hs2 => ?_⟩
    simp -dsimp -implicitDefEqProofs only [↓cov3, ↓cov2, ↓cov1, ↓E_var, ↓E_int, ↓E_bl, ↓E_non, ↓E_str, ↓E_glo, ↓E_tup, ↓E_lst, ↓E_bin, ↓E_neg, ↓E_cmp, ↓E_chn, ↓E_and, ↓E_or, ↓E_one, ↓E_not, ↓E_ifx, ↓E_idx, ↓E_slc, ↓E_call, ↓E_bi, ↓E_isi, ↓E_mth, ↓E_lc, ↓E_fld, ↓E_mcl, ↓E_mk, ↓Es_nil, ↓Es_cons, ↓O_no, ↓O_some, ↓Q_no, ↓Q_c, ↓C_and, ↓C_or, ↓C_one, ↓C_not, ↓C_cmp, ↓C_chn, ↓C_v, ↓I_seq, ↓I_rng1, ↓I_rng2, ↓I_rng3, ↓I_enu, ↓I_zip, ↓I_rev, ↓S_set, ↓S_asg, ↓S_par2, ↓S_sub, ↓S_expr, ↓S_ret, ↓S_retN, ↓S_ifs, ↓S_for, ↓S_brk, ↓S_cnt, ↓S_pass, ↓S_raise, ↓S_try, ↓S_tryas, ↓E_isx, ↓E_isxs, kW_nx, kW_rt, kW_bk, kW_ct, kW_ex, gx_sub, gx_cs, gx_PY, ↓S_never, ↓S_setf, ex_t, ex_f, ↓S_nil, ↓S_cons, ↓kN_nx, ↓kN_rt, ↓kN_bk, ↓kN_ct, ↓kN_ex, ↓kL_nx, ↓kL_rt, ↓kL_bk, ↓kL_ct, ↓kL_ex, ↓kX_nx, ↓kX_rt, ↓kX_bk, ↓kX_ct, ↓kX_ex, ↓kend_nx, ↓kend_rt, ↓kend_bk, ↓kend_ct, ↓kend_ex, vr_some, gt_0, gt_s, stn_0, stn_s, wip_0, wip_s, wips_0, wips_s, neg_i, isi_s, o_i, tru_non, tru_bl, tru_int, tru_tup, tru_rol, c_Eq, c_NotEq, c_Lt, c_LtE, c_Gt, c_GtE, cs_Eq, cs_NotEq, cb_Eq, cb_NotEq, c2_Eq, c2_NotEq, is_non, isnot_non, is_bl, isnot_bl, is_int, isnot_int, is_str, isnot_str, is_tup, isnot_tup, is_rol, isnot_rol, is_ref, isnot_ref, is_b, isnot_b, in_s, notin_s, b_add, b_sub, b_mul, b_fdiv, b_mod, b_pow, b_addt, b_adds, atI0, atI1, atI2, atI3, slc_t, slc_r, len_s, abs_i, str_i, int_i, int_b, min_i, max_i, lcm_i, gcd_i, seq_t, seq_r, r1_i, r2_i, r3_i, a_nm, a_nil, a_cons, vrl_some, vrn_some, put_lget, Option.isSome_some, tru_ref, b_addl, idx_t, idx_r, idx_l, slc_l, len_t, len_r, len_l, tuple_t, tuple_r, tuple_l, list_t, list_r, list_l, app_l, rev_l, pop_l, popat_l, mT_l, seq_l, enu_l, enu_t, fld_i, mcl_i, setf_i, vri_some, vrk_some, mk_0, mk_1, b_mull, zip_l, rev_i, rev_t, in_t, notin_t, fl_s, fl_i, fl_b, fl_n, inL_nil, inL_ss, inL_ii, List.all_cons, List.all_nil, Bool.and_self, Bool.and_true, Bool.true_and, zip_t, zip_m, a_t, a_l, sub_l, isTs, isT, Option.map_some, List.length_cons, List.length_nil, List.lookup_nil, Nat.reduceAdd, Nat.reduceSub, Nat.reduceLT, Nat.zero_add, Bool.false_eq_true, Bool.true_eq_false, if_false, if_true, decide_eq_true_eq, Bool.not_true, Bool.not_false, ite_true, ite_false, reduceIte, Bool.not_eq_true', decide_eq_false_iff_not, Int.cast_ofNat_Int, Int.reduceEq, Int.reduceLT, Int.reduceLE, Int.reduceNeg, Int.reduceAdd, Int.reduceSub, Int.reduceMul, Int.reduceToNat, decide_true, decide_false, not_true, not_false, not_true_eq_false, not_false_eq_true, true_and, and_true, eq_self, reduceCtorEq, List.isEmpty_nil, List.isEmpty_cons, List.nil_append, List.cons_append, ↓E_smt, ↓E_fldx, ↓E_dct, ↓E_gix, ↓E_rsl,  ↓E_lck, ↓S_raisef, ↓S_trym, ↓S_aug, H_nil, H_cons0, H_cons1, gx_xf, gx_kd, okx_nil, okx_ref, xpl_ref, xfS_i, xfS_s, fldxS_p, gixS_s, vrp_some, vlo_some, vrC_some, idx_s, idx_d, slc_s, b_muls, int_s, ord_s, divmod_i, sorted_x, dict_r, sm_join, sm_part, sm_sw, sm_strip, sm_lstrip, sm_zfill, sm_split, sm_digit, sm_alnum, isstr_s, seq_s, rsl_l, app_tx, len_tx, fi_nat]
    refine ⟨szt (by rw [List.length_append]; show _ + 1 + _ ≤ _; omega), ?_⟩
    have := h S2 (hs1.trans hs2)
    rw [wf_more _ (by omega)] at this
    rw [List.append_assoc]
    exact this
theorem idxQ0 (q : Rat) : idxS (QD q) (.int 0) S Q = Q (.int q.num) S := by
  simp -dsimp -implicitDefEqProofs only [↓cov3, ↓cov2, ↓cov1, ↓E_var, ↓E_int, ↓E_bl, ↓E_non, ↓E_str, ↓E_glo, ↓E_tup, ↓E_lst, ↓E_bin, ↓E_neg, ↓E_cmp, ↓E_chn, ↓E_and, ↓E_or, ↓E_one, ↓E_not, ↓E_ifx, ↓E_idx, ↓E_slc, ↓E_call, ↓E_bi, ↓E_isi, ↓E_mth, ↓E_lc, ↓E_fld, ↓E_mcl, ↓E_mk, ↓Es_nil, ↓Es_cons, ↓O_no, ↓O_some, ↓Q_no, ↓Q_c, ↓C_and, ↓C_or, ↓C_one, ↓C_not, ↓C_cmp, ↓C_chn, ↓C_v, ↓I_seq, ↓I_rng1, ↓I_rng2, ↓I_rng3, ↓I_enu, ↓I_zip, ↓I_rev, ↓S_set, ↓S_asg, ↓S_par2, ↓S_sub, ↓S_expr, ↓S_ret, ↓S_retN, ↓S_ifs, ↓S_for, ↓S_brk, ↓S_cnt, ↓S_pass, ↓S_raise, ↓S_try, ↓S_tryas, ↓E_isx, ↓E_isxs, kW_nx, kW_rt, kW_bk, kW_ct, kW_ex, gx_sub, gx_cs, gx_PY, ↓S_never, ↓S_setf, ex_t, ex_f, ↓S_nil, ↓S_cons, ↓kN_nx, ↓kN_rt, ↓kN_bk, ↓kN_ct, ↓kN_ex, ↓kL_nx, ↓kL_rt, ↓kL_bk, ↓kL_ct, ↓kL_ex, ↓kX_nx, ↓kX_rt, ↓kX_bk, ↓kX_ct, ↓kX_ex, ↓kend_nx, ↓kend_rt, ↓kend_bk, ↓kend_ct, ↓kend_ex, vr_some, gt_0, gt_s, stn_0, stn_s, wip_0, wip_s, wips_0, wips_s, neg_i, isi_s, o_i, tru_non, tru_bl, tru_int, tru_tup, tru_rol, c_Eq, c_NotEq, c_Lt, c_LtE, c_Gt, c_GtE, cs_Eq, cs_NotEq, cb_Eq, cb_NotEq, c2_Eq, c2_NotEq, is_non, isnot_non, is_bl, isnot_bl, is_int, isnot_int, is_str, isnot_str, is_tup, isnot_tup, is_rol, isnot_rol, is_ref, isnot_ref, is_b, isnot_b, in_s, notin_s, b_add, b_sub, b_mul, b_fdiv, b_mod, b_pow, b_addt, b_adds, atI0, atI1, atI2, atI3, slc_t, slc_r, len_s, abs_i, str_i, int_i, int_b, min_i, max_i, lcm_i, gcd_i, seq_t, seq_r, r1_i, r2_i, r3_i, a_nm, a_nil, a_cons, vrl_some, vrn_some, put_lget, Option.isSome_some, tru_ref, b_addl, idx_t, idx_r, idx_l, slc_l, len_t, len_r, len_l, tuple_t, tuple_r, tuple_l, list_t, list_r, list_l, app_l, rev_l, pop_l, popat_l, mT_l, seq_l, enu_l, enu_t, fld_i, mcl_i, setf_i, vri_some, vrk_some, mk_0, mk_1, b_mull, zip_l, rev_i, rev_t, in_t, notin_t, fl_s, fl_i, fl_b, fl_n, inL_nil, inL_ss, inL_ii, List.all_cons, List.all_nil, Bool.and_self, Bool.and_true, Bool.true_and, zip_t, zip_m, a_t, a_l, sub_l, isTs, isT, Option.map_some, List.length_cons, List.length_nil, List.lookup_nil, Nat.reduceAdd, Nat.reduceSub, Nat.reduceLT, Nat.zero_add, Bool.false_eq_true, Bool.true_eq_false, if_false, if_true, decide_eq_true_eq, Bool.not_true, Bool.not_false, ite_true, ite_false, reduceIte, Bool.not_eq_true', decide_eq_false_iff_not, Int.cast_ofNat_Int, Int.reduceEq, Int.reduceLT, Int.reduceLE, Int.reduceNeg, Int.reduceAdd, Int.reduceSub, Int.reduceMul, Int.reduceToNat, decide_true, decide_false, not_true, not_false, not_true_eq_false, not_false_eq_true, true_and, and_true, eq_self, reduceCtorEq, List.isEmpty_nil, List.isEmpty_cons, List.nil_append, List.cons_append, ↓E_smt, ↓E_fldx, ↓E_dct, ↓E_gix, ↓E_rsl,  ↓E_lck, ↓S_raisef, ↓S_trym, ↓S_aug, H_nil, H_cons0, H_cons1, gx_xf, gx_kd, okx_nil, okx_ref, xpl_ref, xfS_i, xfS_s, fldxS_p, gixS_s, vrp_some, vlo_some, vrC_some, idx_s, idx_d, slc_s, b_muls, int_s, ord_s, divmod_i, sorted_x, dict_r, sm_join, sm_part, sm_sw, sm_strip, sm_lstrip, sm_zfill, sm_split, sm_digit, sm_alnum, isstr_s, seq_s, rsl_l, QD]
theorem idxQ1 (q : Rat) : idxS (QD q) (.int 1) S Q = Q (.int q.den) S := by
  simp -dsimp -implicitDefEqProofs only [↓cov3, ↓cov2, ↓cov1, ↓E_var, ↓E_int, ↓E_bl, ↓E_non, ↓E_str, ↓E_glo, ↓E_tup, ↓E_lst, ↓E_bin, ↓E_neg, ↓E_cmp, ↓E_chn, ↓E_and, ↓E_or, ↓E_one, ↓E_not, ↓E_ifx, ↓E_idx, ↓E_slc, ↓E_call, ↓E_bi, ↓E_isi, ↓E_mth, ↓E_lc, ↓E_fld, ↓E_mcl, ↓E_mk, ↓Es_nil, ↓Es_cons, ↓O_no, ↓O_some, ↓Q_no, ↓Q_c, ↓C_and, ↓C_or, ↓C_one, ↓C_not, ↓C_cmp, ↓C_chn, ↓C_v, ↓I_seq, ↓I_rng1, ↓I_rng2, ↓I_rng3, ↓I_enu, ↓I_zip, ↓I_rev, ↓S_set, ↓S_asg, ↓S_par2, ↓S_sub, ↓S_expr, ↓S_ret, ↓S_retN, ↓S_ifs, ↓S_for, ↓S_brk, ↓S_cnt, ↓S_pass, ↓S_raise, ↓S_try, ↓S_tryas, ↓E_isx, ↓E_isxs, kW_nx, kW_rt, kW_bk, kW_ct, kW_ex, gx_sub, gx_cs, gx_PY, ↓S_never, ↓S_setf, ex_t, ex_f, ↓S_nil, ↓S_cons, ↓kN_nx, ↓kN_rt, ↓kN_bk, ↓kN_ct, ↓kN_ex, ↓kL_nx, ↓kL_rt, ↓kL_bk, ↓kL_ct, ↓kL_ex, ↓kX_nx, ↓kX_rt, ↓kX_bk, ↓kX_ct, ↓kX_ex, ↓kend_nx, ↓kend_rt, ↓kend_bk, ↓kend_ct, ↓kend_ex, vr_some, gt_0, gt_s, stn_0, stn_s, wip_0, wip_s, wips_0, wips_s, neg_i, isi_s, o_i, tru_non, tru_bl, tru_int, tru_tup, tru_rol, c_Eq, c_NotEq, c_Lt, c_LtE, c_Gt, c_GtE, cs_Eq, cs_NotEq, cb_Eq, cb_NotEq, c2_Eq, c2_NotEq, is_non, isnot_non, is_bl, isnot_bl, is_int, isnot_int, is_str, isnot_str, is_tup, isnot_tup, is_rol, isnot_rol, is_ref, isnot_ref, is_b, isnot_b, in_s, notin_s, b_add, b_sub, b_mul, b_fdiv, b_mod, b_pow, b_addt, b_adds, atI0, atI1, atI2, atI3, slc_t, slc_r, len_s, abs_i, str_i, int_i, int_b, min_i, max_i, lcm_i, gcd_i, seq_t, seq_r, r1_i, r2_i, r3_i, a_nm, a_nil, a_cons, vrl_some, vrn_some, put_lget, Option.isSome_some, tru_ref, b_addl, idx_t, idx_r, idx_l, slc_l, len_t, len_r, len_l, tuple_t, tuple_r, tuple_l, list_t, list_r, list_l, app_l, rev_l, pop_l, popat_l, mT_l, seq_l, enu_l, enu_t, fld_i, mcl_i, setf_i, vri_some, vrk_some, mk_0, mk_1, b_mull, zip_l, rev_i, rev_t, in_t, notin_t, fl_s, fl_i, fl_b, fl_n, inL_nil, inL_ss, inL_ii, List.all_cons, List.all_nil, Bool.and_self, Bool.and_true, Bool.true_and, zip_t, zip_m, a_t, a_l, sub_l, isTs, isT, Option.map_some, List.length_cons, List.length_nil, List.lookup_nil, Nat.reduceAdd, Nat.reduceSub, Nat.reduceLT, Nat.zero_add, Bool.false_eq_true, Bool.true_eq_false, if_false, if_true, decide_eq_true_eq, Bool.not_true, Bool.not_false, ite_true, ite_false, reduceIte, Bool.not_eq_true', decide_eq_false_iff_not, Int.cast_ofNat_Int, Int.reduceEq, Int.reduceLT, Int.reduceLE, Int.reduceNeg, Int.reduceAdd, Int.reduceSub, Int.reduceMul, Int.reduceToNat, decide_true, decide_false, not_true, not_false, not_true_eq_false, not_false_eq_true, true_and, and_true, eq_self, reduceCtorEq, List.isEmpty_nil, List.isEmpty_cons, List.nil_append, List.cons_append, ↓E_smt, ↓E_fldx, ↓E_dct, ↓E_gix, ↓E_rsl,  ↓E_lck, ↓S_raisef, ↓S_trym, ↓S_aug, H_nil, H_cons0, H_cons1, gx_xf, gx_kd, okx_nil, okx_ref, xpl_ref, xfS_i, xfS_s, fldxS_p, gixS_s, vrp_some, vlo_some, vrC_some, idx_s, idx_d, slc_s, b_muls, int_s, ord_s, divmod_i, sorted_x, dict_r, sm_join, sm_part, sm_sw, sm_strip, sm_lstrip, sm_zfill, sm_split, sm_digit, sm_alnum, isstr_s, seq_s, rsl_l, QD]
theorem bad_ok (t p : List Nat) (j : Int) (ht : t.length ≤ 500) (hp : p.length ≤ 200) (h0 : 0 ≤ j) (h : ∀ z S', z ∈ badL t p → Sub S S' → Q (.str (tx z)) S') : semF G T (k + 1) "_law_bad" [.str (tx t), .str (tx p), .int j] S Q E := by
  refine call_of t_law_bad rfl ?_
  simp -dsimp -implicitDefEqProofs only [ent, List.map_cons, List.map_nil, List.length_cons, List.length_nil, Nat.reduceAdd, Nat.reduceSub, Nat.zero_add, List.replicate, List.cons_append, List.nil_append, F_law_bad]
  simp -dsimp -implicitDefEqProofs only [↓cov3, ↓cov2, ↓cov1, ↓E_var, ↓E_int, ↓E_bl, ↓E_non, ↓E_str, ↓E_glo, ↓E_tup, ↓E_lst, ↓E_bin, ↓E_neg, ↓E_cmp, ↓E_chn, ↓E_and, ↓E_or, ↓E_one, ↓E_not, ↓E_ifx, ↓E_idx, ↓E_slc, ↓E_call, ↓E_bi, ↓E_isi, ↓E_mth, ↓E_lc, ↓E_fld, ↓E_mcl, ↓E_mk, ↓Es_nil, ↓Es_cons, ↓O_no, ↓O_some, ↓Q_no, ↓Q_c, ↓C_and, ↓C_or, ↓C_one, ↓C_not, ↓C_cmp, ↓C_chn, ↓C_v, ↓I_seq, ↓I_rng1, ↓I_rng2, ↓I_rng3, ↓I_enu, ↓I_zip, ↓I_rev, ↓S_set, ↓S_asg, ↓S_par2, ↓S_sub, ↓S_expr, ↓S_ret, ↓S_retN, ↓S_ifs, ↓S_for, ↓S_brk, ↓S_cnt, ↓S_pass, ↓S_raise, ↓S_try, ↓S_tryas, ↓E_isx, ↓E_isxs, kW_nx, kW_rt, kW_bk, kW_ct, kW_ex, gx_sub, gx_cs, gx_PY, ↓S_never, ↓S_setf, ex_t, ex_f, ↓S_nil, ↓S_cons, ↓kN_nx, ↓kN_rt, ↓kN_bk, ↓kN_ct, ↓kN_ex, ↓kL_nx, ↓kL_rt, ↓kL_bk, ↓kL_ct, ↓kL_ex, ↓kX_nx, ↓kX_rt, ↓kX_bk, ↓kX_ct, ↓kX_ex, ↓kend_nx, ↓kend_rt, ↓kend_bk, ↓kend_ct, ↓kend_ex, vr_some, gt_0, gt_s, stn_0, stn_s, wip_0, wip_s, wips_0, wips_s, neg_i, isi_s, o_i, tru_non, tru_bl, tru_int, tru_tup, tru_rol, c_Eq, c_NotEq, c_Lt, c_LtE, c_Gt, c_GtE, cs_Eq, cs_NotEq, cb_Eq, cb_NotEq, c2_Eq, c2_NotEq, is_non, isnot_non, is_bl, isnot_bl, is_int, isnot_int, is_str, isnot_str, is_tup, isnot_tup, is_rol, isnot_rol, is_ref, isnot_ref, is_b, isnot_b, in_s, notin_s, b_add, b_sub, b_mul, b_fdiv, b_mod, b_pow, b_addt, b_adds, atI0, atI1, atI2, atI3, slc_t, slc_r, len_s, abs_i, str_i, int_i, int_b, min_i, max_i, lcm_i, gcd_i, seq_t, seq_r, r1_i, r2_i, r3_i, a_nm, a_nil, a_cons, vrl_some, vrn_some, put_lget, Option.isSome_some, tru_ref, b_addl, idx_t, idx_r, idx_l, slc_l, len_t, len_r, len_l, tuple_t, tuple_r, tuple_l, list_t, list_r, list_l, app_l, rev_l, pop_l, popat_l, mT_l, seq_l, enu_l, enu_t, fld_i, mcl_i, setf_i, vri_some, vrk_some, mk_0, mk_1, b_mull, zip_l, rev_i, rev_t, in_t, notin_t, fl_s, fl_i, fl_b, fl_n, inL_nil, inL_ss, inL_ii, List.all_cons, List.all_nil, Bool.and_self, Bool.and_true, Bool.true_and, zip_t, zip_m, a_t, a_l, sub_l, isTs, isT, Option.map_some, List.length_cons, List.length_nil, List.lookup_nil, Nat.reduceAdd, Nat.reduceSub, Nat.reduceLT, Nat.zero_add, Bool.false_eq_true, Bool.true_eq_false, if_false, if_true, decide_eq_true_eq, Bool.not_true, Bool.not_false, ite_true, ite_false, reduceIte, Bool.not_eq_true', decide_eq_false_iff_not, Int.cast_ofNat_Int, Int.reduceEq, Int.reduceLT, Int.reduceLE, Int.reduceNeg, Int.reduceAdd, Int.reduceSub, Int.reduceMul, Int.reduceToNat, decide_true, decide_false, not_true, not_false, not_true_eq_false, not_false_eq_true, true_and, and_true, eq_self, reduceCtorEq, List.isEmpty_nil, List.isEmpty_cons, List.nil_append, List.cons_append, ↓E_smt, ↓E_fldx, ↓E_dct, ↓E_gix, ↓E_rsl,  ↓E_lck, ↓S_raisef, ↓S_trym, ↓S_aug, H_nil, H_cons0, H_cons1, gx_xf, gx_kd, okx_nil, okx_ref, xpl_ref, xfS_i, xfS_s, fldxS_p, gixS_s, vrp_some, vlo_some, vrC_some, idx_s, idx_d, slc_s, b_muls, int_s, ord_s, divmod_i, sorted_x, dict_r, sm_join, sm_part, sm_sw, sm_strip, sm_lstrip, sm_zfill, sm_split, sm_digit, sm_alnum, isstr_s, seq_s, rsl_l, l_e, l_pl, l_sp, l_0, l_m0, l_mm, l_s, l_s0, l_s1, l_24, l_63, l_d0, l_x, l_ss7, l_05, l_m, app_tx, len_tx, List.length_cons, List.length_nil, List.length_append]
  refine ⟨szt (by omega), szt (by omega), szt (by omega), szt (by omega), szt (by omega), szt (by omega), szt (by omega), szt (by omega), ?_⟩
  (intro a N_a; generalize hS : put S a _ = S2; have L_a := (congrFun hS a).symm.trans put_same; have U_S2 : Sub S S2 := hS ▸ Sub.new N_a; clear hS)
  refine ⟨szt (by omega), szt (by omega), szt (by omega), szt (by omega), szt (by omega), szt (by omega), szt (by omega), ?_⟩
  (intro b N_b; generalize hS : put S2 b _ = S3; have L_b := (congrFun hS b).symm.trans put_same; have U_S3 : Sub S2 S3 := hS ▸ Sub.new N_b; clear hS)
  simp -dsimp -implicitDefEqProofs only [↓cov3, ↓cov2, ↓cov1, ↓E_var, ↓E_int, ↓E_bl, ↓E_non, ↓E_str, ↓E_glo, ↓E_tup, ↓E_lst, ↓E_bin, ↓E_neg, ↓E_cmp, ↓E_chn, ↓E_and, ↓E_or, ↓E_one, ↓E_not, ↓E_ifx, ↓E_idx, ↓E_slc, ↓E_call, ↓E_bi, ↓E_isi, ↓E_mth, ↓E_lc, ↓E_fld, ↓E_mcl, ↓E_mk, ↓Es_nil, ↓Es_cons, ↓O_no, ↓O_some, ↓Q_no, ↓Q_c, ↓C_and, ↓C_or, ↓C_one, ↓C_not, ↓C_cmp, ↓C_chn, ↓C_v, ↓I_seq, ↓I_rng1, ↓I_rng2, ↓I_rng3, ↓I_enu, ↓I_zip, ↓I_rev, ↓S_set, ↓S_asg, ↓S_par2, ↓S_sub, ↓S_expr, ↓S_ret, ↓S_retN, ↓S_ifs, ↓S_for, ↓S_brk, ↓S_cnt, ↓S_pass, ↓S_raise, ↓S_try, ↓S_tryas, ↓E_isx, ↓E_isxs, kW_nx, kW_rt, kW_bk, kW_ct, kW_ex, gx_sub, gx_cs, gx_PY, ↓S_never, ↓S_setf, ex_t, ex_f, ↓S_nil, ↓S_cons, ↓kN_nx, ↓kN_rt, ↓kN_bk, ↓kN_ct, ↓kN_ex, ↓kL_nx, ↓kL_rt, ↓kL_bk, ↓kL_ct, ↓kL_ex, ↓kX_nx, ↓kX_rt, ↓kX_bk, ↓kX_ct, ↓kX_ex, ↓kend_nx, ↓kend_rt, ↓kend_bk, ↓kend_ct, ↓kend_ex, vr_some, gt_0, gt_s, stn_0, stn_s, wip_0, wip_s, wips_0, wips_s, neg_i, isi_s, o_i, tru_non, tru_bl, tru_int, tru_tup, tru_rol, c_Eq, c_NotEq, c_Lt, c_LtE, c_Gt, c_GtE, cs_Eq, cs_NotEq, cb_Eq, cb_NotEq, c2_Eq, c2_NotEq, is_non, isnot_non, is_bl, isnot_bl, is_int, isnot_int, is_str, isnot_str, is_tup, isnot_tup, is_rol, isnot_rol, is_ref, isnot_ref, is_b, isnot_b, in_s, notin_s, b_add, b_sub, b_mul, b_fdiv, b_mod, b_pow, b_addt, b_adds, atI0, atI1, atI2, atI3, slc_t, slc_r, len_s, abs_i, str_i, int_i, int_b, min_i, max_i, lcm_i, gcd_i, seq_t, seq_r, r1_i, r2_i, r3_i, a_nm, a_nil, a_cons, vrl_some, vrn_some, put_lget, Option.isSome_some, tru_ref, b_addl, idx_t, idx_r, idx_l, slc_l, len_t, len_r, len_l, tuple_t, tuple_r, tuple_l, list_t, list_r, list_l, app_l, rev_l, pop_l, popat_l, mT_l, seq_l, enu_l, enu_t, fld_i, mcl_i, setf_i, vri_some, vrk_some, mk_0, mk_1, b_mull, zip_l, rev_i, rev_t, in_t, notin_t, fl_s, fl_i, fl_b, fl_n, inL_nil, inL_ss, inL_ii, List.all_cons, List.all_nil, Bool.and_self, Bool.and_true, Bool.true_and, zip_t, zip_m, a_t, a_l, sub_l, isTs, isT, Option.map_some, List.length_cons, List.length_nil, List.lookup_nil, Nat.reduceAdd, Nat.reduceSub, Nat.reduceLT, Nat.zero_add, Bool.false_eq_true, Bool.true_eq_false, if_false, if_true, decide_eq_true_eq, Bool.not_true, Bool.not_false, ite_true, ite_false, reduceIte, Bool.not_eq_true', decide_eq_false_iff_not, Int.cast_ofNat_Int, Int.reduceEq, Int.reduceLT, Int.reduceLE, Int.reduceNeg, Int.reduceAdd, Int.reduceSub, Int.reduceMul, Int.reduceToNat, decide_true, decide_false, not_true, not_false, not_true_eq_false, not_false_eq_true, true_and, and_true, eq_self, reduceCtorEq, List.isEmpty_nil, List.isEmpty_cons, List.nil_append, List.cons_append, ↓E_smt, ↓E_fldx, ↓E_dct, ↓E_gix, ↓E_rsl,  ↓E_lck, ↓S_raisef, ↓S_trym, ↓S_aug, H_nil, H_cons0, H_cons1, gx_xf, gx_kd, okx_nil, okx_ref, xpl_ref, xfS_i, xfS_s, fldxS_p, gixS_s, vrp_some, vlo_some, vrC_some, idx_s, idx_d, slc_s, b_muls, int_s, ord_s, divmod_i, sorted_x, dict_r, sm_join, sm_part, sm_sw, sm_strip, sm_lstrip, sm_zfill, sm_split, sm_digit, sm_alnum, isstr_s, seq_s, rsl_l, lget_of L_b, lget_of (U_S3 _ _ L_a)]
  refine ⟨szt (by decide), ?_⟩
  (intro c N_c; generalize hS : put S3 c _ = S4; have L_c := (congrFun hS c).symm.trans put_same; have U_S4 : Sub S3 S4 := hS ▸ Sub.new N_c; clear hS)
  have e : S4 c = some (.lst ((badL t p).map fun z => D.str (tx z))) := by
    rw [L_c]
    simp only [badL, List.map_cons, List.map_nil, List.cons_append, List.nil_append, List.append_assoc]
  have hl : (badL t p).length = 19 := rfl
  rw [Ob.lst.inj (Option.some.inj (L_c.symm.trans e))]
  have hm1 := Int.fmod_nonneg_of_pos j (b := 19) (by decide)
  have hm2 := Int.fmod_lt_of_pos j (b := 19) (by decide)
  have hi : (j.fmod 19).toNat < (badL t p).length := by rw [hl]; omega
  have ea : atI ((badL t p).map fun z => D.str (tx z)) (j.fmod 19) = some (.str (tx (badL t p)[(j.fmod 19).toNat])) := by
    generalize hm : (j.fmod 19).toNat = m at *
    rw [show j.fmod 19 = (m : Int) by omega]
    refine atI_nat ?_
    rw [List.getElem?_map, List.getElem?_eq_getElem hi]
    rfl
  rw [ea]
  exact ⟨by decide, h _ _ (List.getElem_mem hi) ((U_S2.trans U_S3).trans U_S4)⟩
theorem main (ns : List Int) (h63 : ns.length ≤ 63) (hb : ∀ z ∈ ns, Builtin.Int.intBits z ≤ 1048576) : semF G T 20 "law" [.rol (ns.map D.int)] (fun _ => none) (fun d _ => d = .bl true) (fun _ _ => False) := by
  refine call_of t_law rfl ?_
  simp -dsimp -implicitDefEqProofs only [ent, List.map_cons, List.map_nil, List.length_cons, List.length_nil, Nat.reduceAdd, Nat.reduceSub, Nat.zero_add, List.replicate, List.cons_append, List.nil_append, F_law]
  simp -dsimp -implicitDefEqProofs only [↓cov3, ↓cov2, ↓cov1, ↓E_var, ↓E_int, ↓E_bl, ↓E_non, ↓E_str, ↓E_glo, ↓E_tup, ↓E_lst, ↓E_bin, ↓E_neg, ↓E_cmp, ↓E_chn, ↓E_and, ↓E_or, ↓E_one, ↓E_not, ↓E_ifx, ↓E_idx, ↓E_slc, ↓E_call, ↓E_bi, ↓E_isi, ↓E_mth, ↓E_lc, ↓E_fld, ↓E_mcl, ↓E_mk, ↓Es_nil, ↓Es_cons, ↓O_no, ↓O_some, ↓Q_no, ↓Q_c, ↓C_and, ↓C_or, ↓C_one, ↓C_not, ↓C_cmp, ↓C_chn, ↓C_v, ↓I_seq, ↓I_rng1, ↓I_rng2, ↓I_rng3, ↓I_enu, ↓I_zip, ↓I_rev, ↓S_set, ↓S_asg, ↓S_par2, ↓S_sub, ↓S_expr, ↓S_ret, ↓S_retN, ↓S_for, ↓S_brk, ↓S_cnt, ↓S_pass, ↓S_raise, ↓S_tryas, ↓E_isx, ↓E_isxs, kW_nx, kW_rt, kW_bk, kW_ct, kW_ex, gx_sub, gx_cs, gx_PY, ↓S_never, ↓S_setf, ex_t, ex_f, ↓S_nil, ↓S_cons, ↓kN_nx, ↓kN_rt, ↓kN_bk, ↓kN_ct, ↓kN_ex, ↓kL_nx, ↓kL_rt, ↓kL_bk, ↓kL_ct, ↓kL_ex, ↓kX_nx, ↓kX_rt, ↓kX_bk, ↓kX_ct, ↓kX_ex, ↓kend_nx, ↓kend_rt, ↓kend_bk, ↓kend_ct, ↓kend_ex, vr_some, gt_0, gt_s, stn_0, stn_s, wip_0, wip_s, wips_0, wips_s, neg_i, isi_s, o_i, tru_non, tru_bl, tru_int, tru_tup, tru_rol, c_Eq, c_NotEq, c_Lt, c_LtE, c_Gt, c_GtE, cs_Eq, cs_NotEq, cb_Eq, cb_NotEq, c2_Eq, c2_NotEq, is_non, isnot_non, is_bl, isnot_bl, is_int, isnot_int, is_str, isnot_str, is_tup, isnot_tup, is_rol, isnot_rol, is_ref, isnot_ref, is_b, isnot_b, in_s, notin_s, b_add, b_sub, b_mul, b_fdiv, b_mod, b_pow, b_addt, b_adds, atI0, atI1, atI2, atI3, slc_t, slc_r, len_s, abs_i, str_i, int_i, int_b, min_i, max_i, lcm_i, gcd_i, seq_t, seq_r, r1_i, r2_i, r3_i, a_nm, a_nil, a_cons, vrl_some, vrn_some, put_lget, Option.isSome_some, tru_ref, b_addl, idx_t, idx_r, idx_l, slc_l, len_t, len_r, len_l, tuple_t, tuple_r, tuple_l, list_t, list_r, list_l, app_l, rev_l, pop_l, popat_l, mT_l, seq_l, enu_l, enu_t, fld_i, mcl_i, setf_i, vri_some, vrk_some, mk_0, mk_1, b_mull, zip_l, rev_i, rev_t, in_t, notin_t, fl_s, fl_i, fl_b, fl_n, inL_nil, inL_ss, inL_ii, List.all_cons, List.all_nil, Bool.and_self, Bool.and_true, Bool.true_and, zip_t, zip_m, a_t, a_l, sub_l, isTs, isT, Option.map_some, List.length_cons, List.length_nil, List.lookup_nil, Nat.reduceAdd, Nat.reduceSub, Nat.reduceLT, Nat.zero_add, Bool.false_eq_true, Bool.true_eq_false, if_false, if_true, decide_eq_true_eq, Bool.not_true, Bool.not_false, ite_true, ite_false, reduceIte, Bool.not_eq_true', decide_eq_false_iff_not, Int.cast_ofNat_Int, Int.reduceEq, Int.reduceLT, Int.reduceLE, Int.reduceNeg, Int.reduceAdd, Int.reduceSub, Int.reduceMul, Int.reduceToNat, decide_true, decide_false, not_true, not_false, not_true_eq_false, not_false_eq_true, true_and, and_true, eq_self, reduceCtorEq, List.isEmpty_nil, List.isEmpty_cons, List.nil_append, List.cons_append, ↓E_smt, ↓E_fldx, ↓E_dct, ↓E_gix, ↓E_rsl,  ↓E_lck, ↓S_raisef, ↓S_trym, ↓S_aug, H_nil, H_cons0, H_cons1, gx_xf, gx_kd, okx_nil, okx_ref, xpl_ref, xfS_i, xfS_s, fldxS_p, gixS_s, vrp_some, vlo_some, vrC_some, idx_s, idx_d, slc_s, b_muls, int_s, ord_s, divmod_i, sorted_x, dict_r, sm_join, sm_part, sm_sw, sm_strip, sm_lstrip, sm_zfill, sm_split, sm_digit, sm_alnum, isstr_s, seq_s, rsl_l]
  refine digl_ok (k := 16) ns 0 (by omega) fun p0 d0 S0 hd0 _ hp0 => ?_
  simp -dsimp -implicitDefEqProofs only [↓cov3, ↓cov2, ↓cov1, ↓E_var, ↓E_int, ↓E_bl, ↓E_non, ↓E_str, ↓E_glo, ↓E_tup, ↓E_lst, ↓E_bin, ↓E_neg, ↓E_cmp, ↓E_chn, ↓E_and, ↓E_or, ↓E_one, ↓E_not, ↓E_ifx, ↓E_idx, ↓E_slc, ↓E_call, ↓E_bi, ↓E_isi, ↓E_mth, ↓E_lc, ↓E_fld, ↓E_mcl, ↓E_mk, ↓Es_nil, ↓Es_cons, ↓O_no, ↓O_some, ↓Q_no, ↓Q_c, ↓C_and, ↓C_or, ↓C_one, ↓C_not, ↓C_cmp, ↓C_chn, ↓C_v, ↓I_seq, ↓I_rng1, ↓I_rng2, ↓I_rng3, ↓I_enu, ↓I_zip, ↓I_rev, ↓S_set, ↓S_asg, ↓S_par2, ↓S_sub, ↓S_expr, ↓S_ret, ↓S_retN, ↓S_for, ↓S_brk, ↓S_cnt, ↓S_pass, ↓S_raise, ↓S_tryas, ↓E_isx, ↓E_isxs, kW_nx, kW_rt, kW_bk, kW_ct, kW_ex, gx_sub, gx_cs, gx_PY, ↓S_never, ↓S_setf, ex_t, ex_f, ↓S_nil, ↓S_cons, ↓kN_nx, ↓kN_rt, ↓kN_bk, ↓kN_ct, ↓kN_ex, ↓kL_nx, ↓kL_rt, ↓kL_bk, ↓kL_ct, ↓kL_ex, ↓kX_nx, ↓kX_rt, ↓kX_bk, ↓kX_ct, ↓kX_ex, ↓kend_nx, ↓kend_rt, ↓kend_bk, ↓kend_ct, ↓kend_ex, vr_some, gt_0, gt_s, stn_0, stn_s, wip_0, wip_s, wips_0, wips_s, neg_i, isi_s, o_i, tru_non, tru_bl, tru_int, tru_tup, tru_rol, c_Eq, c_NotEq, c_Lt, c_LtE, c_Gt, c_GtE, cs_Eq, cs_NotEq, cb_Eq, cb_NotEq, c2_Eq, c2_NotEq, is_non, isnot_non, is_bl, isnot_bl, is_int, isnot_int, is_str, isnot_str, is_tup, isnot_tup, is_rol, isnot_rol, is_ref, isnot_ref, is_b, isnot_b, in_s, notin_s, b_add, b_sub, b_mul, b_fdiv, b_mod, b_pow, b_addt, b_adds, atI0, atI1, atI2, atI3, slc_t, slc_r, len_s, abs_i, str_i, int_i, int_b, min_i, max_i, lcm_i, gcd_i, seq_t, seq_r, r1_i, r2_i, r3_i, a_nm, a_nil, a_cons, vrl_some, vrn_some, put_lget, Option.isSome_some, tru_ref, b_addl, idx_t, idx_r, idx_l, slc_l, len_t, len_r, len_l, tuple_t, tuple_r, tuple_l, list_t, list_r, list_l, app_l, rev_l, pop_l, popat_l, mT_l, seq_l, enu_l, enu_t, fld_i, mcl_i, setf_i, vri_some, vrk_some, mk_0, mk_1, b_mull, zip_l, rev_i, rev_t, in_t, notin_t, fl_s, fl_i, fl_b, fl_n, inL_nil, inL_ss, inL_ii, List.all_cons, List.all_nil, Bool.and_self, Bool.and_true, Bool.true_and, zip_t, zip_m, a_t, a_l, sub_l, isTs, isT, Option.map_some, List.length_cons, List.length_nil, List.lookup_nil, Nat.reduceAdd, Nat.reduceSub, Nat.reduceLT, Nat.zero_add, Bool.false_eq_true, Bool.true_eq_false, if_false, if_true, decide_eq_true_eq, Bool.not_true, Bool.not_false, ite_true, ite_false, reduceIte, Bool.not_eq_true', decide_eq_false_iff_not, Int.cast_ofNat_Int, Int.reduceEq, Int.reduceLT, Int.reduceLE, Int.reduceNeg, Int.reduceAdd, Int.reduceSub, Int.reduceMul, Int.reduceToNat, decide_true, decide_false, not_true, not_false, not_true_eq_false, not_false_eq_true, true_and, and_true, eq_self, reduceCtorEq, List.isEmpty_nil, List.isEmpty_cons, List.nil_append, List.cons_append, ↓E_smt, ↓E_fldx, ↓E_dct, ↓E_gix, ↓E_rsl,  ↓E_lck, ↓S_raisef, ↓S_trym, ↓S_aug, H_nil, H_cons0, H_cons1, gx_xf, gx_kd, okx_nil, okx_ref, xpl_ref, xfS_i, xfS_s, fldxS_p, gixS_s, vrp_some, vlo_some, vrC_some, idx_s, idx_d, slc_s, b_muls, int_s, ord_s, divmod_i, sorted_x, dict_r, sm_join, sm_part, sm_sw, sm_strip, sm_lstrip, sm_zfill, sm_split, sm_digit, sm_alnum, isstr_s, seq_s, rsl_l]
  refine whole_ok (k := 18) p0 d0 hd0 hp0 fun n hn1 hn2 => ?_
  simp -dsimp -implicitDefEqProofs only [↓cov3, ↓cov2, ↓cov1, ↓E_var, ↓E_int, ↓E_bl, ↓E_non, ↓E_str, ↓E_glo, ↓E_tup, ↓E_lst, ↓E_bin, ↓E_neg, ↓E_cmp, ↓E_chn, ↓E_and, ↓E_or, ↓E_one, ↓E_not, ↓E_ifx, ↓E_idx, ↓E_slc, ↓E_call, ↓E_bi, ↓E_isi, ↓E_mth, ↓E_lc, ↓E_fld, ↓E_mcl, ↓E_mk, ↓Es_nil, ↓Es_cons, ↓O_no, ↓O_some, ↓Q_no, ↓Q_c, ↓C_and, ↓C_or, ↓C_one, ↓C_not, ↓C_cmp, ↓C_chn, ↓C_v, ↓I_seq, ↓I_rng1, ↓I_rng2, ↓I_rng3, ↓I_enu, ↓I_zip, ↓I_rev, ↓S_set, ↓S_asg, ↓S_par2, ↓S_sub, ↓S_expr, ↓S_ret, ↓S_retN, ↓S_for, ↓S_brk, ↓S_cnt, ↓S_pass, ↓S_raise, ↓S_tryas, ↓E_isx, ↓E_isxs, kW_nx, kW_rt, kW_bk, kW_ct, kW_ex, gx_sub, gx_cs, gx_PY, ↓S_never, ↓S_setf, ex_t, ex_f, ↓S_nil, ↓S_cons, ↓kN_nx, ↓kN_rt, ↓kN_bk, ↓kN_ct, ↓kN_ex, ↓kL_nx, ↓kL_rt, ↓kL_bk, ↓kL_ct, ↓kL_ex, ↓kX_nx, ↓kX_rt, ↓kX_bk, ↓kX_ct, ↓kX_ex, ↓kend_nx, ↓kend_rt, ↓kend_bk, ↓kend_ct, ↓kend_ex, vr_some, gt_0, gt_s, stn_0, stn_s, wip_0, wip_s, wips_0, wips_s, neg_i, isi_s, o_i, tru_non, tru_bl, tru_int, tru_tup, tru_rol, c_Eq, c_NotEq, c_Lt, c_LtE, c_Gt, c_GtE, cs_Eq, cs_NotEq, cb_Eq, cb_NotEq, c2_Eq, c2_NotEq, is_non, isnot_non, is_bl, isnot_bl, is_int, isnot_int, is_str, isnot_str, is_tup, isnot_tup, is_rol, isnot_rol, is_ref, isnot_ref, is_b, isnot_b, in_s, notin_s, b_add, b_sub, b_mul, b_fdiv, b_mod, b_pow, b_addt, b_adds, atI0, atI1, atI2, atI3, slc_t, slc_r, len_s, abs_i, str_i, int_i, int_b, min_i, max_i, lcm_i, gcd_i, seq_t, seq_r, r1_i, r2_i, r3_i, a_nm, a_nil, a_cons, vrl_some, vrn_some, put_lget, Option.isSome_some, tru_ref, b_addl, idx_t, idx_r, idx_l, slc_l, len_t, len_r, len_l, tuple_t, tuple_r, tuple_l, list_t, list_r, list_l, app_l, rev_l, pop_l, popat_l, mT_l, seq_l, enu_l, enu_t, fld_i, mcl_i, setf_i, vri_some, vrk_some, mk_0, mk_1, b_mull, zip_l, rev_i, rev_t, in_t, notin_t, fl_s, fl_i, fl_b, fl_n, inL_nil, inL_ss, inL_ii, List.all_cons, List.all_nil, Bool.and_self, Bool.and_true, Bool.true_and, zip_t, zip_m, a_t, a_l, sub_l, isTs, isT, Option.map_some, List.length_cons, List.length_nil, List.lookup_nil, Nat.reduceAdd, Nat.reduceSub, Nat.reduceLT, Nat.zero_add, Bool.false_eq_true, Bool.true_eq_false, if_false, if_true, decide_eq_true_eq, Bool.not_true, Bool.not_false, ite_true, ite_false, reduceIte, Bool.not_eq_true', decide_eq_false_iff_not, Int.cast_ofNat_Int, Int.reduceEq, Int.reduceLT, Int.reduceLE, Int.reduceNeg, Int.reduceAdd, Int.reduceSub, Int.reduceMul, Int.reduceToNat, decide_true, decide_false, not_true, not_false, not_true_eq_false, not_false_eq_true, true_and, and_true, eq_self, reduceCtorEq, List.isEmpty_nil, List.isEmpty_cons, List.nil_append, List.cons_append, ↓E_smt, ↓E_fldx, ↓E_dct, ↓E_gix, ↓E_rsl,  ↓E_lck, ↓S_raisef, ↓S_trym, ↓S_aug, H_nil, H_cons0, H_cons1, gx_xf, gx_kd, okx_nil, okx_ref, xpl_ref, xfS_i, xfS_s, fldxS_p, gixS_s, vrp_some, vlo_some, vrC_some, idx_s, idx_d, slc_s, b_muls, int_s, ord_s, divmod_i, sorted_x, dict_r, sm_join, sm_part, sm_sw, sm_strip, sm_lstrip, sm_zfill, sm_split, sm_digit, sm_alnum, isstr_s, seq_s, rsl_l]
  refine digl_ok (k := 16) ns 1 (by omega) fun p1 d1 S1 hd1 _ hp1 => ?_
  simp -dsimp -implicitDefEqProofs only [↓cov3, ↓cov2, ↓cov1, ↓E_var, ↓E_int, ↓E_bl, ↓E_non, ↓E_str, ↓E_glo, ↓E_tup, ↓E_lst, ↓E_bin, ↓E_neg, ↓E_cmp, ↓E_chn, ↓E_and, ↓E_or, ↓E_one, ↓E_not, ↓E_ifx, ↓E_idx, ↓E_slc, ↓E_call, ↓E_bi, ↓E_isi, ↓E_mth, ↓E_lc, ↓E_fld, ↓E_mcl, ↓E_mk, ↓Es_nil, ↓Es_cons, ↓O_no, ↓O_some, ↓Q_no, ↓Q_c, ↓C_and, ↓C_or, ↓C_one, ↓C_not, ↓C_cmp, ↓C_chn, ↓C_v, ↓I_seq, ↓I_rng1, ↓I_rng2, ↓I_rng3, ↓I_enu, ↓I_zip, ↓I_rev, ↓S_set, ↓S_asg, ↓S_par2, ↓S_sub, ↓S_expr, ↓S_ret, ↓S_retN, ↓S_for, ↓S_brk, ↓S_cnt, ↓S_pass, ↓S_raise, ↓S_tryas, ↓E_isx, ↓E_isxs, kW_nx, kW_rt, kW_bk, kW_ct, kW_ex, gx_sub, gx_cs, gx_PY, ↓S_never, ↓S_setf, ex_t, ex_f, ↓S_nil, ↓S_cons, ↓kN_nx, ↓kN_rt, ↓kN_bk, ↓kN_ct, ↓kN_ex, ↓kL_nx, ↓kL_rt, ↓kL_bk, ↓kL_ct, ↓kL_ex, ↓kX_nx, ↓kX_rt, ↓kX_bk, ↓kX_ct, ↓kX_ex, ↓kend_nx, ↓kend_rt, ↓kend_bk, ↓kend_ct, ↓kend_ex, vr_some, gt_0, gt_s, stn_0, stn_s, wip_0, wip_s, wips_0, wips_s, neg_i, isi_s, o_i, tru_non, tru_bl, tru_int, tru_tup, tru_rol, c_Eq, c_NotEq, c_Lt, c_LtE, c_Gt, c_GtE, cs_Eq, cs_NotEq, cb_Eq, cb_NotEq, c2_Eq, c2_NotEq, is_non, isnot_non, is_bl, isnot_bl, is_int, isnot_int, is_str, isnot_str, is_tup, isnot_tup, is_rol, isnot_rol, is_ref, isnot_ref, is_b, isnot_b, in_s, notin_s, b_add, b_sub, b_mul, b_fdiv, b_mod, b_pow, b_addt, b_adds, atI0, atI1, atI2, atI3, slc_t, slc_r, len_s, abs_i, str_i, int_i, int_b, min_i, max_i, lcm_i, gcd_i, seq_t, seq_r, r1_i, r2_i, r3_i, a_nm, a_nil, a_cons, vrl_some, vrn_some, put_lget, Option.isSome_some, tru_ref, b_addl, idx_t, idx_r, idx_l, slc_l, len_t, len_r, len_l, tuple_t, tuple_r, tuple_l, list_t, list_r, list_l, app_l, rev_l, pop_l, popat_l, mT_l, seq_l, enu_l, enu_t, fld_i, mcl_i, setf_i, vri_some, vrk_some, mk_0, mk_1, b_mull, zip_l, rev_i, rev_t, in_t, notin_t, fl_s, fl_i, fl_b, fl_n, inL_nil, inL_ss, inL_ii, List.all_cons, List.all_nil, Bool.and_self, Bool.and_true, Bool.true_and, zip_t, zip_m, a_t, a_l, sub_l, isTs, isT, Option.map_some, List.length_cons, List.length_nil, List.lookup_nil, Nat.reduceAdd, Nat.reduceSub, Nat.reduceLT, Nat.zero_add, Bool.false_eq_true, Bool.true_eq_false, if_false, if_true, decide_eq_true_eq, Bool.not_true, Bool.not_false, ite_true, ite_false, reduceIte, Bool.not_eq_true', decide_eq_false_iff_not, Int.cast_ofNat_Int, Int.reduceEq, Int.reduceLT, Int.reduceLE, Int.reduceNeg, Int.reduceAdd, Int.reduceSub, Int.reduceMul, Int.reduceToNat, decide_true, decide_false, not_true, not_false, not_true_eq_false, not_false_eq_true, true_and, and_true, eq_self, reduceCtorEq, List.isEmpty_nil, List.isEmpty_cons, List.nil_append, List.cons_append, ↓E_smt, ↓E_fldx, ↓E_dct, ↓E_gix, ↓E_rsl,  ↓E_lck, ↓S_raisef, ↓S_trym, ↓S_aug, H_nil, H_cons0, H_cons1, gx_xf, gx_kd, okx_nil, okx_ref, xpl_ref, xfS_i, xfS_s, fldxS_p, gixS_s, vrp_some, vlo_some, vrC_some, idx_s, idx_d, slc_s, b_muls, int_s, ord_s, divmod_i, sorted_x, dict_r, sm_join, sm_part, sm_sw, sm_strip, sm_lstrip, sm_zfill, sm_split, sm_digit, sm_alnum, isstr_s, seq_s, rsl_l]
  refine whole_ok (k := 18) p1 d1 hd1 hp1 fun d hd1 hd2 => ?_
  simp -dsimp -implicitDefEqProofs only [↓cov3, ↓cov2, ↓cov1, ↓E_var, ↓E_int, ↓E_bl, ↓E_non, ↓E_str, ↓E_glo, ↓E_tup, ↓E_lst, ↓E_bin, ↓E_neg, ↓E_cmp, ↓E_chn, ↓E_and, ↓E_or, ↓E_one, ↓E_not, ↓E_ifx, ↓E_idx, ↓E_slc, ↓E_call, ↓E_bi, ↓E_isi, ↓E_mth, ↓E_lc, ↓E_fld, ↓E_mcl, ↓E_mk, ↓Es_nil, ↓Es_cons, ↓O_no, ↓O_some, ↓Q_no, ↓Q_c, ↓C_and, ↓C_or, ↓C_one, ↓C_not, ↓C_cmp, ↓C_chn, ↓C_v, ↓I_seq, ↓I_rng1, ↓I_rng2, ↓I_rng3, ↓I_enu, ↓I_zip, ↓I_rev, ↓S_set, ↓S_asg, ↓S_par2, ↓S_sub, ↓S_expr, ↓S_ret, ↓S_retN, ↓S_for, ↓S_brk, ↓S_cnt, ↓S_pass, ↓S_raise, ↓S_tryas, ↓E_isx, ↓E_isxs, kW_nx, kW_rt, kW_bk, kW_ct, kW_ex, gx_sub, gx_cs, gx_PY, ↓S_never, ↓S_setf, ex_t, ex_f, ↓S_nil, ↓S_cons, ↓kN_nx, ↓kN_rt, ↓kN_bk, ↓kN_ct, ↓kN_ex, ↓kL_nx, ↓kL_rt, ↓kL_bk, ↓kL_ct, ↓kL_ex, ↓kX_nx, ↓kX_rt, ↓kX_bk, ↓kX_ct, ↓kX_ex, ↓kend_nx, ↓kend_rt, ↓kend_bk, ↓kend_ct, ↓kend_ex, vr_some, gt_0, gt_s, stn_0, stn_s, wip_0, wip_s, wips_0, wips_s, neg_i, isi_s, o_i, tru_non, tru_bl, tru_int, tru_tup, tru_rol, c_Eq, c_NotEq, c_Lt, c_LtE, c_Gt, c_GtE, cs_Eq, cs_NotEq, cb_Eq, cb_NotEq, c2_Eq, c2_NotEq, is_non, isnot_non, is_bl, isnot_bl, is_int, isnot_int, is_str, isnot_str, is_tup, isnot_tup, is_rol, isnot_rol, is_ref, isnot_ref, is_b, isnot_b, in_s, notin_s, b_add, b_sub, b_mul, b_fdiv, b_mod, b_pow, b_addt, b_adds, atI0, atI1, atI2, atI3, slc_t, slc_r, len_s, abs_i, str_i, int_i, int_b, min_i, max_i, lcm_i, gcd_i, seq_t, seq_r, r1_i, r2_i, r3_i, a_nm, a_nil, a_cons, vrl_some, vrn_some, put_lget, Option.isSome_some, tru_ref, b_addl, idx_t, idx_r, idx_l, slc_l, len_t, len_r, len_l, tuple_t, tuple_r, tuple_l, list_t, list_r, list_l, app_l, rev_l, pop_l, popat_l, mT_l, seq_l, enu_l, enu_t, fld_i, mcl_i, setf_i, vri_some, vrk_some, mk_0, mk_1, b_mull, zip_l, rev_i, rev_t, in_t, notin_t, fl_s, fl_i, fl_b, fl_n, inL_nil, inL_ss, inL_ii, List.all_cons, List.all_nil, Bool.and_self, Bool.and_true, Bool.true_and, zip_t, zip_m, a_t, a_l, sub_l, isTs, isT, Option.map_some, List.length_cons, List.length_nil, List.lookup_nil, Nat.reduceAdd, Nat.reduceSub, Nat.reduceLT, Nat.zero_add, Bool.false_eq_true, Bool.true_eq_false, if_false, if_true, decide_eq_true_eq, Bool.not_true, Bool.not_false, ite_true, ite_false, reduceIte, Bool.not_eq_true', decide_eq_false_iff_not, Int.cast_ofNat_Int, Int.reduceEq, Int.reduceLT, Int.reduceLE, Int.reduceNeg, Int.reduceAdd, Int.reduceSub, Int.reduceMul, Int.reduceToNat, decide_true, decide_false, not_true, not_false, not_true_eq_false, not_false_eq_true, true_and, and_true, eq_self, reduceCtorEq, List.isEmpty_nil, List.isEmpty_cons, List.nil_append, List.cons_append, ↓E_smt, ↓E_fldx, ↓E_dct, ↓E_gix, ↓E_rsl,  ↓E_lck, ↓S_raisef, ↓S_trym, ↓S_aug, H_nil, H_cons0, H_cons1, gx_xf, gx_kd, okx_nil, okx_ref, xpl_ref, xfS_i, xfS_s, fldxS_p, gixS_s, vrp_some, vlo_some, vrC_some, idx_s, idx_d, slc_s, b_muls, int_s, ord_s, divmod_i, sorted_x, dict_r, sm_join, sm_part, sm_sw, sm_strip, sm_lstrip, sm_zfill, sm_split, sm_digit, sm_alnum, isstr_s, seq_s, rsl_l]
  refine draws_ok (k := 17) t_law_draws t_law_cell ns 2 3 60 (by omega) (by omega) (by omega) (by omega) fun row r S2 hr hs1 hr1 => ?_
  have e0 : atI (row.map D.int) 0 = some (.int (row.getD 0 0)) := hr.at rfl (by omega)
  have e1 : atI (row.map D.int) 1 = some (.int (row.getD 1 0)) := hr.at rfl (by omega)
  have e2 : atI (row.map D.int) 2 = some (.int (row.getD 2 0)) := hr.at rfl (by omega)
  have g2 := hr.get (i := 2) (by omega)
  generalize row.getD 0 0 = u at *
  generalize row.getD 1 0 = v at *
  generalize row.getD 2 0 = w at *
  clear hp0 hp1
  simp -dsimp -implicitDefEqProofs only [↓cov3, ↓cov2, ↓cov1, ↓E_var, ↓E_int, ↓E_bl, ↓E_non, ↓E_str, ↓E_glo, ↓E_tup, ↓E_lst, ↓E_bin, ↓E_neg, ↓E_cmp, ↓E_chn, ↓E_and, ↓E_or, ↓E_one, ↓E_not, ↓E_ifx, ↓E_idx, ↓E_slc, ↓E_call, ↓E_bi, ↓E_isi, ↓E_mth, ↓E_lc, ↓E_fld, ↓E_mcl, ↓E_mk, ↓Es_nil, ↓Es_cons, ↓O_no, ↓O_some, ↓Q_no, ↓Q_c, ↓C_and, ↓C_or, ↓C_one, ↓C_not, ↓C_cmp, ↓C_chn, ↓C_v, ↓I_seq, ↓I_rng1, ↓I_rng2, ↓I_rng3, ↓I_enu, ↓I_zip, ↓I_rev, ↓S_set, ↓S_asg, ↓S_par2, ↓S_sub, ↓S_expr, ↓S_ret, ↓S_retN, ↓S_for, ↓S_brk, ↓S_cnt, ↓S_pass, ↓S_raise, ↓S_tryas, ↓E_isx, ↓E_isxs, kW_nx, kW_rt, kW_bk, kW_ct, kW_ex, gx_sub, gx_cs, gx_PY, ↓S_never, ↓S_setf, ex_t, ex_f, ↓S_nil, ↓S_cons, ↓kN_nx, ↓kN_rt, ↓kN_bk, ↓kN_ct, ↓kN_ex, ↓kL_nx, ↓kL_rt, ↓kL_bk, ↓kL_ct, ↓kL_ex, ↓kX_nx, ↓kX_rt, ↓kX_bk, ↓kX_ct, ↓kX_ex, ↓kend_nx, ↓kend_rt, ↓kend_bk, ↓kend_ct, ↓kend_ex, vr_some, gt_0, gt_s, stn_0, stn_s, wip_0, wip_s, wips_0, wips_s, neg_i, isi_s, o_i, tru_non, tru_bl, tru_int, tru_tup, tru_rol, c_Eq, c_NotEq, c_Lt, c_LtE, c_Gt, c_GtE, cs_Eq, cs_NotEq, cb_Eq, cb_NotEq, c2_Eq, c2_NotEq, is_non, isnot_non, is_bl, isnot_bl, is_int, isnot_int, is_str, isnot_str, is_tup, isnot_tup, is_rol, isnot_rol, is_ref, isnot_ref, is_b, isnot_b, in_s, notin_s, b_add, b_sub, b_mul, b_fdiv, b_mod, b_pow, b_addt, b_adds, atI0, atI1, atI2, atI3, slc_t, slc_r, len_s, abs_i, str_i, int_i, int_b, min_i, max_i, lcm_i, gcd_i, seq_t, seq_r, r1_i, r2_i, r3_i, a_nm, a_nil, a_cons, vrl_some, vrn_some, put_lget, Option.isSome_some, tru_ref, b_addl, idx_t, idx_r, idx_l, slc_l, len_t, len_r, len_l, tuple_t, tuple_r, tuple_l, list_t, list_r, list_l, app_l, rev_l, pop_l, popat_l, mT_l, seq_l, enu_l, enu_t, fld_i, mcl_i, setf_i, vri_some, vrk_some, mk_0, mk_1, b_mull, zip_l, rev_i, rev_t, in_t, notin_t, fl_s, fl_i, fl_b, fl_n, inL_nil, inL_ss, inL_ii, List.all_cons, List.all_nil, Bool.and_self, Bool.and_true, Bool.true_and, zip_t, zip_m, a_t, a_l, sub_l, isTs, isT, Option.map_some, List.length_cons, List.length_nil, List.lookup_nil, Nat.reduceAdd, Nat.reduceSub, Nat.reduceLT, Nat.zero_add, Bool.false_eq_true, Bool.true_eq_false, if_false, if_true, decide_eq_true_eq, Bool.not_true, Bool.not_false, ite_true, ite_false, reduceIte, Bool.not_eq_true', decide_eq_false_iff_not, Int.cast_ofNat_Int, Int.reduceEq, Int.reduceLT, Int.reduceLE, Int.reduceNeg, Int.reduceAdd, Int.reduceSub, Int.reduceMul, Int.reduceToNat, decide_true, decide_false, not_true, not_false, not_true_eq_false, not_false_eq_true, true_and, and_true, eq_self, reduceCtorEq, List.isEmpty_nil, List.isEmpty_cons, List.nil_append, List.cons_append, ↓E_smt, ↓E_fldx, ↓E_dct, ↓E_gix, ↓E_rsl,  ↓E_lck, ↓S_raisef, ↓S_trym, ↓S_aug, H_nil, H_cons0, H_cons1, gx_xf, gx_kd, okx_nil, okx_ref, xpl_ref, xfS_i, xfS_s, fldxS_p, gixS_s, vrp_some, vlo_some, vrC_some, idx_s, idx_d, slc_s, b_muls, int_s, ord_s, divmod_i, sorted_x, dict_r, sm_join, sm_part, sm_sw, sm_strip, sm_lstrip, sm_zfill, sm_split, sm_digit, sm_alnum, isstr_s, seq_s, rsl_l, lget_of hr1, e0, e1]
  refine join (fun σ' S' => S' = S2 ∧ ∃ z : Int, z.natAbs < 10 ^ 130 ∧ σ' = [some (.rol (ns.map D.int)), some (.int z), some (.int d), some (.ref r), none, none, none, none, none, none, none]) ?_ ?_
  · rintro _ S' ⟨e, z, hz, rfl⟩
    rw [e]
    clear e S'
    simp -dsimp -implicitDefEqProofs only [↓cov3, ↓cov2, ↓cov1, ↓E_var, ↓E_int, ↓E_bl, ↓E_non, ↓E_str, ↓E_glo, ↓E_tup, ↓E_lst, ↓E_bin, ↓E_neg, ↓E_cmp, ↓E_chn, ↓E_and, ↓E_or, ↓E_one, ↓E_not, ↓E_ifx, ↓E_idx, ↓E_slc, ↓E_call, ↓E_bi, ↓E_isi, ↓E_mth, ↓E_lc, ↓E_fld, ↓E_mcl, ↓E_mk, ↓Es_nil, ↓Es_cons, ↓O_no, ↓O_some, ↓Q_no, ↓Q_c, ↓C_and, ↓C_or, ↓C_one, ↓C_not, ↓C_cmp, ↓C_chn, ↓C_v, ↓I_seq, ↓I_rng1, ↓I_rng2, ↓I_rng3, ↓I_enu, ↓I_zip, ↓I_rev, ↓S_set, ↓S_asg, ↓S_par2, ↓S_sub, ↓S_expr, ↓S_ret, ↓S_retN, ↓S_for, ↓S_brk, ↓S_cnt, ↓S_pass, ↓S_raise, ↓S_tryas, ↓E_isx, ↓E_isxs, kW_nx, kW_rt, kW_bk, kW_ct, kW_ex, gx_sub, gx_cs, gx_PY, ↓S_never, ↓S_setf, ex_t, ex_f, ↓S_nil, ↓S_cons, ↓kN_nx, ↓kN_rt, ↓kN_bk, ↓kN_ct, ↓kN_ex, ↓kL_nx, ↓kL_rt, ↓kL_bk, ↓kL_ct, ↓kL_ex, ↓kX_nx, ↓kX_rt, ↓kX_bk, ↓kX_ct, ↓kX_ex, ↓kend_nx, ↓kend_rt, ↓kend_bk, ↓kend_ct, ↓kend_ex, vr_some, gt_0, gt_s, stn_0, stn_s, wip_0, wip_s, wips_0, wips_s, neg_i, isi_s, o_i, tru_non, tru_bl, tru_int, tru_tup, tru_rol, c_Eq, c_NotEq, c_Lt, c_LtE, c_Gt, c_GtE, cs_Eq, cs_NotEq, cb_Eq, cb_NotEq, c2_Eq, c2_NotEq, is_non, isnot_non, is_bl, isnot_bl, is_int, isnot_int, is_str, isnot_str, is_tup, isnot_tup, is_rol, isnot_rol, is_ref, isnot_ref, is_b, isnot_b, in_s, notin_s, b_add, b_sub, b_mul, b_fdiv, b_mod, b_pow, b_addt, b_adds, atI0, atI1, atI2, atI3, slc_t, slc_r, len_s, abs_i, str_i, int_i, int_b, min_i, max_i, lcm_i, gcd_i, seq_t, seq_r, r1_i, r2_i, r3_i, a_nm, a_nil, a_cons, vrl_some, vrn_some, put_lget, Option.isSome_some, tru_ref, b_addl, idx_t, idx_r, idx_l, slc_l, len_t, len_r, len_l, tuple_t, tuple_r, tuple_l, list_t, list_r, list_l, app_l, rev_l, pop_l, popat_l, mT_l, seq_l, enu_l, enu_t, fld_i, mcl_i, setf_i, vri_some, vrk_some, mk_0, mk_1, b_mull, zip_l, rev_i, rev_t, in_t, notin_t, fl_s, fl_i, fl_b, fl_n, inL_nil, inL_ss, inL_ii, List.all_cons, List.all_nil, Bool.and_self, Bool.and_true, Bool.true_and, zip_t, zip_m, a_t, a_l, sub_l, isTs, isT, Option.map_some, List.length_cons, List.length_nil, List.lookup_nil, Nat.reduceAdd, Nat.reduceSub, Nat.reduceLT, Nat.zero_add, Bool.false_eq_true, Bool.true_eq_false, if_false, if_true, decide_eq_true_eq, Bool.not_true, Bool.not_false, ite_true, ite_false, reduceIte, Bool.not_eq_true', decide_eq_false_iff_not, Int.cast_ofNat_Int, Int.reduceEq, Int.reduceLT, Int.reduceLE, Int.reduceNeg, Int.reduceAdd, Int.reduceSub, Int.reduceMul, Int.reduceToNat, decide_true, decide_false, not_true, not_false, not_true_eq_false, not_false_eq_true, true_and, and_true, eq_self, reduceCtorEq, List.isEmpty_nil, List.isEmpty_cons, List.nil_append, List.cons_append, ↓E_smt, ↓E_fldx, ↓E_dct, ↓E_gix, ↓E_rsl,  ↓E_lck, ↓S_raisef, ↓S_trym, ↓S_aug, H_nil, H_cons0, H_cons1, gx_xf, gx_kd, okx_nil, okx_ref, xpl_ref, xfS_i, xfS_s, fldxS_p, gixS_s, vrp_some, vlo_some, vrC_some, idx_s, idx_d, slc_s, b_muls, int_s, ord_s, divmod_i, sorted_x, dict_r, sm_join, sm_part, sm_sw, sm_strip, sm_lstrip, sm_zfill, sm_split, sm_digit, sm_alnum, isstr_s, seq_s, rsl_l, lget_of hr1, e0, e1]
    refine join (fun σ' S' => S' = S2 ∧ ∃ z : Int, z.natAbs < 10 ^ 130 ∧ σ' = [some (.rol (ns.map D.int)), some (.int z), some (.int d), some (.ref r), none, none, none, none, none, none, none]) ?_ ?_
    · clear hz z
      rintro _ S' ⟨e, z, hz, rfl⟩
      rw [e]
      clear e S'
      simp -dsimp -implicitDefEqProofs only [↓cov3, ↓cov2, ↓cov1, ↓E_var, ↓E_int, ↓E_bl, ↓E_non, ↓E_str, ↓E_glo, ↓E_tup, ↓E_lst, ↓E_bin, ↓E_neg, ↓E_cmp, ↓E_chn, ↓E_and, ↓E_or, ↓E_one, ↓E_not, ↓E_ifx, ↓E_idx, ↓E_slc, ↓E_call, ↓E_bi, ↓E_isi, ↓E_mth, ↓E_lc, ↓E_fld, ↓E_mcl, ↓E_mk, ↓Es_nil, ↓Es_cons, ↓O_no, ↓O_some, ↓Q_no, ↓Q_c, ↓C_and, ↓C_or, ↓C_one, ↓C_not, ↓C_cmp, ↓C_chn, ↓C_v, ↓I_seq, ↓I_rng1, ↓I_rng2, ↓I_rng3, ↓I_enu, ↓I_zip, ↓I_rev, ↓S_set, ↓S_asg, ↓S_par2, ↓S_sub, ↓S_expr, ↓S_ret, ↓S_retN, ↓S_for, ↓S_brk, ↓S_cnt, ↓S_pass, ↓S_raise, ↓S_tryas, ↓E_isx, ↓E_isxs, kW_nx, kW_rt, kW_bk, kW_ct, kW_ex, gx_sub, gx_cs, gx_PY, ↓S_never, ↓S_setf, ex_t, ex_f, ↓S_nil, ↓S_cons, ↓kN_nx, ↓kN_rt, ↓kN_bk, ↓kN_ct, ↓kN_ex, ↓kL_nx, ↓kL_rt, ↓kL_bk, ↓kL_ct, ↓kL_ex, ↓kX_nx, ↓kX_rt, ↓kX_bk, ↓kX_ct, ↓kX_ex, ↓kend_nx, ↓kend_rt, ↓kend_bk, ↓kend_ct, ↓kend_ex, vr_some, gt_0, gt_s, stn_0, stn_s, wip_0, wip_s, wips_0, wips_s, neg_i, isi_s, o_i, tru_non, tru_bl, tru_int, tru_tup, tru_rol, c_Eq, c_NotEq, c_Lt, c_LtE, c_Gt, c_GtE, cs_Eq, cs_NotEq, cb_Eq, cb_NotEq, c2_Eq, c2_NotEq, is_non, isnot_non, is_bl, isnot_bl, is_int, isnot_int, is_str, isnot_str, is_tup, isnot_tup, is_rol, isnot_rol, is_ref, isnot_ref, is_b, isnot_b, in_s, notin_s, b_add, b_sub, b_mul, b_fdiv, b_mod, b_pow, b_addt, b_adds, atI0, atI1, atI2, atI3, slc_t, slc_r, len_s, abs_i, str_i, int_i, int_b, min_i, max_i, lcm_i, gcd_i, seq_t, seq_r, r1_i, r2_i, r3_i, a_nm, a_nil, a_cons, vrl_some, vrn_some, put_lget, Option.isSome_some, tru_ref, b_addl, idx_t, idx_r, idx_l, slc_l, len_t, len_r, len_l, tuple_t, tuple_r, tuple_l, list_t, list_r, list_l, app_l, rev_l, pop_l, popat_l, mT_l, seq_l, enu_l, enu_t, fld_i, mcl_i, setf_i, vri_some, vrk_some, mk_0, mk_1, b_mull, zip_l, rev_i, rev_t, in_t, notin_t, fl_s, fl_i, fl_b, fl_n, inL_nil, inL_ss, inL_ii, List.all_cons, List.all_nil, Bool.and_self, Bool.and_true, Bool.true_and, zip_t, zip_m, a_t, a_l, sub_l, isTs, isT, Option.map_some, List.length_cons, List.length_nil, List.lookup_nil, Nat.reduceAdd, Nat.reduceSub, Nat.reduceLT, Nat.zero_add, Bool.false_eq_true, Bool.true_eq_false, if_false, if_true, decide_eq_true_eq, Bool.not_true, Bool.not_false, ite_true, ite_false, reduceIte, Bool.not_eq_true', decide_eq_false_iff_not, Int.cast_ofNat_Int, Int.reduceEq, Int.reduceLT, Int.reduceLE, Int.reduceNeg, Int.reduceAdd, Int.reduceSub, Int.reduceMul, Int.reduceToNat, decide_true, decide_false, not_true, not_false, not_true_eq_false, not_false_eq_true, true_and, and_true, eq_self, reduceCtorEq, List.isEmpty_nil, List.isEmpty_cons, List.nil_append, List.cons_append, ↓E_smt, ↓E_fldx, ↓E_dct, ↓E_gix, ↓E_rsl,  ↓E_lck, ↓S_raisef, ↓S_trym, ↓S_aug, H_nil, H_cons0, H_cons1, gx_xf, gx_kd, okx_nil, okx_ref, xpl_ref, xfS_i, xfS_s, fldxS_p, gixS_s, vrp_some, vlo_some, vrC_some, idx_s, idx_d, slc_s, b_muls, int_s, ord_s, divmod_i, sorted_x, dict_r, sm_join, sm_part, sm_sw, sm_strip, sm_lstrip, sm_zfill, sm_split, sm_digit, sm_alnum, isstr_s, seq_s, rsl_l, lget_of hr1, e0, e1]
      refine join (fun σ' S' => S' = S2 ∧ ∃ y : Nat, 0 < y ∧ y < 10 ^ 130 ∧ σ' = [some (.rol (ns.map D.int)), some (.int z), some (.int y), some (.ref r), none, none, none, none, none, none, none]) ?_ ?_
      · rintro _ S' ⟨e, y, hy1, hy2, rfl⟩
        rw [e]
        clear e S'
        simp -dsimp -implicitDefEqProofs only [↓cov3, ↓cov2, ↓cov1, ↓E_var, ↓E_int, ↓E_bl, ↓E_non, ↓E_str, ↓E_glo, ↓E_tup, ↓E_lst, ↓E_bin, ↓E_neg, ↓E_cmp, ↓E_chn, ↓E_and, ↓E_or, ↓E_one, ↓E_not, ↓E_ifx, ↓E_idx, ↓E_slc, ↓E_call, ↓E_bi, ↓E_isi, ↓E_mth, ↓E_lc, ↓E_fld, ↓E_mcl, ↓E_mk, ↓Es_nil, ↓Es_cons, ↓O_no, ↓O_some, ↓Q_no, ↓Q_c, ↓C_and, ↓C_or, ↓C_one, ↓C_not, ↓C_cmp, ↓C_chn, ↓C_v, ↓I_seq, ↓I_rng1, ↓I_rng2, ↓I_rng3, ↓I_enu, ↓I_zip, ↓I_rev, ↓S_set, ↓S_asg, ↓S_par2, ↓S_sub, ↓S_expr, ↓S_ret, ↓S_retN, ↓S_for, ↓S_brk, ↓S_cnt, ↓S_pass, ↓S_raise, ↓S_tryas, ↓E_isx, ↓E_isxs, kW_nx, kW_rt, kW_bk, kW_ct, kW_ex, gx_sub, gx_cs, gx_PY, ↓S_never, ↓S_setf, ex_t, ex_f, ↓S_nil, ↓S_cons, ↓kN_nx, ↓kN_rt, ↓kN_bk, ↓kN_ct, ↓kN_ex, ↓kL_nx, ↓kL_rt, ↓kL_bk, ↓kL_ct, ↓kL_ex, ↓kX_nx, ↓kX_rt, ↓kX_bk, ↓kX_ct, ↓kX_ex, ↓kend_nx, ↓kend_rt, ↓kend_bk, ↓kend_ct, ↓kend_ex, vr_some, gt_0, gt_s, stn_0, stn_s, wip_0, wip_s, wips_0, wips_s, neg_i, isi_s, o_i, tru_non, tru_bl, tru_int, tru_tup, tru_rol, c_Eq, c_NotEq, c_Lt, c_LtE, c_Gt, c_GtE, cs_Eq, cs_NotEq, cb_Eq, cb_NotEq, c2_Eq, c2_NotEq, is_non, isnot_non, is_bl, isnot_bl, is_int, isnot_int, is_str, isnot_str, is_tup, isnot_tup, is_rol, isnot_rol, is_ref, isnot_ref, is_b, isnot_b, in_s, notin_s, b_add, b_sub, b_mul, b_fdiv, b_mod, b_pow, b_addt, b_adds, atI0, atI1, atI2, atI3, slc_t, slc_r, len_s, abs_i, str_i, int_i, int_b, min_i, max_i, lcm_i, gcd_i, seq_t, seq_r, r1_i, r2_i, r3_i, a_nm, a_nil, a_cons, vrl_some, vrn_some, put_lget, Option.isSome_some, tru_ref, b_addl, idx_t, idx_r, idx_l, slc_l, len_t, len_r, len_l, tuple_t, tuple_r, tuple_l, list_t, list_r, list_l, app_l, rev_l, pop_l, popat_l, mT_l, seq_l, enu_l, enu_t, fld_i, mcl_i, setf_i, vri_some, vrk_some, mk_0, mk_1, b_mull, zip_l, rev_i, rev_t, in_t, notin_t, fl_s, fl_i, fl_b, fl_n, inL_nil, inL_ss, inL_ii, List.all_cons, List.all_nil, Bool.and_self, Bool.and_true, Bool.true_and, zip_t, zip_m, a_t, a_l, sub_l, isTs, isT, Option.map_some, List.length_cons, List.length_nil, List.lookup_nil, Nat.reduceAdd, Nat.reduceSub, Nat.reduceLT, Nat.zero_add, Bool.false_eq_true, Bool.true_eq_false, if_false, if_true, decide_eq_true_eq, Bool.not_true, Bool.not_false, ite_true, ite_false, reduceIte, Bool.not_eq_true', decide_eq_false_iff_not, Int.cast_ofNat_Int, Int.reduceEq, Int.reduceLT, Int.reduceLE, Int.reduceNeg, Int.reduceAdd, Int.reduceSub, Int.reduceMul, Int.reduceToNat, decide_true, decide_false, not_true, not_false, not_true_eq_false, not_false_eq_true, true_and, and_true, eq_self, reduceCtorEq, List.isEmpty_nil, List.isEmpty_cons, List.nil_append, List.cons_append, ↓E_smt, ↓E_fldx, ↓E_dct, ↓E_gix, ↓E_rsl,  ↓E_lck, ↓S_raisef, ↓S_trym, ↓S_aug, H_nil, H_cons0, H_cons1, gx_xf, gx_kd, okx_nil, okx_ref, xpl_ref, xfS_i, xfS_s, fldxS_p, gixS_s, vrp_some, vlo_some, vrC_some, idx_s, idx_d, slc_s, b_muls, int_s, ord_s, divmod_i, sorted_x, dict_r, sm_join, sm_part, sm_sw, sm_strip, sm_lstrip, sm_zfill, sm_split, sm_digit, sm_alnum, isstr_s, seq_s, rsl_l, lget_of hr1, e0, e1]
        refine law_rat_ok (k := 17) (by omega) ?_
        obtain ⟨b1, b2⟩ := divInt_le (n := z) (d := (y : Int)) (by omega)
        rw [Int.natAbs_natCast] at b2
        generalize Rat.divInt z y = q at *
        have hq1 : q.num.natAbs < 10 ^ 130 := Nat.lt_of_le_of_lt b1 hz
        have hq2 : q.den < 10 ^ 130 := Nat.lt_of_le_of_lt b2 hy2
        have hq3 : 1 ≤ q.den := Nat.pos_of_ne_zero q.den_nz
        clear b1 b2 hz hy1 hy2
        have ln := fi_len hq1
        have ld := dg_len hq2 (by decide)
        simp -dsimp -implicitDefEqProofs only [↓cov3, ↓cov2, ↓cov1, ↓E_var, ↓E_int, ↓E_bl, ↓E_non, ↓E_str, ↓E_glo, ↓E_tup, ↓E_lst, ↓E_bin, ↓E_neg, ↓E_cmp, ↓E_chn, ↓E_and, ↓E_or, ↓E_one, ↓E_not, ↓E_ifx, ↓E_idx, ↓E_slc, ↓E_call, ↓E_bi, ↓E_isi, ↓E_mth, ↓E_lc, ↓E_fld, ↓E_mcl, ↓E_mk, ↓Es_nil, ↓Es_cons, ↓O_no, ↓O_some, ↓Q_no, ↓Q_c, ↓C_and, ↓C_or, ↓C_one, ↓C_not, ↓C_cmp, ↓C_chn, ↓C_v, ↓I_seq, ↓I_rng1, ↓I_rng2, ↓I_rng3, ↓I_enu, ↓I_zip, ↓I_rev, ↓S_set, ↓S_asg, ↓S_par2, ↓S_sub, ↓S_expr, ↓S_ret, ↓S_retN, ↓S_for, ↓S_brk, ↓S_cnt, ↓S_pass, ↓S_raise, ↓S_tryas, ↓E_isx, ↓E_isxs, kW_nx, kW_rt, kW_bk, kW_ct, kW_ex, gx_sub, gx_cs, gx_PY, ↓S_never, ↓S_setf, ex_t, ex_f, ↓S_nil, ↓S_cons, ↓kN_nx, ↓kN_rt, ↓kN_bk, ↓kN_ct, ↓kN_ex, ↓kL_nx, ↓kL_rt, ↓kL_bk, ↓kL_ct, ↓kL_ex, ↓kX_nx, ↓kX_rt, ↓kX_bk, ↓kX_ct, ↓kX_ex, ↓kend_nx, ↓kend_rt, ↓kend_bk, ↓kend_ct, ↓kend_ex, vr_some, gt_0, gt_s, stn_0, stn_s, wip_0, wip_s, wips_0, wips_s, neg_i, isi_s, o_i, tru_non, tru_bl, tru_int, tru_tup, tru_rol, c_Eq, c_NotEq, c_Lt, c_LtE, c_Gt, c_GtE, cs_Eq, cs_NotEq, cb_Eq, cb_NotEq, c2_Eq, c2_NotEq, is_non, isnot_non, is_bl, isnot_bl, is_int, isnot_int, is_str, isnot_str, is_tup, isnot_tup, is_rol, isnot_rol, is_ref, isnot_ref, is_b, isnot_b, in_s, notin_s, b_add, b_sub, b_mul, b_fdiv, b_mod, b_pow, b_addt, b_adds, atI0, atI1, atI2, atI3, slc_t, slc_r, len_s, abs_i, str_i, int_i, int_b, min_i, max_i, lcm_i, gcd_i, seq_t, seq_r, r1_i, r2_i, r3_i, a_nm, a_nil, a_cons, vrl_some, vrn_some, put_lget, Option.isSome_some, tru_ref, b_addl, idx_t, idx_r, idx_l, slc_l, len_t, len_r, len_l, tuple_t, tuple_r, tuple_l, list_t, list_r, list_l, app_l, rev_l, pop_l, popat_l, mT_l, seq_l, enu_l, enu_t, fld_i, mcl_i, setf_i, vri_some, vrk_some, mk_0, mk_1, b_mull, zip_l, rev_i, rev_t, in_t, notin_t, fl_s, fl_i, fl_b, fl_n, inL_nil, inL_ss, inL_ii, List.all_cons, List.all_nil, Bool.and_self, Bool.and_true, Bool.true_and, zip_t, zip_m, a_t, a_l, sub_l, isTs, isT, Option.map_some, List.length_cons, List.length_nil, List.lookup_nil, Nat.reduceAdd, Nat.reduceSub, Nat.reduceLT, Nat.zero_add, Bool.false_eq_true, Bool.true_eq_false, if_false, if_true, decide_eq_true_eq, Bool.not_true, Bool.not_false, ite_true, ite_false, reduceIte, Bool.not_eq_true', decide_eq_false_iff_not, Int.cast_ofNat_Int, Int.reduceEq, Int.reduceLT, Int.reduceLE, Int.reduceNeg, Int.reduceAdd, Int.reduceSub, Int.reduceMul, Int.reduceToNat, decide_true, decide_false, not_true, not_false, not_true_eq_false, not_false_eq_true, true_and, and_true, eq_self, reduceCtorEq, List.isEmpty_nil, List.isEmpty_cons, List.nil_append, List.cons_append, ↓E_smt, ↓E_fldx, ↓E_dct, ↓E_gix, ↓E_rsl,  ↓E_lck, ↓S_raisef, ↓S_trym, ↓S_aug, H_nil, H_cons0, H_cons1, gx_xf, gx_kd, okx_nil, okx_ref, xpl_ref, xfS_i, xfS_s, fldxS_p, gixS_s, vrp_some, vlo_some, vrC_some, idx_s, idx_d, slc_s, b_muls, int_s, ord_s, divmod_i, sorted_x, dict_r, sm_join, sm_part, sm_sw, sm_strip, sm_lstrip, sm_zfill, sm_split, sm_digit, sm_alnum, isstr_s, seq_s, rsl_l, QD]
        refine text_ok (k := 18) q.num (lt500 hq1) fun S3 hs3 => ?_
        simp -dsimp -implicitDefEqProofs only [↓cov3, ↓cov2, ↓cov1, ↓E_var, ↓E_int, ↓E_bl, ↓E_non, ↓E_str, ↓E_glo, ↓E_tup, ↓E_lst, ↓E_bin, ↓E_neg, ↓E_cmp, ↓E_chn, ↓E_and, ↓E_or, ↓E_one, ↓E_not, ↓E_ifx, ↓E_idx, ↓E_slc, ↓E_call, ↓E_bi, ↓E_isi, ↓E_mth, ↓E_lc, ↓E_fld, ↓E_mcl, ↓E_mk, ↓Es_nil, ↓Es_cons, ↓O_no, ↓O_some, ↓Q_no, ↓Q_c, ↓C_and, ↓C_or, ↓C_one, ↓C_not, ↓C_cmp, ↓C_chn, ↓C_v, ↓I_seq, ↓I_rng1, ↓I_rng2, ↓I_rng3, ↓I_enu, ↓I_zip, ↓I_rev, ↓S_set, ↓S_asg, ↓S_par2, ↓S_sub, ↓S_expr, ↓S_ret, ↓S_retN, ↓S_for, ↓S_brk, ↓S_cnt, ↓S_pass, ↓S_raise, ↓S_tryas, ↓E_isx, ↓E_isxs, kW_nx, kW_rt, kW_bk, kW_ct, kW_ex, gx_sub, gx_cs, gx_PY, ↓S_never, ↓S_setf, ex_t, ex_f, ↓S_nil, ↓S_cons, ↓kN_nx, ↓kN_rt, ↓kN_bk, ↓kN_ct, ↓kN_ex, ↓kL_nx, ↓kL_rt, ↓kL_bk, ↓kL_ct, ↓kL_ex, ↓kX_nx, ↓kX_rt, ↓kX_bk, ↓kX_ct, ↓kX_ex, ↓kend_nx, ↓kend_rt, ↓kend_bk, ↓kend_ct, ↓kend_ex, vr_some, gt_0, gt_s, stn_0, stn_s, wip_0, wip_s, wips_0, wips_s, neg_i, isi_s, o_i, tru_non, tru_bl, tru_int, tru_tup, tru_rol, c_Eq, c_NotEq, c_Lt, c_LtE, c_Gt, c_GtE, cs_Eq, cs_NotEq, cb_Eq, cb_NotEq, c2_Eq, c2_NotEq, is_non, isnot_non, is_bl, isnot_bl, is_int, isnot_int, is_str, isnot_str, is_tup, isnot_tup, is_rol, isnot_rol, is_ref, isnot_ref, is_b, isnot_b, in_s, notin_s, b_add, b_sub, b_mul, b_fdiv, b_mod, b_pow, b_addt, b_adds, atI0, atI1, atI2, atI3, slc_t, slc_r, len_s, abs_i, str_i, int_i, int_b, min_i, max_i, lcm_i, gcd_i, seq_t, seq_r, r1_i, r2_i, r3_i, a_nm, a_nil, a_cons, vrl_some, vrn_some, put_lget, Option.isSome_some, tru_ref, b_addl, idx_t, idx_r, idx_l, slc_l, len_t, len_r, len_l, tuple_t, tuple_r, tuple_l, list_t, list_r, list_l, app_l, rev_l, pop_l, popat_l, mT_l, seq_l, enu_l, enu_t, fld_i, mcl_i, setf_i, vri_some, vrk_some, mk_0, mk_1, b_mull, zip_l, rev_i, rev_t, in_t, notin_t, fl_s, fl_i, fl_b, fl_n, inL_nil, inL_ss, inL_ii, List.all_cons, List.all_nil, Bool.and_self, Bool.and_true, Bool.true_and, zip_t, zip_m, a_t, a_l, sub_l, isTs, isT, Option.map_some, List.length_cons, List.length_nil, List.lookup_nil, Nat.reduceAdd, Nat.reduceSub, Nat.reduceLT, Nat.zero_add, Bool.false_eq_true, Bool.true_eq_false, if_false, if_true, decide_eq_true_eq, Bool.not_true, Bool.not_false, ite_true, ite_false, reduceIte, Bool.not_eq_true', decide_eq_false_iff_not, Int.cast_ofNat_Int, Int.reduceEq, Int.reduceLT, Int.reduceLE, Int.reduceNeg, Int.reduceAdd, Int.reduceSub, Int.reduceMul, Int.reduceToNat, decide_true, decide_false, not_true, not_false, not_true_eq_false, not_false_eq_true, true_and, and_true, eq_self, reduceCtorEq, List.isEmpty_nil, List.isEmpty_cons, List.nil_append, List.cons_append, ↓E_smt, ↓E_fldx, ↓E_dct, ↓E_gix, ↓E_rsl,  ↓E_lck, ↓S_raisef, ↓S_trym, ↓S_aug, H_nil, H_cons0, H_cons1, gx_xf, gx_kd, okx_nil, okx_ref, xpl_ref, xfS_i, xfS_s, fldxS_p, gixS_s, vrp_some, vlo_some, vrC_some, idx_s, idx_d, slc_s, b_muls, int_s, ord_s, divmod_i, sorted_x, dict_r, sm_join, sm_part, sm_sw, sm_strip, sm_lstrip, sm_zfill, sm_split, sm_digit, sm_alnum, isstr_s, seq_s, rsl_l]
        refine join (fun σ' S' => Sub S3 S' ∧ σ' = [some (.rol (ns.map D.int)), some (.int z), some (.int y), some (.ref r), some (QD q), some (.str (tx (wq q))), none, none, none, none, none]) ?_ ?_
        · rintro _ S4 ⟨hs4, rfl⟩
          simp -dsimp -implicitDefEqProofs only [↓cov3, ↓cov2, ↓cov1, ↓E_var, ↓E_int, ↓E_bl, ↓E_non, ↓E_str, ↓E_glo, ↓E_tup, ↓E_lst, ↓E_bin, ↓E_neg, ↓E_cmp, ↓E_chn, ↓E_and, ↓E_or, ↓E_one, ↓E_not, ↓E_ifx, ↓E_idx, ↓E_slc, ↓E_call, ↓E_bi, ↓E_isi, ↓E_mth, ↓E_lc, ↓E_fld, ↓E_mcl, ↓E_mk, ↓Es_nil, ↓Es_cons, ↓O_no, ↓O_some, ↓Q_no, ↓Q_c, ↓C_and, ↓C_or, ↓C_one, ↓C_not, ↓C_cmp, ↓C_chn, ↓C_v, ↓I_seq, ↓I_rng1, ↓I_rng2, ↓I_rng3, ↓I_enu, ↓I_zip, ↓I_rev, ↓S_set, ↓S_asg, ↓S_par2, ↓S_sub, ↓S_expr, ↓S_ret, ↓S_retN, ↓S_for, ↓S_brk, ↓S_cnt, ↓S_pass, ↓S_raise, ↓S_tryas, ↓E_isx, ↓E_isxs, kW_nx, kW_rt, kW_bk, kW_ct, kW_ex, gx_sub, gx_cs, gx_PY, ↓S_never, ↓S_setf, ex_t, ex_f, ↓S_nil, ↓S_cons, ↓kN_nx, ↓kN_rt, ↓kN_bk, ↓kN_ct, ↓kN_ex, ↓kL_nx, ↓kL_rt, ↓kL_bk, ↓kL_ct, ↓kL_ex, ↓kX_nx, ↓kX_rt, ↓kX_bk, ↓kX_ct, ↓kX_ex, ↓kend_nx, ↓kend_rt, ↓kend_bk, ↓kend_ct, ↓kend_ex, vr_some, gt_0, gt_s, stn_0, stn_s, wip_0, wip_s, wips_0, wips_s, neg_i, isi_s, o_i, tru_non, tru_bl, tru_int, tru_tup, tru_rol, c_Eq, c_NotEq, c_Lt, c_LtE, c_Gt, c_GtE, cs_Eq, cs_NotEq, cb_Eq, cb_NotEq, c2_Eq, c2_NotEq, is_non, isnot_non, is_bl, isnot_bl, is_int, isnot_int, is_str, isnot_str, is_tup, isnot_tup, is_rol, isnot_rol, is_ref, isnot_ref, is_b, isnot_b, in_s, notin_s, b_add, b_sub, b_mul, b_fdiv, b_mod, b_pow, b_addt, b_adds, atI0, atI1, atI2, atI3, slc_t, slc_r, len_s, abs_i, str_i, int_i, int_b, min_i, max_i, lcm_i, gcd_i, seq_t, seq_r, r1_i, r2_i, r3_i, a_nm, a_nil, a_cons, vrl_some, vrn_some, put_lget, Option.isSome_some, tru_ref, b_addl, idx_t, idx_r, idx_l, slc_l, len_t, len_r, len_l, tuple_t, tuple_r, tuple_l, list_t, list_r, list_l, app_l, rev_l, pop_l, popat_l, mT_l, seq_l, enu_l, enu_t, fld_i, mcl_i, setf_i, vri_some, vrk_some, mk_0, mk_1, b_mull, zip_l, rev_i, rev_t, in_t, notin_t, fl_s, fl_i, fl_b, fl_n, inL_nil, inL_ss, inL_ii, List.all_cons, List.all_nil, Bool.and_self, Bool.and_true, Bool.true_and, zip_t, zip_m, a_t, a_l, sub_l, isTs, isT, Option.map_some, List.length_cons, List.length_nil, List.lookup_nil, Nat.reduceAdd, Nat.reduceSub, Nat.reduceLT, Nat.zero_add, Bool.false_eq_true, Bool.true_eq_false, if_false, if_true, decide_eq_true_eq, Bool.not_true, Bool.not_false, ite_true, ite_false, reduceIte, Bool.not_eq_true', decide_eq_false_iff_not, Int.cast_ofNat_Int, Int.reduceEq, Int.reduceLT, Int.reduceLE, Int.reduceNeg, Int.reduceAdd, Int.reduceSub, Int.reduceMul, Int.reduceToNat, decide_true, decide_false, not_true, not_false, not_true_eq_false, not_false_eq_true, true_and, and_true, eq_self, reduceCtorEq, List.isEmpty_nil, List.isEmpty_cons, List.nil_append, List.cons_append, ↓E_smt, ↓E_fldx, ↓E_dct, ↓E_gix, ↓E_rsl,  ↓E_lck, ↓S_raisef, ↓S_trym, ↓S_aug, H_nil, H_cons0, H_cons1, gx_xf, gx_kd, okx_nil, okx_ref, xpl_ref, xfS_i, xfS_s, fldxS_p, gixS_s, vrp_some, vlo_some, vrC_some, idx_s, idx_d, slc_s, b_muls, int_s, ord_s, divmod_i, sorted_x, dict_r, sm_join, sm_part, sm_sw, sm_strip, sm_lstrip, sm_zfill, sm_split, sm_digit, sm_alnum, isstr_s, seq_s, rsl_l]
          refine format_rat_ok (k := 16) q hq1 hq2 fun S5 hs5 => ?_
          simp -dsimp -implicitDefEqProofs only [↓cov3, ↓cov2, ↓cov1, ↓E_var, ↓E_int, ↓E_bl, ↓E_non, ↓E_str, ↓E_glo, ↓E_tup, ↓E_lst, ↓E_bin, ↓E_neg, ↓E_cmp, ↓E_chn, ↓E_and, ↓E_or, ↓E_one, ↓E_not, ↓E_ifx, ↓E_idx, ↓E_slc, ↓E_call, ↓E_bi, ↓E_isi, ↓E_mth, ↓E_lc, ↓E_fld, ↓E_mcl, ↓E_mk, ↓Es_nil, ↓Es_cons, ↓O_no, ↓O_some, ↓Q_no, ↓Q_c, ↓C_and, ↓C_or, ↓C_one, ↓C_not, ↓C_cmp, ↓C_chn, ↓C_v, ↓I_seq, ↓I_rng1, ↓I_rng2, ↓I_rng3, ↓I_enu, ↓I_zip, ↓I_rev, ↓S_set, ↓S_asg, ↓S_par2, ↓S_sub, ↓S_expr, ↓S_ret, ↓S_retN, ↓S_for, ↓S_brk, ↓S_cnt, ↓S_pass, ↓S_raise, ↓S_tryas, ↓E_isx, ↓E_isxs, kW_nx, kW_rt, kW_bk, kW_ct, kW_ex, gx_sub, gx_cs, gx_PY, ↓S_never, ↓S_setf, ex_t, ex_f, ↓S_nil, ↓S_cons, ↓kN_nx, ↓kN_rt, ↓kN_bk, ↓kN_ct, ↓kN_ex, ↓kL_nx, ↓kL_rt, ↓kL_bk, ↓kL_ct, ↓kL_ex, ↓kX_nx, ↓kX_rt, ↓kX_bk, ↓kX_ct, ↓kX_ex, ↓kend_nx, ↓kend_rt, ↓kend_bk, ↓kend_ct, ↓kend_ex, vr_some, gt_0, gt_s, stn_0, stn_s, wip_0, wip_s, wips_0, wips_s, neg_i, isi_s, o_i, tru_non, tru_bl, tru_int, tru_tup, tru_rol, c_Eq, c_NotEq, c_Lt, c_LtE, c_Gt, c_GtE, cs_Eq, cs_NotEq, cb_Eq, cb_NotEq, c2_Eq, c2_NotEq, is_non, isnot_non, is_bl, isnot_bl, is_int, isnot_int, is_str, isnot_str, is_tup, isnot_tup, is_rol, isnot_rol, is_ref, isnot_ref, is_b, isnot_b, in_s, notin_s, b_add, b_sub, b_mul, b_fdiv, b_mod, b_pow, b_addt, b_adds, atI0, atI1, atI2, atI3, slc_t, slc_r, len_s, abs_i, str_i, int_i, int_b, min_i, max_i, lcm_i, gcd_i, seq_t, seq_r, r1_i, r2_i, r3_i, a_nm, a_nil, a_cons, vrl_some, vrn_some, put_lget, Option.isSome_some, tru_ref, b_addl, idx_t, idx_r, idx_l, slc_l, len_t, len_r, len_l, tuple_t, tuple_r, tuple_l, list_t, list_r, list_l, app_l, rev_l, pop_l, popat_l, mT_l, seq_l, enu_l, enu_t, fld_i, mcl_i, setf_i, vri_some, vrk_some, mk_0, mk_1, b_mull, zip_l, rev_i, rev_t, in_t, notin_t, fl_s, fl_i, fl_b, fl_n, inL_nil, inL_ss, inL_ii, List.all_cons, List.all_nil, Bool.and_self, Bool.and_true, Bool.true_and, zip_t, zip_m, a_t, a_l, sub_l, isTs, isT, Option.map_some, List.length_cons, List.length_nil, List.lookup_nil, Nat.reduceAdd, Nat.reduceSub, Nat.reduceLT, Nat.zero_add, Bool.false_eq_true, Bool.true_eq_false, if_false, if_true, decide_eq_true_eq, Bool.not_true, Bool.not_false, ite_true, ite_false, reduceIte, Bool.not_eq_true', decide_eq_false_iff_not, Int.cast_ofNat_Int, Int.reduceEq, Int.reduceLT, Int.reduceLE, Int.reduceNeg, Int.reduceAdd, Int.reduceSub, Int.reduceMul, Int.reduceToNat, decide_true, decide_false, not_true, not_false, not_true_eq_false, not_false_eq_true, true_and, and_true, eq_self, reduceCtorEq, List.isEmpty_nil, List.isEmpty_cons, List.nil_append, List.cons_append, ↓E_smt, ↓E_fldx, ↓E_dct, ↓E_gix, ↓E_rsl,  ↓E_lck, ↓S_raisef, ↓S_trym, ↓S_aug, H_nil, H_cons0, H_cons1, gx_xf, gx_kd, okx_nil, okx_ref, xpl_ref, xfS_i, xfS_s, fldxS_p, gixS_s, vrp_some, vlo_some, vrC_some, idx_s, idx_d, slc_s, b_muls, int_s, ord_s, divmod_i, sorted_x, dict_r, sm_join, sm_part, sm_sw, sm_strip, sm_lstrip, sm_zfill, sm_split, sm_digit, sm_alnum, isstr_s, seq_s, rsl_l]
          have hq4 : Nat.gcd q.num.natAbs q.den = 1 := q.reduced
          have wl : (wq q).length ≤ 300 := by
            unfold wq
            by_cases hd1 : q.den = 1
            · rw [hd1, wf_one]; omega
            · rw [wf_more _ hd1, List.length_append, List.length_cons]; omega
          have wlj : (jn (dg q.num.natAbs) (if q.den = 1 then none else some (dg q.den))).length ≤ 640 := by
            unfold wq wf at wl
            rw [List.length_append] at wl
            omega
          have hwok : prOk (decide (q.num < 0)) (dg q.num.natAbs) (if q.den = 1 then none else some (dg q.den)) = true := wf_ok hq4 hq3 (fun h => by have := of_decide_eq_true h; omega)
          have hres : (.tup [.int (if decide (q.num < 0) = true then -(digitsVal (dg q.num.natAbs) : Int) else digitsVal (dg q.num.natAbs)), .int (dnm (if q.den = 1 then none else some (dg q.den)))] : D) = QD q := by
            have e1 : (if decide (q.num < 0) = true then -(digitsVal (dg q.num.natAbs) : Int) else digitsVal (dg q.num.natAbs)) = q.num := by
              rw [dv_dg]
              by_cases h : q.num < 0
              · rw [decide_eq_true h, if_pos rfl]; omega
              · rw [decide_eq_false h, if_neg (by decide)]; omega
            have e2 : dnm (if q.den = 1 then none else some (dg q.den)) = q.den := by
              by_cases h : q.den = 1
              · rw [if_pos h, h]; rfl
              · rw [if_neg h]; exact dv_dg _
            rw [e1, e2]
            rfl
          refine parse_ok (k := 17) (decide (q.num < 0)) (dg q.num.natAbs) (if q.den = 1 then none else some (dg q.den)) (dg_no (by decide)) (fun _ => ?_) wlj (fun _ => ?_) (fun hf => by rw [hwok] at hf; cases hf)
          · by_cases hd1 : q.den = 1
            · rw [if_pos hd1]
              have := hd45 (n := q.num.natAbs) []
              rw [List.append_nil] at this
              exact this
            · rw [if_neg hd1]
              exact hd45 _
          rw [hres]
          simp -dsimp -implicitDefEqProofs only [↓cov3, ↓cov2, ↓cov1, ↓E_var, ↓E_int, ↓E_bl, ↓E_non, ↓E_str, ↓E_glo, ↓E_tup, ↓E_lst, ↓E_bin, ↓E_neg, ↓E_cmp, ↓E_chn, ↓E_and, ↓E_or, ↓E_one, ↓E_not, ↓E_ifx, ↓E_idx, ↓E_slc, ↓E_call, ↓E_bi, ↓E_isi, ↓E_mth, ↓E_lc, ↓E_fld, ↓E_mcl, ↓E_mk, ↓Es_nil, ↓Es_cons, ↓O_no, ↓O_some, ↓Q_no, ↓Q_c, ↓C_and, ↓C_or, ↓C_one, ↓C_not, ↓C_cmp, ↓C_chn, ↓C_v, ↓I_seq, ↓I_rng1, ↓I_rng2, ↓I_rng3, ↓I_enu, ↓I_zip, ↓I_rev, ↓S_set, ↓S_asg, ↓S_par2, ↓S_sub, ↓S_expr, ↓S_ret, ↓S_retN, ↓S_ifs, ↓S_for, ↓S_brk, ↓S_cnt, ↓S_pass, ↓S_raise, ↓S_try, ↓S_tryas, ↓E_isx, ↓E_isxs, kW_nx, kW_rt, kW_bk, kW_ct, kW_ex, gx_sub, gx_cs, gx_PY, ↓S_never, ↓S_setf, ex_t, ex_f, ↓S_nil, ↓S_cons, ↓kN_nx, ↓kN_rt, ↓kN_bk, ↓kN_ct, ↓kN_ex, ↓kL_nx, ↓kL_rt, ↓kL_bk, ↓kL_ct, ↓kL_ex, ↓kX_nx, ↓kX_rt, ↓kX_bk, ↓kX_ct, ↓kX_ex, ↓kend_nx, ↓kend_rt, ↓kend_bk, ↓kend_ct, ↓kend_ex, vr_some, gt_0, gt_s, stn_0, stn_s, wip_0, wip_s, wips_0, wips_s, neg_i, isi_s, o_i, tru_non, tru_bl, tru_int, tru_tup, tru_rol, c_Eq, c_NotEq, c_Lt, c_LtE, c_Gt, c_GtE, cs_Eq, cs_NotEq, cb_Eq, cb_NotEq, c2_Eq, c2_NotEq, is_non, isnot_non, is_bl, isnot_bl, is_int, isnot_int, is_str, isnot_str, is_tup, isnot_tup, is_rol, isnot_rol, is_ref, isnot_ref, is_b, isnot_b, in_s, notin_s, b_add, b_sub, b_mul, b_fdiv, b_mod, b_pow, b_addt, b_adds, atI0, atI1, atI2, atI3, slc_t, slc_r, len_s, abs_i, str_i, int_i, int_b, min_i, max_i, lcm_i, gcd_i, seq_t, seq_r, r1_i, r2_i, r3_i, a_nm, a_nil, a_cons, vrl_some, vrn_some, put_lget, Option.isSome_some, tru_ref, b_addl, idx_t, idx_r, idx_l, slc_l, len_t, len_r, len_l, tuple_t, tuple_r, tuple_l, list_t, list_r, list_l, app_l, rev_l, pop_l, popat_l, mT_l, seq_l, enu_l, enu_t, fld_i, mcl_i, setf_i, vri_some, vrk_some, mk_0, mk_1, b_mull, zip_l, rev_i, rev_t, in_t, notin_t, fl_s, fl_i, fl_b, fl_n, inL_nil, inL_ss, inL_ii, List.all_cons, List.all_nil, Bool.and_self, Bool.and_true, Bool.true_and, zip_t, zip_m, a_t, a_l, sub_l, isTs, isT, Option.map_some, List.length_cons, List.length_nil, List.lookup_nil, Nat.reduceAdd, Nat.reduceSub, Nat.reduceLT, Nat.zero_add, Bool.false_eq_true, Bool.true_eq_false, if_false, if_true, decide_eq_true_eq, Bool.not_true, Bool.not_false, ite_true, ite_false, reduceIte, Bool.not_eq_true', decide_eq_false_iff_not, Int.cast_ofNat_Int, Int.reduceEq, Int.reduceLT, Int.reduceLE, Int.reduceNeg, Int.reduceAdd, Int.reduceSub, Int.reduceMul, Int.reduceToNat, decide_true, decide_false, not_true, not_false, not_true_eq_false, not_false_eq_true, true_and, and_true, eq_self, reduceCtorEq, List.isEmpty_nil, List.isEmpty_cons, List.nil_append, List.cons_append, ↓E_smt, ↓E_fldx, ↓E_dct, ↓E_gix, ↓E_rsl,  ↓E_lck, ↓S_raisef, ↓S_trym, ↓S_aug, H_nil, H_cons0, H_cons1, gx_xf, gx_kd, okx_nil, okx_ref, xpl_ref, xfS_i, xfS_s, fldxS_p, gixS_s, vrp_some, vlo_some, vrC_some, idx_s, idx_d, slc_s, b_muls, int_s, ord_s, divmod_i, sorted_x, dict_r, sm_join, sm_part, sm_sw, sm_strip, sm_lstrip, sm_zfill, sm_split, sm_digit, sm_alnum, isstr_s, seq_s, rsl_l, decide_true, Bool.not_true, Bool.false_eq_true, if_false]
          refine is_rat_ok (k := 17) q ?_
          simp -dsimp -implicitDefEqProofs only [↓cov3, ↓cov2, ↓cov1, ↓E_var, ↓E_int, ↓E_bl, ↓E_non, ↓E_str, ↓E_glo, ↓E_tup, ↓E_lst, ↓E_bin, ↓E_neg, ↓E_cmp, ↓E_chn, ↓E_and, ↓E_or, ↓E_one, ↓E_not, ↓E_ifx, ↓E_idx, ↓E_slc, ↓E_call, ↓E_bi, ↓E_isi, ↓E_mth, ↓E_lc, ↓E_fld, ↓E_mcl, ↓E_mk, ↓Es_nil, ↓Es_cons, ↓O_no, ↓O_some, ↓Q_no, ↓Q_c, ↓C_and, ↓C_or, ↓C_one, ↓C_not, ↓C_cmp, ↓C_chn, ↓C_v, ↓I_seq, ↓I_rng1, ↓I_rng2, ↓I_rng3, ↓I_enu, ↓I_zip, ↓I_rev, ↓S_set, ↓S_asg, ↓S_par2, ↓S_sub, ↓S_expr, ↓S_ret, ↓S_retN, ↓S_ifs, ↓S_for, ↓S_brk, ↓S_cnt, ↓S_pass, ↓S_raise, ↓S_try, ↓S_tryas, ↓E_isx, ↓E_isxs, kW_nx, kW_rt, kW_bk, kW_ct, kW_ex, gx_sub, gx_cs, gx_PY, ↓S_never, ↓S_setf, ex_t, ex_f, ↓S_nil, ↓S_cons, ↓kN_nx, ↓kN_rt, ↓kN_bk, ↓kN_ct, ↓kN_ex, ↓kL_nx, ↓kL_rt, ↓kL_bk, ↓kL_ct, ↓kL_ex, ↓kX_nx, ↓kX_rt, ↓kX_bk, ↓kX_ct, ↓kX_ex, ↓kend_nx, ↓kend_rt, ↓kend_bk, ↓kend_ct, ↓kend_ex, vr_some, gt_0, gt_s, stn_0, stn_s, wip_0, wip_s, wips_0, wips_s, neg_i, isi_s, o_i, tru_non, tru_bl, tru_int, tru_tup, tru_rol, c_Eq, c_NotEq, c_Lt, c_LtE, c_Gt, c_GtE, cs_Eq, cs_NotEq, cb_Eq, cb_NotEq, c2_Eq, c2_NotEq, is_non, isnot_non, is_bl, isnot_bl, is_int, isnot_int, is_str, isnot_str, is_tup, isnot_tup, is_rol, isnot_rol, is_ref, isnot_ref, is_b, isnot_b, in_s, notin_s, b_add, b_sub, b_mul, b_fdiv, b_mod, b_pow, b_addt, b_adds, atI0, atI1, atI2, atI3, slc_t, slc_r, len_s, abs_i, str_i, int_i, int_b, min_i, max_i, lcm_i, gcd_i, seq_t, seq_r, r1_i, r2_i, r3_i, a_nm, a_nil, a_cons, vrl_some, vrn_some, put_lget, Option.isSome_some, tru_ref, b_addl, idx_t, idx_r, idx_l, slc_l, len_t, len_r, len_l, tuple_t, tuple_r, tuple_l, list_t, list_r, list_l, app_l, rev_l, pop_l, popat_l, mT_l, seq_l, enu_l, enu_t, fld_i, mcl_i, setf_i, vri_some, vrk_some, mk_0, mk_1, b_mull, zip_l, rev_i, rev_t, in_t, notin_t, fl_s, fl_i, fl_b, fl_n, inL_nil, inL_ss, inL_ii, List.all_cons, List.all_nil, Bool.and_self, Bool.and_true, Bool.true_and, zip_t, zip_m, a_t, a_l, sub_l, isTs, isT, Option.map_some, List.length_cons, List.length_nil, List.lookup_nil, Nat.reduceAdd, Nat.reduceSub, Nat.reduceLT, Nat.zero_add, Bool.false_eq_true, Bool.true_eq_false, if_false, if_true, decide_eq_true_eq, Bool.not_true, Bool.not_false, ite_true, ite_false, reduceIte, Bool.not_eq_true', decide_eq_false_iff_not, Int.cast_ofNat_Int, Int.reduceEq, Int.reduceLT, Int.reduceLE, Int.reduceNeg, Int.reduceAdd, Int.reduceSub, Int.reduceMul, Int.reduceToNat, decide_true, decide_false, not_true, not_false, not_true_eq_false, not_false_eq_true, true_and, and_true, eq_self, reduceCtorEq, List.isEmpty_nil, List.isEmpty_cons, List.nil_append, List.cons_append, ↓E_smt, ↓E_fldx, ↓E_dct, ↓E_gix, ↓E_rsl,  ↓E_lck, ↓S_raisef, ↓S_trym, ↓S_aug, H_nil, H_cons0, H_cons1, gx_xf, gx_kd, okx_nil, okx_ref, xpl_ref, xfS_i, xfS_s, fldxS_p, gixS_s, vrp_some, vlo_some, vrC_some, idx_s, idx_d, slc_s, b_muls, int_s, ord_s, divmod_i, sorted_x, dict_r, sm_join, sm_part, sm_sw, sm_strip, sm_lstrip, sm_zfill, sm_split, sm_digit, sm_alnum, isstr_s, seq_s, rsl_l, cQ_NotEq, decide_true, Bool.not_true, Bool.false_eq_true, if_false, idxQ0, idxQ1]
          refine format_ok (k := 17) q.num (lt500 hq1) fun S6 hs6 => ?_
          simp -dsimp -implicitDefEqProofs only [↓cov3, ↓cov2, ↓cov1, ↓E_var, ↓E_int, ↓E_bl, ↓E_non, ↓E_str, ↓E_glo, ↓E_tup, ↓E_lst, ↓E_bin, ↓E_neg, ↓E_cmp, ↓E_chn, ↓E_and, ↓E_or, ↓E_one, ↓E_not, ↓E_ifx, ↓E_idx, ↓E_slc, ↓E_call, ↓E_bi, ↓E_isi, ↓E_mth, ↓E_lc, ↓E_fld, ↓E_mcl, ↓E_mk, ↓Es_nil, ↓Es_cons, ↓O_no, ↓O_some, ↓Q_no, ↓Q_c, ↓C_and, ↓C_or, ↓C_one, ↓C_not, ↓C_cmp, ↓C_chn, ↓C_v, ↓I_seq, ↓I_rng1, ↓I_rng2, ↓I_rng3, ↓I_enu, ↓I_zip, ↓I_rev, ↓S_set, ↓S_asg, ↓S_par2, ↓S_sub, ↓S_expr, ↓S_ret, ↓S_retN, ↓S_ifs, ↓S_for, ↓S_brk, ↓S_cnt, ↓S_pass, ↓S_raise, ↓S_try, ↓S_tryas, ↓E_isx, ↓E_isxs, kW_nx, kW_rt, kW_bk, kW_ct, kW_ex, gx_sub, gx_cs, gx_PY, ↓S_never, ↓S_setf, ex_t, ex_f, ↓S_nil, ↓S_cons, ↓kN_nx, ↓kN_rt, ↓kN_bk, ↓kN_ct, ↓kN_ex, ↓kL_nx, ↓kL_rt, ↓kL_bk, ↓kL_ct, ↓kL_ex, ↓kX_nx, ↓kX_rt, ↓kX_bk, ↓kX_ct, ↓kX_ex, ↓kend_nx, ↓kend_rt, ↓kend_bk, ↓kend_ct, ↓kend_ex, vr_some, gt_0, gt_s, stn_0, stn_s, wip_0, wip_s, wips_0, wips_s, neg_i, isi_s, o_i, tru_non, tru_bl, tru_int, tru_tup, tru_rol, c_Eq, c_NotEq, c_Lt, c_LtE, c_Gt, c_GtE, cs_Eq, cs_NotEq, cb_Eq, cb_NotEq, c2_Eq, c2_NotEq, is_non, isnot_non, is_bl, isnot_bl, is_int, isnot_int, is_str, isnot_str, is_tup, isnot_tup, is_rol, isnot_rol, is_ref, isnot_ref, is_b, isnot_b, in_s, notin_s, b_add, b_sub, b_mul, b_fdiv, b_mod, b_pow, b_addt, b_adds, atI0, atI1, atI2, atI3, slc_t, slc_r, len_s, abs_i, str_i, int_i, int_b, min_i, max_i, lcm_i, gcd_i, seq_t, seq_r, r1_i, r2_i, r3_i, a_nm, a_nil, a_cons, vrl_some, vrn_some, put_lget, Option.isSome_some, tru_ref, b_addl, idx_t, idx_r, idx_l, slc_l, len_t, len_r, len_l, tuple_t, tuple_r, tuple_l, list_t, list_r, list_l, app_l, rev_l, pop_l, popat_l, mT_l, seq_l, enu_l, enu_t, fld_i, mcl_i, setf_i, vri_some, vrk_some, mk_0, mk_1, b_mull, zip_l, rev_i, rev_t, in_t, notin_t, fl_s, fl_i, fl_b, fl_n, inL_nil, inL_ss, inL_ii, List.all_cons, List.all_nil, Bool.and_self, Bool.and_true, Bool.true_and, zip_t, zip_m, a_t, a_l, sub_l, isTs, isT, Option.map_some, List.length_cons, List.length_nil, List.lookup_nil, Nat.reduceAdd, Nat.reduceSub, Nat.reduceLT, Nat.zero_add, Bool.false_eq_true, Bool.true_eq_false, if_false, if_true, decide_eq_true_eq, Bool.not_true, Bool.not_false, ite_true, ite_false, reduceIte, Bool.not_eq_true', decide_eq_false_iff_not, Int.cast_ofNat_Int, Int.reduceEq, Int.reduceLT, Int.reduceLE, Int.reduceNeg, Int.reduceAdd, Int.reduceSub, Int.reduceMul, Int.reduceToNat, decide_true, decide_false, not_true, not_false, not_true_eq_false, not_false_eq_true, true_and, and_true, eq_self, reduceCtorEq, List.isEmpty_nil, List.isEmpty_cons, List.nil_append, List.cons_append, ↓E_smt, ↓E_fldx, ↓E_dct, ↓E_gix, ↓E_rsl,  ↓E_lck, ↓S_raisef, ↓S_trym, ↓S_aug, H_nil, H_cons0, H_cons1, gx_xf, gx_kd, okx_nil, okx_ref, xpl_ref, xfS_i, xfS_s, fldxS_p, gixS_s, vrp_some, vlo_some, vrC_some, idx_s, idx_d, slc_s, b_muls, int_s, ord_s, divmod_i, sorted_x, dict_r, sm_join, sm_part, sm_sw, sm_strip, sm_lstrip, sm_zfill, sm_split, sm_digit, sm_alnum, isstr_s, seq_s, rsl_l, idxQ0, idxQ1]
          refine text_ok (k := 18) q.num (lt500 hq1) fun S7 hs7 => ?_
          simp -dsimp -implicitDefEqProofs only [↓cov3, ↓cov2, ↓cov1, ↓E_var, ↓E_int, ↓E_bl, ↓E_non, ↓E_str, ↓E_glo, ↓E_tup, ↓E_lst, ↓E_bin, ↓E_neg, ↓E_cmp, ↓E_chn, ↓E_and, ↓E_or, ↓E_one, ↓E_not, ↓E_ifx, ↓E_idx, ↓E_slc, ↓E_call, ↓E_bi, ↓E_isi, ↓E_mth, ↓E_lc, ↓E_fld, ↓E_mcl, ↓E_mk, ↓Es_nil, ↓Es_cons, ↓O_no, ↓O_some, ↓Q_no, ↓Q_c, ↓C_and, ↓C_or, ↓C_one, ↓C_not, ↓C_cmp, ↓C_chn, ↓C_v, ↓I_seq, ↓I_rng1, ↓I_rng2, ↓I_rng3, ↓I_enu, ↓I_zip, ↓I_rev, ↓S_set, ↓S_asg, ↓S_par2, ↓S_sub, ↓S_expr, ↓S_ret, ↓S_retN, ↓S_ifs, ↓S_for, ↓S_brk, ↓S_cnt, ↓S_pass, ↓S_raise, ↓S_try, ↓S_tryas, ↓E_isx, ↓E_isxs, kW_nx, kW_rt, kW_bk, kW_ct, kW_ex, gx_sub, gx_cs, gx_PY, ↓S_never, ↓S_setf, ex_t, ex_f, ↓S_nil, ↓S_cons, ↓kN_nx, ↓kN_rt, ↓kN_bk, ↓kN_ct, ↓kN_ex, ↓kL_nx, ↓kL_rt, ↓kL_bk, ↓kL_ct, ↓kL_ex, ↓kX_nx, ↓kX_rt, ↓kX_bk, ↓kX_ct, ↓kX_ex, ↓kend_nx, ↓kend_rt, ↓kend_bk, ↓kend_ct, ↓kend_ex, vr_some, gt_0, gt_s, stn_0, stn_s, wip_0, wip_s, wips_0, wips_s, neg_i, isi_s, o_i, tru_non, tru_bl, tru_int, tru_tup, tru_rol, c_Eq, c_NotEq, c_Lt, c_LtE, c_Gt, c_GtE, cs_Eq, cs_NotEq, cb_Eq, cb_NotEq, c2_Eq, c2_NotEq, is_non, isnot_non, is_bl, isnot_bl, is_int, isnot_int, is_str, isnot_str, is_tup, isnot_tup, is_rol, isnot_rol, is_ref, isnot_ref, is_b, isnot_b, in_s, notin_s, b_add, b_sub, b_mul, b_fdiv, b_mod, b_pow, b_addt, b_adds, atI0, atI1, atI2, atI3, slc_t, slc_r, len_s, abs_i, str_i, int_i, int_b, min_i, max_i, lcm_i, gcd_i, seq_t, seq_r, r1_i, r2_i, r3_i, a_nm, a_nil, a_cons, vrl_some, vrn_some, put_lget, Option.isSome_some, tru_ref, b_addl, idx_t, idx_r, idx_l, slc_l, len_t, len_r, len_l, tuple_t, tuple_r, tuple_l, list_t, list_r, list_l, app_l, rev_l, pop_l, popat_l, mT_l, seq_l, enu_l, enu_t, fld_i, mcl_i, setf_i, vri_some, vrk_some, mk_0, mk_1, b_mull, zip_l, rev_i, rev_t, in_t, notin_t, fl_s, fl_i, fl_b, fl_n, inL_nil, inL_ss, inL_ii, List.all_cons, List.all_nil, Bool.and_self, Bool.and_true, Bool.true_and, zip_t, zip_m, a_t, a_l, sub_l, isTs, isT, Option.map_some, List.length_cons, List.length_nil, List.lookup_nil, Nat.reduceAdd, Nat.reduceSub, Nat.reduceLT, Nat.zero_add, Bool.false_eq_true, Bool.true_eq_false, if_false, if_true, decide_eq_true_eq, Bool.not_true, Bool.not_false, ite_true, ite_false, reduceIte, Bool.not_eq_true', decide_eq_false_iff_not, Int.cast_ofNat_Int, Int.reduceEq, Int.reduceLT, Int.reduceLE, Int.reduceNeg, Int.reduceAdd, Int.reduceSub, Int.reduceMul, Int.reduceToNat, decide_true, decide_false, not_true, not_false, not_true_eq_false, not_false_eq_true, true_and, and_true, eq_self, reduceCtorEq, List.isEmpty_nil, List.isEmpty_cons, List.nil_append, List.cons_append, ↓E_smt, ↓E_fldx, ↓E_dct, ↓E_gix, ↓E_rsl,  ↓E_lck, ↓S_raisef, ↓S_trym, ↓S_aug, H_nil, H_cons0, H_cons1, gx_xf, gx_kd, okx_nil, okx_ref, xpl_ref, xfS_i, xfS_s, fldxS_p, gixS_s, vrp_some, vlo_some, vrC_some, idx_s, idx_d, slc_s, b_muls, int_s, ord_s, divmod_i, sorted_x, dict_r, sm_join, sm_part, sm_sw, sm_strip, sm_lstrip, sm_zfill, sm_split, sm_digit, sm_alnum, isstr_s, seq_s, rsl_l, idxQ0, idxQ1, decide_true, Bool.not_true, Bool.false_eq_true, if_false]
          refine text_ok (k := 18) (q.den : Int) (lt500 (by rw [Int.natAbs_natCast]; exact hq2)) fun S8 hs8 => ?_
          simp -dsimp -implicitDefEqProofs only [↓cov3, ↓cov2, ↓cov1, ↓E_var, ↓E_int, ↓E_bl, ↓E_non, ↓E_str, ↓E_glo, ↓E_tup, ↓E_lst, ↓E_bin, ↓E_neg, ↓E_cmp, ↓E_chn, ↓E_and, ↓E_or, ↓E_one, ↓E_not, ↓E_ifx, ↓E_idx, ↓E_slc, ↓E_call, ↓E_bi, ↓E_isi, ↓E_mth, ↓E_lc, ↓E_fld, ↓E_mcl, ↓E_mk, ↓Es_nil, ↓Es_cons, ↓O_no, ↓O_some, ↓Q_no, ↓Q_c, ↓C_and, ↓C_or, ↓C_one, ↓C_not, ↓C_cmp, ↓C_chn, ↓C_v, ↓I_seq, ↓I_rng1, ↓I_rng2, ↓I_rng3, ↓I_enu, ↓I_zip, ↓I_rev, ↓S_set, ↓S_asg, ↓S_par2, ↓S_sub, ↓S_expr, ↓S_ret, ↓S_retN, ↓S_ifs, ↓S_for, ↓S_brk, ↓S_cnt, ↓S_pass, ↓S_raise, ↓S_try, ↓S_tryas, ↓E_isx, ↓E_isxs, kW_nx, kW_rt, kW_bk, kW_ct, kW_ex, gx_sub, gx_cs, gx_PY, ↓S_never, ↓S_setf, ex_t, ex_f, ↓S_nil, ↓S_cons, ↓kN_nx, ↓kN_rt, ↓kN_bk, ↓kN_ct, ↓kN_ex, ↓kL_nx, ↓kL_rt, ↓kL_bk, ↓kL_ct, ↓kL_ex, ↓kX_nx, ↓kX_rt, ↓kX_bk, ↓kX_ct, ↓kX_ex, ↓kend_nx, ↓kend_rt, ↓kend_bk, ↓kend_ct, ↓kend_ex, vr_some, gt_0, gt_s, stn_0, stn_s, wip_0, wip_s, wips_0, wips_s, neg_i, isi_s, o_i, tru_non, tru_bl, tru_int, tru_tup, tru_rol, c_Eq, c_NotEq, c_Lt, c_LtE, c_Gt, c_GtE, cs_Eq, cs_NotEq, cb_Eq, cb_NotEq, c2_Eq, c2_NotEq, is_non, isnot_non, is_bl, isnot_bl, is_int, isnot_int, is_str, isnot_str, is_tup, isnot_tup, is_rol, isnot_rol, is_ref, isnot_ref, is_b, isnot_b, in_s, notin_s, b_add, b_sub, b_mul, b_fdiv, b_mod, b_pow, b_addt, b_adds, atI0, atI1, atI2, atI3, slc_t, slc_r, len_s, abs_i, str_i, int_i, int_b, min_i, max_i, lcm_i, gcd_i, seq_t, seq_r, r1_i, r2_i, r3_i, a_nm, a_nil, a_cons, vrl_some, vrn_some, put_lget, Option.isSome_some, tru_ref, b_addl, idx_t, idx_r, idx_l, slc_l, len_t, len_r, len_l, tuple_t, tuple_r, tuple_l, list_t, list_r, list_l, app_l, rev_l, pop_l, popat_l, mT_l, seq_l, enu_l, enu_t, fld_i, mcl_i, setf_i, vri_some, vrk_some, mk_0, mk_1, b_mull, zip_l, rev_i, rev_t, in_t, notin_t, fl_s, fl_i, fl_b, fl_n, inL_nil, inL_ss, inL_ii, List.all_cons, List.all_nil, Bool.and_self, Bool.and_true, Bool.true_and, zip_t, zip_m, a_t, a_l, sub_l, isTs, isT, Option.map_some, List.length_cons, List.length_nil, List.lookup_nil, Nat.reduceAdd, Nat.reduceSub, Nat.reduceLT, Nat.zero_add, Bool.false_eq_true, Bool.true_eq_false, if_false, if_true, decide_eq_true_eq, Bool.not_true, Bool.not_false, ite_true, ite_false, reduceIte, Bool.not_eq_true', decide_eq_false_iff_not, Int.cast_ofNat_Int, Int.reduceEq, Int.reduceLT, Int.reduceLE, Int.reduceNeg, Int.reduceAdd, Int.reduceSub, Int.reduceMul, Int.reduceToNat, decide_true, decide_false, not_true, not_false, not_true_eq_false, not_false_eq_true, true_and, and_true, eq_self, reduceCtorEq, List.isEmpty_nil, List.isEmpty_cons, List.nil_append, List.cons_append, ↓E_smt, ↓E_fldx, ↓E_dct, ↓E_gix, ↓E_rsl,  ↓E_lck, ↓S_raisef, ↓S_trym, ↓S_aug, H_nil, H_cons0, H_cons1, gx_xf, gx_kd, okx_nil, okx_ref, xpl_ref, xfS_i, xfS_s, fldxS_p, gixS_s, vrp_some, vlo_some, vrC_some, idx_s, idx_d, slc_s, b_muls, int_s, ord_s, divmod_i, sorted_x, dict_r, sm_join, sm_part, sm_sw, sm_strip, sm_lstrip, sm_zfill, sm_split, sm_digit, sm_alnum, isstr_s, seq_s, rsl_l, l_00, app_tx, len_tx, fi_nat]
          refine ⟨szt (by show 2 + _ ≤ _; omega), ?_⟩
          refine digits_ok (k := 18) (48 :: 48 :: dg q.den) (by rw [List.length_cons, List.length_cons]; omega) (fun c hc => ?_) ?_
          · rcases List.mem_cons.mp hc with rfl | hc
            · omega
            · rcases List.mem_cons.mp hc with rfl | hc
              · omega
              · exact dg_all _ c hc
          have ed : digitsVal (48 :: 48 :: dg q.den) = q.den := by
            show digitsVal ([48, 48] ++ dg q.den) = _
            rw [dv_app, dv_dg]
            show 0 * _ + _ = _
            omega
          rw [ed]
          simp -dsimp -implicitDefEqProofs only [↓cov3, ↓cov2, ↓cov1, ↓E_var, ↓E_int, ↓E_bl, ↓E_non, ↓E_str, ↓E_glo, ↓E_tup, ↓E_lst, ↓E_bin, ↓E_neg, ↓E_cmp, ↓E_chn, ↓E_and, ↓E_or, ↓E_one, ↓E_not, ↓E_ifx, ↓E_idx, ↓E_slc, ↓E_call, ↓E_bi, ↓E_isi, ↓E_mth, ↓E_lc, ↓E_fld, ↓E_mcl, ↓E_mk, ↓Es_nil, ↓Es_cons, ↓O_no, ↓O_some, ↓Q_no, ↓Q_c, ↓C_and, ↓C_or, ↓C_one, ↓C_not, ↓C_cmp, ↓C_chn, ↓C_v, ↓I_seq, ↓I_rng1, ↓I_rng2, ↓I_rng3, ↓I_enu, ↓I_zip, ↓I_rev, ↓S_set, ↓S_asg, ↓S_par2, ↓S_sub, ↓S_expr, ↓S_ret, ↓S_retN, ↓S_ifs, ↓S_for, ↓S_brk, ↓S_cnt, ↓S_pass, ↓S_raise, ↓S_try, ↓S_tryas, ↓E_isx, ↓E_isxs, kW_nx, kW_rt, kW_bk, kW_ct, kW_ex, gx_sub, gx_cs, gx_PY, ↓S_never, ↓S_setf, ex_t, ex_f, ↓S_nil, ↓S_cons, ↓kN_nx, ↓kN_rt, ↓kN_bk, ↓kN_ct, ↓kN_ex, ↓kL_nx, ↓kL_rt, ↓kL_bk, ↓kL_ct, ↓kL_ex, ↓kX_nx, ↓kX_rt, ↓kX_bk, ↓kX_ct, ↓kX_ex, ↓kend_nx, ↓kend_rt, ↓kend_bk, ↓kend_ct, ↓kend_ex, vr_some, gt_0, gt_s, stn_0, stn_s, wip_0, wip_s, wips_0, wips_s, neg_i, isi_s, o_i, tru_non, tru_bl, tru_int, tru_tup, tru_rol, c_Eq, c_NotEq, c_Lt, c_LtE, c_Gt, c_GtE, cs_Eq, cs_NotEq, cb_Eq, cb_NotEq, c2_Eq, c2_NotEq, is_non, isnot_non, is_bl, isnot_bl, is_int, isnot_int, is_str, isnot_str, is_tup, isnot_tup, is_rol, isnot_rol, is_ref, isnot_ref, is_b, isnot_b, in_s, notin_s, b_add, b_sub, b_mul, b_fdiv, b_mod, b_pow, b_addt, b_adds, atI0, atI1, atI2, atI3, slc_t, slc_r, len_s, abs_i, str_i, int_i, int_b, min_i, max_i, lcm_i, gcd_i, seq_t, seq_r, r1_i, r2_i, r3_i, a_nm, a_nil, a_cons, vrl_some, vrn_some, put_lget, Option.isSome_some, tru_ref, b_addl, idx_t, idx_r, idx_l, slc_l, len_t, len_r, len_l, tuple_t, tuple_r, tuple_l, list_t, list_r, list_l, app_l, rev_l, pop_l, popat_l, mT_l, seq_l, enu_l, enu_t, fld_i, mcl_i, setf_i, vri_some, vrk_some, mk_0, mk_1, b_mull, zip_l, rev_i, rev_t, in_t, notin_t, fl_s, fl_i, fl_b, fl_n, inL_nil, inL_ss, inL_ii, List.all_cons, List.all_nil, Bool.and_self, Bool.and_true, Bool.true_and, zip_t, zip_m, a_t, a_l, sub_l, isTs, isT, Option.map_some, List.length_cons, List.length_nil, List.lookup_nil, Nat.reduceAdd, Nat.reduceSub, Nat.reduceLT, Nat.zero_add, Bool.false_eq_true, Bool.true_eq_false, if_false, if_true, decide_eq_true_eq, Bool.not_true, Bool.not_false, ite_true, ite_false, reduceIte, Bool.not_eq_true', decide_eq_false_iff_not, Int.cast_ofNat_Int, Int.reduceEq, Int.reduceLT, Int.reduceLE, Int.reduceNeg, Int.reduceAdd, Int.reduceSub, Int.reduceMul, Int.reduceToNat, decide_true, decide_false, not_true, not_false, not_true_eq_false, not_false_eq_true, true_and, and_true, eq_self, reduceCtorEq, List.isEmpty_nil, List.isEmpty_cons, List.nil_append, List.cons_append, ↓E_smt, ↓E_fldx, ↓E_dct, ↓E_gix, ↓E_rsl,  ↓E_lck, ↓S_raisef, ↓S_trym, ↓S_aug, H_nil, H_cons0, H_cons1, gx_xf, gx_kd, okx_nil, okx_ref, xpl_ref, xfS_i, xfS_s, fldxS_p, gixS_s, vrp_some, vlo_some, vrC_some, idx_s, idx_d, slc_s, b_muls, int_s, ord_s, divmod_i, sorted_x, dict_r, sm_join, sm_part, sm_sw, sm_strip, sm_lstrip, sm_zfill, sm_split, sm_digit, sm_alnum, isstr_s, seq_s, rsl_l, idxQ0, idxQ1, decide_true, Bool.not_true, Bool.false_eq_true, if_false]
          refine text_ok (k := 18) (q.den : Int) (lt500 (by rw [Int.natAbs_natCast]; exact hq2)) fun S9 hs9 => ?_
          have hr9 := hs9 _ _ (hs8 _ _ (hs7 _ _ (hs6 _ _ (hs5 _ _ (hs4 _ _ (hs3 _ _ hr1))))))
          simp -dsimp -implicitDefEqProofs only [↓cov3, ↓cov2, ↓cov1, ↓E_var, ↓E_int, ↓E_bl, ↓E_non, ↓E_str, ↓E_glo, ↓E_tup, ↓E_lst, ↓E_bin, ↓E_neg, ↓E_cmp, ↓E_chn, ↓E_and, ↓E_or, ↓E_one, ↓E_not, ↓E_ifx, ↓E_idx, ↓E_slc, ↓E_call, ↓E_bi, ↓E_isi, ↓E_mth, ↓E_lc, ↓E_fld, ↓E_mcl, ↓E_mk, ↓Es_nil, ↓Es_cons, ↓O_no, ↓O_some, ↓Q_no, ↓Q_c, ↓C_and, ↓C_or, ↓C_one, ↓C_not, ↓C_cmp, ↓C_chn, ↓C_v, ↓I_seq, ↓I_rng1, ↓I_rng2, ↓I_rng3, ↓I_enu, ↓I_zip, ↓I_rev, ↓S_set, ↓S_asg, ↓S_par2, ↓S_sub, ↓S_expr, ↓S_ret, ↓S_retN, ↓S_ifs, ↓S_for, ↓S_brk, ↓S_cnt, ↓S_pass, ↓S_raise, ↓S_try, ↓S_tryas, ↓E_isx, ↓E_isxs, kW_nx, kW_rt, kW_bk, kW_ct, kW_ex, gx_sub, gx_cs, gx_PY, ↓S_never, ↓S_setf, ex_t, ex_f, ↓S_nil, ↓S_cons, ↓kN_nx, ↓kN_rt, ↓kN_bk, ↓kN_ct, ↓kN_ex, ↓kL_nx, ↓kL_rt, ↓kL_bk, ↓kL_ct, ↓kL_ex, ↓kX_nx, ↓kX_rt, ↓kX_bk, ↓kX_ct, ↓kX_ex, ↓kend_nx, ↓kend_rt, ↓kend_bk, ↓kend_ct, ↓kend_ex, vr_some, gt_0, gt_s, stn_0, stn_s, wip_0, wip_s, wips_0, wips_s, neg_i, isi_s, o_i, tru_non, tru_bl, tru_int, tru_tup, tru_rol, c_Eq, c_NotEq, c_Lt, c_LtE, c_Gt, c_GtE, cs_Eq, cs_NotEq, cb_Eq, cb_NotEq, c2_Eq, c2_NotEq, is_non, isnot_non, is_bl, isnot_bl, is_int, isnot_int, is_str, isnot_str, is_tup, isnot_tup, is_rol, isnot_rol, is_ref, isnot_ref, is_b, isnot_b, in_s, notin_s, b_add, b_sub, b_mul, b_fdiv, b_mod, b_pow, b_addt, b_adds, atI0, atI1, atI2, atI3, slc_t, slc_r, len_s, abs_i, str_i, int_i, int_b, min_i, max_i, lcm_i, gcd_i, seq_t, seq_r, r1_i, r2_i, r3_i, a_nm, a_nil, a_cons, vrl_some, vrn_some, put_lget, Option.isSome_some, tru_ref, b_addl, idx_t, idx_r, idx_l, slc_l, len_t, len_r, len_l, tuple_t, tuple_r, tuple_l, list_t, list_r, list_l, app_l, rev_l, pop_l, popat_l, mT_l, seq_l, enu_l, enu_t, fld_i, mcl_i, setf_i, vri_some, vrk_some, mk_0, mk_1, b_mull, zip_l, rev_i, rev_t, in_t, notin_t, fl_s, fl_i, fl_b, fl_n, inL_nil, inL_ss, inL_ii, List.all_cons, List.all_nil, Bool.and_self, Bool.and_true, Bool.true_and, zip_t, zip_m, a_t, a_l, sub_l, isTs, isT, Option.map_some, List.length_cons, List.length_nil, List.lookup_nil, Nat.reduceAdd, Nat.reduceSub, Nat.reduceLT, Nat.zero_add, Bool.false_eq_true, Bool.true_eq_false, if_false, if_true, decide_eq_true_eq, Bool.not_true, Bool.not_false, ite_true, ite_false, reduceIte, Bool.not_eq_true', decide_eq_false_iff_not, Int.cast_ofNat_Int, Int.reduceEq, Int.reduceLT, Int.reduceLE, Int.reduceNeg, Int.reduceAdd, Int.reduceSub, Int.reduceMul, Int.reduceToNat, decide_true, decide_false, not_true, not_false, not_true_eq_false, not_false_eq_true, true_and, and_true, eq_self, reduceCtorEq, List.isEmpty_nil, List.isEmpty_cons, List.nil_append, List.cons_append, ↓E_smt, ↓E_fldx, ↓E_dct, ↓E_gix, ↓E_rsl,  ↓E_lck, ↓S_raisef, ↓S_trym, ↓S_aug, H_nil, H_cons0, H_cons1, gx_xf, gx_kd, okx_nil, okx_ref, xpl_ref, xfS_i, xfS_s, fldxS_p, gixS_s, vrp_some, vlo_some, vrC_some, idx_s, idx_d, slc_s, b_muls, int_s, ord_s, divmod_i, sorted_x, dict_r, sm_join, sm_part, sm_sw, sm_strip, sm_lstrip, sm_zfill, sm_split, sm_digit, sm_alnum, isstr_s, seq_s, rsl_l, lget_of hr9, e2, fi_nat]
          refine bad_ok (k := 18) (wq q) (dg q.den) w (by omega) (by omega) g2.1 fun zt S10 hzt hs10 => ?_
          obtain ⟨neg, a, bo, rfl, h47, hh, hno, hlen⟩ := bad_all (s := decide (q.num < 0)) (x := q.num.natAbs) (y := q.den) (by have := dg_len hq1 (by decide); omega) (by omega) hq3 zt hzt
          simp -dsimp -implicitDefEqProofs only [↓cov3, ↓cov2, ↓cov1, ↓E_var, ↓E_int, ↓E_bl, ↓E_non, ↓E_str, ↓E_glo, ↓E_tup, ↓E_lst, ↓E_bin, ↓E_neg, ↓E_cmp, ↓E_chn, ↓E_and, ↓E_or, ↓E_one, ↓E_not, ↓E_ifx, ↓E_idx, ↓E_slc, ↓E_call, ↓E_bi, ↓E_isi, ↓E_mth, ↓E_lc, ↓E_fld, ↓E_mcl, ↓E_mk, ↓Es_nil, ↓Es_cons, ↓O_no, ↓O_some, ↓Q_no, ↓Q_c, ↓C_and, ↓C_or, ↓C_one, ↓C_not, ↓C_cmp, ↓C_chn, ↓C_v, ↓I_seq, ↓I_rng1, ↓I_rng2, ↓I_rng3, ↓I_enu, ↓I_zip, ↓I_rev, ↓S_set, ↓S_asg, ↓S_par2, ↓S_sub, ↓S_expr, ↓S_ret, ↓S_retN, ↓S_ifs, ↓S_for, ↓S_brk, ↓S_cnt, ↓S_pass, ↓S_raise, ↓S_try, ↓S_tryas, ↓E_isx, ↓E_isxs, kW_nx, kW_rt, kW_bk, kW_ct, kW_ex, gx_sub, gx_cs, gx_PY, ↓S_never, ↓S_setf, ex_t, ex_f, ↓S_nil, ↓S_cons, ↓kN_nx, ↓kN_rt, ↓kN_bk, ↓kN_ct, ↓kN_ex, ↓kL_nx, ↓kL_rt, ↓kL_bk, ↓kL_ct, ↓kL_ex, ↓kX_nx, ↓kX_rt, ↓kX_bk, ↓kX_ct, ↓kX_ex, ↓kend_nx, ↓kend_rt, ↓kend_bk, ↓kend_ct, ↓kend_ex, vr_some, gt_0, gt_s, stn_0, stn_s, wip_0, wip_s, wips_0, wips_s, neg_i, isi_s, o_i, tru_non, tru_bl, tru_int, tru_tup, tru_rol, c_Eq, c_NotEq, c_Lt, c_LtE, c_Gt, c_GtE, cs_Eq, cs_NotEq, cb_Eq, cb_NotEq, c2_Eq, c2_NotEq, is_non, isnot_non, is_bl, isnot_bl, is_int, isnot_int, is_str, isnot_str, is_tup, isnot_tup, is_rol, isnot_rol, is_ref, isnot_ref, is_b, isnot_b, in_s, notin_s, b_add, b_sub, b_mul, b_fdiv, b_mod, b_pow, b_addt, b_adds, atI0, atI1, atI2, atI3, slc_t, slc_r, len_s, abs_i, str_i, int_i, int_b, min_i, max_i, lcm_i, gcd_i, seq_t, seq_r, r1_i, r2_i, r3_i, a_nm, a_nil, a_cons, vrl_some, vrn_some, put_lget, Option.isSome_some, tru_ref, b_addl, idx_t, idx_r, idx_l, slc_l, len_t, len_r, len_l, tuple_t, tuple_r, tuple_l, list_t, list_r, list_l, app_l, rev_l, pop_l, popat_l, mT_l, seq_l, enu_l, enu_t, fld_i, mcl_i, setf_i, vri_some, vrk_some, mk_0, mk_1, b_mull, zip_l, rev_i, rev_t, in_t, notin_t, fl_s, fl_i, fl_b, fl_n, inL_nil, inL_ss, inL_ii, List.all_cons, List.all_nil, Bool.and_self, Bool.and_true, Bool.true_and, zip_t, zip_m, a_t, a_l, sub_l, isTs, isT, Option.map_some, List.length_cons, List.length_nil, List.lookup_nil, Nat.reduceAdd, Nat.reduceSub, Nat.reduceLT, Nat.zero_add, Bool.false_eq_true, Bool.true_eq_false, if_false, if_true, decide_eq_true_eq, Bool.not_true, Bool.not_false, ite_true, ite_false, reduceIte, Bool.not_eq_true', decide_eq_false_iff_not, Int.cast_ofNat_Int, Int.reduceEq, Int.reduceLT, Int.reduceLE, Int.reduceNeg, Int.reduceAdd, Int.reduceSub, Int.reduceMul, Int.reduceToNat, decide_true, decide_false, not_true, not_false, not_true_eq_false, not_false_eq_true, true_and, and_true, eq_self, reduceCtorEq, List.isEmpty_nil, List.isEmpty_cons, List.nil_append, List.cons_append, ↓E_smt, ↓E_fldx, ↓E_dct, ↓E_gix, ↓E_rsl,  ↓E_lck, ↓S_raisef, ↓S_trym, ↓S_aug, H_nil, H_cons0, H_cons1, gx_xf, gx_kd, okx_nil, okx_ref, xpl_ref, xfS_i, xfS_s, fldxS_p, gixS_s, vrp_some, vlo_some, vrC_some, idx_s, idx_d, slc_s, b_muls, int_s, ord_s, divmod_i, sorted_x, dict_r, sm_join, sm_part, sm_sw, sm_strip, sm_lstrip, sm_zfill, sm_split, sm_digit, sm_alnum, isstr_s, seq_s, rsl_l]
          refine parse_ok (k := 17) neg a bo h47 hh hlen (fun hf => by rw [hno] at hf; cases hf) fun _ p S11 hs11 np hp => ?_
          simp -dsimp -implicitDefEqProofs only [↓cov3, ↓cov2, ↓cov1, ↓E_var, ↓E_int, ↓E_bl, ↓E_non, ↓E_str, ↓E_glo, ↓E_tup, ↓E_lst, ↓E_bin, ↓E_neg, ↓E_cmp, ↓E_chn, ↓E_and, ↓E_or, ↓E_one, ↓E_not, ↓E_ifx, ↓E_idx, ↓E_slc, ↓E_call, ↓E_bi, ↓E_isi, ↓E_mth, ↓E_lc, ↓E_fld, ↓E_mcl, ↓E_mk, ↓Es_nil, ↓Es_cons, ↓O_no, ↓O_some, ↓Q_no, ↓Q_c, ↓C_and, ↓C_or, ↓C_one, ↓C_not, ↓C_cmp, ↓C_chn, ↓C_v, ↓I_seq, ↓I_rng1, ↓I_rng2, ↓I_rng3, ↓I_enu, ↓I_zip, ↓I_rev, ↓S_set, ↓S_asg, ↓S_par2, ↓S_sub, ↓S_expr, ↓S_ret, ↓S_retN, ↓S_ifs, ↓S_for, ↓S_brk, ↓S_cnt, ↓S_pass, ↓S_raise, ↓S_try, ↓S_tryas, ↓E_isx, ↓E_isxs, kW_nx, kW_rt, kW_bk, kW_ct, kW_ex, gx_sub, gx_cs, gx_PY, ↓S_never, ↓S_setf, ex_t, ex_f, ↓S_nil, ↓S_cons, ↓kN_nx, ↓kN_rt, ↓kN_bk, ↓kN_ct, ↓kN_ex, ↓kL_nx, ↓kL_rt, ↓kL_bk, ↓kL_ct, ↓kL_ex, ↓kX_nx, ↓kX_rt, ↓kX_bk, ↓kX_ct, ↓kX_ex, ↓kend_nx, ↓kend_rt, ↓kend_bk, ↓kend_ct, ↓kend_ex, vr_some, gt_0, gt_s, stn_0, stn_s, wip_0, wip_s, wips_0, wips_s, neg_i, isi_s, o_i, tru_non, tru_bl, tru_int, tru_tup, tru_rol, c_Eq, c_NotEq, c_Lt, c_LtE, c_Gt, c_GtE, cs_Eq, cs_NotEq, cb_Eq, cb_NotEq, c2_Eq, c2_NotEq, is_non, isnot_non, is_bl, isnot_bl, is_int, isnot_int, is_str, isnot_str, is_tup, isnot_tup, is_rol, isnot_rol, is_ref, isnot_ref, is_b, isnot_b, in_s, notin_s, b_add, b_sub, b_mul, b_fdiv, b_mod, b_pow, b_addt, b_adds, atI0, atI1, atI2, atI3, slc_t, slc_r, len_s, abs_i, str_i, int_i, int_b, min_i, max_i, lcm_i, gcd_i, seq_t, seq_r, r1_i, r2_i, r3_i, a_nm, a_nil, a_cons, vrl_some, vrn_some, put_lget, Option.isSome_some, tru_ref, b_addl, idx_t, idx_r, idx_l, slc_l, len_t, len_r, len_l, tuple_t, tuple_r, tuple_l, list_t, list_r, list_l, app_l, rev_l, pop_l, popat_l, mT_l, seq_l, enu_l, enu_t, fld_i, mcl_i, setf_i, vri_some, vrk_some, mk_0, mk_1, b_mull, zip_l, rev_i, rev_t, in_t, notin_t, fl_s, fl_i, fl_b, fl_n, inL_nil, inL_ss, inL_ii, List.all_cons, List.all_nil, Bool.and_self, Bool.and_true, Bool.true_and, zip_t, zip_m, a_t, a_l, sub_l, isTs, isT, Option.map_some, List.length_cons, List.length_nil, List.lookup_nil, Nat.reduceAdd, Nat.reduceSub, Nat.reduceLT, Nat.zero_add, Bool.false_eq_true, Bool.true_eq_false, if_false, if_true, decide_eq_true_eq, Bool.not_true, Bool.not_false, ite_true, ite_false, reduceIte, Bool.not_eq_true', decide_eq_false_iff_not, Int.cast_ofNat_Int, Int.reduceEq, Int.reduceLT, Int.reduceLE, Int.reduceNeg, Int.reduceAdd, Int.reduceSub, Int.reduceMul, Int.reduceToNat, decide_true, decide_false, not_true, not_false, not_true_eq_false, not_false_eq_true, true_and, and_true, eq_self, reduceCtorEq, List.isEmpty_nil, List.isEmpty_cons, List.nil_append, List.cons_append, ↓E_smt, ↓E_fldx, ↓E_dct, ↓E_gix, ↓E_rsl,  ↓E_lck, ↓S_raisef, ↓S_trym, ↓S_aug, H_nil, H_cons0, H_cons1, gx_xf, gx_kd, okx_nil, okx_ref, xpl_ref, xfS_i, xfS_s, fldxS_p, gixS_s, vrp_some, vlo_some, vrC_some, idx_s, idx_d, slc_s, b_muls, int_s, ord_s, divmod_i, sorted_x, dict_r, sm_join, sm_part, sm_sw, sm_strip, sm_lstrip, sm_zfill, sm_split, sm_digit, sm_alnum, isstr_s, seq_s, rsl_l, xf_NoText, sub_NoText_NoText, okx_ref, xget_of hp, lk1]
          intro a' na'
          refine is_int_ok (k := 18) 0 ?_
          simp -dsimp -implicitDefEqProofs only [↓cov3, ↓cov2, ↓cov1, ↓E_var, ↓E_int, ↓E_bl, ↓E_non, ↓E_str, ↓E_glo, ↓E_tup, ↓E_lst, ↓E_bin, ↓E_neg, ↓E_cmp, ↓E_chn, ↓E_and, ↓E_or, ↓E_one, ↓E_not, ↓E_ifx, ↓E_idx, ↓E_slc, ↓E_call, ↓E_bi, ↓E_isi, ↓E_mth, ↓E_lc, ↓E_fld, ↓E_mcl, ↓E_mk, ↓Es_nil, ↓Es_cons, ↓O_no, ↓O_some, ↓Q_no, ↓Q_c, ↓C_and, ↓C_or, ↓C_one, ↓C_not, ↓C_cmp, ↓C_chn, ↓C_v, ↓I_seq, ↓I_rng1, ↓I_rng2, ↓I_rng3, ↓I_enu, ↓I_zip, ↓I_rev, ↓S_set, ↓S_asg, ↓S_par2, ↓S_sub, ↓S_expr, ↓S_ret, ↓S_retN, ↓S_ifs, ↓S_for, ↓S_brk, ↓S_cnt, ↓S_pass, ↓S_raise, ↓S_try, ↓S_tryas, ↓E_isx, ↓E_isxs, kW_nx, kW_rt, kW_bk, kW_ct, kW_ex, gx_sub, gx_cs, gx_PY, ↓S_never, ↓S_setf, ex_t, ex_f, ↓S_nil, ↓S_cons, ↓kN_nx, ↓kN_rt, ↓kN_bk, ↓kN_ct, ↓kN_ex, ↓kL_nx, ↓kL_rt, ↓kL_bk, ↓kL_ct, ↓kL_ex, ↓kX_nx, ↓kX_rt, ↓kX_bk, ↓kX_ct, ↓kX_ex, ↓kend_nx, ↓kend_rt, ↓kend_bk, ↓kend_ct, ↓kend_ex, vr_some, gt_0, gt_s, stn_0, stn_s, wip_0, wip_s, wips_0, wips_s, neg_i, isi_s, o_i, tru_non, tru_bl, tru_int, tru_tup, tru_rol, c_Eq, c_NotEq, c_Lt, c_LtE, c_Gt, c_GtE, cs_Eq, cs_NotEq, cb_Eq, cb_NotEq, c2_Eq, c2_NotEq, is_non, isnot_non, is_bl, isnot_bl, is_int, isnot_int, is_str, isnot_str, is_tup, isnot_tup, is_rol, isnot_rol, is_ref, isnot_ref, is_b, isnot_b, in_s, notin_s, b_add, b_sub, b_mul, b_fdiv, b_mod, b_pow, b_addt, b_adds, atI0, atI1, atI2, atI3, slc_t, slc_r, len_s, abs_i, str_i, int_i, int_b, min_i, max_i, lcm_i, gcd_i, seq_t, seq_r, r1_i, r2_i, r3_i, a_nm, a_nil, a_cons, vrl_some, vrn_some, put_lget, Option.isSome_some, tru_ref, b_addl, idx_t, idx_r, idx_l, slc_l, len_t, len_r, len_l, tuple_t, tuple_r, tuple_l, list_t, list_r, list_l, app_l, rev_l, pop_l, popat_l, mT_l, seq_l, enu_l, enu_t, fld_i, mcl_i, setf_i, vri_some, vrk_some, mk_0, mk_1, b_mull, zip_l, rev_i, rev_t, in_t, notin_t, fl_s, fl_i, fl_b, fl_n, inL_nil, inL_ss, inL_ii, List.all_cons, List.all_nil, Bool.and_self, Bool.and_true, Bool.true_and, zip_t, zip_m, a_t, a_l, sub_l, isTs, isT, Option.map_some, List.length_cons, List.length_nil, List.lookup_nil, Nat.reduceAdd, Nat.reduceSub, Nat.reduceLT, Nat.zero_add, Bool.false_eq_true, Bool.true_eq_false, if_false, if_true, decide_eq_true_eq, Bool.not_true, Bool.not_false, ite_true, ite_false, reduceIte, Bool.not_eq_true', decide_eq_false_iff_not, Int.cast_ofNat_Int, Int.reduceEq, Int.reduceLT, Int.reduceLE, Int.reduceNeg, Int.reduceAdd, Int.reduceSub, Int.reduceMul, Int.reduceToNat, decide_true, decide_false, not_true, not_false, not_true_eq_false, not_false_eq_true, true_and, and_true, eq_self, reduceCtorEq, List.isEmpty_nil, List.isEmpty_cons, List.nil_append, List.cons_append, ↓E_smt, ↓E_fldx, ↓E_dct, ↓E_gix, ↓E_rsl,  ↓E_lck, ↓S_raisef, ↓S_trym, ↓S_aug, H_nil, H_cons0, H_cons1, gx_xf, gx_kd, okx_nil, okx_ref, xpl_ref, xfS_i, xfS_s, fldxS_p, gixS_s, vrp_some, vlo_some, vrC_some, idx_s, idx_d, slc_s, b_muls, int_s, ord_s, divmod_i, sorted_x, dict_r, sm_join, sm_part, sm_sw, sm_strip, sm_lstrip, sm_zfill, sm_split, sm_digit, sm_alnum, isstr_s, seq_s, rsl_l]
        · intro N hN
          simp -dsimp -implicitDefEqProofs only [↓cov3, ↓cov2, ↓cov1, ↓E_var, ↓E_int, ↓E_bl, ↓E_non, ↓E_str, ↓E_glo, ↓E_tup, ↓E_lst, ↓E_bin, ↓E_neg, ↓E_cmp, ↓E_chn, ↓E_and, ↓E_or, ↓E_one, ↓E_not, ↓E_ifx, ↓E_idx, ↓E_slc, ↓E_call, ↓E_bi, ↓E_isi, ↓E_mth, ↓E_lc, ↓E_fld, ↓E_mcl, ↓E_mk, ↓Es_nil, ↓Es_cons, ↓O_no, ↓O_some, ↓Q_no, ↓Q_c, ↓C_and, ↓C_or, ↓C_one, ↓C_not, ↓C_cmp, ↓C_chn, ↓C_v, ↓I_seq, ↓I_rng1, ↓I_rng2, ↓I_rng3, ↓I_enu, ↓I_zip, ↓I_rev, ↓S_set, ↓S_asg, ↓S_par2, ↓S_sub, ↓S_expr, ↓S_ret, ↓S_retN, ↓S_ifs, ↓S_for, ↓S_brk, ↓S_cnt, ↓S_pass, ↓S_raise, ↓S_try, ↓S_tryas, ↓E_isx, ↓E_isxs, kW_nx, kW_rt, kW_bk, kW_ct, kW_ex, gx_sub, gx_cs, gx_PY, ↓S_never, ↓S_setf, ex_t, ex_f, ↓S_nil, ↓S_cons, ↓kN_nx, ↓kN_rt, ↓kN_bk, ↓kN_ct, ↓kN_ex, ↓kL_nx, ↓kL_rt, ↓kL_bk, ↓kL_ct, ↓kL_ex, ↓kX_nx, ↓kX_rt, ↓kX_bk, ↓kX_ct, ↓kX_ex, ↓kend_nx, ↓kend_rt, ↓kend_bk, ↓kend_ct, ↓kend_ex, vr_some, gt_0, gt_s, stn_0, stn_s, wip_0, wip_s, wips_0, wips_s, neg_i, isi_s, o_i, tru_non, tru_bl, tru_int, tru_tup, tru_rol, c_Eq, c_NotEq, c_Lt, c_LtE, c_Gt, c_GtE, cs_Eq, cs_NotEq, cb_Eq, cb_NotEq, c2_Eq, c2_NotEq, is_non, isnot_non, is_bl, isnot_bl, is_int, isnot_int, is_str, isnot_str, is_tup, isnot_tup, is_rol, isnot_rol, is_ref, isnot_ref, is_b, isnot_b, in_s, notin_s, b_add, b_sub, b_mul, b_fdiv, b_mod, b_pow, b_addt, b_adds, atI0, atI1, atI2, atI3, slc_t, slc_r, len_s, abs_i, str_i, int_i, int_b, min_i, max_i, lcm_i, gcd_i, seq_t, seq_r, r1_i, r2_i, r3_i, a_nm, a_nil, a_cons, vrl_some, vrn_some, put_lget, Option.isSome_some, tru_ref, b_addl, idx_t, idx_r, idx_l, slc_l, len_t, len_r, len_l, tuple_t, tuple_r, tuple_l, list_t, list_r, list_l, app_l, rev_l, pop_l, popat_l, mT_l, seq_l, enu_l, enu_t, fld_i, mcl_i, setf_i, vri_some, vrk_some, mk_0, mk_1, b_mull, zip_l, rev_i, rev_t, in_t, notin_t, fl_s, fl_i, fl_b, fl_n, inL_nil, inL_ss, inL_ii, List.all_cons, List.all_nil, Bool.and_self, Bool.and_true, Bool.true_and, zip_t, zip_m, a_t, a_l, sub_l, isTs, isT, Option.map_some, List.length_cons, List.length_nil, List.lookup_nil, Nat.reduceAdd, Nat.reduceSub, Nat.reduceLT, Nat.zero_add, Bool.false_eq_true, Bool.true_eq_false, if_false, if_true, decide_eq_true_eq, Bool.not_true, Bool.not_false, ite_true, ite_false, reduceIte, Bool.not_eq_true', decide_eq_false_iff_not, Int.cast_ofNat_Int, Int.reduceEq, Int.reduceLT, Int.reduceLE, Int.reduceNeg, Int.reduceAdd, Int.reduceSub, Int.reduceMul, Int.reduceToNat, decide_true, decide_false, not_true, not_false, not_true_eq_false, not_false_eq_true, true_and, and_true, eq_self, reduceCtorEq, List.isEmpty_nil, List.isEmpty_cons, List.nil_append, List.cons_append, ↓E_smt, ↓E_fldx, ↓E_dct, ↓E_gix, ↓E_rsl,  ↓E_lck, ↓S_raisef, ↓S_trym, ↓S_aug, H_nil, H_cons0, H_cons1, gx_xf, gx_kd, okx_nil, okx_ref, xpl_ref, xfS_i, xfS_s, fldxS_p, gixS_s, vrp_some, vlo_some, vrC_some, idx_s, idx_d, slc_s, b_muls, int_s, ord_s, divmod_i, sorted_x, dict_r, sm_join, sm_part, sm_sw, sm_strip, sm_lstrip, sm_zfill, sm_split, sm_digit, sm_alnum, isstr_s, seq_s, rsl_l, idxQ0, idxQ1]
          refine ite2 (fun hne => ?_) fun heq => ?_
          · simp -dsimp -implicitDefEqProofs only [↓cov3, ↓cov2, ↓cov1, ↓E_var, ↓E_int, ↓E_bl, ↓E_non, ↓E_str, ↓E_glo, ↓E_tup, ↓E_lst, ↓E_bin, ↓E_neg, ↓E_cmp, ↓E_chn, ↓E_and, ↓E_or, ↓E_one, ↓E_not, ↓E_ifx, ↓E_idx, ↓E_slc, ↓E_call, ↓E_bi, ↓E_isi, ↓E_mth, ↓E_lc, ↓E_fld, ↓E_mcl, ↓E_mk, ↓Es_nil, ↓Es_cons, ↓O_no, ↓O_some, ↓Q_no, ↓Q_c, ↓C_and, ↓C_or, ↓C_one, ↓C_not, ↓C_cmp, ↓C_chn, ↓C_v, ↓I_seq, ↓I_rng1, ↓I_rng2, ↓I_rng3, ↓I_enu, ↓I_zip, ↓I_rev, ↓S_set, ↓S_asg, ↓S_par2, ↓S_sub, ↓S_expr, ↓S_ret, ↓S_retN, ↓S_ifs, ↓S_for, ↓S_brk, ↓S_cnt, ↓S_pass, ↓S_raise, ↓S_try, ↓S_tryas, ↓E_isx, ↓E_isxs, kW_nx, kW_rt, kW_bk, kW_ct, kW_ex, gx_sub, gx_cs, gx_PY, ↓S_never, ↓S_setf, ex_t, ex_f, ↓S_nil, ↓S_cons, ↓kN_nx, ↓kN_rt, ↓kN_bk, ↓kN_ct, ↓kN_ex, ↓kL_nx, ↓kL_rt, ↓kL_bk, ↓kL_ct, ↓kL_ex, ↓kX_nx, ↓kX_rt, ↓kX_bk, ↓kX_ct, ↓kX_ex, ↓kend_nx, ↓kend_rt, ↓kend_bk, ↓kend_ct, ↓kend_ex, vr_some, gt_0, gt_s, stn_0, stn_s, wip_0, wip_s, wips_0, wips_s, neg_i, isi_s, o_i, tru_non, tru_bl, tru_int, tru_tup, tru_rol, c_Eq, c_NotEq, c_Lt, c_LtE, c_Gt, c_GtE, cs_Eq, cs_NotEq, cb_Eq, cb_NotEq, c2_Eq, c2_NotEq, is_non, isnot_non, is_bl, isnot_bl, is_int, isnot_int, is_str, isnot_str, is_tup, isnot_tup, is_rol, isnot_rol, is_ref, isnot_ref, is_b, isnot_b, in_s, notin_s, b_add, b_sub, b_mul, b_fdiv, b_mod, b_pow, b_addt, b_adds, atI0, atI1, atI2, atI3, slc_t, slc_r, len_s, abs_i, str_i, int_i, int_b, min_i, max_i, lcm_i, gcd_i, seq_t, seq_r, r1_i, r2_i, r3_i, a_nm, a_nil, a_cons, vrl_some, vrn_some, put_lget, Option.isSome_some, tru_ref, b_addl, idx_t, idx_r, idx_l, slc_l, len_t, len_r, len_l, tuple_t, tuple_r, tuple_l, list_t, list_r, list_l, app_l, rev_l, pop_l, popat_l, mT_l, seq_l, enu_l, enu_t, fld_i, mcl_i, setf_i, vri_some, vrk_some, mk_0, mk_1, b_mull, zip_l, rev_i, rev_t, in_t, notin_t, fl_s, fl_i, fl_b, fl_n, inL_nil, inL_ss, inL_ii, List.all_cons, List.all_nil, Bool.and_self, Bool.and_true, Bool.true_and, zip_t, zip_m, a_t, a_l, sub_l, isTs, isT, Option.map_some, List.length_cons, List.length_nil, List.lookup_nil, Nat.reduceAdd, Nat.reduceSub, Nat.reduceLT, Nat.zero_add, Bool.false_eq_true, Bool.true_eq_false, if_false, if_true, decide_eq_true_eq, Bool.not_true, Bool.not_false, ite_true, ite_false, reduceIte, Bool.not_eq_true', decide_eq_false_iff_not, Int.cast_ofNat_Int, Int.reduceEq, Int.reduceLT, Int.reduceLE, Int.reduceNeg, Int.reduceAdd, Int.reduceSub, Int.reduceMul, Int.reduceToNat, decide_true, decide_false, not_true, not_false, not_true_eq_false, not_false_eq_true, true_and, and_true, eq_self, reduceCtorEq, List.isEmpty_nil, List.isEmpty_cons, List.nil_append, List.cons_append, ↓E_smt, ↓E_fldx, ↓E_dct, ↓E_gix, ↓E_rsl,  ↓E_lck, ↓S_raisef, ↓S_trym, ↓S_aug, H_nil, H_cons0, H_cons1, gx_xf, gx_kd, okx_nil, okx_ref, xpl_ref, xfS_i, xfS_s, fldxS_p, gixS_s, vrp_some, vlo_some, vrC_some, idx_s, idx_d, slc_s, b_muls, int_s, ord_s, divmod_i, sorted_x, dict_r, sm_join, sm_part, sm_sw, sm_strip, sm_lstrip, sm_zfill, sm_split, sm_digit, sm_alnum, isstr_s, seq_s, rsl_l, l_s, app_tx, len_tx]
            refine ⟨szt (by show _ + 1 ≤ _; omega), ?_⟩
            refine text_ok (k := 18) (q.den : Int) (lt500 (by rw [Int.natAbs_natCast]; exact hq2)) fun S4 hs4 => ?_
            simp -dsimp -implicitDefEqProofs only [↓cov3, ↓cov2, ↓cov1, ↓E_var, ↓E_int, ↓E_bl, ↓E_non, ↓E_str, ↓E_glo, ↓E_tup, ↓E_lst, ↓E_bin, ↓E_neg, ↓E_cmp, ↓E_chn, ↓E_and, ↓E_or, ↓E_one, ↓E_not, ↓E_ifx, ↓E_idx, ↓E_slc, ↓E_call, ↓E_bi, ↓E_isi, ↓E_mth, ↓E_lc, ↓E_fld, ↓E_mcl, ↓E_mk, ↓Es_nil, ↓Es_cons, ↓O_no, ↓O_some, ↓Q_no, ↓Q_c, ↓C_and, ↓C_or, ↓C_one, ↓C_not, ↓C_cmp, ↓C_chn, ↓C_v, ↓I_seq, ↓I_rng1, ↓I_rng2, ↓I_rng3, ↓I_enu, ↓I_zip, ↓I_rev, ↓S_set, ↓S_asg, ↓S_par2, ↓S_sub, ↓S_expr, ↓S_ret, ↓S_retN, ↓S_ifs, ↓S_for, ↓S_brk, ↓S_cnt, ↓S_pass, ↓S_raise, ↓S_try, ↓S_tryas, ↓E_isx, ↓E_isxs, kW_nx, kW_rt, kW_bk, kW_ct, kW_ex, gx_sub, gx_cs, gx_PY, ↓S_never, ↓S_setf, ex_t, ex_f, ↓S_nil, ↓S_cons, ↓kN_nx, ↓kN_rt, ↓kN_bk, ↓kN_ct, ↓kN_ex, ↓kL_nx, ↓kL_rt, ↓kL_bk, ↓kL_ct, ↓kL_ex, ↓kX_nx, ↓kX_rt, ↓kX_bk, ↓kX_ct, ↓kX_ex, ↓kend_nx, ↓kend_rt, ↓kend_bk, ↓kend_ct, ↓kend_ex, vr_some, gt_0, gt_s, stn_0, stn_s, wip_0, wip_s, wips_0, wips_s, neg_i, isi_s, o_i, tru_non, tru_bl, tru_int, tru_tup, tru_rol, c_Eq, c_NotEq, c_Lt, c_LtE, c_Gt, c_GtE, cs_Eq, cs_NotEq, cb_Eq, cb_NotEq, c2_Eq, c2_NotEq, is_non, isnot_non, is_bl, isnot_bl, is_int, isnot_int, is_str, isnot_str, is_tup, isnot_tup, is_rol, isnot_rol, is_ref, isnot_ref, is_b, isnot_b, in_s, notin_s, b_add, b_sub, b_mul, b_fdiv, b_mod, b_pow, b_addt, b_adds, atI0, atI1, atI2, atI3, slc_t, slc_r, len_s, abs_i, str_i, int_i, int_b, min_i, max_i, lcm_i, gcd_i, seq_t, seq_r, r1_i, r2_i, r3_i, a_nm, a_nil, a_cons, vrl_some, vrn_some, put_lget, Option.isSome_some, tru_ref, b_addl, idx_t, idx_r, idx_l, slc_l, len_t, len_r, len_l, tuple_t, tuple_r, tuple_l, list_t, list_r, list_l, app_l, rev_l, pop_l, popat_l, mT_l, seq_l, enu_l, enu_t, fld_i, mcl_i, setf_i, vri_some, vrk_some, mk_0, mk_1, b_mull, zip_l, rev_i, rev_t, in_t, notin_t, fl_s, fl_i, fl_b, fl_n, inL_nil, inL_ss, inL_ii, List.all_cons, List.all_nil, Bool.and_self, Bool.and_true, Bool.true_and, zip_t, zip_m, a_t, a_l, sub_l, isTs, isT, Option.map_some, List.length_cons, List.length_nil, List.lookup_nil, Nat.reduceAdd, Nat.reduceSub, Nat.reduceLT, Nat.zero_add, Bool.false_eq_true, Bool.true_eq_false, if_false, if_true, decide_eq_true_eq, Bool.not_true, Bool.not_false, ite_true, ite_false, reduceIte, Bool.not_eq_true', decide_eq_false_iff_not, Int.cast_ofNat_Int, Int.reduceEq, Int.reduceLT, Int.reduceLE, Int.reduceNeg, Int.reduceAdd, Int.reduceSub, Int.reduceMul, Int.reduceToNat, decide_true, decide_false, not_true, not_false, not_true_eq_false, not_false_eq_true, true_and, and_true, eq_self, reduceCtorEq, List.isEmpty_nil, List.isEmpty_cons, List.nil_append, List.cons_append, ↓E_smt, ↓E_fldx, ↓E_dct, ↓E_gix, ↓E_rsl,  ↓E_lck, ↓S_raisef, ↓S_trym, ↓S_aug, H_nil, H_cons0, H_cons1, gx_xf, gx_kd, okx_nil, okx_ref, xpl_ref, xfS_i, xfS_s, fldxS_p, gixS_s, vrp_some, vlo_some, vrC_some, idx_s, idx_d, slc_s, b_muls, int_s, ord_s, divmod_i, sorted_x, dict_r, sm_join, sm_part, sm_sw, sm_strip, sm_lstrip, sm_zfill, sm_split, sm_digit, sm_alnum, isstr_s, seq_s, rsl_l, l_s, app_tx, len_tx, fi_nat]
            refine ⟨szt (by rw [List.length_append]; show _ + 1 + _ ≤ _; omega), hN _ _ ⟨hs4, ?_⟩⟩
            unfold wq
            rw [wf_more _ (by omega), List.append_assoc]
            rfl
          · refine hN _ _ ⟨Sub.refl _, ?_⟩
            unfold wq
            rw [show q.den = 1 by omega, wf_one]
      · intro N hN
        simp -dsimp -implicitDefEqProofs only [↓cov3, ↓cov2, ↓cov1, ↓E_var, ↓E_int, ↓E_bl, ↓E_non, ↓E_str, ↓E_glo, ↓E_tup, ↓E_lst, ↓E_bin, ↓E_neg, ↓E_cmp, ↓E_chn, ↓E_and, ↓E_or, ↓E_one, ↓E_not, ↓E_ifx, ↓E_idx, ↓E_slc, ↓E_call, ↓E_bi, ↓E_isi, ↓E_mth, ↓E_lc, ↓E_fld, ↓E_mcl, ↓E_mk, ↓Es_nil, ↓Es_cons, ↓O_no, ↓O_some, ↓Q_no, ↓Q_c, ↓C_and, ↓C_or, ↓C_one, ↓C_not, ↓C_cmp, ↓C_chn, ↓C_v, ↓I_seq, ↓I_rng1, ↓I_rng2, ↓I_rng3, ↓I_enu, ↓I_zip, ↓I_rev, ↓S_set, ↓S_asg, ↓S_par2, ↓S_sub, ↓S_expr, ↓S_ret, ↓S_retN, ↓S_ifs, ↓S_for, ↓S_brk, ↓S_cnt, ↓S_pass, ↓S_raise, ↓S_try, ↓S_tryas, ↓E_isx, ↓E_isxs, kW_nx, kW_rt, kW_bk, kW_ct, kW_ex, gx_sub, gx_cs, gx_PY, ↓S_never, ↓S_setf, ex_t, ex_f, ↓S_nil, ↓S_cons, ↓kN_nx, ↓kN_rt, ↓kN_bk, ↓kN_ct, ↓kN_ex, ↓kL_nx, ↓kL_rt, ↓kL_bk, ↓kL_ct, ↓kL_ex, ↓kX_nx, ↓kX_rt, ↓kX_bk, ↓kX_ct, ↓kX_ex, ↓kend_nx, ↓kend_rt, ↓kend_bk, ↓kend_ct, ↓kend_ex, vr_some, gt_0, gt_s, stn_0, stn_s, wip_0, wip_s, wips_0, wips_s, neg_i, isi_s, o_i, tru_non, tru_bl, tru_int, tru_tup, tru_rol, c_Eq, c_NotEq, c_Lt, c_LtE, c_Gt, c_GtE, cs_Eq, cs_NotEq, cb_Eq, cb_NotEq, c2_Eq, c2_NotEq, is_non, isnot_non, is_bl, isnot_bl, is_int, isnot_int, is_str, isnot_str, is_tup, isnot_tup, is_rol, isnot_rol, is_ref, isnot_ref, is_b, isnot_b, in_s, notin_s, b_add, b_sub, b_mul, b_fdiv, b_mod, b_pow, b_addt, b_adds, atI0, atI1, atI2, atI3, slc_t, slc_r, len_s, abs_i, str_i, int_i, int_b, min_i, max_i, lcm_i, gcd_i, seq_t, seq_r, r1_i, r2_i, r3_i, a_nm, a_nil, a_cons, vrl_some, vrn_some, put_lget, Option.isSome_some, tru_ref, b_addl, idx_t, idx_r, idx_l, slc_l, len_t, len_r, len_l, tuple_t, tuple_r, tuple_l, list_t, list_r, list_l, app_l, rev_l, pop_l, popat_l, mT_l, seq_l, enu_l, enu_t, fld_i, mcl_i, setf_i, vri_some, vrk_some, mk_0, mk_1, b_mull, zip_l, rev_i, rev_t, in_t, notin_t, fl_s, fl_i, fl_b, fl_n, inL_nil, inL_ss, inL_ii, List.all_cons, List.all_nil, Bool.and_self, Bool.and_true, Bool.true_and, zip_t, zip_m, a_t, a_l, sub_l, isTs, isT, Option.map_some, List.length_cons, List.length_nil, List.lookup_nil, Nat.reduceAdd, Nat.reduceSub, Nat.reduceLT, Nat.zero_add, Bool.false_eq_true, Bool.true_eq_false, if_false, if_true, decide_eq_true_eq, Bool.not_true, Bool.not_false, ite_true, ite_false, reduceIte, Bool.not_eq_true', decide_eq_false_iff_not, Int.cast_ofNat_Int, Int.reduceEq, Int.reduceLT, Int.reduceLE, Int.reduceNeg, Int.reduceAdd, Int.reduceSub, Int.reduceMul, Int.reduceToNat, decide_true, decide_false, not_true, not_false, not_true_eq_false, not_false_eq_true, true_and, and_true, eq_self, reduceCtorEq, List.isEmpty_nil, List.isEmpty_cons, List.nil_append, List.cons_append, ↓E_smt, ↓E_fldx, ↓E_dct, ↓E_gix, ↓E_rsl,  ↓E_lck, ↓S_raisef, ↓S_trym, ↓S_aug, H_nil, H_cons0, H_cons1, gx_xf, gx_kd, okx_nil, okx_ref, xpl_ref, xfS_i, xfS_s, fldxS_p, gixS_s, vrp_some, vlo_some, vrC_some, idx_s, idx_d, slc_s, b_muls, int_s, ord_s, divmod_i, sorted_x, dict_r, sm_join, sm_part, sm_sw, sm_strip, sm_lstrip, sm_zfill, sm_split, sm_digit, sm_alnum, isstr_s, seq_s, rsl_l, lget_of hr1, e0, e1]
        refine ⟨by decide, ite2 (fun _ => ?_) fun _ => ?_⟩
        · exact hN _ _ ⟨rfl, 1, by decide, by decide +kernel, rfl⟩
        · exact hN _ _ ⟨rfl, d, hd1, hd2, rfl⟩
    · intro N hN
      simp -dsimp -implicitDefEqProofs only [↓cov3, ↓cov2, ↓cov1, ↓E_var, ↓E_int, ↓E_bl, ↓E_non, ↓E_str, ↓E_glo, ↓E_tup, ↓E_lst, ↓E_bin, ↓E_neg, ↓E_cmp, ↓E_chn, ↓E_and, ↓E_or, ↓E_one, ↓E_not, ↓E_ifx, ↓E_idx, ↓E_slc, ↓E_call, ↓E_bi, ↓E_isi, ↓E_mth, ↓E_lc, ↓E_fld, ↓E_mcl, ↓E_mk, ↓Es_nil, ↓Es_cons, ↓O_no, ↓O_some, ↓Q_no, ↓Q_c, ↓C_and, ↓C_or, ↓C_one, ↓C_not, ↓C_cmp, ↓C_chn, ↓C_v, ↓I_seq, ↓I_rng1, ↓I_rng2, ↓I_rng3, ↓I_enu, ↓I_zip, ↓I_rev, ↓S_set, ↓S_asg, ↓S_par2, ↓S_sub, ↓S_expr, ↓S_ret, ↓S_retN, ↓S_ifs, ↓S_for, ↓S_brk, ↓S_cnt, ↓S_pass, ↓S_raise, ↓S_try, ↓S_tryas, ↓E_isx, ↓E_isxs, kW_nx, kW_rt, kW_bk, kW_ct, kW_ex, gx_sub, gx_cs, gx_PY, ↓S_never, ↓S_setf, ex_t, ex_f, ↓S_nil, ↓S_cons, ↓kN_nx, ↓kN_rt, ↓kN_bk, ↓kN_ct, ↓kN_ex, ↓kL_nx, ↓kL_rt, ↓kL_bk, ↓kL_ct, ↓kL_ex, ↓kX_nx, ↓kX_rt, ↓kX_bk, ↓kX_ct, ↓kX_ex, ↓kend_nx, ↓kend_rt, ↓kend_bk, ↓kend_ct, ↓kend_ex, vr_some, gt_0, gt_s, stn_0, stn_s, wip_0, wip_s, wips_0, wips_s, neg_i, isi_s, o_i, tru_non, tru_bl, tru_int, tru_tup, tru_rol, c_Eq, c_NotEq, c_Lt, c_LtE, c_Gt, c_GtE, cs_Eq, cs_NotEq, cb_Eq, cb_NotEq, c2_Eq, c2_NotEq, is_non, isnot_non, is_bl, isnot_bl, is_int, isnot_int, is_str, isnot_str, is_tup, isnot_tup, is_rol, isnot_rol, is_ref, isnot_ref, is_b, isnot_b, in_s, notin_s, b_add, b_sub, b_mul, b_fdiv, b_mod, b_pow, b_addt, b_adds, atI0, atI1, atI2, atI3, slc_t, slc_r, len_s, abs_i, str_i, int_i, int_b, min_i, max_i, lcm_i, gcd_i, seq_t, seq_r, r1_i, r2_i, r3_i, a_nm, a_nil, a_cons, vrl_some, vrn_some, put_lget, Option.isSome_some, tru_ref, b_addl, idx_t, idx_r, idx_l, slc_l, len_t, len_r, len_l, tuple_t, tuple_r, tuple_l, list_t, list_r, list_l, app_l, rev_l, pop_l, popat_l, mT_l, seq_l, enu_l, enu_t, fld_i, mcl_i, setf_i, vri_some, vrk_some, mk_0, mk_1, b_mull, zip_l, rev_i, rev_t, in_t, notin_t, fl_s, fl_i, fl_b, fl_n, inL_nil, inL_ss, inL_ii, List.all_cons, List.all_nil, Bool.and_self, Bool.and_true, Bool.true_and, zip_t, zip_m, a_t, a_l, sub_l, isTs, isT, Option.map_some, List.length_cons, List.length_nil, List.lookup_nil, Nat.reduceAdd, Nat.reduceSub, Nat.reduceLT, Nat.zero_add, Bool.false_eq_true, Bool.true_eq_false, if_false, if_true, decide_eq_true_eq, Bool.not_true, Bool.not_false, ite_true, ite_false, reduceIte, Bool.not_eq_true', decide_eq_false_iff_not, Int.cast_ofNat_Int, Int.reduceEq, Int.reduceLT, Int.reduceLE, Int.reduceNeg, Int.reduceAdd, Int.reduceSub, Int.reduceMul, Int.reduceToNat, decide_true, decide_false, not_true, not_false, not_true_eq_false, not_false_eq_true, true_and, and_true, eq_self, reduceCtorEq, List.isEmpty_nil, List.isEmpty_cons, List.nil_append, List.cons_append, ↓E_smt, ↓E_fldx, ↓E_dct, ↓E_gix, ↓E_rsl,  ↓E_lck, ↓S_raisef, ↓S_trym, ↓S_aug, H_nil, H_cons0, H_cons1, gx_xf, gx_kd, okx_nil, okx_ref, xpl_ref, xfS_i, xfS_s, fldxS_p, gixS_s, vrp_some, vlo_some, vrC_some, idx_s, idx_d, slc_s, b_muls, int_s, ord_s, divmod_i, sorted_x, dict_r, sm_join, sm_part, sm_sw, sm_strip, sm_lstrip, sm_zfill, sm_split, sm_digit, sm_alnum, isstr_s, seq_s, rsl_l, lget_of hr1, e0, e1]
      refine ⟨by decide, ite2 (fun _ => ?_) fun _ => ?_⟩
      · exact hN _ _ ⟨rfl, -z, by rw [Int.natAbs_neg]; exact hz, rfl⟩
      · exact hN _ _ ⟨rfl, z, hz, rfl⟩
  · intro N hN
    simp -dsimp -implicitDefEqProofs only [↓cov3, ↓cov2, ↓cov1, ↓E_var, ↓E_int, ↓E_bl, ↓E_non, ↓E_str, ↓E_glo, ↓E_tup, ↓E_lst, ↓E_bin, ↓E_neg, ↓E_cmp, ↓E_chn, ↓E_and, ↓E_or, ↓E_one, ↓E_not, ↓E_ifx, ↓E_idx, ↓E_slc, ↓E_call, ↓E_bi, ↓E_isi, ↓E_mth, ↓E_lc, ↓E_fld, ↓E_mcl, ↓E_mk, ↓Es_nil, ↓Es_cons, ↓O_no, ↓O_some, ↓Q_no, ↓Q_c, ↓C_and, ↓C_or, ↓C_one, ↓C_not, ↓C_cmp, ↓C_chn, ↓C_v, ↓I_seq, ↓I_rng1, ↓I_rng2, ↓I_rng3, ↓I_enu, ↓I_zip, ↓I_rev, ↓S_set, ↓S_asg, ↓S_par2, ↓S_sub, ↓S_expr, ↓S_ret, ↓S_retN, ↓S_ifs, ↓S_for, ↓S_brk, ↓S_cnt, ↓S_pass, ↓S_raise, ↓S_try, ↓S_tryas, ↓E_isx, ↓E_isxs, kW_nx, kW_rt, kW_bk, kW_ct, kW_ex, gx_sub, gx_cs, gx_PY, ↓S_never, ↓S_setf, ex_t, ex_f, ↓S_nil, ↓S_cons, ↓kN_nx, ↓kN_rt, ↓kN_bk, ↓kN_ct, ↓kN_ex, ↓kL_nx, ↓kL_rt, ↓kL_bk, ↓kL_ct, ↓kL_ex, ↓kX_nx, ↓kX_rt, ↓kX_bk, ↓kX_ct, ↓kX_ex, ↓kend_nx, ↓kend_rt, ↓kend_bk, ↓kend_ct, ↓kend_ex, vr_some, gt_0, gt_s, stn_0, stn_s, wip_0, wip_s, wips_0, wips_s, neg_i, isi_s, o_i, tru_non, tru_bl, tru_int, tru_tup, tru_rol, c_Eq, c_NotEq, c_Lt, c_LtE, c_Gt, c_GtE, cs_Eq, cs_NotEq, cb_Eq, cb_NotEq, c2_Eq, c2_NotEq, is_non, isnot_non, is_bl, isnot_bl, is_int, isnot_int, is_str, isnot_str, is_tup, isnot_tup, is_rol, isnot_rol, is_ref, isnot_ref, is_b, isnot_b, in_s, notin_s, b_add, b_sub, b_mul, b_fdiv, b_mod, b_pow, b_addt, b_adds, atI0, atI1, atI2, atI3, slc_t, slc_r, len_s, abs_i, str_i, int_i, int_b, min_i, max_i, lcm_i, gcd_i, seq_t, seq_r, r1_i, r2_i, r3_i, a_nm, a_nil, a_cons, vrl_some, vrn_some, put_lget, Option.isSome_some, tru_ref, b_addl, idx_t, idx_r, idx_l, slc_l, len_t, len_r, len_l, tuple_t, tuple_r, tuple_l, list_t, list_r, list_l, app_l, rev_l, pop_l, popat_l, mT_l, seq_l, enu_l, enu_t, fld_i, mcl_i, setf_i, vri_some, vrk_some, mk_0, mk_1, b_mull, zip_l, rev_i, rev_t, in_t, notin_t, fl_s, fl_i, fl_b, fl_n, inL_nil, inL_ss, inL_ii, List.all_cons, List.all_nil, Bool.and_self, Bool.and_true, Bool.true_and, zip_t, zip_m, a_t, a_l, sub_l, isTs, isT, Option.map_some, List.length_cons, List.length_nil, List.lookup_nil, Nat.reduceAdd, Nat.reduceSub, Nat.reduceLT, Nat.zero_add, Bool.false_eq_true, Bool.true_eq_false, if_false, if_true, decide_eq_true_eq, Bool.not_true, Bool.not_false, ite_true, ite_false, reduceIte, Bool.not_eq_true', decide_eq_false_iff_not, Int.cast_ofNat_Int, Int.reduceEq, Int.reduceLT, Int.reduceLE, Int.reduceNeg, Int.reduceAdd, Int.reduceSub, Int.reduceMul, Int.reduceToNat, decide_true, decide_false, not_true, not_false, not_true_eq_false, not_false_eq_true, true_and, and_true, eq_self, reduceCtorEq, List.isEmpty_nil, List.isEmpty_cons, List.nil_append, List.cons_append, ↓E_smt, ↓E_fldx, ↓E_dct, ↓E_gix, ↓E_rsl,  ↓E_lck, ↓S_raisef, ↓S_trym, ↓S_aug, H_nil, H_cons0, H_cons1, gx_xf, gx_kd, okx_nil, okx_ref, xpl_ref, xfS_i, xfS_s, fldxS_p, gixS_s, vrp_some, vlo_some, vrC_some, idx_s, idx_d, slc_s, b_muls, int_s, ord_s, divmod_i, sorted_x, dict_r, sm_join, sm_part, sm_sw, sm_strip, sm_lstrip, sm_zfill, sm_split, sm_digit, sm_alnum, isstr_s, seq_s, rsl_l, lget_of hr1, e0, e1]
    refine ⟨by decide, ite2 (fun _ => ?_) fun _ => ?_⟩
    · exact hN _ _ ⟨rfl, 0, by decide +kernel, rfl⟩
    · exact hN _ _ ⟨rfl, n, by rw [Int.natAbs_natCast]; exact hn2, rfl⟩

end Lw
open PySem PySem.W PyProof.Rows
set_option maxHeartbeats 0 in
theorem PySem.Challenge.cw_integraph_k02_written_form_holds : PySem.Challenge.rw_integraph_k02_written_form.Holds := by
  w_on; o_law; k_head; (case hw => w_witness2)
  k_fill
  refine Ev.law_by (l := PySem.Challenge.rw_integraph_k02_written_form) (k := 20) (M := Lw.M) (G := Lw.G) (T := Lw.T) rfl rfl rfl ⟨rfl, by decide, by decide⟩ (by decide +kernel) (by decide +kernel) (fun w h Y => PySem.W.kIn_of Y) Lw.t_law rfl ?B Lw.main
  case B =>
    intro w mg h KX Gn base hse
    refine' Lw.mok_mk KX Gn hse rfl ?a0 ?l0 ?c0 ?k0 ?a1 ?l1 ?c1 ?k1 ?a2 ?l2 ?c2 ?k2 ?a3 ?l3 ?c3 ?k3 ?a4 ?l4 ?c4 ?k4 ?a5 ?l5 ?c5 ?k5 ?a6 ?l6 ?c6 ?k6 ?a7 ?l7 ?c7 ?k7 ?a8 ?l8 ?c8 ?k8 ?a9 ?l9 ?c9 ?k9 ?a10 ?l10 ?c10 ?k10 ?a11 ?l11 ?c11 ?k11 ?a12 ?l12 ?c12 ?k12 ?a13 ?l13 ?c13 ?k13 ?a14 ?l14 ?c14 ?k14 ?a15 ?l15 ?c15 ?k15 ?z0 ?z1 ?z2 ?z3 ?z4 ?z5 ?z6 ?z7 ?z8 ?zg ?ya0 ?yr0 ?ya1 ?yr1 ?ea0 ?ek0 ?eb0 ?et0 ?ed0 ?es0_0 ?xn ?xt ?xg0 ?xk0 ?xa0 ?xm0 ?Xa0 ?Xb0 ?Xc0 ?Xd0 ?Xe0 ?Xf0 ?Xg0 ?Xh0 ?Xi0 ?Xj0 ?Xk0 ?Xl0 ?Xm0 ?Xn0 ?Xo0 ?Xw0 ?Xx0 ?Xz0 ?Xy0
    (case a0 => k_is); (case l0 => k_is); (case c0 => k_is); (case k0 => k_is); (case a1 => k_is); (case l1 => k_is); (case c1 => k_is); (case k1 => k_is); (case a2 => k_is); (case l2 => k_is); (case c2 => k_is); (case k2 => k_is); (case a3 => k_is); (case l3 => k_is); (case c3 => k_is); (case k3 => k_is); (case a4 => k_is); (case l4 => k_is); (case c4 => k_is); (case k4 => k_is); (case a5 => k_is); (case l5 => k_is); (case c5 => k_is); (case k5 => k_is); (case a6 => k_is); (case l6 => k_is); (case c6 => k_is); (case k6 => k_is); (case a7 => k_is); (case l7 => k_is); (case c7 => k_is); (case k7 => k_is); (case a8 => k_is); (case l8 => k_is); (case c8 => k_is); (case k8 => k_is); (case a9 => k_is); (case l9 => k_is); (case c9 => k_is); (case k9 => k_is); (case a10 => k_is); (case l10 => k_is); (case c10 => k_is); (case k10 => k_is); (case a11 => k_is); (case l11 => k_is); (case c11 => k_is); (case k11 => k_is); (case a12 => k_is); (case l12 => k_is); (case c12 => k_is); (case k12 => k_is); (case a13 => k_is); (case l13 => k_is); (case c13 => k_is); (case k13 => k_is); (case a14 => k_is); (case l14 => k_is); (case c14 => k_is); (case k14 => k_is); (case a15 => k_is); (case l15 => k_is); (case c15 => k_is); (case k15 => k_is); (case z0 => k_is); (case z1 => k_is); (case z2 => k_is); (case z3 => k_is); (case z4 => k_is); (case z5 => k_is); (case z6 => k_is); (case z7 => k_is); (case z8 => k_is); (case zg => k_is); (case ya0 => k_is); (case yr0 => exact ⟨_, rfl⟩); (case ya1 => k_is); (case yr1 => exact ⟨_, rfl⟩); (case ea0 => k_is); (case ek0 => k_is); (case eb0 => k_is); (case et0 => k_is); (case ed0 => k_is); (case es0_0 => k_is); (case xn => k_is); (case xt => k_is); (case xg0 => k_is); (case xk0 => k_is); (case xa0 => k_is); (case xm0 => k_is); (case Xa0 => k_is); (case Xb0 => first | rfl | decide +kernel); (case Xc0 => k_is); (case Xd0 => k_is); (case Xe0 => k_is); (case Xf0 => k_is); (case Xg0 => k_is); (case Xh0 => k_is); (case Xi0 => k_is); (case Xj0 => first | rfl | decide +kernel); (case Xk0 => first | rfl | decide +kernel); (case Xl0 => k_is); (case Xm0 => first | ks_is | kernel_rfl); (case Xn0 => k_is); (case Xo0 => k_is); (case Xw0 => k_is); (case Xx0 => k_is); (case Xz0 => first | rfl | decide +kernel); (case Xy0 => k_is)
