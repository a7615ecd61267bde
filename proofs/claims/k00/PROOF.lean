import PyProof.Rows.All
import Wide.All
import OpenK.AllK
import Wide.FinOn
import HandS.ForExc
import HandS.Wide
import HandS.Gcd
import HandS.Flow
import HandS.Style
import HandS.TupAny
import HandS.IsInst
import HandS.Iter
import HandS.Rev
import HandS.Zip
import HandS.Comp
import HandS.Text
import HandS.CallSlots
import HandS.EndBits
import HandS.ExcIs
import HandS.Zip0
import PyProof.Draws
import KE.GoesZip
import KE.GoesMore
import HandS.Small
import HandS.TryOnly
import PySem.Challenge.RW_integraph_k00_lowest_terms
set_option Elab.async false
set_option linter.all false
set_option maxRecDepth 100000
set_option maxHeartbeats 4000000
/-! A small evaluator over plain data, and what it says of the text: the forms. -/
namespace Ev
open PySem PySem.Spec PyProof.Rows L2

/-- plain data: tuples by value (and a list that is only read, rol), lists and other objects by place -/
inductive D where
  | non | bl (b : Bool) | int (i : Int) | str (x : Str) | tup (xs : List D) | rol (xs : List D) | ref (a : Addr)
inductive Ob where
  | lst (xs : List D)
  /-- an instance of a class of the text, its attributes -/
  | ins (C : Str) (fs : List (Str × D))
abbrev Sto := Addr → Option Ob
def put (S : Sto) (a : Addr) (o : Ob) : Sto := fun b => if b = a then some o else S b
theorem put_same {S : Sto} {a : Addr} {o : Ob} : put S a o a = some o := if_pos rfl
theorem put_ne {S : Sto} {a b : Addr} {o : Ob} (h : b ≠ a) : put S a o b = S b := if_neg h
/-- an exception: its class's name, the fields of its own __init__ -/
structure Exn where
  cls : Str
  fs : List (Str × D)
abbrev DK := D → Sto → Prop
abbrev XS := Exn → Sto → Prop
abbrev CallS := Str → List D → Sto → DK → XS → Prop
abbrev En := List (Option D)
def gt : En → Nat → Option D
  | [], _ => none
  | x :: _, 0 => x
  | _ :: r, n + 1 => gt r n
def stn : En → Nat → D → En
  | [], _, _ => []
  | _ :: r, 0, d => some d :: r
  | x :: r, n + 1, d => x :: stn r n d
def wip1 : En → Nat → En
  | [], _ => []
  | _ :: r, 0 => none :: r
  | x :: r, n + 1 => x :: wip1 r n
def wips : En → List Nat → En
  | σ, [] => σ
  | σ, i :: r => wips (wip1 σ i) r

inductive Bi where
  | len | abs | int | min2 | max2 | tuple | list | gcd | lcm
  deriving DecidableEq
inductive Ty where
  | int | bool | str | tuple | list | own (x : Str)
  deriving DecidableEq
inductive Me where
  | append | pop | popat | reverse
  deriving DecidableEq

mutual
inductive IE where
  | var (i : Nat)
  | int (i : Int) | bl (b : Bool) | non | str (x : Str)
  | glo (x : Str)
  | tup (es : IEs) | lst (es : IEs)
  | bin (op : Operator) (a b : IE)
  | neg (a : IE)
  | cmp (op : CmpOp) (a b : IE)
  | chn (op op2 : CmpOp) (a b c : IE)
  | and (a b : IE) | or (a b : IE) | one (a : IE) | not (a : IE)
  | ifx (c : IC) (a b : IE)
  | idx (a i : IE)
  | slc (a : IE) (lo hi : IO)
  | call (f : Str) (es : IEs)
  | bi (b : Bi) (es : IEs)
  | isi (e : IE) (ts : List Ty)
  /-- isinstance of the caught exception: one class, or a tuple of classes -/
  | isx (e : IE) (c : Str) | isxs (e : IE) (cs : List Str)
  | mth (m : Me) (o : IE) (es : IEs)
  | fld (o : IE) (f : Str)
  | mcl (o : IE) (m : Str) (es : IEs)
  | mk (x : Str) (es : IEs)
  | lc (elt : IE) (tg : IG) (it : II) (ifs : IQ) (own : List Nat)
inductive IEs where
  | nil | cons (e : IE) (r : IEs)
inductive IO where
  | no | some (e : IE)
inductive IC where
  | and (a b : IC) | or (a b : IC) | one (a : IC) | not (a : IC)
  | cmp (op : CmpOp) (a b : IE)
  | chn (op op2 : CmpOp) (a b c : IE)
  | v (e : IE)
inductive IQ where
  | no | c (c : IC)
inductive II where
  | seq (e : IE) | rng1 (a : IE) | rng2 (a b : IE) | rng3 (a b c : IE) | enu (e : IE) | zip (a b : IE) | rev (e : IE)
inductive IG where
  | nm (i : Nat) | tup (gs : IGs)
inductive IGs where
  | nil | cons (g : IG) (r : IGs)
end
mutual
inductive IS where
  | set (i : Nat) (e : IE)
  | asg (g : IG) (e : IE)
  | par2 (i j : Nat) (a b : IE)
  | sub (o i e : IE)
  | expr (e : IE)
  | ret (e : IE) | retN
  | ifs (c : IC) (a b : ISs)
  | whl (c : IC) (b : ISs)
  | for_ (g : IG) (it : II) (b : ISs)
  | brk | cnt | pass
  | raise (x : Str) (es : IEs)
  | tryx (b : ISs) (x : Str) (s : ISs)
  | tryas (b : ISs) (x : Str) (i : Nat) (s : ISs)
  | setf (o : IE) (f : Str) (e : IE)
  | never
inductive ISs where
  | nil | cons (s : IS) (r : ISs)
end

/-! ### operations on data -/
def lget (S : Sto) (a : Addr) : Option (List D) := match S a with
  | some (.lst xs) => some xs
  | some (.ins _ _) => none
  | none => none
def iget (S : Sto) (a : Addr) : Option (Str × List (Str × D)) := match S a with
  | some (.ins x fs) => some (x, fs)
  | some (.lst _) => none
  | none => none
def putD (f : Str) (v : D) : List (Str × D) → List (Str × D)
  | [] => [(f, v)]
  | (g, x) :: r => if g = f then (g, v) :: r else (g, x) :: putD f v r
/-- what has items: a tuple, a list -/
def sget (S : Sto) : D → Option (List D)
  | .tup xs => some xs
  | .rol xs => some xs
  | .ref a => lget S a
  | _ => none
def truS (x : D) (S : Sto) (Q : Bool → Prop) : Prop := match x with
  | .non => Q false
  | .bl b => Q b
  | .int i => Q (i != 0)
  | .str y => y.length ≤ sizeLine ∧ Q ((y.length : Int) != 0)
  | .tup xs => Q (!xs.isEmpty)
  | .rol xs => Q (!xs.isEmpty)
  | .ref a => match lget S a with
    | some xs => Q (!xs.isEmpty)
    | none => False
mutual
/-- data as the library's comparison reads it -/
inductive Pd (S : Sto) : D → PyData → Prop
  | non : Pd S .non .none
  | bl (b : Bool) : Pd S (.bl b) (.bool b)
  | int (i : Int) : Pd S (.int i) (.int i)
  | str (x : Str) : Pd S (.str x) (.str x)
  | tup {xs : List D} {ps : List PyData} (h : Pds S xs ps) : Pd S (.tup xs) (.tuple ps)
  | rol {xs : List D} {ps : List PyData} (h : Pds S xs ps) : Pd S (.rol xs) (.list ps)
  | ref {a : Addr} {xs : List D} {ps : List PyData} (l : lget S a = some xs) (h : Pds S xs ps) : Pd S (.ref a) (.list ps)
inductive Pds (S : Sto) : List D → List PyData → Prop
  | nil : Pds S [] []
  | cons {d : D} {ds : List D} {p : PyData} {ps : List PyData} (h : Pd S d p) (t : Pds S ds ps) : Pds S (d :: ds) (p :: ps)
end
def eqG (x y : D) (S : Sto) (Q : Bool → Prop) : Prop := ∃ p q, Pd S x p ∧ Pd S y q ∧ SeqAt.shaped p = true ∧ SeqAt.shaped q = true ∧ Q (PyData.eqv p q)
def eqS (x y : D) (S : Sto) (Q : Bool → Prop) : Prop := match x with
  | .int i => (match y with
    | .int j => Q (decide (i = j))
    | _ => eqG x y S Q)
  | .str a => (match y with
    | .str b => Q (decide (a = b))
    | _ => eqG x y S Q)
  | _ => eqG x y S Q
/-- flat data: what `in` compares at once -/
def flD : D → Bool
  | .non => true
  | .bl _ => true
  | .int _ => true
  | .str _ => true
  | _ => false
def toV : D → V
  | .bl b => .bl b
  | .int i => .int i
  | .str x => .str x
  | _ => .non
def inL (x : D) (xs : List D) : Bool := xs.any fun y => eqV (toV y) (toV x)
def inS (x y : D) (S : Sto) (Q : Bool → Prop) : Prop := match y with
  | .str j => (match x with | .str i => Q (!(Builtin.Str.occurrences j i 0 j.length 1).isEmpty) | _ => False)
  | _ => (match sget S y with
    | some xs => flD x = true ∧ xs.all flD = true ∧ Q (inL x xs)
    | none => False)
def cmpS (op : CmpOp) (x y : D) (S : Sto) (Q : Bool → Prop) : Prop := match op with
  | .Eq => eqS x y S Q
  | .NotEq => eqS x y S fun k => Q (!k)
  | .Lt => (match x, y with | .int i, .int j => Q (decide (i < j)) | _, _ => False)
  | .LtE => (match x, y with | .int i, .int j => Q (decide (i ≤ j)) | _, _ => False)
  | .Gt => (match x, y with | .int i, .int j => Q (decide (j < i)) | _, _ => False)
  | .GtE => (match x, y with | .int i, .int j => Q (decide (j ≤ i)) | _, _ => False)
  | .Is => (match y with
    | .non => (match x with | .non => Q true | _ => Q false)
    | .bl b => (match x with | .bl c => Q (decide (c = b)) | _ => False)
    | _ => False)
  | .IsNot => (match y with
    | .non => (match x with | .non => Q false | _ => Q true)
    | .bl b => (match x with | .bl c => Q (!decide (c = b)) | _ => False)
    | _ => False)
  | .In => inS x y S Q
  | .NotIn => inS x y S fun k => Q (!k)
/-- the condition on // : the divisor is not 0, and the library's big division is not asked (or is allowed: PY) -/
def FdOk (PY : Prop) (i j : Int) : Prop := j ≠ 0 ∧ (Builtin.divisionGoesByPylong i j = false ∨ PY)
def binS (PY : Prop) (op : Operator) (x y : D) (S : Sto) (Q : DK) : Prop := match op with
  | .Add => (match x, y with
    | .int i, .int j => Q (.int (i + j)) S
    | .tup xs, .tup ys => xs.length + ys.length ≤ sizeLine ∧ Q (.tup (xs ++ ys)) S
    | .str a, .str b => a.length + b.length ≤ sizeLine ∧ Q (.str (a ++ b)) S
    | .ref a, .ref b => (match S a, S b with
      | some (.lst xs), some (.lst ys) => xs.length + ys.length ≤ sizeLine ∧ ∀ c, S c = none → Q (.ref c) (put S c (.lst (xs ++ ys)))
      | _, _ => False)
    | _, _ => False)
  | .Sub => (match x, y with | .int i, .int j => Q (.int (i - j)) S | _, _ => False)
  | .Mult => (match x, y with
    | .int i, .int j => IntMulOk i j ∧ Q (.int (i * j)) S
    | .ref a, .int k => (match S a with
      | some (.lst xs) => -(2 ^ 63) ≤ k ∧ k < 2 ^ 63 ∧ xs.length * k.toNat ≤ sizeLine ∧ ∀ c, S c = none → Q (.ref c) (put S c (.lst (List.replicate k.toNat xs).flatten))
      | _ => False)
    | _, _ => False)
  | .FloorDiv => (match x, y with | .int i, .int j => FdOk PY i j ∧ Q (.int (i.fdiv j)) S | _, _ => False)
  | .Mod => (match x, y with | .int i, .int j => j ≠ 0 ∧ Q (.int (i.fmod j)) S | _, _ => False)
  | .Pow => (match x, y with | .int i, .int j => CPow i j ∧ Q (.int (i ^ j.toNat)) S | _, _ => False)
  | _ => False
def idxS (x i : D) (S : Sto) (Q : DK) : Prop := match i with
  | .int n => (match x with
    | .str z => z.length ≤ sizeLine ∧ (match atI z.cps.toList n with | some c => Q (.str ⟨#[c]⟩) S | none => False)
    | _ => (match sget S x with
      | some xs => (match atI xs n with | some d => Q d S | none => False)
      | none => False))
  | _ => False
def cutD (xs : List D) (lo hi : Option Int) : List D := (xs.drop (HT.sIx xs.length 0 lo)).take (HT.sIx xs.length xs.length hi - HT.sIx xs.length 0 lo)
def slcS (x : D) (lo hi : Option Int) (S : Sto) (Q : DK) : Prop := match x with
  | .tup xs => Q (.tup (cutD xs lo hi)) S
  | .rol xs => ∀ c, S c = none → Q (.ref c) (put S c (.lst (cutD xs lo hi)))
  | .ref a => (match lget S a with
    | some xs => ∀ c, S c = none → Q (.ref c) (put S c (.lst (cutD xs lo hi)))
    | none => False)
  | _ => False
def biS (b : Bi) (ds : List D) (S : Sto) (Q : DK) : Prop := match b with
  | .len => (match ds with
    | [.str z] => z.length ≤ sizeLine ∧ Q (.int z.length) S
    | [x] => (match sget S x with | some xs => Q (.int xs.length) S | none => False)
    | _ => False)
  | .abs => (match ds with | [.int i] => Q (.int (if i < 0 then -i else i)) S | _ => False)
  | .int => (match ds with | [.int i] => Q (.int i) S | [.bl k] => Q (.int (if k then 1 else 0)) S | _ => False)
  | .min2 => (match ds with | [.int i, .int j] => Q (.int (if j < i then j else i)) S | _ => False)
  | .max2 => (match ds with | [.int i, .int j] => Q (.int (if j > i then j else i)) S | _ => False)
  | .tuple => (match ds with
    | [x] => (match sget S x with | some xs => Q (.tup xs) S | none => False)
    | _ => False)
  | .list => (match ds with
    | [x] => (match sget S x with | some xs => ∀ c, S c = none → Q (.ref c) (put S c (.lst xs)) | none => False)
    | _ => False)
  | .gcd => (match ds with | [.int i, .int j] => Q (.int ((Nat.gcd i.natAbs j.natAbs : Nat) : Int)) S | _ => False)
  | .lcm => (match ds with | [.int i, .int j] => i.natAbs.log2 < 13000 ∧ j.natAbs.log2 < 13000 ∧ Q (.int ((Nat.lcm i.natAbs j.natAbs : Nat) : Int)) S | _ => False)
/-- is a value of this type -/
def isT (S : Sto) (x : D) : Ty → Option Bool
  | .int => (match x with | .int _ => some true | .bl _ => some true | .ref a => (lget S a).map fun _ => false | _ => some false)
  | .bool => (match x with | .bl _ => some true | .ref a => (lget S a).map fun _ => false | _ => some false)
  | .str => (match x with | .str _ => some true | .ref a => (lget S a).map fun _ => false | _ => some false)
  | .tuple => (match x with | .tup _ => some true | .ref a => (lget S a).map fun _ => false | _ => some false)
  | .list => (match x with | .rol _ => some true | .ref a => (lget S a).map fun _ => true | _ => some false)
  | .own _ => none
def isTs (S : Sto) (x : D) : List Ty → Option Bool
  | [] => some false
  | t :: r => match isT S x t with
    | some true => some true
    | some false => isTs S x r
    | none => none
/-- the receiver's kind, ahead of the arguments -/
def mthT (m : Me) (o : D) (S : Sto) : Prop := match o with
  | .ref a => ∃ xs, lget S a = some xs
  | _ => False
def mthS (m : Me) (o : D) (ds : List D) (S : Sto) (Q : DK) : Prop := match o with
  | .ref a => (match S a with
    | some (.lst xs) => (match m with
      | .append => (match ds with | [y] => xs.length < sizeLine ∧ Q .non (put S a (.lst (xs ++ [y]))) | _ => False)
      | .pop => (match ds with | [] => (match xs[xs.length - 1]? with | some y => Q y (put S a (.lst xs.dropLast)) | none => False) | _ => False)
      | .popat => (match ds with
        | [.int i] => -(2 ^ 63) ≤ i ∧ i < 2 ^ 63 ∧ (match seqIndex? i xs.length with
          | some k => (match xs[k]? with | some y => Q y (put S a (.lst (xs.eraseIdx k))) | none => False)
          | none => False)
        | _ => False)
      | .reverse => (match ds with | [] => Q .non (put S a (.lst xs.reverse)) | _ => False))
    | _ => False)
  | _ => False

/-! ### what is walked -/
inductive Itr where
  | tup (xs : List D)
  | rol (xs : List D)
  | lst (a : Addr)
  | rng (lo : Int) (n : Nat)
  | rngc (lo c : Int) (n : Nat)
  | enu (a : Addr)
  | enuT (xs : List D)
  | zip (a b : Addr)
  | zipM (a : Addr) (ys : List D)
  | rev (a : Addr) (n : Nat)
def nxt (j : Itr) (i : Nat) (S : Sto) (stop : Prop) (go : D → Prop) : Prop := match j with
  | .tup xs => (match xs[i]? with | some d => go d | none => stop)
  | .rol xs => (match xs[i]? with | some d => go d | none => stop)
  | .lst a => (match lget S a with
    | some xs => (match xs[i]? with | some d => go d | none => stop)
    | none => False)
  | .rng lo n => if i < n then go (.int (lo + i)) else stop
  | .rngc lo c n => if i < n then go (.int (lo + (i : Nat) * c)) else stop
  | .enu a => (match lget S a with
    | some xs => (match xs[i]? with | some d => go (.tup [.int i, d]) | none => stop)
    | none => False)
  | .enuT xs => (match xs[i]? with | some d => go (.tup [.int i, d]) | none => stop)
  | .zip a b => (match lget S a, lget S b with
    | some xs, some ys => (match xs[i]? with
      | some d => (match ys[i]? with | some e => go (.tup [d, e]) | none => stop)
      | none => stop)
    | _, _ => False)
  | .zipM a ys => (match lget S a with
    | some xs => xs.length = ys.length ∧ i ≤ ys.length ∧ (match xs[i]? with
      | some d => (match ys[i]? with | some e => go (.tup [d, e]) | none => False)
      | none => stop)
    | none => False)
  | .rev a n => (match lget S a with
    | some xs => if i < n then (match xs[n - 1 - i]? with | some d => xs.length = n ∧ go d | none => False) else stop
    | none => False)

/-- the pairs of a walk over two tuples -/
def zipD (xs ys : List D) : List D := List.zipWith (fun a b => .tup [a, b]) xs ys

/-! ### targets -/
mutual
def asgS : IG → D → En → Sto → (En → Prop) → Prop
  | .nm i, d, σ, _, Q => Q (stn σ i d)
  | .tup gs, d, σ, S, Q => match sget S d with
    | some xs => asgsS gs xs σ S Q
    | none => False
def asgsS : IGs → List D → En → Sto → (En → Prop) → Prop
  | .nil, ds, σ, _, Q => (match ds with | [] => Q σ | _ => False)
  | .cons g r, ds, σ, S, Q => (match ds with
    | d :: t => asgS g d σ S fun σ1 => asgsS r t σ1 S Q
    | [] => False)
end

/-! ### expressions -/
/-- what the text's module has: defs, constants -/
structure Fn where
  ps : Nat
  sl : Nat
  body : ISs
structure Gl0 where
  cs : Str → Option D
  PY : Prop
  /-- is an exception of the class of that name one of the other class? -/
  sub : Str → Str → Option Bool := fun _ _ => none
  /-- a class's method: its def's key -/
  mt : Str → Str → Option Str := fun _ _ => none
  /-- a class that is made: its __init__'s key, or none where it is object's -/
  it : Str → Option (Option Str) := fun _ => none
  /-- an attribute that no class above has -/
  fd : Str → Str → Bool := fun _ _ => false
  /-- the exception that a clause holds -/
  xc : Option (Addr × Exn) := none
/-- is an exception of class c one of these classes? -/
def isXs (sub : Str → Str → Option Bool) (c : Str) : List Str → Option Bool
  | [] => some false
  | t :: r => match sub c t with
    | some true => some true
    | some false => isXs sub c r
    | none => none
section
variable (G : Gl0) (C : CallS)
mutual
def semE (X : XS) : IE → En → Sto → DK → Prop
  | .var i, σ, S, Q => (match gt σ i with | some d => Q d S | none => False)
  | .int i, _, S, Q => Q (.int i) S
  | .bl b, _, S, Q => Q (.bl b) S
  | .non, _, S, Q => Q .non S
  | .str x, _, S, Q => Q (.str x) S
  | .glo x, _, S, Q => (match G.cs x with | some d => Q d S | none => False)
  | .tup es, σ, S, Q => semEs X es σ S fun ds S1 => Q (.tup ds) S1
  | .lst es, σ, S, Q => semEs X es σ S fun ds S1 => ∀ a, S1 a = none → Q (.ref a) (put S1 a (.lst ds))
  | .bin op a b, σ, S, Q => semE X a σ S fun x S1 => semE X b σ S1 fun y S2 => binS G.PY op x y S2 Q
  | .neg a, σ, S, Q => semE X a σ S fun x S1 => (match x with | .int i => Q (.int (-i)) S1 | _ => False)
  | .cmp op a b, σ, S, Q => semE X a σ S fun x S1 => semE X b σ S1 fun y S2 => cmpS op x y S2 fun k => Q (.bl k) S2
  | .chn op op2 a b c, σ, S, Q => semE X a σ S fun x S1 => semE X b σ S1 fun y S2 => cmpS op x y S2 fun k =>
      if k = true then semE X c σ S2 fun z S3 => cmpS op2 y z S3 fun k2 => Q (.bl k2) S3 else Q (.bl false) S2
  | .and a b, σ, S, Q => semE X a σ S fun x S1 => truS x S1 fun k => if k = true then semE X b σ S1 Q else Q x S1
  | .or a b, σ, S, Q => semE X a σ S fun x S1 => truS x S1 fun k => if k = true then Q x S1 else semE X b σ S1 Q
  | .one a, σ, S, Q => semE X a σ S Q
  | .not a, σ, S, Q => semE X a σ S fun x S1 => truS x S1 fun k => Q (.bl (!k)) S1
  | .ifx c a b, σ, S, Q => semC X c σ S fun k S1 => if k = true then semE X a σ S1 Q else semE X b σ S1 Q
  | .idx a i, σ, S, Q => semE X a σ S fun x S1 => semE X i σ S1 fun y S2 => idxS x y S2 Q
  | .slc a lo hi, σ, S, Q => semE X a σ S fun x S1 => semO X lo σ S1 fun l S2 => semO X hi σ S2 fun u S3 => slcS x l u S3 Q
  | .call f es, σ, S, Q => semEs X es σ S fun ds S1 => C f ds S1 Q X
  | .bi b es, σ, S, Q => semEs X es σ S fun ds S1 => biS b ds S1 Q
  | .isi e ts, σ, S, Q => semE X e σ S fun x S1 => (match isTs S1 x ts with | some k => Q (.bl k) S1 | none => False)
  | .isx e c, σ, S, Q => (match G.xc with
      | some (b, ex) => semE X e σ S fun x S1 => x = .ref b ∧ (match G.sub ex.cls c with | some k => Q (.bl k) S1 | none => False)
      | none => False)
  | .isxs e cs, σ, S, Q => (match G.xc with
      | some (b, ex) => semE X e σ S fun x S1 => x = .ref b ∧ (match isXs G.sub ex.cls cs with | some k => Q (.bl k) S1 | none => False)
      | none => False)
  | .mth m o es, σ, S, Q => semE X o σ S fun x S1 => mthT m x S1 ∧ semEs X es σ S1 fun ds S2 => mthS m x ds S2 Q
  | .fld o f, σ, S, Q => semE X o σ S fun x S1 => (match x with
      | .ref a => (match iget S1 a with
        | some (C0, fs) => G.fd C0 f = true ∧ (match fs.lookup f with | some d => Q d S1 | none => False)
        | none => False)
      | _ => False)
  | .mcl o m es, σ, S, Q => semE X o σ S fun x S1 => (match x with
      | .ref a => (match iget S1 a with
        | some (C0, fs) => fs.lookup m = none ∧ (match G.mt C0 m with
          | some key => semEs X es σ S1 fun ds S2 => C key (.ref a :: ds) S2 Q X
          | none => False)
        | none => False)
      | _ => False)
  | .mk x es, σ, S, Q => semEs X es σ S fun ds S1 => (match G.it x with
      | some none => ds = [] ∧ ∀ a, S1 a = none → Q (.ref a) (put S1 a (.ins x []))
      | some (some key) => ∀ a, S1 a = none → C key (.ref a :: ds) (put S1 a (.ins x [])) (fun d S2 => d = .non ∧ Q (.ref a) S2) X
      | none => False)
  | .lc elt tg it ifs own, σ, S, Q => semI X it σ S fun J S1 => ∀ a, S1 a = none →
      ∃ W : Nat → Nat → Sto → Prop, (∃ m, W 0 m (put S1 a (.lst []))) ∧ ∀ i m S, W i m S →
        nxt J i S (Q (.ref a) S) fun d => asgS tg d (wips σ own) S fun σ2 =>
          semQ (fun _ _ => False) ifs σ2 S fun k S3 => if k = true
              then semE (fun _ _ => False) elt σ2 S3 fun y S4 => ∃ acc, S4 a = some (.lst acc) ∧ acc.length < sizeLine ∧ ∃ m', m' < m ∧ W (i + 1) m' (put S4 a (.lst (acc ++ [y])))
              else ∃ m', m' < m ∧ W (i + 1) m' S3
def semEs (X : XS) : IEs → En → Sto → (List D → Sto → Prop) → Prop
  | .nil, _, S, Q => Q [] S
  | .cons e r, σ, S, Q => semE X e σ S fun d S1 => semEs X r σ S1 fun ds S2 => Q (d :: ds) S2
def semO (X : XS) : IO → En → Sto → (Option Int → Sto → Prop) → Prop
  | .no, _, S, Q => Q none S
  | .some e, σ, S, Q => semE X e σ S fun x S1 => (match x with | .int i => Q (some i) S1 | _ => False)
def semQ (X : XS) : IQ → En → Sto → (Bool → Sto → Prop) → Prop
  | .no, _, S, Q => Q true S
  | .c c, σ, S, Q => semC X c σ S Q
def semC (X : XS) : IC → En → Sto → (Bool → Sto → Prop) → Prop
  | .and a b, σ, S, Q => semC X a σ S fun k S1 => if k = true then semC X b σ S1 Q else Q false S1
  | .or a b, σ, S, Q => semC X a σ S fun k S1 => if k = true then Q true S1 else semC X b σ S1 Q
  | .one a, σ, S, Q => semC X a σ S Q
  | .not a, σ, S, Q => semC X a σ S fun k S1 => Q (!k) S1
  | .cmp op a b, σ, S, Q => semE X a σ S fun x S1 => semE X b σ S1 fun y S2 => cmpS op x y S2 fun k => Q k S2
  | .chn op op2 a b c, σ, S, Q => semE X a σ S fun x S1 => semE X b σ S1 fun y S2 => cmpS op x y S2 fun k =>
      if k = true then semE X c σ S2 fun z S3 => cmpS op2 y z S3 fun k2 => Q k2 S3 else Q false S2
  | .v e, σ, S, Q => semE X e σ S fun x S1 => truS x S1 fun k => Q k S1
def semI (X : XS) : II → En → Sto → (Itr → Sto → Prop) → Prop
  | .seq e, σ, S, R => semE X e σ S fun x S1 => (match x with
      | .tup xs => R (.tup xs) S1
      | .rol xs => R (.rol xs) S1
      | .ref a => (match lget S1 a with | some _ => R (.lst a) S1 | none => False)
      | _ => False)
  | .rng1 a, σ, S, R => semE X a σ S fun x S1 => (match x with | .int j => -(2 ^ 62) ≤ j ∧ j < 2 ^ 62 ∧ R (.rng 0 j.toNat) S1 | _ => False)
  | .rng2 a b, σ, S, R => semE X a σ S fun x S1 => semE X b σ S1 fun y S2 => (match x, y with
      | .int i, .int j => (-(2 ^ 62) ≤ i ∧ i < 2 ^ 62 ∧ -(2 ^ 62) ≤ j ∧ j < 2 ^ 62) ∧ R (.rng i (j - i).toNat) S2
      | _, _ => False)
  | .rng3 a b c, σ, S, R => semE X a σ S fun x S1 => semE X b σ S1 fun y S2 => semE X c σ S2 fun z S3 => (match x, y, z with
      | .int i, .int j, .int k => ∃ n, RgC i j k n ∧ R (.rngc i k n) S3
      | _, _, _ => False)
  | .enu e, σ, S, R => semE X e σ S fun x S1 => (match x with
      | .ref a => (match lget S1 a with | some _ => R (.enu a) S1 | none => False)
      | .tup xs => R (.enuT xs) S1
      | _ => False)
  | .zip e e2, σ, S, R => semE X e σ S fun x S1 => semE X e2 σ S1 fun y S2 => (match x, y with
      | .ref a, .ref b => (match lget S2 a, lget S2 b with | some _, some _ => R (.zip a b) S2 | _, _ => False)
      | .tup xs, .tup ys => R (.tup (zipD xs ys)) S2
      | .ref a, .tup ys => (match lget S2 a with | some _ => R (.zipM a ys) S2 | _ => False)
      | _, _ => False)
  | .rev e, σ, S, R => semE X e σ S fun x S1 => (match x with
      | .ref a => (match lget S1 a with | some xs => R (.rev a xs.length) S1 | none => False)
      | .tup xs => R (.tup xs.reverse) S1
      | _ => False)
end
end

/-! ### statements -/
structure Kt where
  nx : En → Sto → Prop
  rt : DK
  bk : En → Sto → Prop
  ct : En → Sto → Prop
  ex : Exn → En → Sto → Prop
mutual
def semS (G : Gl0) (C : CallS) : IS → Kt → En → Sto → Prop
  | .set i e, k, σ, S => semE G C (fun x S => k.ex x σ S) e σ S fun d S1 => k.nx (stn σ i d) S1
  | .asg g e, k, σ, S => semE G C (fun x S => k.ex x σ S) e σ S fun d S1 => asgS g d σ S1 fun σ1 => k.nx σ1 S1
  | .par2 i j a b, k, σ, S => semE G C (fun x S => k.ex x σ S) a σ S fun x S1 => semE G C (fun x S => k.ex x σ S) b σ S1 fun y S2 => k.nx (stn (stn σ i x) j y) S2
  | .sub o i e, k, σ, S => semE G C (fun x S => k.ex x σ S) e σ S fun d S1 => semE G C (fun x S => k.ex x σ S) o σ S1 fun ov S2 => semE G C (fun x S => k.ex x σ S) i σ S2 fun iv S3 =>
      (match ov, iv with
      | .ref a, .int n => (match S3 a with
        | some (.lst xs) => (match ixN xs.length n with | some j => k.nx σ (put S3 a (.lst (xs.set j d))) | none => False)
        | _ => False)
      | _, _ => False)
  | .expr e, k, σ, S => semE G C (fun x S => k.ex x σ S) e σ S fun _ S1 => k.nx σ S1
  | .ret e, k, σ, S => semE G C (fun x S => k.ex x σ S) e σ S k.rt
  | .retN, k, _, S => k.rt .non S
  | .ifs c a b, k, σ, S => semC G C (fun x S => k.ex x σ S) c σ S fun h S1 => if h = true then semSs G C a k σ S1 else semSs G C b k σ S1
  | .whl c b, k, σ, S => ∃ W : Nat → En → Sto → Prop, (∃ m, W m σ S) ∧ ∀ m σ S, W m σ S →
      semC G C (fun x S => k.ex x σ S) c σ S fun h S1 => if h = true
        then semSs G C b { nx := fun σ' S' => ∃ m', m' < m ∧ W m' σ' S', rt := k.rt, bk := k.nx, ct := fun σ' S' => ∃ m', m' < m ∧ W m' σ' S', ex := k.ex } σ S1
        else k.nx σ S1
  | .for_ g it b, k, σ, S => semI G C (fun x S => k.ex x σ S) it σ S fun J S1 => ∃ W : Nat → Nat → En → Sto → Prop, (∃ m, W 0 m σ S1) ∧ ∀ i m σ S, W i m σ S →
      nxt J i S (k.nx σ S) fun d => asgS g d σ S fun σ2 =>
        semSs G C b { nx := fun σ' S' => ∃ m', m' < m ∧ W (i + 1) m' σ' S', rt := k.rt, bk := k.nx, ct := fun σ' S' => ∃ m', m' < m ∧ W (i + 1) m' σ' S', ex := k.ex } σ2 S
  | .brk, k, σ, S => k.bk σ S
  | .cnt, k, σ, S => k.ct σ S
  | .pass, k, σ, S => k.nx σ S
  | .raise x es, k, σ, S => semEs G C (fun x S => k.ex x σ S) es σ S fun ds S1 => ds.length ≤ sizeLine ∧ k.ex ⟨x, []⟩ σ S1
  | .tryx b x s, k, σ, S => semSs G C b { k with ex := fun e σ' S' => match G.sub e.cls x with
      | some true => semSs G C s { k with ex := fun _ _ _ => False } σ' S'
      | some false => k.ex e σ' S'
      | none => False } σ S
  | .tryas b x i s, k, σ, S => semSs G C b { k with ex := fun e σ' S' => match G.sub e.cls x with
      | some true => e.fs = [] ∧ ∀ a, S' a = none → semSs { G with xc := some (a, e) } C s { nx := fun σ2 S2 => k.nx (wip1 σ2 i) S2, rt := k.rt, bk := fun σ2 S2 => k.bk (wip1 σ2 i) S2, ct := fun σ2 S2 => k.ct (wip1 σ2 i) S2, ex := fun _ _ _ => False } (stn σ' i (.ref a)) S'
      | some false => k.ex e σ' S'
      | none => False } σ S
  | .setf o f e, k, σ, S => semE G C (fun x S => k.ex x σ S) e σ S fun d S1 => semE G C (fun x S => k.ex x σ S) o σ S1 fun ov S2 =>
      (match ov with
      | .ref a => (match iget S2 a with
        | some (C0, fs) => G.fd C0 f = true ∧ fs.length < 1000 ∧ k.nx σ (put S2 a (.ins C0 (putD f d fs)))
        | none => False)
      | _ => False)
  | .never, _, _, _ => False
def semSs (G : Gl0) (C : CallS) : ISs → Kt → En → Sto → Prop
  | .nil, k, σ, S => k.nx σ S
  | .cons s r, k, σ, S => semS G C s { k with nx := fun σ1 S1 => semSs G C r k σ1 S1 } σ S
end
def kend (Q : DK) (E : XS) : Kt := { nx := fun _ S => Q .non S, rt := Q, bk := fun _ _ => False, ct := fun _ _ => False, ex := fun x _ S => E x S }
def ent (n : Nat) (ds : List D) : En := ds.map some ++ List.replicate (n - ds.length) none
/-- a def called at depth k -/
def semF (G : Gl0) (T : Str → Option Fn) : Nat → CallS
  | 0 => fun _ _ _ _ _ => False
  | k + 1 => fun f ds S Q E => match T f with
    | some F => ds.length = F.ps ∧ semSs G (semF G T k) F.body (kend Q E) (ent F.sl ds) S
    | none => False
end Ev

/-! The evaluator's data on the layer's heap; the operations keep what they say. -/
namespace Ev
open PySem PySem.Spec PyProof.Rows L2

/-- a list that is never written -/
def SqF (K : PySem.W.Frag) (H : Hp) (a : Addr) (xs : List V) : Prop :=
  (∃ o, H a = some (.frz o (.lst xs))) ∨
    ∃ (o : Obj) (its : Array Value) (n : Nat), K.lookup a = some o ∧ o.cls = .type "list" ∧ o.dict = none ∧ o.data = .seq its n ∧ its.size ≤ sizeLine ∧ Vals xs its.toList
theorem SqF.l {K : PySem.W.Frag} {H : Hp} {a : Addr} {xs : List V} (h : SqF K H a xs) : SqL K H a xs := by
  rcases h with ⟨o, h⟩ | h
  · exact .inl (.inr ⟨o, h⟩)
  · exact .inr h
mutual
inductive Rv (K : PySem.W.Frag) (H : Hp) : D → V → Prop
  | non : Rv K H .non .non
  | bl (b : Bool) : Rv K H (.bl b) (.bl b)
  | int (i : Int) : Rv K H (.int i) (.int i)
  | str (x : Str) : Rv K H (.str x) (.str x)
  | ref (a : Addr) : Rv K H (.ref a) (.ref a)
  | tup {a : Addr} {xs : List V} {ds : List D} (h : SqT K H a xs) (t : Rvs K H ds xs) : Rv K H (.tup ds) (.ref a)
  | rol {a : Addr} {xs : List V} {ds : List D} (h : SqF K H a xs) (t : Rvs K H ds xs) : Rv K H (.rol ds) (.ref a)
inductive Rvs (K : PySem.W.Frag) (H : Hp) : List D → List V → Prop
  | nil : Rvs K H [] []
  | cons {d : D} {ds : List D} {v : V} {vs : List V} (h : Rv K H d v) (t : Rvs K H ds vs) : Rvs K H (d :: ds) (v :: vs)
end
def RO (K : PySem.W.Frag) (H : Hp) (a : Addr) : Ob → Prop
  | .lst ds => ∃ xs, H a = some (.lst xs) ∧ Rvs K H ds xs
  | .ins x fs => ∃ cls dx fv, PySem.W.nsIn K mainGlobals x = some (some (.ref cls)) ∧ H a = some (.ins cls dx fv) ∧ Paired (fun (p : Str × D) (q : Str × V) => p.1 = q.1 ∧ Rv K H p.2 q.2) fs fv
def RS (K : PySem.W.Frag) (H : Hp) (S : Sto) : Prop := ∀ a o, S a = some o → RO K H a o
def Ro (K : PySem.W.Frag) (H : Hp) : Option D → Option V → Prop
  | none, _ => True
  | some d, some v => Rv K H d v
  | some _, none => False
inductive Rn (K : PySem.W.Frag) (H : Hp) : En → L2.St → Prop
  | nil : Rn K H [] []
  | cons {d : Option D} {ds : En} {v : Option V} {vs : L2.St} (h : Ro K H d v) (t : Rn K H ds vs) : Rn K H (d :: ds) (v :: vs)
/-- tuples stay, and what is known -/
structure Ext (H H' : Hp) : Prop where
  tup : ∀ a xs, H a = some (.tup xs) → H' a = some (.tup xs)
  frz : ∀ a o u, H a = some (.frz o u) → H' a = some (.frz o u)
section
variable {K : PySem.W.Frag} {H H1 H2 H' : Hp} {S : Sto} {a p : Addr}
theorem Ext.refl (H : Hp) : Ext H H := ⟨fun _ _ h => h, fun _ _ _ h => h⟩
theorem Ext.trans (x : Ext H H1) (y : Ext H1 H2) : Ext H H2 := ⟨fun a xs h => y.tup _ _ (x.tup _ _ h), fun a o u h => y.frz _ _ _ (x.frz _ _ _ h)⟩
theorem Ext.new {o : HO} (h : H p = none) : Ext H (upd H p o) := ⟨fun a xs e => by rw [upd_ne (ne_of_none e h)]; exact e, fun a o u e => by rw [upd_ne (ne_of_none e h)]; exact e⟩
theorem Ext.lst {xs : List V} {o : HO} (h : H p = some (.lst xs)) : Ext H (upd H p o) :=
  ⟨fun a ys e => by rw [upd_ne (ne_of e h (by intro z; cases z))]; exact e, fun a o u e => by rw [upd_ne (ne_of e h (by intro z; cases z))]; exact e⟩
theorem Ext.sqT {xs : List V} (x : Ext H H') (h : SqT K H a xs) : SqT K H' a xs := by
  rcases h with (h | ⟨o, h⟩) | h
  · exact .inl (.inl (x.tup _ _ h))
  · exact .inl (.inr ⟨o, x.frz _ _ _ h⟩)
  · exact .inr h
theorem Ext.sqF {xs : List V} (x : Ext H H') (h : SqF K H a xs) : SqF K H' a xs := by
  rcases h with ⟨o, h⟩ | h
  · exact .inl ⟨o, x.frz _ _ _ h⟩
  · exact .inr h
mutual
theorem Rv.ext (x : Ext H H') : ∀ {d : D} {v : V}, Rv K H d v → Rv K H' d v
  | _, _, .non => .non
  | _, _, .bl b => .bl b
  | _, _, .int i => .int i
  | _, _, .str y => .str y
  | _, _, .ref a => .ref a
  | _, _, .tup h t => .tup (x.sqT h) (Rvs.ext x t)
  | _, _, .rol h t => .rol (x.sqF h) (Rvs.ext x t)
theorem Rvs.ext (x : Ext H H') : ∀ {d : List D} {v : List V}, Rvs K H d v → Rvs K H' d v
  | _, _, .nil => .nil
  | _, _, .cons h t => .cons (Rv.ext x h) (Rvs.ext x t)
end
theorem Ro.ext (x : Ext H H') {d : Option D} {v : Option V} (h : Ro K H d v) : Ro K H' d v := by
  cases d with
  | none => trivial
  | some d =>
    cases v with
    | none => exact h
    | some v => exact Rv.ext x h
theorem Rn.ext (x : Ext H H') {σd : En} {σ : L2.St} (h : Rn K H σd σ) : Rn K H' σd σ := by
  induction h with
  | nil => exact .nil
  | cons h t ih => exact .cons (h.ext x) ih
theorem Rn.gt {σd : En} {σ : L2.St} (h : Rn K H σd σ) : ∀ {i : Nat} {d : D}, gt σd i = some d → ∃ v, σ[i]? = some (some v) ∧ Rv K H d v := by
  induction h with
  | nil => intro i d e; cases e
  | @cons d0 ds v0 vs h t ih =>
    intro i d e
    cases i with
    | zero =>
      have e' : d0 = some d := e
      subst e'
      cases v0 with
      | none => exact False.elim h
      | some v => exact ⟨v, rfl, h⟩
    | succ n =>
      obtain ⟨v, h1, h2⟩ := ih (i := n) (d := d) e
      exact ⟨v, by simpa using h1, h2⟩
theorem Rn.set {σd : En} {σ : L2.St} (h : Rn K H σd σ) {d : D} {v : V} (r : Rv K H d v) : ∀ i : Nat, Rn K H (stn σd i d) (σ.set i (some v)) := by
  induction h with
  | nil => intro i; exact .nil
  | cons h t ih =>
    intro i
    cases i with
    | zero => exact .cons r t
    | succ n => exact .cons h (ih n)
theorem Rn.wip {σd : En} {σ : L2.St} (h : Rn K H σd σ) : ∀ i : Nat, Rn K H (wip1 σd i) (σ.set i none) := by
  induction h with
  | nil => intro i; exact .nil
  | cons h t ih =>
    intro i
    cases i with
    | zero => exact .cons trivial t
    | succ n => exact .cons h (ih n)
theorem wip1_comm (σ : En) : ∀ i j : Nat, wip1 (wip1 σ i) j = wip1 (wip1 σ j) i := by
  induction σ with
  | nil => intro i j; rfl
  | cons x r ih =>
    intro i j
    cases i <;> cases j <;> first | rfl | (show _ :: _ = _ :: _; rw [ih])
theorem wips_out (l : List Nat) : ∀ (σ : En) (i : Nat), wips (wip1 σ i) l = wip1 (wips σ l) i := by
  induction l with
  | nil => intro σ i; rfl
  | cons j r ih =>
    intro σ i
    show wips (wip1 (wip1 σ i) j) r = wip1 (wips (wip1 σ j) r) i
    rw [wip1_comm, ih]
theorem Rn.wips {σd : En} {σ : L2.St} (h : Rn K H σd σ) : ∀ l : List Nat, Rn K H (Ev.wips σd l) (wipe σ l)
  | [] => h
  | i :: r => by
    show Rn K H (Ev.wips (wip1 σd i) r) ((wipe σ r).set i none)
    rw [wips_out]
    exact (Rn.wips h r).wip i
theorem Rvs.length {ds : List D} {vs : List V} (h : Rvs K H ds vs) : ds.length = vs.length := by
  induction ds generalizing vs with
  | nil => cases h; rfl
  | cons d r ih =>
    cases h with
    | cons h t => show r.length + 1 = _ + 1; rw [ih t]
theorem Rvs.get {ds : List D} : ∀ {vs : List V} {i : Nat} {d : D}, Rvs K H ds vs → ds[i]? = some d → ∃ v, vs[i]? = some v ∧ Rv K H d v := by
  induction ds with
  | nil => intro vs i d _ e; simp at e
  | cons x r ih =>
    intro vs i d h e
    cases h with
    | cons h t =>
      cases i with
      | zero => simp at e; subst e; exact ⟨_, rfl, h⟩
      | succ n =>
        obtain ⟨v, h1, h2⟩ := ih (i := n) t (by simpa using e)
        exact ⟨v, by simpa using h1, h2⟩
theorem Rvs.append {ds es : List D} : ∀ {vs ws : List V}, Rvs K H ds vs → Rvs K H es ws → Rvs K H (ds ++ es) (vs ++ ws) := by
  induction ds with
  | nil => intro vs ws h q; cases h; exact q
  | cons x r ih => intro vs ws h q; cases h with | cons h t => exact .cons h (ih t q)
theorem Rvs.take {ds : List D} : ∀ {vs : List V} (n : Nat), Rvs K H ds vs → Rvs K H (ds.take n) (vs.take n) := by
  induction ds with
  | nil => intro vs n h; cases h; cases n <;> exact .nil
  | cons x r ih => intro vs n h; cases h with | cons h t => cases n with | zero => exact .nil | succ n => exact .cons h (ih n t)
theorem Rvs.drop {ds : List D} : ∀ {vs : List V} (n : Nat), Rvs K H ds vs → Rvs K H (ds.drop n) (vs.drop n) := by
  induction ds with
  | nil => intro vs n h; cases h; cases n <;> exact .nil
  | cons x r ih => intro vs n h; cases h with | cons h t => cases n with | zero => exact .cons h t | succ n => exact ih n t
theorem Rvs.set {ds : List D} : ∀ {vs : List V} {d : D} {v : V} (n : Nat), Rvs K H ds vs → Rv K H d v → Rvs K H (ds.set n d) (vs.set n v) := by
  induction ds with
  | nil => intro vs d v n h _; cases h; exact .nil
  | cons x r ih => intro vs d v n h q; cases h with | cons h t => cases n with | zero => exact .cons q t | succ n => exact .cons h (ih n t q)
theorem Rvs.eraseIdx {ds : List D} : ∀ {vs : List V} (n : Nat), Rvs K H ds vs → Rvs K H (ds.eraseIdx n) (vs.eraseIdx n) := by
  induction ds with
  | nil => intro vs n h; cases h; exact .nil
  | cons x r ih => intro vs n h; cases h with | cons h t => cases n with | zero => exact t | succ n => exact .cons h (ih n t)
theorem Rvs.reverse {ds : List D} : ∀ {vs : List V}, Rvs K H ds vs → Rvs K H ds.reverse vs.reverse := by
  induction ds with
  | nil => intro vs h; cases h; exact .nil
  | cons x r ih =>
    intro vs h
    cases h with
    | cons h t =>
      rw [List.reverse_cons, List.reverse_cons]
      exact (ih t).append (.cons h .nil)
theorem Rvs.dropLast {ds : List D} {vs : List V} (h : Rvs K H ds vs) : Rvs K H ds.dropLast vs.dropLast := by
  rw [List.dropLast_eq_take, List.dropLast_eq_take, h.length]
  exact h.take _
theorem Rvs.nil_iff {ds : List D} {vs : List V} (h : Rvs K H ds vs) : ds.isEmpty = vs.isEmpty := by
  cases h <;> rfl

theorem RO.ext {o : Ob} (x : Ext H H') (hl : ∀ u, H a = some u → H' a = some u) (h : RO K H a o) : RO K H' a o := by
  cases o with
  | lst ds =>
    obtain ⟨xs, h1, h2⟩ := h
    exact ⟨xs, hl _ h1, Rvs.ext x h2⟩
  | ins y fs =>
    obtain ⟨cls, dx, fv, h1, h2, h3⟩ := h
    exact ⟨cls, dx, fv, h1, hl _ h2, Paired.mono (fun p q z => ⟨z.1, Rv.ext x z.2⟩) h3⟩
theorem RO.some {o : Ob} (h : RO K H a o) : ∃ u, H a = some u := by
  cases o with
  | lst ds =>
    obtain ⟨xs, h1, h2⟩ := h
    exact ⟨_, h1⟩
  | ins y fs =>
    obtain ⟨cls, dx, fv, h1, h2, h3⟩ := h
    exact ⟨_, h2⟩
theorem RS.none (r : RS K H S) (h : H p = Option.none) : S p = Option.none := by
  cases e : S p with
  | none => rfl
  | some o =>
    obtain ⟨u, h1⟩ := (r p _ e).some
    rw [h] at h1; cases h1
/-- any new object -/
theorem RS.new {o : HO} (r : RS K H S) (h : H p = Option.none) : RS K (upd H p o) S := fun a ob e =>
  (r a ob e).ext (Ext.new h) fun u q => by rw [upd_ne (ne_of_none q h)]; exact q
/-- a new list -/
theorem RS.newL {xs : List V} {ds : List D} (r : RS K H S) (h : H p = Option.none) (q : Rvs K H ds xs) : RS K (upd H p (.lst xs)) (put S p (.lst ds)) := fun a ob e => by
  by_cases ha : a = p
  · subst ha
    rw [put_same] at e; cases e
    exact ⟨xs, upd_same, Rvs.ext (Ext.new h) q⟩
  · rw [put_ne ha] at e
    exact r.new h a ob e
/-- a list is written -/
theorem RS.write {xs ys : List V} {ds es : List D} (r : RS K H S) (h : H p = some (.lst ys)) (hs : S p = some (.lst es)) (q : Rvs K H ds xs) : RS K (upd H p (.lst xs)) (put S p (.lst ds)) := fun a ob e => by
  by_cases ha : a = p
  · subst ha
    rw [put_same] at e; cases e
    exact ⟨xs, upd_same, Rvs.ext (Ext.lst h) q⟩
  · rw [put_ne ha] at e
    exact (r a ob e).ext (Ext.lst h) fun u q => by rw [upd_ne ha]; exact q
theorem Ext.ins {C dx : Addr} {fs : List (Str × V)} {o : HO} (h : H p = some (.ins C dx fs)) : Ext H (upd H p o) :=
  ⟨fun a ys e => by rw [upd_ne (ne_of e h (by intro z; cases z))]; exact e, fun a o u e => by rw [upd_ne (ne_of e h (by intro z; cases z))]; exact e⟩
/-- a new instance -/
theorem RS.newI {cls dx : Addr} {x : Str} (r : RS K H S) (hn : PySem.W.nsIn K mainGlobals x = some (some (.ref cls))) (h : H p = Option.none) (hd : H dx = Option.none) (hne : dx ≠ p) :
    RS K (upd (upd H dx (.own p)) p (.ins cls dx [])) (put S p (.ins x [])) := fun a ob e => by
  by_cases ha : a = p
  · subst ha
    rw [put_same] at e; cases e
    exact ⟨cls, dx, [], hn, upd_same, .nil⟩
  · rw [put_ne ha] at e
    have e1 : Ext H (upd H dx (.own p)) := Ext.new hd
    have h2 : upd H dx (.own p) p = Option.none := by rw [upd_ne (Ne.symm hne)]; exact h
    exact (r a ob e).ext (e1.trans (Ext.new h2)) fun u q => by rw [upd_ne ha, upd_ne (ne_of_none q hd)]; exact q
theorem Ext.newI {cls dx : Addr} (h : H p = Option.none) (hd : H dx = Option.none) (hne : dx ≠ p) : Ext H (upd (upd H dx (.own p)) p (.ins cls dx [])) := by
  have h2 : upd H dx (.own p) p = Option.none := by rw [upd_ne (Ne.symm hne)]; exact h
  exact (Ext.new hd).trans (Ext.new h2)
/-- an attribute is written -/
theorem RS.writeI {cls dx : Addr} {x : Str} {fs : List (Str × D)} {fv : List (Str × V)} (r : RS K H S) (hn : PySem.W.nsIn K mainGlobals x = some (some (.ref cls))) (h : H p = some (.ins cls dx fv))
    (q : Paired (fun (p : Str × D) (q : Str × V) => p.1 = q.1 ∧ Rv K H p.2 q.2) fs fv) : RS K (upd H p (.ins cls dx fv)) (put S p (.ins x fs)) := fun a ob e => by
  by_cases ha : a = p
  · subst ha
    rw [put_same] at e; cases e
    exact ⟨cls, dx, fv, hn, upd_same, Paired.mono (fun p q z => ⟨z.1, Rv.ext (Ext.ins h) z.2⟩) q⟩
  · rw [put_ne ha] at e
    exact (r a ob e).ext (Ext.ins h) fun u q => by rw [upd_ne ha]; exact q
theorem RS.writeI2 {cls dx : Addr} {x : Str} {fs : List (Str × D)} {fv fw : List (Str × V)} (r : RS K H S) (hn : PySem.W.nsIn K mainGlobals x = some (some (.ref cls))) (h : H p = some (.ins cls dx fw))
    (q : Paired (fun (p : Str × D) (q : Str × V) => p.1 = q.1 ∧ Rv K H p.2 q.2) fs fv) : RS K (upd H p (.ins cls dx fv)) (put S p (.ins x fs)) := fun a ob e => by
  by_cases ha : a = p
  · subst ha
    rw [put_same] at e; cases e
    exact ⟨cls, dx, fv, hn, upd_same, Paired.mono (fun p q z => ⟨z.1, Rv.ext (Ext.ins h) z.2⟩) q⟩
  · rw [put_ne ha] at e
    exact (r a ob e).ext (Ext.ins h) fun u q => by rw [upd_ne ha]; exact q
theorem put_rel {R : Str × D → Str × V → Prop} {f : Str} {d : D} {v : V} (hR : ∀ x y, R x y → x.1 = y.1) (hf : ∀ g, R (g, d) (g, v)) : ∀ {fs : List (Str × D)} {fv : List (Str × V)}, Paired R fs fv → Paired R (putD f d fs) (putF f v fv)
  | [], _, .nil => .cons (hf f) .nil
  | (g, x) :: r, _ :: t, .cons h1 h2 => by
    have e := hR _ _ h1
    rename_i y
    obtain ⟨g2, y⟩ := y
    have e : g = g2 := e
    subst e
    unfold putD putF
    split
    · exact .cons (hf g) h2
    · exact .cons h1 (put_rel hR hf h2)
theorem look_rel {f : Str} {d : D} : ∀ {fs : List (Str × D)} {fv : List (Str × V)}, Paired (fun (p : Str × D) (q : Str × V) => p.1 = q.1 ∧ Rv K H p.2 q.2) fs fv → fs.lookup f = some d → ∃ v, fv.lookup f = some v ∧ Rv K H d v
  | [], _, .nil, h => by cases h
  | (g, x) :: r, (g2, y) :: t, .cons h1 h2, h => by
    have e : g = g2 := h1.1
    subst e
    rw [List.lookup_cons] at h ⊢
    split at h
    · cases h
      exact ⟨y, rfl, h1.2⟩
    · exact look_rel h2 h
theorem look_none {f : Str} : ∀ {fs : List (Str × D)} {fv : List (Str × V)}, Paired (fun (p : Str × D) (q : Str × V) => p.1 = q.1 ∧ Rv K H p.2 q.2) fs fv → fs.lookup f = Option.none → fv.lookup f = Option.none
  | [], _, .nil, h => rfl
  | (g, x) :: r, (g2, y) :: t, .cons h1 h2, h => by
    have e : g = g2 := h1.1
    subst e
    rw [List.lookup_cons] at h ⊢
    split at h
    · cases h
    · exact look_none h2 h
theorem RS.iget (r : RS K H S) {x : Str} {fs : List (Str × D)} (h : iget S a = some (x, fs)) : ∃ cls dx fv, PySem.W.nsIn K mainGlobals x = some (some (.ref cls)) ∧ H a = some (.ins cls dx fv) ∧ Paired (fun (p : Str × D) (q : Str × V) => p.1 = q.1 ∧ Rv K H p.2 q.2) fs fv := by
  unfold Ev.iget at h
  cases e : S a with
  | none => rw [e] at h; cases h
  | some o =>
    rw [e] at h
    cases o with
    | lst ds => cases h
    | ins y gs =>
      cases h
      exact r a _ e
theorem RS.lget (r : RS K H S) {xs : List D} (h : lget S a = some xs) : ∃ vs, SqL K H a vs ∧ Rvs K H xs vs := by
  unfold Ev.lget at h
  cases e : S a with
  | none => rw [e] at h; cases h
  | some o =>
    rw [e] at h
    cases o with
    | lst ds =>
      cases h
      obtain ⟨vs, h1, h2⟩ := r a _ e
      exact ⟨vs, .of h1, h2⟩
    | ins y gs => cases h
theorem RS.sget (r : RS K H S) {x : D} {v : V} {xs : List D} (rv : Rv K H x v) (h : sget S x = some xs) : ∃ a vs, v = .ref a ∧ (SqL K H a vs ∨ SqT K H a vs) ∧ Rvs K H xs vs := by
  cases rv with
  | ref a =>
    obtain ⟨vs, h1, h2⟩ := r.lget h
    exact ⟨a, vs, rfl, .inl h1, h2⟩
  | tup h1 h2 =>
    cases h
    exact ⟨_, _, rfl, .inr h1, h2⟩
  | rol h1 h2 =>
    cases h
    exact ⟨_, _, rfl, .inl h1.l, h2⟩
  | _ => cases h
end

/-! ### the wish about exceptions -/
def RX (K : PySem.W.Frag) (mg : Str → Option Value) (H : Hp) (x : Exn) (c : Value) (d : Option Addr) : Prop :=
  mg x.cls = some c ∧ match d with
    | none => x.fs = []
    | some p => x.fs ≠ [] ∧ ∃ fv, H p = some (.xd fv) ∧ Paired (fun (a : Str × D) (b : Str × V) => a.1 = b.1 ∧ Rv K H a.2 b.2) x.fs fv
def XP (X : Cx) (W : WX) (E : XS) (σ : L2.St) (H : Hp) : Prop := ∀ c d H' x S', Ext H H' → RX X.K X.mg H' x c d → RS X.K H' S' → E x S' → W c d σ H'
theorem XP.ext {X : Cx} {W : WX} {E : XS} {σ : L2.St} {H H' : Hp} (x : Ext H H') (h : XP X W E σ H) : XP X W E σ H' := fun c d H2 y S' e => h c d H2 y S' (x.trans e)

/-! ### lifted transformers -/
abbrev FE := XS → En → Sto → DK → Prop
def LE (X : Cx) (W : WX) (f : FE) : TE := fun σ H Q => ∃ (σd : En) (S : Sto) (Qd : DK) (E : XS), Rn X.K H σd σ ∧ RS X.K H S ∧ f E σd S Qd ∧
  (∀ v H' d S', Ext H H' → Rv X.K H' d v → RS X.K H' S' → Qd d S' → Q v H') ∧ XP X W E σ H
def LT (X : Cx) (W : WX) (f : XS → En → Sto → (Bool → Sto → Prop) → Prop) : TT := fun σ H Q => ∃ (σd : En) (S : Sto) (Qd : Bool → Sto → Prop) (E : XS), Rn X.K H σd σ ∧ RS X.K H S ∧ f E σd S Qd ∧
  (∀ b H' S', Ext H H' → RS X.K H' S' → Qd b S' → Q b H') ∧ XP X W E σ H
def LA (X : Cx) (W : WX) (n : Nat) (f : XS → En → Sto → (List D → Sto → Prop) → Prop) : TA := fun σ H Q => ∃ (σd : En) (S : Sto) (Qd : List D → Sto → Prop) (E : XS), Rn X.K H σd σ ∧ RS X.K H S ∧ f E σd S Qd ∧
  (∀ vs H' ds S', Ext H H' → vs.length = n → Rvs X.K H' ds vs → RS X.K H' S' → Qd ds S' → Q vs H') ∧ XP X W E σ H
def LO (X : Cx) (W : WX) (f : XS → En → Sto → (Option Int → Sto → Prop) → Prop) : TO := fun σ H Q => ∃ (σd : En) (S : Sto) (Qd : Option Int → Sto → Prop) (E : XS), Rn X.K H σd σ ∧ RS X.K H S ∧ f E σd S Qd ∧
  (∀ o H' S', Ext H H' → RS X.K H' S' → Qd o S' → Q o H') ∧ XP X W E σ H
/-- weaker readings -/
theorem _root_.L2.PE.imp {X : Cx} {e : Expr} {t t' : TE} (h : PE X e t) (i : ∀ σ H Q, t' σ H Q → t σ H Q) : PE X e t' := ⟨fun pins s σ H Q I q => h.run pins s σ H Q I (i _ _ _ q)⟩
theorem _root_.L2.PT.imp {X : Cx} {e : Expr} {t t' : TT} (h : PT X e t) (i : ∀ σ H Q, t' σ H Q → t σ H Q) : PT X e t' := ⟨fun pins s σ H Q I q => h.run pins s σ H Q I (i _ _ _ q)⟩
theorem _root_.L2.PW.imp {X : Cx} {e : Expr} {t t' : TT} (h : PW X e t) (i : ∀ σ H Q, t' σ H Q → t σ H Q) : PW X e t' := ⟨fun wh pins s σ H Q I q => h.run wh pins s σ H Q I (i _ _ _ q)⟩
theorem _root_.L2.PA.imp {X : Cx} {e : List Expr} {t t' : TA} (h : PA X e t) (i : ∀ σ H Q, t' σ H Q → t σ H Q) : PA X e t' := ⟨fun pos pins s σ H Q I q => h.run pos pins s σ H Q I (i _ _ _ q)⟩
theorem _root_.L2.PO.imp {X : Cx} {e : Option Expr} {t t' : TO} (h : PO X e t) (i : ∀ σ H Q, t' σ H Q → t σ H Q) : PO X e t' := ⟨fun pins s σ H Q I q => h.run pins s σ H Q I (i _ _ _ q)⟩
theorem _root_.L2.PS.imp {X : Cx} {e : Stmt} {t t' : TS} (h : PS X e t) (i : ∀ D σ H, t' D σ H → t D σ H) : PS X e t' := ⟨fun pins s σ H D I q => h.run pins s σ H D I (i _ _ _ q)⟩
theorem _root_.L2.PSs.imp {X : Cx} {e : List Stmt} {t t' : TS} (h : PSs X e t) (i : ∀ D σ H, t' D σ H → t D σ H) : PSs X e t' := ⟨fun pins s σ H D I q => h.run pins s σ H D I (i _ _ _ q)⟩

/-! ### operations -/
section
variable {K : PySem.W.Frag} {H : Hp} {S : Sto}
theorem tru_rel (r : RS K H S) {x : D} {v : V} (rv : Rv K H x v) {Q : Bool → Prop} (h : truS x S Q) : ∃ k, TruV K v H k ∧ Q k := by
  cases rv with
  | non => exact ⟨false, rfl, h⟩
  | bl b => exact ⟨b, rfl, h⟩
  | int i => exact ⟨_, rfl, h⟩
  | str y => exact ⟨_, ⟨h.1, rfl⟩, h.2⟩
  | tup h1 h2 =>
    have h : Q _ := h
    rw [h2.nil_iff] at h
    exact ⟨_, .inr (.inl ⟨_, h1, rfl⟩), h⟩
  | rol h1 h2 =>
    have h : Q _ := h
    rw [h2.nil_iff] at h
    exact ⟨_, .inl ⟨_, h1.l, rfl⟩, h⟩
  | ref a =>
    have h : (match lget S a with | some xs => Q (!xs.isEmpty) | none => False) := h
    split at h
    · rename_i xs e
      obtain ⟨vs, h1, h2⟩ := r.lget e
      rw [h2.nil_iff] at h
      exact ⟨_, .inl ⟨vs, h1, rfl⟩, h⟩
    · exact h.elim
mutual
theorem pd_rel (r : RS K H S) : ∀ {x : D} {v : V} {p : PyData}, Pd S x p → Rv K H x v → Dp K H v p
  | _, _, _, .non, rv => by cases rv; exact .non
  | _, _, _, .bl b, rv => by cases rv; exact .bl b
  | _, _, _, .int b, rv => by cases rv; exact .int b
  | _, _, _, .str b, rv => by cases rv; exact .str b
  | _, _, _, .tup h, rv => by cases rv with | tup h1 h2 => exact .tup h1 (pds_rel r h h2)
  | _, _, _, .rol h, rv => by cases rv with | rol h1 h2 => exact .lst h1.l (pds_rel r h h2)
  | _, _, _, .ref l h, rv => by
    cases rv with
    | ref a =>
      obtain ⟨vs, h1, h2⟩ := r.lget l
      exact .lst h1 (pds_rel r h h2)
theorem pds_rel (r : RS K H S) : ∀ {x : List D} {v : List V} {p : List PyData}, Pds S x p → Rvs K H x v → DpAll K H v p
  | _, _, _, .nil, rv => by cases rv; exact .nil
  | _, _, _, .cons h t, rv => by cases rv with | cons h1 h2 => exact .cons (pd_rel r h h1) (pds_rel r t h2)
end
end

section
variable {X : Cx} {pins : List (Addr × Obj)} {σ : L2.St} {H : Hp} {s : Shared} {S : Sto} {v w : V} {vv ww : Value} {x y : D}
/-- a comparison by values -/
def CmpOk (X : Cx) (op : CmpOp) : Prop := ∀ (pins : List (Addr × Obj)) (s : Shared) (σ : L2.St) (H : Hp) (S : Sto) (x y : D) (v w : V) (vv ww : Value) (Qd : Bool → Prop) (Q : VK),
  Inv X pins σ H s → RS X.K H S → Rv X.K H x v → Rv X.K H y w → RelV v vv → RelV w ww → cmpS op x y S Qd → (∀ k, Qd k → Q (.bl k) H) → wpAny (model X.prog X.w) X.A (compareOp op vv ww) (EP X pins σ Q) X.xe s
theorem eqG_ok (hu : X.A.units + 64 < cLine) (neg : Bool) {Qd : Bool → Prop} {Q : VK} (I : Inv X pins σ H s) (r : RS X.K H S) (rx : Rv X.K H x v) (ry : Rv X.K H y w) (rv : RelV v vv) (rw_ : RelV w ww)
    (h : eqG x y S Qd) (q : ∀ k, Qd k → Q (.bl (if neg then !k else k)) H) : wpAny (model X.prog X.w) X.A (compareOp (if neg then .NotEq else .Eq) vv ww) (EP X pins σ Q) X.xe s := by
  obtain ⟨d, e, hd, he, sd, se, hq⟩ := h
  cases neg with
  | false => exact op_eqD hu pins s σ H v w vv ww Q I rv rw_ ⟨d, e, pd_rel r hd rx, pd_rel r he ry, sd, se, q _ hq⟩
  | true => exact op_neD hu pins s σ H v w vv ww Q I rv rw_ ⟨d, e, pd_rel r hd rx, pd_rel r he ry, sd, se, q _ hq⟩
theorem cmp_eq (hu : X.A.units + 64 < cLine) : CmpOk X .Eq := by
  intro pins s σ H S x y v w vv ww Qd Q I r rx ry rv rw_ h q
  have gen : eqG x y S Qd → wpAny (model X.prog X.w) X.A (compareOp .Eq vv ww) (EP X pins σ Q) X.xe s := fun g => eqG_ok hu false I r rx ry rv rw_ g q
  have h : eqS x y S Qd := h
  cases x with
  | int i =>
    cases y with
    | int j =>
      cases rx; cases ry
      exact op_eq pins s σ H _ _ vv ww Q I rv rw_ ⟨rfl, by rw [dec_int, Bool.beq_eq_decide_eq]; exact q _ h⟩
    | _ => exact gen h
  | str i =>
    cases y with
    | str j =>
      cases rx; cases ry
      exact op_eq pins s σ H _ _ vv ww Q I rv rw_ ⟨rfl, by rw [dec_str, Bool.beq_eq_decide_eq]; exact q _ h⟩
    | _ => exact gen h
  | _ => exact gen h
theorem cmp_ne (hu : X.A.units + 64 < cLine) : CmpOk X .NotEq := by
  intro pins s σ H S x y v w vv ww Qd Q I r rx ry rv rw_ h q
  have gen : eqG x y S (fun k => Qd (!k)) → wpAny (model X.prog X.w) X.A (compareOp .NotEq vv ww) (EP X pins σ Q) X.xe s := fun g => eqG_ok hu true I r rx ry rv rw_ g fun k hk => q _ hk
  have h : eqS x y S (fun k => Qd (!k)) := h
  cases x with
  | int i =>
    cases y with
    | int j =>
      cases rx; cases ry
      exact op_ne pins s σ H _ _ vv ww Q I rv rw_ ⟨rfl, by rw [dec_int, Bool.beq_eq_decide_eq]; exact q _ h⟩
    | _ => exact gen h
  | str i =>
    cases y with
    | str j =>
      cases rx; cases ry
      exact op_ne pins s σ H _ _ vv ww Q I rv rw_ ⟨rfl, by rw [dec_str, Bool.beq_eq_decide_eq]; exact q _ h⟩
    | _ => exact gen h
  | _ => exact gen h
theorem fl_rel {K : PySem.W.Frag} {H : Hp} {d : D} {v : V} (r : Rv K H d v) (h : flD d = true) : v = toV d ∧ flatV v = true := by
  cases r <;> first | exact ⟨rfl, rfl⟩ | cases h
theorem fls_rel {K : PySem.W.Frag} {H : Hp} : ∀ {ds : List D} {vs : List V}, Rvs K H ds vs → ds.all flD = true → vs = ds.map toV ∧ vs.all flatV = true
  | _, _, .nil, _ => ⟨rfl, rfl⟩
  | d :: ds, v :: vs, .cons r t, h => by
    rw [List.all_cons, Bool.and_eq_true] at h
    obtain ⟨e1, f1⟩ := fl_rel r h.1
    obtain ⟨e2, f2⟩ := fls_rel t h.2
    refine ⟨by rw [e1, e2, List.map_cons], ?_⟩
    rw [List.all_cons, f1, f2]
    rfl
theorem inL_rel {x : D} {xs : List D} : inV (toV x) (xs.map toV) = inL x xs := by
  unfold inV inL
  rw [List.any_map]
  rfl
theorem in_rel {K : PySem.W.Frag} {H : Hp} {S : Sto} {x y : D} {v w : V} {Q : Bool → Prop} (r : RS K H S) (rx : Rv K H x v) (ry : Rv K H y w) (h : inS x y S Q) :
    (∃ i j, x = .str i ∧ y = .str j ∧ Q (!(Builtin.Str.occurrences j i 0 j.length 1).isEmpty)) ∨ ∃ p xs ds, w = .ref p ∧ (SqL K H p xs ∨ SqT K H p xs) ∧ flatV v = true ∧ xs.all flatV = true ∧ inV v xs = inL x ds ∧ Q (inL x ds) := by
  have seq : ∀ ds, sget S y = some ds → flD x = true → ds.all flD = true → Q (inL x ds) → ∃ p xs ds, w = .ref p ∧ (SqL K H p xs ∨ SqT K H p xs) ∧ flatV v = true ∧ xs.all flatV = true ∧ inV v xs = inL x ds ∧ Q (inL x ds) := by
    intro ds e h1 h2 h3
    obtain ⟨e1, f1⟩ := fl_rel rx h1
    obtain ⟨p, xs, ew, hq, rv⟩ := r.sget ry e
    obtain ⟨e2, f2⟩ := fls_rel rv h2
    exact ⟨p, xs, ds, ew, hq, f1, f2, by rw [e1, e2, inL_rel], h3⟩
  unfold inS at h
  split at h
  · split at h
    · exact .inl ⟨_, _, rfl, rfl, h⟩
    · exact h.elim
  · split at h
    · rename_i e
      exact .inr (seq _ e h.1 h.2.1 h.2.2)
    · exact h.elim
theorem cmp_ok (hu : X.A.units + 64 < cLine) : ∀ op, CmpOk X op
  | .Eq => cmp_eq hu
  | .NotEq => cmp_ne hu
  | .Lt => by
    intro pins s σ H S x y v w vv ww Qd Q I r rx ry rv rw_ h q
    simp only [cmpS] at h
    split at h
    · cases rx; cases ry
      exact op_lt pins s σ H _ _ vv ww Q I rv rw_ ⟨_, _, rfl, rfl, q _ h⟩
    · exact h.elim
  | .LtE => by
    intro pins s σ H S x y v w vv ww Qd Q I r rx ry rv rw_ h q
    simp only [cmpS] at h
    split at h
    · cases rx; cases ry
      exact op_le pins s σ H _ _ vv ww Q I rv rw_ ⟨_, _, rfl, rfl, q _ h⟩
    · exact h.elim
  | .Gt => by
    intro pins s σ H S x y v w vv ww Qd Q I r rx ry rv rw_ h q
    simp only [cmpS] at h
    split at h
    · cases rx; cases ry
      exact op_gt pins s σ H _ _ vv ww Q I rv rw_ ⟨_, _, rfl, rfl, q _ h⟩
    · exact h.elim
  | .GtE => by
    intro pins s σ H S x y v w vv ww Qd Q I r rx ry rv rw_ h q
    simp only [cmpS] at h
    split at h
    · cases rx; cases ry
      exact op_ge pins s σ H _ _ vv ww Q I rv rw_ ⟨_, _, rfl, rfl, q _ h⟩
    · exact h.elim
  | .Is => by
    intro pins s σ H S x y v w vv ww Qd Q I r rx ry rv rw_ h q
    cases y with
    | non =>
      cases ry
      refine op_isN pins s σ H _ _ vv ww Q I rv rw_ ⟨rfl, ?_⟩
      cases rx <;> exact q _ h
    | bl b =>
      cases ry
      simp only [cmpS] at h
      split at h
      · cases rx
        exact op_isBl pins s σ H _ _ vv ww Q I rv rw_ ⟨_, _, rfl, rfl, q _ h⟩
      · exact h.elim
    | _ => exact False.elim h
  | .IsNot => by
    intro pins s σ H S x y v w vv ww Qd Q I r rx ry rv rw_ h q
    cases y with
    | non =>
      cases ry
      refine op_notN pins s σ H _ _ vv ww Q I rv rw_ ⟨rfl, ?_⟩
      cases rx <;> exact q _ h
    | bl b =>
      cases ry
      simp only [cmpS] at h
      split at h
      · cases rx
        exact op_notBl pins s σ H _ _ vv ww Q I rv rw_ ⟨_, _, rfl, rfl, q _ h⟩
      · exact h.elim
    | _ => exact False.elim h
  | .In => by
    intro pins s σ H S x y v w vv ww Qd Q I r rx ry rv rw_ h q
    have h : inS x y S Qd := h
    rcases in_rel r rx ry h with ⟨i, j, rfl, rfl, h⟩ | ⟨p, xs, ds, ew, hq, f1, f2, e, h⟩
    · cases rx; cases ry
      exact op_in_str pins s σ H _ _ vv ww Q I rv rw_ ⟨_, _, rfl, rfl, q _ h⟩
    · exact op_in_seq pins s σ H _ _ vv ww Q I rv rw_ ⟨p, xs, ew, hq, f1, f2, by rw [e]; exact q _ h⟩
  | .NotIn => by
    intro pins s σ H S x y v w vv ww Qd Q I r rx ry rv rw_ h q
    have h : inS x y S (fun k => Qd (!k)) := h
    rcases in_rel r rx ry h with ⟨i, j, rfl, rfl, h⟩ | ⟨p, xs, ds, ew, hq, f1, f2, e, h⟩
    · cases rx; cases ry
      exact op_notin_str pins s σ H _ _ vv ww Q I rv rw_ ⟨_, _, rfl, rfl, q _ h⟩
    · exact op_notIn_seq pins s σ H _ _ vv ww Q I rv rw_ ⟨p, xs, ew, hq, f1, f2, by rw [e]; exact q _ h⟩
end
end Ev

/-! The operations of the evaluator are the machine's. -/
namespace Ev
open PySem PySem.Spec PyProof.Rows L2
/-- what is wanted of a value -/
def Post (K : PySem.W.Frag) (H : Hp) (Qd : DK) (Q : VK) : Prop := ∀ v H' d S', Ext H H' → Rv K H' d v → RS K H' S' → Qd d S' → Q v H'
theorem Post.now {K : PySem.W.Frag} {H : Hp} {Qd : DK} {Q : VK} {S : Sto} {d : D} {v : V} (p : Post K H Qd Q) (r : RS K H S) (rv : Rv K H d v) (h : Qd d S) : Q v H := p v H d S (Ext.refl H) rv r h
/-- a fresh tuple -/
theorem Post.tup {K : PySem.W.Frag} {H : Hp} {Qd : DK} {Q : VK} {S : Sto} {ds : List D} {xs : List V} (p : Post K H Qd Q) (r : RS K H S) (q : Rvs K H ds xs) (h : Qd (.tup ds) S) : ∀ a, H a = none → Q (.ref a) (upd H a (.tup xs)) := fun a na =>
  p _ _ (.tup ds) S (Ext.new na) (.tup (.of upd_same) (Rvs.ext (Ext.new na) q)) (r.new na) h
/-- a fresh list -/
theorem Post.lst {K : PySem.W.Frag} {H : Hp} {Qd : DK} {Q : VK} {S : Sto} {ds : List D} {xs : List V} (p : Post K H Qd Q) (r : RS K H S) (q : Rvs K H ds xs) (h : ∀ c, S c = none → Qd (.ref c) (put S c (.lst ds))) : ∀ a, H a = none → Q (.ref a) (upd H a (.lst xs)) := fun a na =>
  p _ _ (.ref a) (put S a (.lst ds)) (Ext.new na) (.ref a) (r.newL na q) (h a (r.none na))
theorem cut_rel {K : PySem.W.Frag} {H : Hp} {ds : List D} {xs : List V} (h : Rvs K H ds xs) (lo hi : Option Int) : Rvs K H (cutD ds lo hi) (cutV xs lo hi) := by
  unfold cutD cutV
  rw [h.length]
  exact (h.drop _).take _
theorem cut_all {xs : List V} {lo hi : Option Int} (h : HT.sIx xs.length 0 lo = 0 ∧ HT.sIx xs.length xs.length hi = xs.length) : cutV xs lo hi = xs := by
  unfold cutV
  rw [h.1, h.2]
  show List.take (xs.length - 0) (xs.drop 0) = xs
  rw [List.drop_zero, Nat.sub_zero, List.take_length]
theorem Rvs.rep {K : PySem.W.Frag} {H : Hp} {ds : List D} {xs : List V} (h : Rvs K H ds xs) : ∀ n : Nat, Rvs K H (List.replicate n ds).flatten (List.replicate n xs).flatten
  | 0 => .nil
  | n + 1 => by
    rw [List.replicate_succ, List.replicate_succ, List.flatten_cons, List.flatten_cons]
    exact h.append (Rvs.rep h n)
section
variable {X : Cx}

/-! ### operators -/
def RB (K : PySem.W.Frag) (PY : Prop) (op : Operator) : R2 := fun v w H Q => ∃ x y S Qd, RS K H S ∧ Rv K H x v ∧ Rv K H y w ∧ binS PY op x y S Qd ∧ Post K H Qd Q
theorem bin_ok {PY : Prop} (py : PY → ∀ pins σ H s, Inv X pins σ H s → PylongRoom (model X.prog X.w) X.A s) : ∀ op, OpR X (binaryOp op) (RB X.K PY op)
  | .Add => by
    intro pins s σ H v w vv ww Q I rv rw_ h
    obtain ⟨x, y, S, Qd, rs, rx, ry, h, p⟩ := h
    simp only [binS] at h
    split at h
    · cases rx; cases ry
      exact op_add pins s σ H _ _ vv ww Q I rv rw_ ⟨_, _, rfl, rfl, p.now rs (.int _) h⟩
    · cases rx with
      | tup h1 q1 =>
        cases ry with
        | tup h2 q2 =>
          obtain ⟨hz, h⟩ := h
          refine op_catA pins s σ H _ _ vv ww Q I rv rw_ ⟨_, _, _, _, rfl, rfl, h1, h2, by rw [← q1.length, ← q2.length]; exact hz, fun e => ?_, fun _ e => ?_, fun _ _ => p.tup rs (q1.append q2) h⟩
          · subst e
            cases q1
            exact p.now rs (.tup h2 q2) h
          · subst e
            cases q2
            rw [List.append_nil] at h
            exact p.now rs (.tup h1 q1) h
    · cases rx; cases ry
      exact op_add_str pins s σ H _ _ vv ww Q I rv rw_ ⟨_, _, rfl, rfl, h.1, p.now rs (.str _) h.2⟩
    · cases rx; cases ry
      split at h
      · rename_i e1 e2
        obtain ⟨us, u1, u2⟩ := rs _ _ e1
        obtain ⟨ws, w1, w2⟩ := rs _ _ e2
        exact op_cat pins s σ H _ _ vv ww Q I rv rw_ ⟨_, _, _, _, rfl, rfl, u1, w1, by rw [← u2.length, ← w2.length]; exact h.1, p.lst rs (u2.append w2) h.2⟩
      · exact h.elim
    · exact h.elim
  | .Sub => by
    intro pins s σ H v w vv ww Q I rv rw_ h
    obtain ⟨x, y, S, Qd, rs, rx, ry, h, p⟩ := h
    simp only [binS] at h
    split at h
    · cases rx; cases ry
      exact op_sub pins s σ H _ _ vv ww Q I rv rw_ ⟨_, _, rfl, rfl, p.now rs (.int _) h⟩
    · exact h.elim
  | .Mult => by
    intro pins s σ H v w vv ww Q I rv rw_ h
    obtain ⟨x, y, S, Qd, rs, rx, ry, h, p⟩ := h
    simp only [binS] at h
    split at h
    · cases rx; cases ry
      obtain ⟨t, rfl⟩ := rv
      obtain ⟨u, rfl⟩ := rw_
      exact mul_int ⟨.int _, H, I.tok _, ⟨_, rfl⟩, p.now rs (.int _) h.2⟩ h.1
    · cases rx; cases ry
      split at h
      · rename_i xs e1
        obtain ⟨us, u1, u2⟩ := rs _ _ e1
        refine op_rep pins s σ H _ _ vv ww Q I rv rw_ ⟨_, _, us, rfl, rfl, u1, h.1, h.2.1, by rw [← u2.length]; exact h.2.2.1, p.lst rs (u2.rep _) h.2.2.2⟩
      · exact h.elim
    · exact h.elim
  | .FloorDiv => by
    intro pins s σ H v w vv ww Q I rv rw_ h
    obtain ⟨x, y, S, Qd, rs, rx, ry, h, p⟩ := h
    simp only [binS] at h
    split at h
    · cases rx; cases ry
      obtain ⟨t, rfl⟩ := rv
      obtain ⟨u, rfl⟩ := rw_
      obtain ⟨⟨h0, hp⟩, h⟩ := h
      exact floordiv_int h0 ⟨.int _, H, I.tok _, ⟨_, rfl⟩, p.now rs (.int _) h⟩ (hp.imp id fun z => py z pins σ H s I)
    · exact h.elim
  | .Mod => by
    intro pins s σ H v w vv ww Q I rv rw_ h
    obtain ⟨x, y, S, Qd, rs, rx, ry, h, p⟩ := h
    simp only [binS] at h
    split at h
    · cases rx; cases ry
      exact op_modN pins s σ H _ _ vv ww Q I rv rw_ ⟨_, _, rfl, rfl, h.1, p.now rs (.int _) h.2⟩
    · exact h.elim
  | .Pow => by
    intro pins s σ H v w vv ww Q I rv rw_ h
    obtain ⟨x, y, S, Qd, rs, rx, ry, h, p⟩ := h
    simp only [binS] at h
    split at h
    · cases rx; cases ry
      exact op_pow pins s σ H _ _ vv ww Q I rv rw_ ⟨_, _, rfl, rfl, h.1, p.now rs (.int _) h.2⟩
    · exact h.elim
  | .MatMult => fun _ _ _ _ _ _ _ _ _ _ _ _ ⟨_, _, _, _, _, _, _, h, _⟩ => h.elim
  | .Div => fun _ _ _ _ _ _ _ _ _ _ _ _ ⟨_, _, _, _, _, _, _, h, _⟩ => h.elim
  | .LShift => fun _ _ _ _ _ _ _ _ _ _ _ _ ⟨_, _, _, _, _, _, _, h, _⟩ => h.elim
  | .RShift => fun _ _ _ _ _ _ _ _ _ _ _ _ ⟨_, _, _, _, _, _, _, h, _⟩ => h.elim
  | .BitOr => fun _ _ _ _ _ _ _ _ _ _ _ _ ⟨_, _, _, _, _, _, _, h, _⟩ => h.elim
  | .BitXor => fun _ _ _ _ _ _ _ _ _ _ _ _ ⟨_, _, _, _, _, _, _, h, _⟩ => h.elim
  | .BitAnd => fun _ _ _ _ _ _ _ _ _ _ _ _ ⟨_, _, _, _, _, _, _, h, _⟩ => h.elim
/-- a comparison -/
def RC (K : PySem.W.Frag) (op : CmpOp) : R2 := fun v w H Q => ∃ x y S Qd, RS K H S ∧ Rv K H x v ∧ Rv K H y w ∧ cmpS op x y S Qd ∧ ∀ k, Qd k → Q (.bl k) H
theorem cmpR_ok (hu : X.A.units + 64 < cLine) (op : CmpOp) : OpR X (compareOp op) (RC X.K op) := by
  intro pins s σ H v w vv ww Q I rv rw_ h
  obtain ⟨x, y, S, Qd, rs, rx, ry, h, p⟩ := h
  exact cmp_ok hu op pins s σ H S x y v w vv ww Qd Q I rs rx ry rv rw_ h p

/-! ### items, slices -/
theorem atI_rel {K : PySem.W.Frag} {H : Hp} {ds : List D} {xs : List V} (r : Rvs K H ds xs) {n : Int} {d : D} (h : atI ds n = some d) : ∃ v, atI xs n = some v ∧ Rv K H d v := by
  unfold atI at h ⊢
  rw [r.length] at h
  cases e : ixN xs.length n with
  | none => rw [e] at h; cases h
  | some j =>
    rw [e] at h
    exact r.get h
def RI (K : PySem.W.Frag) : R2 := fun v w H Q => ∃ x y S Qd, RS K H S ∧ Rv K H x v ∧ Rv K H y w ∧ idxS x y S Qd ∧ Post K H Qd Q
theorem idx_ok : IxR X (RI X.K) := by
  intro value slice pins s σ H v w vv ww Q I rv rw_ h hs
  obtain ⟨x, y, S, Qd, rs, rx, ry, h, p⟩ := h
  refine ix_seq value slice pins s σ H v w vv ww Q I rv rw_ ?_ hs
  unfold idxS at h
  split at h
  · cases ry
    split at h
    · obtain ⟨hz, h⟩ := h
      split at h
      · rename_i e
        cases rx
        exact .inr (.inr ⟨_, _, _, rfl, rfl, hz, e, p.now rs (.str _) h⟩)
      · exact h.elim
    · split at h
      · rename_i e
        split at h
        · rename_i e2
          obtain ⟨a, vs, rfl, hq, q⟩ := rs.sget rx e
          obtain ⟨u, hu, ru⟩ := atI_rel q e2
          rcases hq with hq | hq
          · exact .inl ⟨_, _, _, _, rfl, rfl, hq, hu, p.now rs ru h⟩
          · exact .inr (.inl ⟨_, _, _, _, rfl, rfl, hq, hu, p.now rs ru h⟩)
        · exact h.elim
      · exact h.elim
  · exact h.elim
def RL (K : PySem.W.Frag) : V → Option Int → Option Int → Hp → VK → Prop := fun v lo hi H Q => ∃ x S Qd, RS K H S ∧ Rv K H x v ∧ slcS x lo hi S Qd ∧ Post K H Qd Q
theorem slc_ok : SlR X (RL X.K) := by
  intro pins s σ H v vv vl vu lo hi sl Q I rv hsl pl pu h
  obtain ⟨x, S, Qd, rs, rx, h, p⟩ := h
  unfold slcS at h
  split at h
  · cases rx with
    | tup h1 q1 =>
      refine sl_tupA pins s σ H _ vv vl vu lo hi sl Q I rv hsl pl pu ⟨_, _, rfl, h1, fun e => ?_, fun _ => p.tup rs (cut_rel q1 lo hi) h⟩
      have z := cut_rel q1 lo hi
      rw [cut_all e] at z
      exact p.now rs (.tup h1 z) h
  · cases rx with
    | rol h1 q1 => exact sl_list pins s σ H _ vv vl vu lo hi sl Q I rv hsl pl pu ⟨_, _, rfl, h1.l, p.lst rs (cut_rel q1 lo hi) h⟩
  · split at h
    · rename_i e
      cases rx
      obtain ⟨vs, h1, h2⟩ := rs.lget e
      exact sl_list pins s σ H _ vv vl vu lo hi sl Q I rv hsl pl pu ⟨_, _, rfl, h1, p.lst rs (cut_rel h2 lo hi) h⟩
    · exact h.elim
  · exact h.elim

/-! ### built-in functions -/
def rLcm : List V → Hp → VK → Prop := fun vs H Q => ∃ a b : Int, vs = [.int a, .int b] ∧ a.natAbs.log2 < 13000 ∧ b.natAbs.log2 < 13000 ∧ Q (.int ((Nat.lcm a.natAbs b.natAbs : Nat) : Int)) H
theorem log2_max_lt {a b k : Nat} (ha : a.log2 < k) (hb : b.log2 < k) : (max a b).log2 < k := by
  rcases Nat.le_total a b with h | h
  · rw [Nat.max_eq_right h]; exact hb
  · rw [Nat.max_eq_left h]; exact ha
theorem lt_of_log2 {a k : Nat} (ha : a.log2 < k) : a < 2 ^ k := by
  by_cases h : a = 0
  · rw [h]; exact Nat.two_pow_pos k
  · exact (Nat.log2_lt h).mp ha
theorem cr_lcm {X : Cx} : CallR X (.builtin "math.lcm") rLcm := by
  intro pins s σ H vs us Q I r h
  obtain ⟨a, b, rfl, ha, hb, q⟩ := h
  obtain ⟨t, u, rfl⟩ := Vals.int2 r
  have e1 : Nat.lcm 1 a.natAbs = a.natAbs := by simp [Nat.lcm]
  have h1 : (max 1 a.natAbs).log2 < 13000 := log2_max_lt (by decide +kernel) ha
  have h2 := log2_max_lt ha hb
  have hl : ((((Nat.lcm 1 a.natAbs).lcm b.natAbs : Nat) : Int)).natAbs.log2 < bitsLine := by
    rw [e1, Int.natAbs_natCast]
    by_cases h0 : a.natAbs.lcm b.natAbs = 0
    · rw [h0]; decide +kernel
    · have h3 : a.natAbs.lcm b.natAbs < 2 ^ 26000 := by
        refine Nat.lt_of_le_of_lt (show a.natAbs.lcm b.natAbs ≤ a.natAbs * b.natAbs from Nat.div_le_self _ _) ?_
        have e : (2 : Nat) ^ 26000 = 2 ^ 13000 * 2 ^ 13000 := by rw [← Nat.pow_add]
        rw [e]
        exact Nat.mul_lt_mul'' (lt_of_log2 ha) (lt_of_log2 hb)
      exact Nat.lt_trans ((Nat.log2_lt h0).mpr h3) (by decide +kernel)
  refine call_function_meets PySem.W.MGF.kind_lcm PySem.W.MGF.plain_lcm PySem.W.MGF.entry_lcm (PySem.W.MGF.args_lcm _ _) (PySem.W.mg_run_lcm a t b u (by omega) (by omega) hl).meets ?_
  rw [e1]
  exact ⟨.int _, H, I.tok _, ⟨_, rfl⟩, q⟩
def RBi (K : PySem.W.Frag) (b : Bi) : List V → Hp → VK → Prop := fun vs H Q => ∃ ds S Qd, RS K H S ∧ Rvs K H ds vs ∧ biS b ds S Qd ∧ Post K H Qd Q
def biV : Bi → Value
  | .len => .builtin "len"
  | .abs => .builtin "abs"
  | .int => .type "int"
  | .min2 => .builtin "min"
  | .max2 => .builtin "max"
  | .tuple => .type "tuple"
  | .list => .type "list"
  | .gcd => .builtin "math.gcd"
  | .lcm => .builtin "math.lcm"
theorem Rvs.one {K : PySem.W.Frag} {H : Hp} {d : D} {vs : List V} (h : Rvs K H [d] vs) : ∃ v, vs = [v] ∧ Rv K H d v := by
  cases h with | cons h t => cases t; exact ⟨_, rfl, h⟩
theorem Rvs.two {K : PySem.W.Frag} {H : Hp} {d e : D} {vs : List V} (h : Rvs K H [d, e] vs) : ∃ v w, vs = [v, w] ∧ Rv K H d v ∧ Rv K H e w := by
  cases h with | cons h t => cases t with | cons h2 t2 => cases t2; exact ⟨_, _, rfl, h, h2⟩
theorem bi_ok (hc : X.calm = true) : ∀ b, CallR X (biV b) (RBi X.K b)
  | .len => by
    intro pins s σ H vs us Q I ru h
    obtain ⟨ds, S, Qd, rs, rd, h, p⟩ := h
    simp only [biS] at h
    split at h
    · obtain ⟨v, rfl, rv⟩ := rd.one
      cases rv
      exact call_len_str pins s σ H _ us Q I ru ⟨_, rfl, h.1, p.now rs (.int _) h.2⟩
    · obtain ⟨v, rfl, rv⟩ := rd.one
      split at h
      · rename_i e
        obtain ⟨a, ws, rfl, hq, q⟩ := rs.sget rv e
        exact call_len_seq pins s σ H _ us Q I ru ⟨_, _, rfl, hq, by rw [← q.length]; exact p.now rs (.int _) h⟩
      · exact h.elim
    · exact h.elim
  | .abs => by
    intro pins s σ H vs us Q I ru h
    obtain ⟨ds, S, Qd, rs, rd, h, p⟩ := h
    simp only [biS] at h
    split at h
    · obtain ⟨v, rfl, rv⟩ := rd.one
      cases rv
      exact call_abs pins s σ H _ us Q I ru ⟨_, rfl, p.now rs (.int _) h⟩
    · exact h.elim
  | .int => by
    intro pins s σ H vs us Q I ru h
    obtain ⟨ds, S, Qd, rs, rd, h, p⟩ := h
    simp only [biS] at h
    split at h
    · obtain ⟨v, rfl, rv⟩ := rd.one
      cases rv
      exact call_int1 pins s σ H _ us Q I ru (.inl ⟨_, rfl, p.now rs (.int _) h⟩)
    · obtain ⟨v, rfl, rv⟩ := rd.one
      cases rv
      exact call_int1 pins s σ H _ us Q I ru (.inr ⟨_, rfl, p.now rs (.int _) h⟩)
    · exact h.elim
  | .min2 => by
    intro pins s σ H vs us Q I ru h
    obtain ⟨ds, S, Qd, rs, rd, h, p⟩ := h
    simp only [biS] at h
    split at h
    · obtain ⟨v, w, rfl, rv, rw_⟩ := rd.two
      cases rv; cases rw_
      exact call_min2 hc pins s σ H _ us Q I ru ⟨_, _, rfl, p.now rs (.int _) h⟩
    · exact h.elim
  | .max2 => by
    intro pins s σ H vs us Q I ru h
    obtain ⟨ds, S, Qd, rs, rd, h, p⟩ := h
    simp only [biS] at h
    split at h
    · obtain ⟨v, w, rfl, rv, rw_⟩ := rd.two
      cases rv; cases rw_
      exact call_max2 hc pins s σ H _ us Q I ru ⟨_, _, rfl, p.now rs (.int _) h⟩
    · exact h.elim
  | .tuple => by
    intro pins s σ H vs us Q I ru h
    obtain ⟨ds, S, Qd, rs, rd, h, p⟩ := h
    simp only [biS] at h
    split at h
    · obtain ⟨v, rfl, rv⟩ := rd.one
      split at h
      · rename_i e
        obtain ⟨a, ws, rfl, hq, q⟩ := rs.sget rv e
        refine call_tuple_of pins s σ H _ us Q I ru ⟨_, ws, rfl, ?_⟩
        rcases hq with hq | hq
        · exact .inl ⟨hq, p.tup rs q h⟩
        · exact .inr ⟨hq, p.now rs (.tup hq q) h⟩
      · exact h.elim
    · exact h.elim
  | .list => by
    intro pins s σ H vs us Q I ru h
    obtain ⟨ds, S, Qd, rs, rd, h, p⟩ := h
    simp only [biS] at h
    split at h
    · obtain ⟨v, rfl, rv⟩ := rd.one
      split at h
      · rename_i e
        obtain ⟨a, ws, rfl, hq, q⟩ := rs.sget rv e
        exact call_list_of pins s σ H _ us Q I ru ⟨_, _, rfl, hq, p.lst rs q h⟩
      · exact h.elim
    · exact h.elim
  | .gcd => by
    intro pins s σ H vs us Q I ru h
    obtain ⟨ds, S, Qd, rs, rd, h, p⟩ := h
    simp only [biS] at h
    split at h
    · obtain ⟨v, w, rfl, rv, rw_⟩ := rd.two
      cases rv; cases rw_
      exact cr_gcd pins s σ H _ us Q I ru ⟨_, _, rfl, p.now rs (.int _) h⟩
    · exact h.elim
  | .lcm => by
    intro pins s σ H vs us Q I ru h
    obtain ⟨ds, S, Qd, rs, rd, h, p⟩ := h
    simp only [biS] at h
    split at h
    · obtain ⟨v, w, rfl, rv, rw_⟩ := rd.two
      cases rv; cases rw_
      obtain ⟨h1, h2, h⟩ := h
      exact cr_lcm pins s σ H _ us Q I ru ⟨_, _, rfl, h1, h2, p.now rs (.int _) h⟩
    · exact h.elim

/-! ### isinstance -/
def tyV1 : Ty → Value
  | .int => .type "int"
  | .bool => .type "bool"
  | .str => .type "str"
  | .tuple => .type "tuple"
  | .list => .type "list"
  | .own _ => .none
theorem sqT_ty {K : PySem.W.Frag} {H : Hp} {a : Addr} {xs : List V} (h : SqT K H a xs) : TyX K H (.ref a) (.type "tuple") := by
  rcases h with (h | ⟨o, h⟩) | ⟨o, its, n, h1, h2, _⟩
  · exact .base (.tup h)
  · exact .fTuple h
  · exact .kTuple h1 h2
theorem sqF_ty {K : PySem.W.Frag} {H : Hp} {a : Addr} {xs : List V} (h : SqF K H a xs) : TyX K H (.ref a) (.type "list") := by
  rcases h with ⟨o, h⟩ | ⟨o, its, n, h1, h2, _⟩
  · exact .base (.frz h)
  · exact .kList h1 h2
/-- the name of data's type -/
def tyD : D → String
  | .non => "NoneType"
  | .bl _ => "bool"
  | .int _ => "int"
  | .str _ => "str"
  | .tup _ => "tuple"
  | .rol _ => "list"
  | .ref _ => "list"
theorem tyD_ok {K : PySem.W.Frag} {H : Hp} {S : Sto} {x : D} {v : V} (rs : RS K H S) (rv : Rv K H x v) (hr : ∀ a, x = .ref a → ∃ xs, lget S a = some xs) : TyX K H v (.type (tyD x)) := by
  cases rv with
  | non => exact .base .non
  | bl b => exact .base (.bl b)
  | int i => exact .base (.int i)
  | str i => exact .base (.str i)
  | tup h t => exact sqT_ty h
  | rol h t => exact sqF_ty h
  | ref a =>
    obtain ⟨xs, e⟩ := hr a rfl
    unfold lget at e
    split at e
    · rename_i e1
      obtain ⟨vs, h1, _⟩ := rs a _ e1
      exact .base (.lst h1)
    · cases e
    · cases e
theorem isT_kit {K : PySem.W.Frag} {S : Sto} {x : D} {t : Ty} {k : Bool} (h : isT S x t = some k) : PySem.W.kitOne K (.type (tyD x)) (tyV1 t) = some k ∧ (∀ a, x = .ref a → ∃ xs, lget S a = some xs) ∧ ∃ n, tyV1 t = .type n := by
  have hr : ∀ {b : Bool} {a : Addr}, (lget S a).map (fun _ => b) = some k → b = k ∧ ∃ xs, lget S a = some xs := fun {b a} e => by
    cases q : lget S a with
    | none => rw [q] at e; cases e
    | some xs => rw [q] at e; exact ⟨Option.some.inj e, xs, rfl⟩
  cases t <;> cases x <;> first
    | (cases h; exact ⟨kit_ty (by dsimp only [tyD]; decide +kernel), (fun _ z => nomatch z), _, rfl⟩)
    | (obtain ⟨e, q⟩ := hr h; subst e; exact ⟨kit_ty (by dsimp only [tyD]; decide +kernel), fun _ z => by cases z; exact q, _, rfl⟩)
    | (cases h; done)
theorem isTs_kit {K : PySem.W.Frag} {S : Sto} {x : D} : ∀ {ts : List Ty} {k : Bool}, isTs S x ts = some k → PySem.W.kitAny K (.type (tyD x)) (ts.map tyV1) = some k ∧ (ts ≠ [] → ∀ a, x = .ref a → ∃ xs, lget S a = some xs)
  | [], k, h => by
    cases h
    exact ⟨kitAny_nil, fun z => absurd rfl z⟩
  | t :: r, k, h => by
    unfold isTs at h
    split at h
    · rename_i e
      cases h
      obtain ⟨e1, e2, _⟩ := isT_kit (K := K) e
      exact ⟨kitAny_cons e1 (fun z => nomatch z) fun _ => rfl, fun _ => e2⟩
    · rename_i e
      obtain ⟨e1, e2, _⟩ := isT_kit (K := K) e
      obtain ⟨q1, q2⟩ := isTs_kit (K := K) h
      exact ⟨kitAny_cons e1 (fun _ => q1) (fun z => nomatch z), fun _ => e2⟩
    · cases h

/-! ### methods of lists -/
def meId : Me → String
  | .append => "list.append"
  | .pop => "list.pop"
  | .popat => "list.pop"
  | .reverse => "list.reverse"
def RM (K : PySem.W.Frag) (m : Me) : V → List V → Hp → VK → Prop := fun v ws H Q => ∃ x ds S Qd, RS K H S ∧ Rv K H x v ∧ Rvs K H ds ws ∧ mthS m x ds S Qd ∧ Post K H Qd Q
theorem Post.write {K : PySem.W.Frag} {H : Hp} {Qd : DK} {Q : VK} {S : Sto} {ds es : List D} {xs ys : List V} {a : Addr} {d : D} {v : V} (p : Post K H Qd Q) (r : RS K H S) (h : H a = some (.lst ys)) (hs : S a = some (.lst es)) (q : Rvs K H ds xs) (rv : Rv K H d v)
    (hq : Qd d (put S a (.lst ds))) : Q v (upd H a (.lst xs)) := p _ _ d _ (Ext.lst h) (Rv.ext (Ext.lst h) rv) (r.write h hs q) hq
theorem mth_ok : ∀ m, MtR X (meId m) (RM X.K m) := by
  intro m pins s σ H v ws vv us Q I rv ru h
  obtain ⟨x, ds, S, Qd, rs, rx, rd, h, p⟩ := h
  unfold mthS at h
  split at h
  · split at h
    · rename_i a xs e
      cases rx
      obtain ⟨vs, h1, h2⟩ := rs _ _ e
      cases m with
      | append =>
        simp only at h
        split at h
        · obtain ⟨u, rfl, ru1⟩ := rd.one
          exact mt_append pins s σ H _ _ vv us Q I rv ru ⟨_, _, _, rfl, rfl, h1, by rw [← h2.length]; exact h.1, p.write rs h1 e (h2.append (.cons ru1 .nil)) .non h.2⟩
        · exact h.elim
      | pop =>
        simp only at h
        split at h
        · cases rd
          split at h
          · rename_i e2
            rw [h2.length] at e2
            obtain ⟨u, hu, ru1⟩ := h2.get e2
            exact mt_pop pins s σ H _ _ vv us Q I rv ru ⟨_, _, _, rfl, rfl, h1, hu, p.write rs h1 e h2.dropLast ru1 h⟩
          · exact h.elim
        · exact h.elim
      | popat =>
        simp only at h
        split at h
        · obtain ⟨u, rfl, ru1⟩ := rd.one
          cases ru1
          obtain ⟨b1, b2, h⟩ := h
          split at h
          · rename_i e2
            split at h
            · rename_i e3
              rw [h2.length] at e2
              obtain ⟨u, hu, ru1⟩ := h2.get e3
              exact mt_popAt pins s σ H _ _ vv us Q I rv ru ⟨_, _, _, _, _, rfl, rfl, h1, b1, b2, e2, hu, p.write rs h1 e (h2.eraseIdx _) ru1 h⟩
            · exact h.elim
          · exact h.elim
        · exact h.elim
      | reverse =>
        simp only at h
        split at h
        · cases rd
          exact mt_reverse pins s σ H _ _ vv us Q I rv ru ⟨_, _, rfl, rfl, h1, p.write rs h1 e h2.reverse .non h⟩
        · exact h.elim
    · exact h.elim
  · exact h.elim
end
end Ev

/-! The check that a form is the form of a piece of the text. -/
namespace Ev
open PySem PySem.Spec PyProof.Rows L2

/-- what is known of a block's names -/
structure Sc where
  N : List Str
  sc : Scope
  stl : List (Str × NameKind)
  fns : List (Str × Nat)
  blt : List Str
  cst : List Str
  gcd : Bool
  lcm : Bool
  cm : Bool
  tp : Bool
  exc : List Str
  exn : List Str
  mks : List (Str × Bool)
  xis : List Str := []
def Sc.vis (A : Sc) (i : Nat) (x : Str) : Bool := decide (A.N[i]? = some x) && (match A.sc.names.lookup x with | some .local => true | some .cell => true | some .free => true | _ => false) && !(x == ("__debug__" : Str)) && !(x == ("__classdict__" : Str))
def Sc.loc (A : Sc) (i : Nat) (x : Str) : Bool := decide (A.N[i]? = some x) && (match A.stl.lookup x with | some .local => true | some .cell => true | _ => false)
def Sc.lcl (A : Sc) (i : Nat) (x : Str) : Bool := decide (A.N[i]? = some x) && (match A.sc.names.lookup x with | some .local => true | _ => false)
def Sc.glb (A : Sc) (x : Str) : Bool := (match A.sc.names.lookup x with | some .globalImplicit => true | _ => false) && !(x == ("__debug__" : Str))
def Sc.bn (A : Sc) (x : Str) : Bool := A.glb x && A.blt.contains x && !(x == ("__name__" : Str))
/-- within a comprehension's block -/
def Sc.inn (A : Sc) (scope : Scope) : Sc := { A with sc := relS scope A.sc, stl := scope.names, tp := false }
def nst : Expr → Bool
  | .Starred .. => false
  | _ => true
def nsl : Expr → Bool
  | .Slice .. => false
  | _ => true
def ncl : Expr → Bool
  | .Call .. => false
  | _ => true
def nset : Expr → Bool
  | .Set .. => false
  | _ => true
/-- an expression whose test is its value's truth -/
def plt : Expr → Bool
  | .UnaryOp .Not .. => false
  | .BoolOp .. => false
  | .IfExp .. => false
  | .Compare .. => false
  | _ => true
def ncomp : Expr → Bool
  | .ListComp .. => false
  | .SetComp .. => false
  | .DictComp .. => false
  | _ => true
def ntup : Expr → Bool
  | .Tuple .. => false
  | .List .. => false
  | _ => true
/-- the names that a swapped store would take -/
def swNames (A : Sc) (ts : List Expr) : List Str := ts.filterMap fun
  | .Name id pos => if A.sc.names.lookup id == some .local && pos.line == (ts.head?.map (·.pos.line)).getD 0 then some id else none
  | _ => none
/-- two tuples written, not all names plain locals -/
def nsw (A : Sc) (xs : List Expr) : Expr → Bool
  | .Tuple _ _ _ => (swNames A xs).length != xs.length
  | _ => false
def biNm : Bi → Str
  | .len => "len"
  | .abs => "abs"
  | .int => "int"
  | .min2 => "min"
  | .max2 => "max"
  | .tuple => "tuple"
  | .list => "list"
  | .gcd => "gcd"
  | .lcm => "lcm"
def tyNm : Ty → Str
  | .int => "int"
  | .bool => "bool"
  | .str => "str"
  | .tuple => "tuple"
  | .list => "list"
  | .own x => x
def meNm : Me → Str
  | .append => "append"
  | .pop => "pop"
  | .popat => "pop"
  | .reverse => "reverse"
def Sc.ty1 (A : Sc) (t : Ty) : Expr → Bool
  | .Name x _ => decide (x = tyNm t) && A.bn x && (match t with | .own _ => false | _ => true)
  | _ => false
def Sc.tys (A : Sc) : List Ty → List Expr → Bool
  | [], [] => true
  | t :: r, e :: es => A.ty1 t e && A.tys r es
  | _, _ => false
/-- classes that are asked of a caught exception -/
def Sc.xn1 (A : Sc) (c : Str) : Expr → Bool
  | .Name x _ => decide (x = c) && A.glb x && A.xis.contains x
  | _ => false
def Sc.xns (A : Sc) : List Str → List Expr → Bool
  | [], [] => true
  | c :: r, e :: es => A.xn1 c e && A.xns r es
  | _, _ => false
def ownOf (N : List Str) (l : List Nat) : List (Str × Nat) := l.map fun i => (N.getD i "", i)

mutual
def chkE (A : Sc) : IE → Expr → Bool
  | .var i, e => (match e with | .Name x _ => A.vis i x | _ => false)
  | .int i, e => (match e with | .Constant (.int j) _ _ => decide (i = j) | _ => false)
  | .bl b, e => (match e with | .Constant (.bool c) _ _ => decide (b = c) | _ => false)
  | .non, e => (match e with | .Constant .none _ _ => true | _ => false)
  | .str x, e => (match e with | .Constant (.str y) _ _ => decide (x = y) | _ => false)
  | .glo x, e => (match e with | .Name y _ => decide (x = y) && A.glb y && A.cst.contains y | _ => false)
  | .tup es, e => (match e with | .Tuple xs _ _ => chkEs A es xs && decide (xs.length ≤ 1000) | _ => false)
  | .lst es, e => (match e with | .List xs _ => chkEs A es xs && decide (xs.length ≤ 1000) | _ => false)
  | .bin op a b, e => (match e with | .BinOp l o r _ => decide (op = o) && chkE A a l && chkE A b r | _ => false)
  | .neg a, e => (match e with | .UnaryOp .USub x _ => chkE A a x | _ => false)
  | .cmp op a b, e => (match e with | .Compare l [o] [r] _ => decide (op = o) && chkE A a l && chkE A b r | _ => false)
  | .chn op op2 a b c, e => (match e with | .Compare l [o, o2] [r, r2] _ => decide (op = o) && decide (op2 = o2) && chkE A a l && chkE A b r && chkE A c r2 | _ => false)
  | .and a b, e => (match e with | .BoolOp .And (x :: y :: r) p => chkE A a x && chkE A b (.BoolOp .And (y :: r) p) | _ => false)
  | .or a b, e => (match e with | .BoolOp .Or (x :: y :: r) p => chkE A a x && chkE A b (.BoolOp .Or (y :: r) p) | _ => false)
  | .one a, e => (match e with | .BoolOp _ [x] _ => chkE A a x | _ => false)
  | .not a, e => (match e with | .UnaryOp .Not x _ => chkE A a x | _ => false)
  | .ifx c a b, e => (match e with | .IfExp t x y _ => chkC A c t && chkE A a x && chkE A b y | _ => false)
  | .idx a i, e => (match e with | .Subscript x s _ => chkE A a x && chkE A i s | _ => false)
  | .slc a lo hi, e => (match e with | .Subscript x (.Slice l h none _) _ => chkE A a x && chkO A lo l && chkO A hi h | _ => false)
  | .call f es, e => (match e with | .Call (.Name x _) args [] _ => decide (x = f) && A.glb x && decide (A.fns.lookup x = some args.length) && A.cm && chkEs A es args | _ => false)
  | .bi b es, e => (match e with | .Call (.Name x _) args [] _ => decide (x = biNm b) && (match b with | .gcd => A.glb x && A.gcd | .lcm => A.glb x && A.lcm | _ => A.bn x) && A.cm && chkEs A es args && !args.isEmpty | _ => false)
  | .isi a ts, e => (match e with
    | .Call (.Name x _) [y, t] [] _ => decide (x = "isinstance") && A.bn x && chkE A a y && (match t with
      | .Tuple xs _ _ => A.tys ts xs && !xs.isEmpty && decide (xs.length ≤ 1000)
      | t => (match ts with | [t1] => A.ty1 t1 t | _ => false))
    | _ => false)
  | .isx a c, e => (match e with
    | .Call (.Name x _) [y, t] [] _ => decide (x = "isinstance") && A.bn x && chkE A a y && A.xn1 c t
    | _ => false)
  | .isxs a cs, e => (match e with
    | .Call (.Name x _) [y, .Tuple xs _ _] [] _ => decide (x = "isinstance") && A.bn x && chkE A a y && A.xns cs xs && decide (xs.length ≤ 1000)
    | _ => false)
  | .mth m o es, e => (match e with | .Call (.Attribute x nm ap) args [] cp => decide (nm = meNm m) && chkE A o x && ncl x && chkEs A es args && decide (args.length < 29) && (ap.endLine == cp.line) | _ => false)
  | .fld o f, e => (match e with | .Attribute x nm _ => decide (nm = f) && chkE A o x && ncl x | _ => false)
  | .mcl o m es, e => (match e with | .Call (.Attribute x nm ap) args [] cp => decide (nm = m) && chkE A o x && ncl x && chkEs A es args && decide (args.length < 29) && (ap.endLine == cp.line) && A.cm | _ => false)
  | .mk y es, e => (match e with | .Call (.Name x _) args [] _ => decide (x = y) && A.glb x && (match A.mks.lookup x with | some b => b || args.isEmpty | none => false) && A.cm && chkEs A es args | _ => false)
  | .lc elt tg it ifs own, e => (match e with
    | .ListComp el [⟨t, i, cs, 0⟩] scope _ => A.cm && blkC A.N A.sc scope (ownOf A.N own) && chkI A it t i && chkG (A.inn scope) own tg t && chkE (A.inn scope) elt el && chkQ (A.inn scope) ifs cs
    | _ => false)
def chkEs (A : Sc) : IEs → List Expr → Bool
  | .nil, l => (match l with | [] => true | _ => false)
  | .cons e r, l => (match l with | x :: t => chkE A e x && chkEs A r t | _ => false)
def chkQ (A : Sc) : IQ → List Expr → Bool
  | .no, l => (match l with | [] => true | _ => false)
  | .c c, l => (match l with | [x] => chkC A c x | _ => false)
def chkO (A : Sc) : IO → Option Expr → Bool
  | .no, o => (match o with | none => true | _ => false)
  | .some e, o => (match o with | some x => chkE A e x | _ => false)
def chkC (A : Sc) : IC → Expr → Bool
  | .and a b, e => (match e with | .BoolOp .And (x :: y :: r) p => chkC A a x && chkC A b (.BoolOp .And (y :: r) p) | _ => false)
  | .or a b, e => (match e with | .BoolOp .Or (x :: y :: r) p => chkC A a x && chkC A b (.BoolOp .Or (y :: r) p) | _ => false)
  | .one a, e => (match e with | .BoolOp _ [x] _ => chkC A a x | _ => false)
  | .not a, e => (match e with | .UnaryOp .Not x _ => chkC A a x | _ => false)
  | .cmp op a b, e => (match e with | .Compare l [o] [r] _ => decide (op = o) && chkE A a l && chkE A b r | _ => false)
  | .chn op op2 a b c, e => (match e with | .Compare l [o, o2] [r, r2] _ => decide (op = o) && decide (op2 = o2) && chkE A a l && chkE A b r && chkE A c r2 | _ => false)
  | .v a, e => chkE A a e && plt e
def chkI (A : Sc) : II → Expr → Expr → Bool
  | .seq e, _, x => chkE A e x && nset x
  | .rng1 a, _, x => (match x with | .Call (.Name n _) [y] [] _ => decide (n = "range") && A.bn n && chkE A a y | _ => false)
  | .rng2 a b, _, x => (match x with | .Call (.Name n _) [y, z] [] _ => decide (n = "range") && A.bn n && chkE A a y && chkE A b z | _ => false)
  | .rng3 a b c, _, x => (match x with | .Call (.Name n _) [y, z, u] [] _ => decide (n = "range") && A.bn n && chkE A a y && chkE A b z && chkE A c u | _ => false)
  | .enu e, t, x => (match t with
    | .Tuple .. => (match x with | .Call (.Name n _) [y] [] _ => decide (n = "enumerate") && A.bn n && chkE A e y | _ => false)
    | _ => false)
  | .zip a b, t, x => (match t with
    | .Tuple .. => (match x with | .Call (.Name n _) [y, z] [] _ => decide (n = "zip") && A.bn n && chkE A a y && chkE A b z | _ => false)
    | _ => false)
  | .rev e, _, x => (match x with | .Call (.Name n _) [y] [] _ => decide (n = "reversed") && A.bn n && chkE A e y | _ => false)
/-- a target; its slots lie in own -/
def chkG (A : Sc) (own : List Nat) : IG → Expr → Bool
  | .nm i, e => (match e with | .Name x _ => A.loc i x && own.contains i | _ => false)
  | .tup gs, e => (match e with | .Tuple xs _ _ => A.cm && chkGs A own gs xs | _ => false)
def chkGs (A : Sc) (own : List Nat) : IGs → List Expr → Bool
  | .nil, l => (match l with | [] => true | _ => false)
  | .cons g r, l => (match l with | x :: t => chkG A own g x && nst x && chkGs A own r t | _ => false)
end
/-- the swap of a comprehension with its one-line name -/
def swB (A : Sc) (x : Str) (py : Pos) : Expr → Bool
  | .ListComp _ _ scope pos => decide (A.sc.names.lookup x = some .local) && (py.line == pos.line) && !(scope.names.any fun (n, k) => n == x && (k == .local || k == .cell))
  | _ => false
mutual
def chkS (A : Sc) : IS → Stmt → Bool
  | .set i e, s => (match s with | .Assign [.Name x py] v _ => A.loc i x && chkE A e v && (ncomp v || (swB A x py v && decide (A.sc.names.lookup x = some .local)) || !swB A x py v) | _ => false)
  | .asg g e, s => (match s with | .Assign [.Tuple xs k p] v _ => chkG A (List.range A.N.length) g (.Tuple xs k p) && chkE A e v && (ntup v || nsw A xs v) && ncomp v | _ => false)
  | .par2 i j a b, s => (match s with
    | .Assign [.Tuple [.Name x px, .Name y py] _ tp] (.Tuple [u, v] _ _) _ => A.cm && A.lcl i x && A.lcl j y && chkE A a u && chkE A b v && decide (i ≠ j) && (px.line == py.line) && !(constantsAlone 8 u && constantsAlone 8 v) && !(foldedForSure 8 u && foldedForSure 8 v) && !(x == y)
    | _ => false)
  | .sub o i e, s => (match s with | .Assign [.Subscript x y _] v _ => chkE A o x && chkE A i y && nsl y && chkE A e v && ncomp v | _ => false)
  | .expr e, s => (match s with | .Expr v _ => chkE A e v && ncomp v | _ => false)
  | .ret e, s => (match s with | .Return (some v) _ => chkE A e v | _ => false)
  | .retN, s => (match s with | .Return none _ => true | _ => false)
  | .ifs c a b, s => (match s with | .If t x y _ => chkC A c t && chkSs A a x && chkSs A b y | _ => false)
  | .whl c b, s => (match s with | .While t x [] _ => chkC A c t && chkSs A b x | _ => false)
  | .for_ g it b, s => (match s with | .For t i x [] _ => A.cm && chkG A (List.range A.N.length) g t && chkI A it t i && nset i && chkSs A b x | _ => false)
  | .brk, s => (match s with | .Break _ => true | _ => false)
  | .cnt, s => (match s with | .Continue _ => true | _ => false)
  | .pass, s => (match s with | .Pass _ => true | _ => false)
  | .raise x es, s => (match s with
    | .Raise (some (.Call (.Name y _) (a :: r) [] _)) none _ => decide (x = y) && A.cm && A.exc.contains x && A.glb x && chkEs A es (a :: r)
    | _ => false)
  | .tryx b x t, s => (match s with
    | .Try u [.ExceptHandler (some (.Name y _)) none (v :: w) _] [] [] _ => decide (x = y) && A.tp && A.exn.contains x && A.glb x && chkSs A b u && chkSs { A with cm := false, tp := false } t (v :: w)
    | _ => false)
  | .tryas b x i t, s => (match s with
    | .Try u [.ExceptHandler (some (.Name y _)) (some n) (v :: w) _] [] [] _ => decide (x = y) && A.tp && A.exn.contains x && A.xis.contains x && A.glb x && A.lcl i n && chkSs A b u && chkSs { A with cm := false, tp := false } t (v :: w)
    | _ => false)
  | .setf o f e, s => (match s with | .Assign [.Attribute x nm _] v _ => decide (nm = f) && chkE A o x && ncl x && chkE A e v && ncomp v | _ => false)
  | .never, _ => true
def chkSs (A : Sc) : ISs → List Stmt → Bool
  | .nil, l => (match l with | [] => true | _ => false)
  | .cons s r, l => (match l with | x :: t => chkS A s x && chkSs A r t | _ => false)
end
end Ev

/-! isinstance of a caught exception: one class, a tuple of classes. -/
namespace Ev
open PySem PySem.Spec PyProof.Rows L2
/-- isinstance(e, (c1, c2, ..)), e the exception that the suite holds -/
def rIsET (K : PySem.W.Frag) (D a : Addr) : List V → Hp → VK → Prop := fun xs H Q => ∃ (tp : Addr) (cs : List V) (us : List Value) (b : Bool), xs = [.ref a, .ref tp] ∧ H tp = some (.tup cs) ∧ Paired ClsV cs us ∧ PySem.W.kitAny K (.ref D) us = some b ∧ Q (.bl b) H
theorem call_isET {X : Cx} {a D : Addr} {oe : Obj} {pn : List (Addr × Obj)} (C : ExcC X.K D) (hz : Zc (.ref D) none oe) (hf : ∃ vs, oe.data = .fields vs) : CallR (X.suite a ((a, oe) :: pn)) (.builtin "isinstance") (rIsET X.K D a) := by
  intro pins s σ H xs us Q I r h
  obtain ⟨tp, cs, ws, b, rfl, hT, k, e, q⟩ := h
  obtain ⟨u1, u2, rfl, r1, r2⟩ := vals2 r
  cases (show u2 = Value.ref tp from r2)
  cases (show u1 = Value.ref a from r1)
  obtain ⟨hget, _⟩ := I.pin (a, oe) (List.mem_append.mpr (.inl List.mem_cons_self))
  obtain ⟨vs, hv⟩ := hf
  have J : PySem.W.InstAt s.heap a oe D none := by
    obtain ⟨oc, od, oda, osl⟩ := oe
    obtain ⟨h1, h2⟩ := hz
    dsimp only at h1 h2 hv
    subst h1 h2 hv
    exact ⟨hget, rfl, rfl, trivial⟩
  obtain ⟨_, its, rv, o, h1, h2, n, h3⟩ := (show ObjOk X.prog X.w H s.heap tp (.tup cs) from I.hok tp _ hT)
  have e3 := ClsV.all k rv
  subst e3
  obtain ⟨oc, od, dt, sl⟩ := o
  simp only at h2 h3
  subst h2 h3
  exact PySem.W.kia_tup (PySem.W.handS_kitx_exc C.hg C.hk C.hs C.hd C.ha C.hn C.ht C.hm) I.kIn J h1 e (fun z => nomatch z) fun tk => ⟨.bl b, H, I.tok tk, rfl, q⟩
end Ev

/-! A form that passes the check says what the text does: expressions. -/
namespace Ev
open PySem PySem.Spec PyProof.Rows L2

/-- a def's promise by the evaluator -/
def LF (K : PySem.W.Frag) (mg : Str → Option Value) (C : CallS) (f : Str) : Sp := fun vs H Q E => ∃ ds S Qd Ed, Rvs K H ds vs ∧ RS K H S ∧ C f ds S Qd Ed ∧ Post K H Qd Q ∧
  ∀ c d H' x S', Ext H H' → RX K mg H' x c d → RS K H' S' → Ed x S' → E c d H'
/-- what the library's big division asks -/
structure PyOk (X : Cx) : Prop where
  seer : X.base.NoSeer
  tree : X.prog.given.tree = none
  fr : ∃ env l, X.stack = env :: l ∧ env.scope.isGenerator = false ∧ env.scope.isCoroutine = false ∧ env.builtins = builtinsNs ∧ env.globals = mainGlobals
  dp : X.A.depth + Builtin.pylongFrames < recursionLimit
theorem PyOk.room {X : Cx} (p : PyOk X) {pins : List (Addr × Obj)} {σ : L2.St} {H : Hp} {s : Shared} (I : Inv X pins σ H s) : PylongRoom (model X.prog X.w) X.A s := by
  obtain ⟨env, l, h1, h2, h3, h4, h5⟩ := p.fr
  exact PylongRoom.of I.nolimit p.dp (SeerAt.of (p.seer.keeps I.bk) p.tree (by rw [I.ok.frames, h1]) h2 h3 h4 h5)
/-- the class of a name that is raised -/
def ExcW (K : PySem.W.Frag) (mg : Str → Option Value) (x : Str) : Prop := ∃ a : Addr, mg x = some (.ref a) ∧ PySem.W.keepIn K (.ref a) = true ∧
  PySem.W.excIn K a [.type "ValueError", .type "Exception", .type "BaseException", .type "object"] "ValueError.__new__" = true ∧ PySem.W.subIn K (.ref a) (.type "BaseException") = some true ∧ PySem.W.typeIn K (.ref a) = some (.type "type")
/-- the class of a name that a clause catches -/
def ExnW (G : Gl0) (K : PySem.W.Frag) (mg : Str → Option Value) (x : Str) : Prop := ∃ v : Value, (mg x = some v ∨ (mg x = none ∧ bootBuiltins x = some v ∧ x ≠ "__name__")) ∧
  ∀ c b, G.sub c x = some b → ∃ u, mg c = some u ∧ PySem.W.exmOne K u v = some b
/-- a class that is asked of a caught exception -/
def ExiW (G : Gl0) (K : PySem.W.Frag) (mg : Str → Option Value) (x : Str) : Prop := ∃ (c : V) (v : Value), ClsV c v ∧ (mg x = some v ∨ (mg x = none ∧ bootBuiltins x = some v ∧ x ≠ "__name__")) ∧
  ∀ k b, G.sub k x = some b → ∃ D : Addr, mg k = some (.ref D) ∧ ExcC K D ∧ PySem.W.kitOne K (.ref D) v = some b
/-- a class of the text -/
def ClsAt (K : PySem.W.Frag) (x : Str) (cls : Addr) : Prop := PySem.W.nsIn K mainGlobals x = some (some (.ref cls))
theorem ClsAt.eq {K : PySem.W.Frag} {x : Str} {c d : Addr} (h : ClsAt K x c) (g : PySem.W.nsIn K mainGlobals x = some (some (.ref d))) : d = c := by
  unfold ClsAt at h
  rw [h] at g
  cases g
  rfl
structure Good (G : Gl0) (C : CallS) (X : Cx) (W : WX) (A : Sc) : Prop where
  hN : X.N = A.N
  nd : X.N.Nodup
  sc : X.env.scope = A.sc
  fnc : ∀ x, A.stl.lookup x = some .cell → X.fn x = true
  stl : ∀ x k, k ≠ .free → A.stl.lookup x = some k → A.sc.names.lookup x = some k
  calm : A.cm = true → X.calm = true
  tk : Takes X W
  po : PassesOwn (model X.prog X.w) X.A X.env X.xe
  hu : X.A.units + 65 < cLine
  blt : ∀ x, A.blt.contains x = true → X.mg x = none
  gcd : A.gcd = true → X.mg "gcd" = some (.builtin "math.gcd")
  lcm : A.lcm = true → X.mg "lcm" = some (.builtin "math.lcm")
  cst : ∀ x, A.cst.contains x = true → ∃ d u v, G.cs x = some d ∧ X.mg x = some u ∧ RelV v u ∧ ∀ H, Rv X.K H d v
  fns : A.cm = true → ∀ f n, A.fns.lookup f = some n → ∃ (a : Addr) (fd : FuncData) (ps : List Str) (k : Nat), X.mg f = some (.ref a) ∧ PySem.W.keepIn X.K (.ref a) = true ∧ Binds X.K fd ps [] ∧ Room k X.A ∧
    FnOk X.prog X.w X.K X.mg X.base (CX X.prog X.w) k a fd ps (LF X.K X.mg C f)
  py : G.PY → PyOk X
  stk : A.tp = true → X.stack = X.env :: X.outer ∧ X.env.frame = some X.env.locals
  exc : ∀ x, A.exc.contains x = true → ExcW X.K X.mg x
  exn : ∀ x, A.exn.contains x = true → ExnW G X.K X.mg x
  mts : A.cm = true → ∀ x m key, G.mt x m = some key → ∃ (cls a : Addr) (fd : FuncData) (ps : List Str) (k : Nat), ClsAt X.K x cls ∧ Cls X.K cls ∧ Meth X.K cls m a ∧ Binds X.K fd ps [] ∧ Room k X.A ∧
    FnOk X.prog X.w X.K X.mg X.base (CX X.prog X.w) k a fd ps (LF X.K X.mg C key)
  mk0 : A.cm = true → ∀ x, A.mks.lookup x = some false → G.it x = some none ∧ ∃ cls : Addr, ClsAt X.K x cls ∧ X.mg x = some (.ref cls) ∧ PySem.W.keepIn X.K (.ref cls) = true ∧ PySem.W.makesIn X.K cls = true ∧
    PySem.W.findIn X.K (.ref cls) "__init__" = some (some (.builtin "object.__init__"))
  mk1 : A.cm = true → ∀ x, A.mks.lookup x = some true → ∃ (key : Str) (cls a : Addr) (fd : FuncData) (ps : List Str) (k : Nat), G.it x = some (some key) ∧ ClsAt X.K x cls ∧ X.mg x = some (.ref cls) ∧ Mk X.K cls a ∧ Binds X.K fd ps [] ∧ Room (k + 1) X.A ∧
    FnOk X.prog X.w X.K X.mg X.base (CX X.prog X.w) k a fd ps (LF X.K X.mg C key)
  fds : ∀ x f, G.fd x f = true → ∃ cls : Addr, ClsAt X.K x cls ∧ Cls X.K cls ∧ NoAttr X.K cls f
  exi : ∀ x, A.xis.contains x = true → ExiW G X.K X.mg x
  xcg : ∀ a e, G.xc = some (a, e) → A.cm = false ∧ A.tp = false ∧ ∃ D : Addr, X.mg e.cls = some (.ref D) ∧ CallR X (.builtin "isinstance") (rIsE X.K D a) ∧ CallR X (.builtin "isinstance") (rIsET X.K D a)

/-! ### what stands written -/
theorem kind_of {X : Cx} {A : Sc} (h : X.env.scope = A.sc) (x : Str) : X.env.kindOf x = A.sc.names.lookup x := by
  show X.env.scope.names.lookup x = _
  rw [h]
theorem vis_of {X : Cx} {A : Sc} {i : Nat} {x : Str} (hN : X.N = A.N) (hs : X.env.scope = A.sc) (h : A.vis i x = true) :
    X.N[i]? = some x ∧ Vis X.env.scope x ∧ (x == ("__debug__" : Str)) = false ∧ (x == ("__classdict__" : Str)) = false := by
  unfold Sc.vis at h
  simp only [Bool.and_eq_true, decide_eq_true_eq, Bool.not_eq_true'] at h
  obtain ⟨⟨⟨h1, h2⟩, h3⟩, h4⟩ := h
  refine ⟨by rw [hN]; exact h1, ?_, h3, h4⟩
  unfold Vis
  rw [hs]
  split at h2 <;> first | exact .inl ‹_› | exact .inr (.inl ‹_›) | exact .inr (.inr ‹_›) | cases h2
theorem loc_of {X : Cx} {A : Sc} {i : Nat} {x : Str} (hN : X.N = A.N) (hs : X.env.scope = A.sc) (stl : ∀ x k, k ≠ .free → A.stl.lookup x = some k → A.sc.names.lookup x = some k) (fnc : ∀ x, A.stl.lookup x = some .cell → X.fn x = true) (h : A.loc i x = true) :
    X.N[i]? = some x ∧ L2.Loc X.env.scope x ∧ (X.fn x = true ∨ X.env.scope.names.lookup x = some .local) := by
  unfold Sc.loc at h
  simp only [Bool.and_eq_true, decide_eq_true_eq] at h
  obtain ⟨h1, h2⟩ := h
  refine ⟨by rw [hN]; exact h1, ?_⟩
  unfold L2.Loc
  rw [hs]
  split at h2
  · rename_i e; exact ⟨.inl (stl _ _ (by decide) e), .inr (stl _ _ (by decide) e)⟩
  · rename_i e; exact ⟨.inr (stl _ _ (by decide) e), .inl (fnc x e)⟩
  · cases h2
theorem lcl_of {X : Cx} {A : Sc} {i : Nat} {x : Str} (hN : X.N = A.N) (hs : X.env.scope = A.sc) (h : A.lcl i x = true) : X.N[i]? = some x ∧ X.env.scope.names.lookup x = some .local := by
  unfold Sc.lcl at h
  simp only [Bool.and_eq_true, decide_eq_true_eq] at h
  obtain ⟨h1, h2⟩ := h
  refine ⟨by rw [hN]; exact h1, ?_⟩
  rw [hs]
  split at h2
  · assumption
  · cases h2
theorem glb_of {X : Cx} {A : Sc} {x : Str} (hs : X.env.scope = A.sc) (h : A.glb x = true) : Gl X x ∧ (x == ("__debug__" : Str)) = false := by
  unfold Sc.glb at h
  simp only [Bool.and_eq_true, Bool.not_eq_true'] at h
  obtain ⟨h1, h2⟩ := h
  refine ⟨?_, h2⟩
  unfold Gl
  rw [kind_of hs]
  split at h1
  · assumption
  · cases h1
theorem bn_of {G : Gl0} {C : CallS} {X : Cx} {W : WX} {A : Sc} {x : Str} (g : Good G C X W A) (h : A.bn x = true) : Gl X x ∧ (x == ("__debug__" : Str)) = false ∧ X.mg x = none ∧ x ≠ "__name__" := by
  unfold Sc.bn at h
  simp only [Bool.and_eq_true, Bool.not_eq_true'] at h
  obtain ⟨⟨h1, h2⟩, h3⟩ := h
  obtain ⟨q1, q2⟩ := glb_of g.sc h1
  exact ⟨q1, q2, g.blt x h2, fun e => by rw [e] at h3; exact absurd h3 (by decide)⟩
theorem star_cons {e : Expr} {es : List Expr} {env : Env} (h : nst e = true) : starEach (e :: es) env = (false, eval e env) :: starEach es env := by
  cases e <;> first | rfl | cases h
theorem chkE_nst {A : Sc} {ie : IE} {e : Expr} (h : chkE A ie e = true) : nst e = true := by
  cases e <;> first | rfl | (cases ie <;> cases h)
theorem chkE_nsl {A : Sc} {ie : IE} {e : Expr} (h : chkE A ie e = true) : nsl e = true := by
  cases e <;> first | rfl | (cases ie <;> cases h)
theorem chkE_nset {A : Sc} {ie : IE} {e : Expr} (h : chkE A ie e = true) : nset e = true := by
  cases e <;> first | rfl | (cases ie <;> cases h)
theorem chkEs_star {A : Sc} {env : Env} : ∀ {ies : IEs} {es : List Expr}, chkEs A ies es = true → (starEach es env).all (fun x => !x.1) = true ∧ (starEach es env).length = es.length
  | .nil, [], _ => ⟨rfl, rfl⟩
  | .nil, _ :: _, h => by cases h
  | .cons _ _, [], h => by cases h
  | .cons e r, x :: t, h => by
    simp only [chkEs, Bool.and_eq_true] at h
    obtain ⟨q1, q2⟩ := chkEs_star (env := env) h.2
    rw [star_cons (chkE_nst h.1)]
    exact ⟨by rw [List.all_cons, q1]; rfl, by rw [List.length_cons, q2, List.length_cons]⟩
theorem back_all {pos : Pos} {l : List (Bool × Sem Value)} (h : l.all (fun x => !x.1) = true) : (backTo pos l).all (fun x => !x.1) = true := by
  unfold backTo
  rw [List.all_map]
  exact h
theorem back_any {pos : Pos} {l : List (Bool × Sem Value)} (h : l.all (fun x => !x.1) = true) : (backTo pos l).any (·.1) = false := by
  unfold backTo
  rw [List.any_map]
  induction l with
  | nil => rfl
  | cons x r ih =>
    simp only [List.all_cons, Bool.and_eq_true, Bool.not_eq_true'] at h
    rw [List.any_cons, ih h.2]
    simp [h.1]
theorem base_ok {o : Expr} {f : Str} {env : Env} (h : ncl o = true) : attributeBase o f env (eval o env) = eval o env := by
  cases o <;> first | rfl | cases h
theorem mark_ok {A : Sc} {ie : IE} {e : Expr} {op : CmpOp} (h : chkE A ie e = true) : behindInMarks op e = false := by
  have h := chkE_nset h
  cases e <;> first | rfl | cases h
theorem marks_ok {A : Sc} {ib : IE} {a b : Expr} {o1 o2 : CmpOp} (h : chkE A ib b = true) : lastMarks [o1, o2] [a, b] = false := mark_ok (op := o2) h
theorem fold_ok {env : Env} {e : Expr} (h : nset e = true) : ∀ x, foldedSetIterable e env x = pure x := by
  intro x
  cases e <;> first | rfl | cases h
theorem ix_ok {b : Expr} (h : nsl b = true) : PlainIx b := by
  intro o i
  cases b <;> first | rfl | cases h
theorem plt_ok {e : Expr} {env : Env} (h : plt e = true) : ∀ whole, isTrue e env whole = (do let v ← whole; standAt e.pos; holding [v] (truthy v)) := by
  intro whole
  cases e with
  | UnaryOp op x p => cases op <;> first | rfl | cases h
  | BoolOp => cases h
  | IfExp => cases h
  | Compare => cases h
  | _ => rfl

/-! ### lifting -/
section
variable {X : Cx} {W : WX}
/-- one part, then what is done with its value -/
theorem LE.then1 {fa : FE} {f : FE} {r : V → Hp → VK → Prop} (hf : ∀ E σ S Q, f E σ S Q → ∃ R : DK, fa E σ S R ∧ ∀ σ0 v H x S1 Qv, RS X.K H S1 → Rv X.K H x v → R x S1 → Post X.K H Q Qv → XP X W E σ0 H → r v H Qv) :
    ∀ σ H Q, LE X W f σ H Q → LE X W fa σ H fun v H1 => r v H1 Q := by
  rintro σ H Q ⟨σd, S, Qd, E, rn, rs, h, p, xp⟩
  obtain ⟨R, ha, hr⟩ := hf _ _ _ _ h
  exact ⟨σd, S, R, E, rn, rs, ha, fun v H1 x S1 e1 rx rs1 h1 => hr σ v H1 x S1 Q rs1 rx h1 (fun v' H' d S' e => p v' H' d S' (e1.trans e)) (xp.ext e1), xp⟩
theorem LE.bin {fa fb : FE} {R : D → D → Sto → DK → Prop} {r : R2} (hr : ∀ v w H Q, (∃ x y S Qd, RS X.K H S ∧ Rv X.K H x v ∧ Rv X.K H y w ∧ R x y S Qd ∧ Post X.K H Qd Q) → r v w H Q) :
    ∀ σ H Q, LE X W (fun E σ S Q => fa E σ S fun x S1 => fb E σ S1 fun y S2 => R x y S2 Q) σ H Q → tOp r (LE X W fa) (LE X W fb) σ H Q := by
  rintro σ H Q ⟨σd, S, Qd, E, rn, rs, h, p, xp⟩
  refine ⟨σd, S, _, E, rn, rs, h, fun v H1 x S1 e1 rx rs1 h1 => ⟨σd, S1, _, E, rn.ext e1, rs1, h1, fun w H2 y S2 e2 ry rs2 h2 => ?_, xp.ext e1⟩, xp⟩
  exact hr _ _ _ _ ⟨x, y, S2, Qd, rs2, rx.ext e2, ry, h2, fun v' H' d S' e => p v' H' d S' ((e1.trans e2).trans e)⟩
theorem LE.cmp {fa fb : FE} {op : CmpOp} : ∀ σ H Q, LE X W (fun E σ S Q => fa E σ S fun x S1 => fb E σ S1 fun y S2 => cmpS op x y S2 fun k => Q (.bl k) S2) σ H Q → tOp (RC X.K op) (LE X W fa) (LE X W fb) σ H Q := by
  refine LE.bin (R := fun x y S2 Q => cmpS op x y S2 fun k => Q (.bl k) S2) ?_
  rintro v w H Q ⟨x, y, S, Qd, rs, rx, ry, h, p⟩
  exact ⟨x, y, S, fun k => Qd (.bl k) S, rs, rx, ry, h, fun k hk => p.now rs (.bl k) hk⟩
theorem LT.cmp {fa fb : FE} {op : CmpOp} : ∀ σ H Q, LT X W (fun E σ S Q => fa E σ S fun x S1 => fb E σ S1 fun y S2 => cmpS op x y S2 fun k => Q k S2) σ H Q → tTest (tOp (RC X.K op) (LE X W fa) (LE X W fb)) σ H Q := by
  rintro σ H Q ⟨σd, S, Qd, E, rn, rs, h, p, xp⟩
  refine ⟨σd, S, _, E, rn, rs, h, fun v H1 x S1 e1 rx rs1 h1 => ⟨σd, S1, _, E, rn.ext e1, rs1, h1, fun w H2 y S2 e2 ry rs2 h2 => ?_, xp.ext e1⟩, xp⟩
  exact ⟨x, y, S2, fun k => Qd k S2, rs2, rx.ext e2, ry, h2, fun k hk => ⟨k, rfl, p k H2 S2 (e1.trans e2) rs2 hk⟩⟩
theorem LA.nil : ∀ σ H Q, LA X W 0 (fun E σ S Q => Q [] S) σ H Q → tNil σ H Q := by
  rintro σ H Q ⟨σd, S, Qd, E, rn, rs, h, p, xp⟩
  exact p [] H [] S (Ext.refl H) rfl .nil rs h
theorem LA.cons {n : Nat} {fa : FE} {fr : XS → En → Sto → (List D → Sto → Prop) → Prop} :
    ∀ σ H Q, LA X W (n + 1) (fun E σ S Q => fa E σ S fun d S1 => fr E σ S1 fun ds S2 => Q (d :: ds) S2) σ H Q → tCons (LE X W fa) (LA X W n fr) σ H Q := by
  rintro σ H Q ⟨σd, S, Qd, E, rn, rs, h, p, xp⟩
  refine ⟨σd, S, _, E, rn, rs, h, fun v H1 x S1 e1 rx rs1 h1 => ⟨σd, S1, _, E, rn.ext e1, rs1, h1, fun vs H2 ds S2 e2 hl rd rs2 h2 => ?_, xp.ext e1⟩, xp⟩
  exact p (v :: vs) H2 (x :: ds) S2 (e1.trans e2) (by rw [List.length_cons, hl]) (.cons (rx.ext e2) rd) rs2 h2
/-- a list of parts, then what is done with their values -/
theorem LE.args {n : Nat} {fs : XS → En → Sto → (List D → Sto → Prop) → Prop} {R : XS → List D → Sto → DK → Prop} {r : L2.St → List V → Hp → VK → Prop}
    (hr : ∀ σ vs H Q, (∃ ds S Qd E, RS X.K H S ∧ vs.length = n ∧ Rvs X.K H ds vs ∧ R E ds S Qd ∧ Post X.K H Qd Q ∧ XP X W E σ H) → r σ vs H Q) :
    ∀ σ H Q, LE X W (fun E σ S Q => fs E σ S fun ds S1 => R E ds S1 Q) σ H Q → LA X W n fs σ H fun vs H1 => r σ vs H1 Q := by
  rintro σ H Q ⟨σd, S, Qd, E, rn, rs, h, p, xp⟩
  refine ⟨σd, S, _, E, rn, rs, h, fun vs H1 ds S1 e1 hl rd rs1 h1 => ?_, xp⟩
  exact hr σ _ _ _ ⟨ds, S1, Qd, E, rs1, hl, rd, h1, fun v' H' d S' e => p v' H' d S' (e1.trans e), xp.ext e1⟩
end
end Ev

/-! Rules of one's own over the layer: an instance of a class without an __init__, enumerate of a tuple. -/
namespace Ev
open PySem PySem.Spec PyProof.Rows L2
section
variable {X : Cx} {cls : Addr} {x : Str} {p pos : Pos}
/-- a new instance of a class that has no __init__ but object's -/
def tNewI (cls : Addr) : TE := fun _ H Q => ∀ a dx, H a = none → H dx = none → dx ≠ a → Q (.ref a) (upd (upd H dx (.own a)) a (.ins cls dx []))
theorem pe_newI (hg : Gl X x) (hm : X.mg x = some (.ref cls)) (kp : PySem.W.keepIn X.K (.ref cls) = true) (mk : PySem.W.makesIn X.K cls = true) (hi : PySem.W.findIn X.K (.ref cls) "__init__" = some (some (.builtin "object.__init__")))
    (hdb : (x == ("__debug__" : Str)) = false) : PE X (.Call (.Name x p) [] [] pos) (tNewI cls) := by
  refine ⟨fun pins s σ H Q I h => ?_⟩
  refine wpAny_Call_Name_kw (ld_glob I hg hm ?_ hdb)
  refine PySem.W.callWith_K0 I.kIn kp (wpAny_call ?_)
  have q := h (s.heap.objs.size + 1) s.heap.objs.size (I.hok.fresh (Nat.le_succ _)) (I.hok.fresh (Nat.le_refl _)) (Nat.ne_of_lt (Nat.lt_succ_self _))
  have J := Inv.made (C := cls) I
  have Y := PySem.W.makes_of (M := model X.prog X.w) I.kIn mk
  have up : ∀ b o, s.heap.get? b = some o → ((s.heap.push PySem.W.emptyDict).push (PySem.W.instObj cls s.heap.objs.size)).get? b = some o := fun b o e => Heap.get?_push_of_some _ (Heap.get?_push_of_some _ e)
  have at_ : ((s.heap.push PySem.W.emptyDict).push (PySem.W.instObj cls s.heap.objs.size)).get? (s.heap.objs.size + 1) = some (PySem.W.instObj cls s.heap.objs.size) := by
    have z := Heap.get?_push_size (s.heap.push PySem.W.emptyDict) (o := PySem.W.instObj cls s.heap.objs.size) rfl
    rwa [Heap.size_push] at z
  have ty : PySem.W.Looks (model X.prog X.w) ((s.heap.push PySem.W.emptyDict).push (PySem.W.instObj cls s.heap.objs.size)) (isInstance (.ref (s.heap.objs.size + 1)) (.type "object")) true :=
    ((PySem.W.Looks.ld at_).andThen .now).andThen (Y.top.keeps up)
  refine make_map0 I.kIn mk hi (fun self => PySem.W.Looks.of_pure (PySem.W.oi_bind self)) ?_
  refine codeAny_call_builtin PySem.W.oi_plain PySem.W.entry_oi (PySem.W.check_slot (s := { s with heap := (s.heap.push PySem.W.emptyDict).push (PySem.W.instObj cls s.heap.objs.size) }) PySem.W.oi_kind PySem.W.oi_split ty (PySem.W.oi_args (.ref (s.heap.objs.size + 1))) ?_)
  rw [PySem.W.oi_run]
  exact wpAny_pure (And.intro rfl ⟨V.ref (s.heap.objs.size + 1), _, J, rfl, q⟩)
end
/-- a method's call, written out -/
theorem meth_eq {o : Expr} {m : Str} {apos pos : Pos} {es : List Expr} {env : Env} (hb : attributeBase o m env (eval o env) = eval o env) (hf : methodCallForm (es.length + ([] : List Keyword).length) (backTo pos (starEach es env)) (backToKw pos (keywordEach [] env)) = true)
    (hl : (apos.endLine == pos.line) = true) : eval (.Call (.Attribute o m apos) es [] pos) env = (do
      let ov ← eval o env
      standAt apos.atName
      let (f, first) ← holding [ov] (getMethod ov m (do return (← importBound o env).getD true))
      callWith pos f first (backTo pos (starEach es env)) (backToKw pos (keywordEach [] env))) := by
  show (attributeBase o m env (eval o env) >>= fun ov => standAt apos.atName >>= fun _ => methodCall o m apos pos env ov (es.length + ([] : List Keyword).length) (backTo pos (starEach es env)) (backToKw pos (keywordEach [] env))) = _
  rw [hb]
  refine bind_congr fun ov => bind_congr fun _ => ?_
  unfold methodCall calleeOf methodCallPos
  rw [hf, hl]
  rfl
/-! ### enumerate of a tuple -/
/-- a tuple's iterator, step by step -/
theorem draws_tuple {P : Program} {w : World} {A : Around} (hh : A.handled = none) (it l : Addr) (ne : l ≠ it) (items : Array Value) :
    Draws P w A it [it, l] items.size (fun i x => items[i]? = some x) (fun i h => h.IsTupleIter it l i ∧ h.IsTuple l items) where
  live := fun i h st => by
    obtain ⟨⟨o, e, _⟩, _⟩ := st
    exact ⟨o, e⟩
  frame := fun i h h' st k => by
    obtain ⟨⟨o, e, q⟩, ⟨u, e2, q2⟩⟩ := st
    exact ⟨⟨o, k it (by simp) o e, q⟩, ⟨u, k l (by simp) u e2, q2⟩⟩
  item := fun i s Q E hi st hQ => by
    obtain ⟨h1, h2⟩ := st
    refine RZ.nextOf_tuple_item h1 h2 (x := items[i]) (by simp [hi]) fun h' h1' sb => ?_
    exact hQ _ h' s.toks (by simp [hi]) ⟨h1', h2.extBut sb.extBut ne⟩ sb
  done := fun s Q E st hE => by
    obtain ⟨h1, h2⟩ := st
    exact RZ.nextOf_tuple_end hh h1 h2 (by simp) hE
/-- enumerate(t) is made -/
theorem enum_made (l : Addr) (items : Array Value) (n : Nat) (dct : Option Addr) (sl : Array (Option Value)) : Meets (Builtin.«enumerate.__new__» ⟨[.type "enumerate", .ref l], []⟩) (fun _ R s =>
      s.heap.get? l = some { cls := .type "tuple", dict := dct, data := .seq items n, slots := sl } ∧ R (.ok (.ret (.ref (s.heap.push { cls := .type "tuple_iterator", data := .fields #[.ref l, .int 0 0] }).objs.size)))
        { s with heap := (s.heap.push { cls := .type "tuple_iterator", data := .fields #[.ref l, .int 0 0] }).push { cls := .type "enumerate", data := .fields #[.none, .bool false, .ref s.heap.objs.size, rawInt 0, .none, .none] } }) :=
  .of_wp fun prog w A R s h => by
    obtain ⟨hp, g, d, tk, os⟩ := s
    obtain ⟨hl, h⟩ := h
    have sub := sub_enumerate
    have ht : (Shared.heap ⟨hp, g, d, tk, os⟩).IsTuple l items := ⟨_, hl, rfl, n, rfl⟩
    wp_walk using PySem.AutoSeq1.wpAny_loadPart' hl
    refine wpAny_stack_any fun st => ?_
    refine wpAny_pure ?_
    split
    · rename_i c _ _ _ _ _
      cases (c == Value.type "enumerate") <;> wp_walk using PySem.AutoSeq1.wpAny_loadPart' hl, wpAny_pyIter_tuple ht <;> exact ⟨_, rfl, h⟩
    · wp_walk using PySem.AutoSeq1.wpAny_loadPart' hl, wpAny_pyIter_tuple ht
      exact ⟨_, rfl, h⟩
theorem call_enum_tuple {prog : Program} {w : World} {A : Around} {E : Value → Shared → Prop} {s : Shared} {l : Addr} {items : Array Value} {Q : Value → Shared → Prop} (hL : s.heap.IsTuple l items)
    (h : ∀ h', IsEnum h' (s.heap.objs.size + 1) s.heap.objs.size 0 .none → h'.IsTupleIter s.heap.objs.size l 0 → (∀ b o, s.heap.get? b = some o → h'.get? b = some o) → Q (.ref (s.heap.objs.size + 1)) { s with heap := h' }) :
    wpAny (model prog w) A (call (.type "enumerate") [.ref l]) Q E s := by
  obtain ⟨⟨c, dct, dt, sl⟩, hl, hc, n, hd⟩ := hL
  obtain rfl : c = .type "tuple" := hc
  obtain rfl : dt = .seq items n := hd
  have made := enum_made l items n dct sl
  refine callType_new F.called_enumerate (by decide) (F.typeCall_enumerate_1 _) (F.newCall_enumerate_1 _) (fun obj => F.args_object_init_2 obj _) F.entry_enumerate_new made ⟨hl, ?_⟩
  have hz : (s.heap.push { cls := .type "tuple_iterator", data := .fields #[.ref l, .int 0 0] }).objs.size = s.heap.objs.size + 1 := Heap.size_push ..
  show _ ∧ _
  rw [hz]
  have he := Heap.get?_push_size (s.heap.push { cls := .type "tuple_iterator", data := .fields #[.ref l, .int 0 0] }) (o := { cls := .type "enumerate", data := .fields #[.none, .bool false, .ref s.heap.objs.size, rawInt 0, .none, .none] }) rfl
  rw [hz] at he
  refine ⟨⟨_, he, rfl⟩, h _ he ⟨_, Heap.get?_push_of_some _ (Heap.get?_push_size _ rfl), rfl, rfl⟩ fun b o x => ?_⟩
  exact Heap.get?_push_of_some _ (Heap.get?_push_of_some _ x)
theorem next_enumT_end {prog : Program} {w : World} {A : Around} {E : Value → Shared → Prop} {s : Shared} {e it l : Addr} {i : Nat} {items : Array Value} {old : Value} {Q : Option Value → Shared → Prop} (hh : A.in1.handled = none)
    (he : IsEnum s.heap e it i old) (hit : s.heap.IsTupleIter it l i) (hl : s.heap.IsTuple l items) (hx : items[i]? = none) (hQ : ∀ h', Heap.ExtBut it s.heap h' → Q none { s with heap := h' }) : wpAny (model prog w) A (pyNext (.ref e)) Q E s := by
  have ty : s.TypeIs (.ref e) "enumerate" := ⟨_, he, rfl⟩
  unfold pyNext
  have nx := F.slot_enumerate_next
  refine wpAny_bind (wpAny_attempt (wpAny_callSpecial?_slot (name := Str.ofString "__next__") ty nx (wpAny_call_entry nx ty F.entry_enumerate_next ?_ (F.args_enumerate_next_1 _))))
  show wpAny _ _ (field (.ref e) 2 >>= _) _ _ _
  refine wpAny_bind (wpAny_field he rfl (x := .ref it) rfl (wpAny_bind (RZ.nextOf_tuple_end hh hit hl hx fun h' y eb hy => ?_)))
  obtain ⟨o, ho, hc⟩ := hy
  exact wpAny_bind (wpAny_isInstance (T := "StopIteration") (b := true) ⟨o, ho, hc⟩ isSubtype_stop (wpAny_pure (hQ _ eb)))
/-- the tuple at a, each item in a new pair -/
def IteT (K : PySem.W.Frag) (a : Addr) : It where
  go := fun i H => ∃ (xs : List V) (x : V), SqT K H a xs ∧ xs[i]? = some x
  yld := fun i H v H' => ∃ p x, v = .ref p ∧ H p = none ∧ H' = upd H p (.tup [.int (i : Nat), x]) ∧ ∀ xs, SqT K H a xs → xs[i]? = some x
  stop := fun i H => ∃ xs : List V, SqT K H a xs ∧ xs.length ≤ i
theorem turn_enumT {P : Program} {w : World} {K : PySem.W.Frag} {elts : List Expr} {kk : Nat} {tpos : Pos} (a e it : Addr) :
    Turn P w K (.Tuple elts kk tpos) (IteT K a) [e, it] e (fun i h => (∃ old, IsEnum h e it ((i : Nat) : Int) old) ∧ h.IsTupleIter it a i ∧ e ≠ it ∧ e ≠ a ∧ a ≠ it) where
  mem := List.mem_cons_self
  obj := fun i h st b hb => by
    obtain ⟨⟨old, he⟩, ⟨o, ho, hc, hd⟩, _⟩ := st
    rcases List.mem_cons.mp hb with z | z
    · subst z
      exact ⟨_, he, fun v q => nomatch q⟩
    · have z := List.mem_singleton.mp z
      subst z
      exact ⟨o, ho, fun v q => by rw [hd] at q; cases q⟩
  keep := fun i h h' st k => by
    obtain ⟨⟨old, he⟩, ⟨o, ho, q⟩, r⟩ := st
    exact ⟨⟨old, k e (by simp) _ he⟩, ⟨o, k it (by simp) o ho, q⟩, r⟩
  item := by
    intro X hP hw hK hc i pins s σ H E I hf st hg
    subst hP hw hK
    obtain ⟨⟨old, he⟩, hit, ne1, ne2, ne3⟩ := st
    obtain ⟨xs, x, hq, hx⟩ := hg
    obtain ⟨its, rv, p, hz⟩ := I.tuple hq
    obtain ⟨u, hu, ru⟩ := rv.get hx
    have el : e < s.heap.objs.size := Heap.lt_size he
    have il : it < s.heap.objs.size := by obtain ⟨_, q, _⟩ := hit; exact Heap.lt_size q
    have hi : i < its.toArray.size := by
      have := (List.getElem?_eq_some_iff.mp hu).1
      simpa using this
    have hh : X.A.in1.handled = none := I.ok.hd hc
    refine wpAny_pyNext_enum_itemD (draws_tuple hh it a ne3 its.toArray) he ⟨hit, show s.heap.IsTuple a its.toArray from p⟩ hi ne1 (by simp [ne1, ne2]) fun y h' tk hy ho st' hT hsz hk => ?_
    have hy : its[i]? = some y := by simpa using hy
    have ey : u = y := by rw [hu] at hy; exact Option.some.inj hy
    subst ey
    refine ⟨_, rfl, wpAny_letOwnedTupleGo_enum (s := { s with heap := h', toks := tk + 1 }) ho fun h'' he' sb => ?_⟩
    have hT2 : h''.get? s.heap.objs.size = some { cls := .type "tuple", data := .seq #[.int i tk, u] } := (sb.2 _ (Nat.ne_of_gt el)).trans hT
    have new : ObjOk X.prog X.w (upd H s.heap.objs.size (.tup [.int (i : Nat), x])) h'' s.heap.objs.size (.tup [.int (i : Nat), x]) :=
      ⟨(by decide : (2 : Nat) ≤ sizeLine), [.int i tk, u], .cons ⟨_, rfl⟩ (.cons ru .nil), _, hT2, rfl, _, rfl⟩
    have I1 : Inv X pins σ (upd H s.heap.objs.size (.tup [.int (i : Nat), x])) { s with heap := h'', toks := tk + 1 } := by
      refine I.turnedNew (ch := [e, it]) (fun b ob hb q => ?_) hf (Nat.le_refl _) new
      have b1 : b ≠ e := fun z => hb (by simp [z])
      have b2 : b ≠ it := fun z => hb (by simp [z])
      exact (sb.2 b b1).trans (hk b ob b1 b2 q)
    refine ⟨.ref s.heap.objs.size, _, I1, rfl, ⟨_, x, rfl, I.hok.fresh (Nat.le_refl _), rfl, fun ys hys => by rw [I.tuple_inj hys hq]; exact hx⟩, ⟨⟨u, ?_⟩, st'.1.at fun o q => (sb.2 it (Ne.symm ne1)).trans q, ne1, ne2, ne3⟩, fun b hb => ?_⟩
    · rw [show ((i + 1 : Nat) : Int) = (i : Int) + 1 by omega]
      exact he'
    · have bl : b < s.heap.objs.size := by
        rcases List.mem_cons.mp hb with z | z
        · rw [z]; exact el
        · rw [List.mem_singleton.mp z]; exact il
      rw [upd_ne (Nat.ne_of_lt bl)]
      exact (hf b hb).1
  done := by
    intro X hP hw hK hc i pins s σ H E I hf st hg
    subst hP hw hK
    obtain ⟨⟨old, he⟩, hit, ne1, ne2, ne3⟩ := st
    obtain ⟨xs, hq, hx⟩ := hg
    obtain ⟨its, rv, p, hz⟩ := I.tuple hq
    have f := hf it (by simp)
    have hl := rv.length
    have hh : X.A.in1.handled = none := I.ok.hd hc
    obtain ⟨f0, f1, f2, f3, f4, f5⟩ := f
    exact next_enumT_end hh he hit (show s.heap.IsTuple a its.toArray from p) (by simp; omega) fun h' eb => ⟨rfl, I.turned (t' := s.toks) (fun b o hb q => eb b o hb q) f0 f1 f3 f4 f5⟩
  self := fun A i s Q E st h => by
    obtain ⟨⟨_, he⟩, _⟩ := st
    exact wpAny_pyIter_enum he h
/-- enumerate(x), x a list or a tuple -/
def iEnumA (K : PySem.W.Frag) (ta : TA) : TI := fun σ H R => ta σ H fun vs H1 => ∃ a, vs = [.ref a] ∧ (((∃ xs, SqL K H1 a xs) ∧ R (Ite K a) H1) ∨ ((∃ xs, SqT K H1 a xs) ∧ R (IteT K a) H1))
theorem pi_enumA {X : Cx} {e : Expr} {ta : TA} {p pos tpos : Pos} {elts : List Expr} {kk : Nat} (hg : Gl X "enumerate") (hm : X.mg "enumerate" = none) (ha : PA X [e] ta) (hs : starEach [e] X.env = [(false, eval e X.env)]) :
    PI X (.Tuple elts kk tpos) (.Call (.Name "enumerate" p) [e] [] pos) (iEnumA X.K ta) := by
  refine ⟨fun pins s σ H R I h => ?_⟩
  refine Call_ (ld_blt I hg hm boot_enumerate (PyProof.Rows.callWith_type1 (thn (ha.run pos pins s σ H _ I h) fun us s1 ⟨vs, H1, I1, r1, q1⟩ => ?_) hs rfl))
  obtain ⟨a, rfl, q⟩ := q1
  cases r1 with
  | cons r rr =>
    cases rr
    cases r
    have fp : ∀ b, b ∈ [s1.heap.objs.size + 1, s1.heap.objs.size] → FpOk X pins H1 b := fun b hb => by
      have le : s1.heap.objs.size ≤ b := by
        rcases List.mem_cons.mp hb with z | z
        · rw [z]; exact Nat.le_succ _
        · rw [List.mem_singleton.mp z]; exact Nat.le_refl _
      exact I1.fpOk le (I1.hok.fresh le)
    rcases q with ⟨⟨xs, hq⟩, q⟩ | ⟨⟨xs, hq⟩, q⟩
    · obtain ⟨its, rv, p', hz⟩ := I1.list hq
      refine call_enumerate_list p'.isList fun h' he hit hsz hk => wpAny_pyIter_enum he ?_
      have I2 : Inv X pins σ H1 { s1 with heap := h' } := I1.kept (t' := s1.toks) hk
      exact ⟨s1.heap.objs.size + 1, _, _, _, H1, rfl, I2, turn_enum a (s1.heap.objs.size + 1) s1.heap.objs.size, ⟨⟨.none, he⟩, hit, Nat.succ_ne_self _⟩, fp, q⟩
    · obtain ⟨its, rv, p', hz⟩ := I1.tuple hq
      have ht : s1.heap.IsTuple a its.toArray := p'
      have al : a < s1.heap.objs.size := by obtain ⟨_, z, _⟩ := ht; exact Heap.lt_size z
      refine call_enum_tuple ht fun h' he hit hk => wpAny_pyIter_enum he ?_
      have I2 : Inv X pins σ H1 { s1 with heap := h' } := I1.kept (t' := s1.toks) hk
      exact ⟨s1.heap.objs.size + 1, _, _, _, H1, rfl, I2, turn_enumT a (s1.heap.objs.size + 1) s1.heap.objs.size, ⟨⟨.none, he⟩, hit, Nat.succ_ne_self _, Nat.ne_of_gt (Nat.lt_succ_of_lt al), Nat.ne_of_lt al⟩, fp, q⟩
/-! ### calls whose exceptions are wished for at the caller's slots -/
section
variable {X : Cx} {W : WX} {k : Nat} {f cls : Addr} {fd : FuncData} {ps : List Str} {sp : Sp} {x m : Str} {p pos apos : Pos} {e o : Expr} {es : List Expr} {ta : TE} {t : TA}
theorem pe_call0S (F : FnOk X.prog X.w X.K X.mg X.base (CX X.prog X.w) k f fd ps sp) (hr : Room k X.A) (hg : Gl X x) (hm : X.mg x = some (.ref f)) (hk : PySem.W.keepIn X.K (.ref f) = true) (hb : Binds X.K fd ps []) (tk : Takes X W) (hdb : (x == ("__debug__" : Str)) = false) :
    PE X (.Call (.Name x p) [] [] pos) (fun σ H Q => sp [] H Q (WE W σ)) := by
  refine ⟨fun pins s σ H Q I h => ?_⟩
  refine wpAny_Call_Name_kw (ld_glob I hg hm ?_ hdb)
  exact PySem.W.callWith_K0 I.kIn hk (run_fnS (E := WE W) (us := []) F hr hb (passAt tk σ) I .nil h)
/-- o.m(..), the class as the instance says -/
def tMethG (X : Cx) (W : WX) (m : Str) (ta : TE) (t : TA) : TE := fun σ H Q => ta σ H fun x H1 => ∃ (a cls dx : Addr) (fs : List (Str × V)) (f : Addr) (fd : FuncData) (ps : List Str) (k : Nat) (sp : Sp), x = .ref a ∧ H1 a = some (.ins cls dx fs) ∧ fs.lookup m = none ∧
  Cls X.K cls ∧ Meth X.K cls m f ∧ FnOk X.prog X.w X.K X.mg X.base (CX X.prog X.w) k f fd ps sp ∧ Room k X.A ∧ Binds X.K fd ps [] ∧ t σ H1 fun vs H2 => sp (x :: vs) H2 Q (WE W σ)
theorem pe_methG (he : PE X o ta) (ha : PA X (e :: es) t) (tk : Takes X W) (hb : attributeBase o m X.env (eval o X.env) = eval o X.env) (hf : methodCallForm ((e :: es).length + ([] : List Keyword).length) (backTo pos (starEach (e :: es) X.env)) (backToKw pos (keywordEach [] X.env)) = true)
    (hl : (apos.endLine == pos.line) = true) (hst : starEach (e :: es) X.env = (false, eval e X.env) :: starEach es X.env) (hpl : (backTo pos (starEach es X.env)).any (·.1) = false) :
    PE X (.Call (.Attribute o m apos) (e :: es) [] pos) (tMethG X W m ta t) := by
  refine ⟨fun pins s σ H Q I h => ?_⟩
  refine PySem.W.methodCall_KW (thn (he.run pins s σ H _ I h) fun u s1 ⟨x, H1, I1, rx, a, cls, dx, fs, f, fd, ps, k, sp, ex, ea, l, c, hm, F, hr, hbd, q⟩ => ?_) (meth_eq hb hf hl)
  subst ex
  obtain rfl : u = Value.ref a := rx
  refine getmeth_ok I1 ea c hm l ?_
  refine PySem.W.callWith_K (first := [.ref a]) (h₀ := X.base) I.ok.mod.kin hm.kp (thn (ha.run pos pins s1 σ H1 _ I1 q) fun us s2 ⟨vs, H2, I2, r, q2⟩ => ⟨I2.kIn, ?_⟩) hst hpl
  exact run_fnS (E := WE W) (us := .ref a :: us) (vs := .ref a :: vs) F hr hbd (passAt tk σ) I2 (.cons rfl r) q2
theorem pe_methG0 (he : PE X o ta) (tk : Takes X W) (hb : attributeBase o m X.env (eval o X.env) = eval o X.env) (hl : (apos.endLine == pos.line) = true) :
    PE X (.Call (.Attribute o m apos) [] [] pos) (tMethG X W m ta tNil) := by
  refine ⟨fun pins s σ H Q I h => ?_⟩
  refine PySem.W.methodCall_KW (thn (he.run pins s σ H _ I h) fun u s1 ⟨x, H1, I1, rx, a, cls, dx, fs, f, fd, ps, k, sp, ex, ea, l, c, hm, F, hr, hbd, q⟩ => ?_) (meth_eq hb (by rfl) hl)
  subst ex
  obtain rfl : u = Value.ref a := rx
  refine getmeth_ok I1 ea c hm l ?_
  exact PySem.W.callWith_K0 (first := [.ref a]) I1.kIn hm.kp (run_fnS (E := WE W) (us := [.ref a]) (vs := [.ref a]) F hr hbd (passAt tk σ) I1 (.cons rfl .nil) q)
/-- C(..) with an __init__ of its own -/
def tMakeS (W : WX) (cls : Addr) (sp : Sp) (t : TA) : TE := fun σ H Q => t σ H fun vs H1 => ∀ a dx, H1 a = none → H1 dx = none → dx ≠ a →
  sp (.ref a :: vs) (upd (upd H1 dx (.own a)) a (.ins cls dx [])) (fun v H2 => v = .non ∧ Q (.ref a) H2) (WE W σ)
theorem run_makeS {pins : List (Addr × Obj)} {σ : L2.St} {H : Hp} {s : Shared} {Q : VK} {us : List Value} {vs : List V} (M : Mk X.K cls f) (F : FnOk X.prog X.w X.K X.mg X.base (CX X.prog X.w) k f fd ps sp) (hr : Room (k + 1) X.A) (hb : Binds X.K fd ps []) (tk : Takes X W)
    (I : Inv X pins σ H s) (r : Vals vs us) (h : ∀ a dx, H a = none → H dx = none → dx ≠ a → sp (.ref a :: vs) (upd (upd H dx (.own a)) a (.ins cls dx [])) (fun v H2 => v = .non ∧ Q (.ref a) H2) (WE W σ)) :
    wpAny (model X.prog X.w) X.A (call (.ref cls) us) (EP X pins σ Q) X.xe s := by
  have n1 := I.hok.fresh (Nat.le_succ s.heap.objs.size)
  have n2 := I.hok.fresh (Nat.le_refl s.heap.objs.size)
  have hq := h (s.heap.objs.size + 1) s.heap.objs.size n1 n2 (Nat.ne_of_lt (Nat.lt_succ_self _))
  have J := Inv.made (C := cls) I
  have r2 : Vals (V.ref (s.heap.objs.size + 1) :: vs) (Value.ref (s.heap.objs.size + 1) :: us) := .cons rfl r
  have hl : (Value.ref (s.heap.objs.size + 1) :: us).length = ps.length := by rw [← r2.length]; exact F.len _ _ _ _ hq
  have b := hb _ (Value.ref (s.heap.objs.size + 1) :: us) J.kIn (by rw [List.append_nil]; exact hl)
  rw [List.append_nil] at b
  refine wpAny_call (make_map (f := f) I.kIn M.makes M.init (beq_iff_eq.mp M.fn) (codeAny_mono (F.run _ X.stack _ _ _ _ _ _ (WE W σ) (hr.make cls us []) (J.env0.make cls us []) b r2 hq) fun r s' hq' => ?_))
  cases r with
  | error e => exact passAt tk σ pins _ _ e s' J hq'
  | ok fl =>
    cases fl with
    | ret u =>
      obtain ⟨v, H', J3, rv, ev, q3⟩ := J.after hq'
      subst ev
      exact ⟨rv, ⟨V.ref (s.heap.objs.size + 1), H', J3, rfl, q3⟩⟩
    | next => exact hq'.elim
    | brk => exact hq'.elim
    | cont => exact hq'.elim
theorem pe_makeS (M : Mk X.K cls f) (F : FnOk X.prog X.w X.K X.mg X.base (CX X.prog X.w) k f fd ps sp) (hr : Room (k + 1) X.A) (hg : Gl X x) (hm : X.mg x = some (.ref cls)) (hb : Binds X.K fd ps []) (tk : Takes X W) (ha : PA X (e :: es) t) (hdb : (x == ("__debug__" : Str)) = false)
    (he : starEach (e :: es) X.env = (false, eval e X.env) :: starEach es X.env) (hpl : (backTo pos (starEach es X.env)).any (·.1) = false) : PE X (.Call (.Name x p) (e :: es) [] pos) (tMakeS W cls sp t) := by
  refine ⟨fun pins s σ H Q I h => ?_⟩
  refine wpAny_Call_Name_kw (ld_glob I hg hm ?_ hdb)
  refine PySem.W.callWith_K (h₀ := X.base) I.ok.mod.kin M.kp (thn (ha.run pos pins s σ H _ I h) fun us s1 ⟨vs, H1, I1, r, q⟩ => ⟨I1.kIn, ?_⟩) he hpl
  exact run_makeS M F hr hb tk I1 r q
theorem pe_makeS0 (M : Mk X.K cls f) (F : FnOk X.prog X.w X.K X.mg X.base (CX X.prog X.w) k f fd ps sp) (hr : Room (k + 1) X.A) (hg : Gl X x) (hm : X.mg x = some (.ref cls)) (hb : Binds X.K fd ps []) (tk : Takes X W) (hdb : (x == ("__debug__" : Str)) = false) :
    PE X (.Call (.Name x p) [] [] pos) (tMakeS W cls sp tNil) := by
  refine ⟨fun pins s σ H Q I h => ?_⟩
  refine wpAny_Call_Name_kw (ld_glob I hg hm ?_ hdb)
  exact PySem.W.callWith_K0 I.kIn M.kp (run_makeS (us := []) M F hr hb tk I .nil h)
end
end Ev

/-! A form that passes the check says what the text does: expressions. -/
namespace Ev
open PySem PySem.Spec PyProof.Rows L2
section
variable (G : Gl0) (C : CallS)
def OkE (ie : IE) : Prop := ∀ (X : Cx) (W : WX) (A : Sc), Good G C X W A → ∀ e, chkE A ie e = true → PE X e (LE X W fun E => semE G C E ie)
def OkEs (ies : IEs) : Prop := ∀ (X : Cx) (W : WX) (A : Sc), Good G C X W A → ∀ es, chkEs A ies es = true → PA X es (LA X W es.length fun E => semEs G C E ies)
def OkO (io : IO) : Prop := ∀ (X : Cx) (W : WX) (A : Sc), Good G C X W A → ∀ o, chkO A io o = true → PO X o (LO X W fun E => semO G C E io)
def OkC (ic : IC) : Prop := ∀ (X : Cx) (W : WX) (A : Sc), Good G C X W A → ∀ e, chkC A ic e = true → PT X e (LT X W fun E => semC G C E ic)
end
section
variable {G : Gl0} {C : CallS}
theorem ok_var (i : Nat) : OkE G C (.var i) := by
  intro X W A g e h
  unfold chkE at h
  split at h
  · obtain ⟨h1, h2, h3, h4⟩ := vis_of g.hN g.sc h
    refine (pe_var h1 h2 h3 h4).imp ?_
    rintro σ H Q ⟨σd, S, Qd, E, rn, rs, h, p, xp⟩
    simp only [semE] at h
    split at h
    · rename_i d e
      obtain ⟨v, q1, q2⟩ := rn.gt e
      exact ⟨v, q1, p v H d S (Ext.refl H) q2 rs h⟩
    · exact h.elim
  · cases h
theorem ok_int (i : Int) : OkE G C (.int i) := by
  intro X W A g e h
  unfold chkE at h
  split at h
  · have e := of_decide_eq_true h
    subst e
    refine pe_int.imp ?_
    rintro σ H Q ⟨σd, S, Qd, E, rn, rs, h, p, xp⟩
    exact p _ H _ S (Ext.refl H) (.int _) rs h
  · cases h
theorem ok_bl (i : Bool) : OkE G C (.bl i) := by
  intro X W A g e h
  unfold chkE at h
  split at h
  · have e := of_decide_eq_true h
    subst e
    refine pe_bl.imp ?_
    rintro σ H Q ⟨σd, S, Qd, E, rn, rs, h, p, xp⟩
    exact p _ H _ S (Ext.refl H) (.bl _) rs h
  · cases h
theorem ok_non : OkE G C .non := by
  intro X W A g e h
  unfold chkE at h
  split at h
  · refine pe_non.imp ?_
    rintro σ H Q ⟨σd, S, Qd, E, rn, rs, h, p, xp⟩
    exact p _ H _ S (Ext.refl H) .non rs h
  · cases h
theorem ok_str (i : Str) : OkE G C (.str i) := by
  intro X W A g e h
  unfold chkE at h
  split at h
  · have e := of_decide_eq_true h
    subst e
    refine pe_str.imp ?_
    rintro σ H Q ⟨σd, S, Qd, E, rn, rs, h, p, xp⟩
    exact p _ H _ S (Ext.refl H) (.str _) rs h
  · cases h
theorem ok_glo (i : Str) : OkE G C (.glo i) := by
  intro X W A g e h
  unfold chkE at h
  split at h
  · simp only [Bool.and_eq_true, decide_eq_true_eq] at h
    obtain ⟨⟨h1, h2⟩, h3⟩ := h
    subst h1
    obtain ⟨q1, q2⟩ := glb_of g.sc h2
    obtain ⟨d, u, v, c1, c2, c3, c4⟩ := g.cst _ h3
    refine (pe_glob q1 c2 c3 q2).imp ?_
    rintro σ H Q ⟨σd, S, Qd, E, rn, rs, h, p, xp⟩
    simp only [semE, c1] at h
    exact p _ H _ S (Ext.refl H) (c4 H) rs h
  · cases h
theorem ok_tup {es : IEs} (ih : OkEs G C es) : OkE G C (.tup es) := by
  intro X W A g e h
  unfold chkE at h
  split at h
  · simp only [Bool.and_eq_true, decide_eq_true_eq] at h
    refine (pe_tup (ih X W A g _ h.1)).imp ?_
    refine LE.args (R := fun E ds S Q => Q (.tup ds) S) (r := fun σ vs H Q => vs.length ≤ sizeLine ∧ ∀ p, H p = none → Q (.ref p) (upd H p (.tup vs))) ?_
    rintro σ vs H Q ⟨ds, S, Qd, E, rs, hl, rd, h1, p, xp⟩
    exact ⟨Nat.le_of_lt (small1000 (by rw [hl]; exact h.2)), p.tup rs rd h1⟩
  · cases h
theorem ok_lst {es : IEs} (ih : OkEs G C es) : OkE G C (.lst es) := by
  intro X W A g e h
  unfold chkE at h
  split at h
  · simp only [Bool.and_eq_true, decide_eq_true_eq] at h
    refine (pe_lst (ih X W A g _ h.1)).imp ?_
    refine LE.args (R := fun E ds S Q => ∀ a, S a = none → Q (.ref a) (put S a (.lst ds))) (r := fun σ vs H Q => vs.length ≤ sizeLine ∧ ∀ p, H p = none → Q (.ref p) (upd H p (.lst vs))) ?_
    rintro σ vs H Q ⟨ds, S, Qd, E, rs, hl, rd, h1, p, xp⟩
    exact ⟨Nat.le_of_lt (small1000 (by rw [hl]; exact h.2)), p.lst rs rd h1⟩
  · cases h
theorem ok_bin {op : Operator} {a b : IE} (iha : OkE G C a) (ihb : OkE G C b) : OkE G C (.bin op a b) := by
  intro X W A g e h
  unfold chkE at h
  split at h
  · simp only [Bool.and_eq_true, decide_eq_true_eq] at h
    obtain ⟨⟨h1, h2⟩, h3⟩ := h
    subst h1
    exact (pe_op (bin_ok (fun z pins σ H s I => (g.py z).room I) op) (iha X W A g _ h2) (ihb X W A g _ h3)).imp (LE.bin fun v w H Q z => z)
  · cases h
theorem ok_neg {a : IE} (iha : OkE G C a) : OkE G C (.neg a) := by
  intro X W A g e h
  unfold chkE at h
  split at h
  · refine (pe_un un_neg (iha X W A g _ h)).imp ?_
    rintro σ H Q ⟨σd, S, Qd, E, rn, rs, h, p, xp⟩
    refine ⟨σd, S, _, E, rn, rs, h, fun v H1 x S1 e1 rx rs1 h1 => ?_, xp⟩
    split at h1
    · cases rx
      exact ⟨_, rfl, p _ H1 _ S1 e1 (.int _) rs1 h1⟩
    · exact h1.elim
  · cases h
theorem ok_cmp {op : CmpOp} {a b : IE} (iha : OkE G C a) (ihb : OkE G C b) : OkE G C (.cmp op a b) := by
  intro X W A g e h
  unfold chkE at h
  split at h
  · simp only [Bool.and_eq_true, decide_eq_true_eq] at h
    obtain ⟨⟨h1, h2⟩, h3⟩ := h
    subst h1
    exact (pe_cmpR (cmpR_ok (Nat.lt_of_succ_lt g.hu) op) (iha X W A g _ h2) (ihb X W A g _ h3) (mark_ok h3)).imp LE.cmp
  · cases h
theorem LE.chain {X : Cx} {W : WX} {fa fb fc : FE} {op op2 : CmpOp} : ∀ σ H Q, LE X W (fun E σ S Q => fa E σ S fun x S1 => fb E σ S1 fun y S2 => cmpS op x y S2 fun k =>
      if k = true then fc E σ S2 fun z S3 => cmpS op2 y z S3 fun k2 => Q (.bl k2) S3 else Q (.bl false) S2) σ H Q → tChain (RC X.K op) (RC X.K op2) (LE X W fa) (LE X W fb) (LE X W fc) σ H Q := by
  rintro σ H Q ⟨σd, S, Qd, E, rn, rs, h, p, xp⟩
  refine ⟨σd, S, _, E, rn, rs, h, fun v H1 x S1 e1 rx rs1 h1 => ⟨σd, S1, _, E, rn.ext e1, rs1, h1, fun w H2 y S2 e2 ry rs2 h2 => ?_, xp.ext e1⟩, xp⟩
  refine ⟨x, y, S2, _, rs2, rx.ext e2, ry, h2, fun k hk => ⟨k, rfl, ?_⟩⟩
  cases k with
  | true =>
    have hk : fc E σd S2 _ := hk
    refine ⟨σd, S2, _, E, rn.ext (e1.trans e2), rs2, hk, fun u H3 z S3 e3 rz rs3 h3 => ?_, xp.ext (e1.trans e2)⟩
    exact ⟨y, z, S3, _, rs3, ry.ext e3, rz, h3, fun k hk => p _ H3 _ S3 ((e1.trans e2).trans e3) (.bl k) rs3 hk⟩
  | false =>
    have hk : Qd (.bl false) S2 := hk
    exact p _ H2 _ S2 (e1.trans e2) (.bl false) rs2 hk
theorem ok_chn {op op2 : CmpOp} {a b c : IE} (iha : OkE G C a) (ihb : OkE G C b) (ihc : OkE G C c) : OkE G C (.chn op op2 a b c) := by
  intro X W A g e h
  unfold chkE at h
  split at h
  · simp only [Bool.and_eq_true, decide_eq_true_eq] at h
    obtain ⟨⟨⟨⟨h1, h2⟩, h3⟩, h4⟩, h5⟩ := h
    subst h1
    subst h2
    have hu := Nat.lt_of_succ_lt g.hu
    exact (pe_chain (cmpR_ok hu op) (cmpR_ok hu op2) (iha X W A g _ h3) (ihb X W A g _ h4) (ihc X W A g _ h5) (marks_ok h5)).imp LE.chain
  · cases h
theorem ok_and {a b : IE} (iha : OkE G C a) (ihb : OkE G C b) : OkE G C (.and a b) := by
  intro X W A g e h
  unfold chkE at h
  split at h
  · simp only [Bool.and_eq_true] at h
    refine (pe_andT (iha X W A g _ h.1) (ihb X W A g _ h.2)).imp ?_
    rintro σ H Q ⟨σd, S, Qd, E, rn, rs, h, p, xp⟩
    refine ⟨σd, S, _, E, rn, rs, h, fun v H1 x S1 e1 rx rs1 h1 => ?_, xp⟩
    obtain ⟨k, k1, k2⟩ := tru_rel rs1 rx h1
    refine ⟨k, k1, ?_⟩
    cases k with
    | true => exact ⟨σd, S1, Qd, E, rn.ext e1, rs1, k2, fun v H' d S' e => p v H' d S' (e1.trans e), xp.ext e1⟩
    | false => exact p v H1 x S1 e1 rx rs1 k2
  · cases h
theorem ok_or {a b : IE} (iha : OkE G C a) (ihb : OkE G C b) : OkE G C (.or a b) := by
  intro X W A g e h
  unfold chkE at h
  split at h
  · simp only [Bool.and_eq_true] at h
    refine (pe_orT (iha X W A g _ h.1) (ihb X W A g _ h.2)).imp ?_
    rintro σ H Q ⟨σd, S, Qd, E, rn, rs, h, p, xp⟩
    refine ⟨σd, S, _, E, rn, rs, h, fun v H1 x S1 e1 rx rs1 h1 => ?_, xp⟩
    obtain ⟨k, k1, k2⟩ := tru_rel rs1 rx h1
    refine ⟨k, k1, ?_⟩
    cases k with
    | false => exact ⟨σd, S1, Qd, E, rn.ext e1, rs1, k2, fun v H' d S' e => p v H' d S' (e1.trans e), xp.ext e1⟩
    | true => exact p v H1 x S1 e1 rx rs1 k2
  · cases h
theorem ok_one {a : IE} (iha : OkE G C a) : OkE G C (.one a) := by
  intro X W A g e h
  unfold chkE at h
  split at h
  · exact (pe_one (iha X W A g _ h)).imp fun σ H Q z => z
  · cases h
theorem ok_not {a : IE} (iha : OkE G C a) : OkE G C (.not a) := by
  intro X W A g e h
  unfold chkE at h
  split at h
  · refine (pe_notT (iha X W A g _ h)).imp ?_
    rintro σ H Q ⟨σd, S, Qd, E, rn, rs, h, p, xp⟩
    refine ⟨σd, S, _, E, rn, rs, h, fun v H1 x S1 e1 rx rs1 h1 => ?_, xp⟩
    obtain ⟨k, k1, k2⟩ := tru_rel rs1 rx h1
    exact ⟨k, k1, p _ H1 _ S1 e1 (.bl _) rs1 k2⟩
  · cases h
theorem ok_ifx {c : IC} {a b : IE} (ihc : OkC G C c) (iha : OkE G C a) (ihb : OkE G C b) : OkE G C (.ifx c a b) := by
  intro X W A g e h
  unfold chkE at h
  split at h
  · simp only [Bool.and_eq_true] at h
    refine (pe_ifExp (ihc X W A g _ h.1.1) (iha X W A g _ h.1.2) (ihb X W A g _ h.2)).imp ?_
    rintro σ H Q ⟨σd, S, Qd, E, rn, rs, h, p, xp⟩
    refine ⟨σd, S, _, E, rn, rs, h, fun k H1 S1 e1 rs1 h1 => ?_, xp⟩
    cases k with
    | true => exact ⟨σd, S1, Qd, E, rn.ext e1, rs1, h1, fun v H' d S' e => p v H' d S' (e1.trans e), xp.ext e1⟩
    | false => exact ⟨σd, S1, Qd, E, rn.ext e1, rs1, h1, fun v H' d S' e => p v H' d S' (e1.trans e), xp.ext e1⟩
  · cases h
theorem ok_idx {a i : IE} (iha : OkE G C a) (ihi : OkE G C i) : OkE G C (.idx a i) := by
  intro X W A g e h
  unfold chkE at h
  split at h
  · simp only [Bool.and_eq_true] at h
    exact (pe_ix idx_ok (iha X W A g _ h.1) (ihi X W A g _ h.2) (ix_ok (chkE_nsl h.2))).imp (LE.bin fun v w H Q z => z)
  · cases h
theorem ok_slc {a : IE} {lo hi : IO} (iha : OkE G C a) (ihl : OkO G C lo) (ihh : OkO G C hi) : OkE G C (.slc a lo hi) := by
  intro X W A g e h
  unfold chkE at h
  split at h
  · simp only [Bool.and_eq_true] at h
    refine (pe_slice slc_ok (iha X W A g _ h.1.1) (ihl X W A g _ h.1.2) (ihh X W A g _ h.2)).imp ?_
    rintro σ H Q ⟨σd, S, Qd, E, rn, rs, h, p, xp⟩
    refine ⟨σd, S, _, E, rn, rs, h, fun v H1 x S1 e1 rx rs1 h1 => ⟨σd, S1, _, E, rn.ext e1, rs1, h1, fun l H2 S2 e2 rs2 h2 => ⟨σd, S2, _, E, rn.ext (e1.trans e2), rs2, h2, fun u H3 S3 e3 rs3 h3 => ?_, xp.ext (e1.trans e2)⟩, xp.ext e1⟩, xp⟩
    exact ⟨x, S3, Qd, rs3, rx.ext (e2.trans e3), h3, fun v' H' d S' e => p v' H' d S' (((e1.trans e2).trans e3).trans e)⟩
  · cases h
theorem ok_call {f : Str} {es : IEs} (ih : OkEs G C es) : OkE G C (.call f es) := by
  intro X W A g e h
  unfold chkE at h
  split at h
  · rename_i x p1 args p2
    simp only [Bool.and_eq_true, decide_eq_true_eq, Bool.not_eq_true'] at h
    obtain ⟨⟨⟨⟨h1, h2⟩, h3⟩, h4⟩, h5⟩ := h
    subst h1
    obtain ⟨q1, q2⟩ := glb_of g.sc h2
    obtain ⟨a, fd, ps, k, m1, m2, m3, m4, m5⟩ := g.fns h4 _ _ h3
    cases args with
    | nil =>
      cases es with
      | cons _ _ => cases h5
      | nil =>
        refine (pe_call0S (W := W) m5 m4 q1 m1 m2 m3 g.tk q2).imp ?_
        rintro σ H Q ⟨σd, S, Qd, E, rn, rs, h, p, xp⟩
        have h : C x [] S Qd E := h
        exact ⟨[], S, Qd, E, .nil, rs, h, p, xp⟩
    | cons e0 er =>
      have hp := ih X W A g _ h5
      have hst := chkEs_star (env := X.env) h5
      cases es with
      | nil => cases h5
      | cons ie0 ier =>
      simp only [chkEs, Bool.and_eq_true] at h5
      have hs := star_cons (es := er) (env := X.env) (chkE_nst h5.1)
      have ht := (chkEs_star (env := X.env) h5.2).1
      refine (pe_callSD (E := WE W) m5 m4 q1 m1 m2 m3 .nil (fun σ => passAt g.tk σ) hp q2 hs (back_any ht)).imp ?_
      refine LE.args (R := fun E ds S Q => C x ds S Q E) (r := fun σ vs H Q => LF X.K X.mg C x (vs ++ []) H Q (WE W σ)) ?_
      rintro σ vs H Q ⟨ds, S, Qd, E, rs, hl, rd, h1, p, xp⟩
      rw [List.append_nil]
      exact ⟨ds, S, Qd, E, rd, rs, h1, p, xp⟩
  · cases h
theorem boot_bi : ∀ b : Bi, b ≠ .gcd → b ≠ .lcm → bootBuiltins (biNm b) = some (biV b)
  | .len, _, _ => by decide +kernel
  | .abs, _, _ => by decide +kernel
  | .int, _, _ => by decide +kernel
  | .min2, _, _ => by decide +kernel
  | .max2, _, _ => by decide +kernel
  | .tuple, _, _ => by decide +kernel
  | .list, _, _ => by decide +kernel
  | .gcd, h, _ => absurd rfl h
  | .lcm, _, h => absurd rfl h
theorem boot_ty : ∀ t : Ty, (match t with | .own _ => false | _ => true) = true → bootBuiltins (tyNm t) = some (tyV1 t)
  | .int, _ => by decide +kernel
  | .bool, _ => by decide +kernel
  | .str, _ => by decide +kernel
  | .tuple, _ => by decide +kernel
  | .list, _ => by decide +kernel
  | .own _, h => by cases h
theorem ok_bi {b : Bi} {es : IEs} (ih : OkEs G C es) : OkE G C (.bi b es) := by
  intro X W A g e h
  unfold chkE at h
  split at h
  · rename_i x p1 args p2
    simp only [Bool.and_eq_true, decide_eq_true_eq, Bool.not_eq_true'] at h
    obtain ⟨⟨⟨⟨h1, h2⟩, h4⟩, h5⟩, h6⟩ := h
    cases args with
    | nil => cases h6
    | cons e0 er =>
    have hp := ih X W A g _ h5
    cases es with
    | nil => cases h5
    | cons ie0 ier =>
    simp only [chkEs, Bool.and_eq_true] at h5
    have hs := star_cons (es := er) (env := X.env) (chkE_nst h5.1)
    have ht := back_any (pos := p2) (chkEs_star (env := X.env) h5.2).1
    have go : ∀ σ H Q, LE X W (fun E => semE G C E (.bi b (.cons ie0 ier))) σ H Q → tCB (RBi X.K b) (LA X W (e0 :: er).length fun E => semEs G C E (.cons ie0 ier)) σ H Q := by
      refine LE.args (R := fun E ds S Q => biS b ds S Q) (r := fun σ vs H Q => RBi X.K b vs H Q) ?_
      rintro σ vs H Q ⟨ds, S, Qd, E, rs, hl, rd, h1, p, xp⟩
      exact ⟨ds, S, Qd, rs, rd, h1, p⟩
    have hb := bi_ok (X := X) (g.calm h4) b
    have blt : b ≠ .gcd → b ≠ .lcm → A.bn x = true := fun z z2 => by cases b <;> first | exact h2 | exact absurd rfl z | exact absurd rfl z2
    cases b with
    | gcd =>
      simp only [Bool.and_eq_true] at h2
      obtain ⟨q1, q2⟩ := glb_of g.sc h2.1
      subst h1
      exact (pe_callBfun hb q1 (g.gcd h2.2) hp q2 hs ht).imp go
    | lcm =>
      simp only [Bool.and_eq_true] at h2
      obtain ⟨q1, q2⟩ := glb_of g.sc h2.1
      subst h1
      exact (pe_callBfun hb q1 (g.lcm h2.2) hp q2 hs ht).imp go
    | len =>
      obtain ⟨q1, q2, q3, q4⟩ := bn_of g (blt (by decide) (by decide))
      exact (pe_callB hb q1 q3 (by rw [h1]; exact boot_bi _ (by decide) (by decide)) hp q4 q2 hs ht).imp go
    | abs =>
      obtain ⟨q1, q2, q3, q4⟩ := bn_of g (blt (by decide) (by decide))
      exact (pe_callB hb q1 q3 (by rw [h1]; exact boot_bi _ (by decide) (by decide)) hp q4 q2 hs ht).imp go
    | min2 =>
      obtain ⟨q1, q2, q3, q4⟩ := bn_of g (blt (by decide) (by decide))
      exact (pe_callB hb q1 q3 (by rw [h1]; exact boot_bi _ (by decide) (by decide)) hp q4 q2 hs ht).imp go
    | max2 =>
      obtain ⟨q1, q2, q3, q4⟩ := bn_of g (blt (by decide) (by decide))
      exact (pe_callB hb q1 q3 (by rw [h1]; exact boot_bi _ (by decide) (by decide)) hp q4 q2 hs ht).imp go
    | int =>
      obtain ⟨q1, q2, q3, q4⟩ := bn_of g (blt (by decide) (by decide))
      exact (pe_callTy hb q1 q3 (by rw [h1]; exact boot_bi _ (by decide) (by decide)) hp q4 q2 hs ht).imp go
    | tuple =>
      obtain ⟨q1, q2, q3, q4⟩ := bn_of g (blt (by decide) (by decide))
      exact (pe_callTy hb q1 q3 (by rw [h1]; exact boot_bi _ (by decide) (by decide)) hp q4 q2 hs ht).imp go
    | list =>
      obtain ⟨q1, q2, q3, q4⟩ := bn_of g (blt (by decide) (by decide))
      exact (pe_callTy hb q1 q3 (by rw [h1]; exact boot_bi _ (by decide) (by decide)) hp q4 q2 hs ht).imp go
  · cases h
end
end Ev

/-! A form that passes the check says what the text does: isinstance, methods, what is walked, comprehensions. -/
namespace Ev
open PySem PySem.Spec PyProof.Rows L2
def tyS : Ty → String
  | .int => "int"
  | .bool => "bool"
  | .str => "str"
  | .tuple => "tuple"
  | .list => "list"
  | .own _ => ""
theorem tyV1_S {t : Ty} (h : (match t with | .own _ => false | _ => true) = true) : tyV1 t = .type (tyS t) := by
  cases t <;> first | rfl | cases h
theorem boot_isi : bootBuiltins "isinstance" = some (.builtin "isinstance") := by decide +kernel
section
variable {G : Gl0} {C : CallS} {X : Cx} {W : WX} {A : Sc}
theorem ty1_pe (g : Good G C X W A) {t : Ty} {e : Expr} (h : A.ty1 t e = true) : PE X e (tC (.ty (tyS t))) ∧ nst e = true ∧ tyV1 t = .type (tyS t) := by
  unfold Sc.ty1 at h
  split at h
  · simp only [Bool.and_eq_true, decide_eq_true_eq] at h
    obtain ⟨⟨h1, h2⟩, h3⟩ := h
    obtain ⟨q1, q2, q3, q4⟩ := bn_of g h2
    have q5 := tyV1_S h3
    exact ⟨pe_bltn q1 q3 (by rw [h1, boot_ty t h3, q5]) rfl q4 q2, rfl, q5⟩
  · cases h
theorem tys_pa (g : Good G C X W A) : ∀ {ts : List Ty} {es : List Expr}, A.tys ts es = true → PA X es (fun _ H Q => Q (ts.map fun t => V.ty (tyS t)) H) ∧ (ts.map tyV1 = ts.map fun t => Value.type (tyS t)) ∧ es.length = ts.length
  | [], [], _ => ⟨pa_nil, rfl, rfl⟩
  | [], _ :: _, h => by cases h
  | _ :: _, [], h => by cases h
  | t :: r, e :: es, h => by
    unfold Sc.tys at h
    simp only [Bool.and_eq_true] at h
    obtain ⟨p1, p2, p3⟩ := ty1_pe g h.1
    obtain ⟨q1, q2, q3⟩ := tys_pa g h.2
    exact ⟨(pa_cons p1 q1 (star_cons p2)), by rw [List.map_cons, List.map_cons, p3, q2], by rw [List.length_cons, List.length_cons, q3]⟩
theorem cls_all : ∀ ts : List Ty, Paired ClsV (ts.map fun t => V.ty (tyS t)) (ts.map fun t => Value.type (tyS t))
  | [] => .nil
  | _ :: r => .cons (.ty _) (cls_all r)
theorem isTs_one {S : Sto} {x : D} {t : Ty} {k : Bool} (h : isTs S x [t] = some k) : isT S x t = some k := by
  unfold isTs at h
  split at h
  · rename_i e; cases h; exact e
  · rename_i e; cases h; exact e
  · cases h
theorem ok_isi {a : IE} {ts : List Ty} (iha : OkE G C a) : OkE G C (.isi a ts) := by
  intro X W A g e h
  unfold chkE at h
  split at h
  · rename_i x p1 y t p2
    simp only [Bool.and_eq_true, decide_eq_true_eq] at h
    obtain ⟨⟨⟨h1, h2⟩, h3⟩, h4⟩ := h
    obtain ⟨q1, q2, q3, q4⟩ := bn_of g h2
    have hy := iha X W A g _ h3
    have hs : ∀ l, starEach (y :: l) X.env = (false, eval y X.env) :: starEach l X.env := fun l => star_cons (chkE_nst h3)
    split at h4
    · rename_i xs kk pp
      simp only [Bool.and_eq_true, decide_eq_true_eq, Bool.not_eq_true'] at h4
      obtain ⟨⟨h5, h6⟩, h7⟩ := h4
      obtain ⟨r1, r2, r3⟩ := tys_pa g h5
      refine (pe_callB call_isiT q1 q3 (by rw [h1]; exact boot_isi) (pa_cons hy (pa_cons (pe_tup r1) pa_nil rfl) (hs _)) q4 q2 (hs _) rfl).imp ?_
      rintro σ H Q ⟨σd, S, Qd, E, rn, rs, h, p, xp⟩
      refine ⟨σd, S, _, E, rn, rs, h, fun v H1 x' S1 e1 rx rs1 h1' => ?_, xp⟩
      have h1' : (match isTs S1 x' ts with | some k => Qd (.bl k) S1 | none => False) := h1'
      split at h1'
      · rename_i k ek
        obtain ⟨k1, k2⟩ := isTs_kit (K := X.K) ek
        have tn : ts ≠ [] := fun z => by
          rw [z] at r3
          cases xs with
          | nil => cases h6
          | cons _ _ => cases r3
        refine ⟨Nat.le_of_lt (small1000 (by rw [List.length_map, ← r3]; exact h7)), fun tp np => ?_⟩
        refine ⟨v, tp, _, .type (tyD x'), ts.map fun t => Value.type (tyS t), k, rfl, upd_same, ?_, ?_, by rw [← r2]; exact k1, ?_⟩
        · exact cls_all ts
        · exact tyD_ok (rs1.new np) (Rv.ext (Ext.new np) rx) (k2 tn)
        · exact p _ _ (.bl k) S1 (e1.trans (Ext.new np)) (.bl k) (rs1.new np) h1'
      · exact h1'.elim
    · split at h4
      · rename_i t1
        obtain ⟨r1, r2, r3⟩ := ty1_pe g h4
        refine (pe_callB call_isi q1 q3 (by rw [h1]; exact boot_isi) (pa_cons hy (pa_cons r1 pa_nil (star_cons r2)) (hs _)) q4 q2 (hs _) (by rw [star_cons r2] <;> rfl)).imp ?_
        rintro σ H Q ⟨σd, S, Qd, E, rn, rs, h, p, xp⟩
        refine ⟨σd, S, _, E, rn, rs, h, fun v H1 x' S1 e1 rx rs1 h1' => ?_, xp⟩
        have h1' : (match isTs S1 x' [t1] with | some k => Qd (.bl k) S1 | none => False) := h1'
        split at h1'
        · rename_i k ek
          obtain ⟨k1, k2, k3⟩ := isT_kit (K := X.K) (isTs_one ek)
          exact ⟨v, _, .type (tyD x'), .type (tyS t1), k, rfl, .ty _, tyD_ok rs1 rx k2, by rw [← r3]; exact k1, p _ H1 (.bl k) S1 e1 (.bl k) rs1 h1'⟩
        · exact h1'.elim
      · cases h4
  · cases h

theorem clsRel {c : V} {v : Value} (h : ClsV c v) : RelV c v := by
  cases h <;> rfl
theorem xn1_pe (g : Good G C X W A) {c : Str} {e : Expr} (h : A.xn1 c e = true) : nst e = true ∧ ∃ (cv : V) (v : Value), PE X e (tC cv) ∧ ClsV cv v ∧ ∀ k b, G.sub k c = some b → ∃ D : Addr, X.mg k = some (.ref D) ∧ ExcC X.K D ∧ PySem.W.kitOne X.K (.ref D) v = some b := by
  unfold Sc.xn1 at h
  split at h
  · simp only [Bool.and_eq_true, decide_eq_true_eq] at h
    obtain ⟨⟨h1, h2⟩, h3⟩ := h
    subst h1
    obtain ⟨q1, q2⟩ := glb_of g.sc h2
    obtain ⟨cv, v, k1, k2, k3⟩ := g.exi _ h3
    refine ⟨rfl, cv, v, ?_, k1, k3⟩
    rcases k2 with k2 | ⟨k2, k4, k5⟩
    · exact pe_glob q1 k2 (clsRel k1) q2
    · exact pe_bltn q1 k2 k4 (clsRel k1) k5 q2
  · cases h
theorem xns_pa (g : Good G C X W A) : ∀ {cs : List Str} {es : List Expr}, A.xns cs es = true → ∃ (cv : List V) (vs : List Value), PA X es (fun _ H Q => Q cv H) ∧ Paired ClsV cv vs ∧ es.length = cv.length ∧
    ∀ k b, isXs G.sub k cs = some b → ∀ D : Addr, X.mg k = some (.ref D) → PySem.W.kitAny X.K (.ref D) vs = some b
  | [], [], _ => ⟨[], [], pa_nil, .nil, rfl, fun k b h D _ => by cases h; rfl⟩
  | [], _ :: _, h => by cases h
  | _ :: _, [], h => by cases h
  | t :: r, e :: es, h => by
    unfold Sc.xns at h
    simp only [Bool.and_eq_true] at h
    obtain ⟨p1, cv, v, p2, p3, p4⟩ := xn1_pe g h.1
    obtain ⟨cvs, vs, q1, q2, q3, q4⟩ := xns_pa g h.2
    refine ⟨cv :: cvs, v :: vs, pa_cons p2 q1 (star_cons p1), .cons p3 q2, by rw [List.length_cons, List.length_cons, q3], fun k b hb D hD => ?_⟩
    unfold isXs at hb
    split at hb
    · rename_i ek
      cases hb
      obtain ⟨D', d1, d2, d3⟩ := p4 _ _ ek
      rw [hD] at d1
      cases d1
      exact kitAny_cons d3 (fun z => by cases z) (fun _ => rfl)
    · rename_i ek
      obtain ⟨D', d1, d2, d3⟩ := p4 _ _ ek
      rw [hD] at d1
      cases d1
      exact kitAny_cons d3 (fun _ => q4 _ _ hb D hD) (fun z => by cases z)
    · cases hb
theorem ok_isx {a : IE} {c : Str} (iha : OkE G C a) : OkE G C (.isx a c) := by
  intro X W A g e h
  unfold chkE at h
  split at h
  · rename_i x p1 y t p2
    simp only [Bool.and_eq_true, decide_eq_true_eq] at h
    obtain ⟨⟨⟨h1, h2⟩, h3⟩, h4⟩ := h
    obtain ⟨q1, q2, q3, q4⟩ := bn_of g h2
    have hy := iha X W A g _ h3
    have hs : ∀ l, starEach (y :: l) X.env = (false, eval y X.env) :: starEach l X.env := fun l => star_cons (chkE_nst h3)
    obtain ⟨r1, cv, v, r2, r3, r4⟩ := xn1_pe g h4
    rcases hxc : G.xc with _ | ⟨ba, ex⟩
    · refine ⟨fun pins s σ H Q I hh => ?_⟩
      obtain ⟨σd, S, Qd, E, rn, rs, h, p, xp⟩ := hh
      simp only [semE, hxc] at h
    · obtain ⟨_, _, D, d1, d2, d3⟩ := g.xcg _ _ hxc
      refine (pe_callB d2 q1 q3 (by rw [h1]; exact boot_isi) (pa_cons hy (pa_cons r2 pa_nil (star_cons r1)) (hs _)) q4 q2 (hs _) (by rw [star_cons r1] <;> rfl)).imp ?_
      rintro σ H Q ⟨σd, S, Qd, E, rn, rs, h, p, xp⟩
      simp only [semE, hxc] at h
      refine ⟨σd, S, _, E, rn, rs, h, fun w H1 x' S1 e1 rx rs1 h1' => ?_, xp⟩
      obtain ⟨h0, h1'⟩ := h1'
      subst h0
      cases rx
      split at h1'
      · rename_i k ek
        obtain ⟨D', k1, k2, k3⟩ := r4 _ _ ek
        rw [d1] at k1
        cases k1
        exact ⟨cv, v, k, rfl, fun u => r3.eq, k3, p _ H1 (.bl k) S1 e1 (.bl k) rs1 h1'⟩
      · exact h1'.elim
  · cases h
theorem ok_isxs {a : IE} {cs : List Str} (iha : OkE G C a) : OkE G C (.isxs a cs) := by
  intro X W A g e h
  unfold chkE at h
  split at h
  · rename_i x p1 y xs kk pp p2
    simp only [Bool.and_eq_true, decide_eq_true_eq] at h
    obtain ⟨⟨⟨⟨h1, h2⟩, h3⟩, h4⟩, h7⟩ := h
    obtain ⟨q1, q2, q3, q4⟩ := bn_of g h2
    have hy := iha X W A g _ h3
    have hs : ∀ l, starEach (y :: l) X.env = (false, eval y X.env) :: starEach l X.env := fun l => star_cons (chkE_nst h3)
    obtain ⟨cv, vs, r1, r2, r3, r4⟩ := xns_pa g h4
    rcases hxc : G.xc with _ | ⟨ba, ex⟩
    · refine ⟨fun pins s σ H Q I hh => ?_⟩
      obtain ⟨σd, S, Qd, E, rn, rs, h, p, xp⟩ := hh
      simp only [semE, hxc] at h
    · obtain ⟨_, _, D, d1, d2, d3⟩ := g.xcg _ _ hxc
      refine (pe_callB d3 q1 q3 (by rw [h1]; exact boot_isi) (pa_cons hy (pa_cons (pe_tup r1) pa_nil rfl) (hs _)) q4 q2 (hs _) rfl).imp ?_
      rintro σ H Q ⟨σd, S, Qd, E, rn, rs, h, p, xp⟩
      simp only [semE, hxc] at h
      refine ⟨σd, S, _, E, rn, rs, h, fun w H1 x' S1 e1 rx rs1 h1' => ?_, xp⟩
      obtain ⟨h0, h1'⟩ := h1'
      subst h0
      cases rx
      split at h1'
      · rename_i k ek
        refine ⟨Nat.le_of_lt (small1000 (by rw [← r3]; exact h7)), fun tp np => ?_⟩
        exact ⟨tp, cv, vs, k, rfl, upd_same, r2, r4 _ _ ek D d1, p _ _ (.bl k) S1 (e1.trans (Ext.new np)) (.bl k) (rs1.new np) h1'⟩
      · exact h1'.elim
  · cases h

/-! ### methods -/
theorem slot_me : ∀ m : Me, Slot "list" (meNm m) (meId m) ∧ typeOf (.builtin (meId m)) = pure (.type "method_descriptor")
  | .append => ⟨PySem.F.slot_list_append, PySem.F.type_list_append⟩
  | .pop => ⟨PySem.F.slot_list_pop, PySem.F.type_list_pop⟩
  | .popat => ⟨PySem.F.slot_list_pop, PySem.F.type_list_pop⟩
  | .reverse => ⟨PySem.F.slot_list_reverse, PySem.F.type_list_reverse⟩
theorem ok_mth {m : Me} {o : IE} {es : IEs} (iho : OkE G C o) (ih : OkEs G C es) : OkE G C (.mth m o es) := by
  intro X W A g e h
  unfold chkE at h
  split at h
  · rename_i x nm ap args cp
    simp only [Bool.and_eq_true, decide_eq_true_eq] at h
    obtain ⟨⟨⟨⟨⟨h1, h2⟩, h3⟩, h4⟩, h5⟩, h6⟩ := h
    subst h1
    have ho := iho X W A g _ h2
    have hp := ih X W A g _ h4
    obtain ⟨s1, s2⟩ := slot_me m
    have ty : ∀ {H : Hp} {S : Sto} {x : D} {v : V}, RS X.K H S → Rv X.K H x v → mthT m x S → tyV X.K "list" v H := fun {H S x v} rs rx q => by
      unfold mthT at q
      split at q
      · obtain ⟨xs, e⟩ := q
        cases rx
        obtain ⟨vs, h1, _⟩ := rs.lget e
        exact .inl ⟨rfl, vs, h1⟩
      · exact q.elim
    cases args with
    | nil =>
      cases es with
      | cons _ _ => cases h4
      | nil =>
        refine (pe_bm0 PySem.F.plainAttrs_list s1 s2 (mth_ok m) ho (base_ok h3) h6).imp ?_
        rintro σ H Q ⟨σd, S, Qd, E, rn, rs, h, p, xp⟩
        refine ⟨σd, S, _, E, rn, rs, h, fun v H1 x' S1 e1 rx rs1 h1' => ?_, xp⟩
        obtain ⟨t1, h1'⟩ := h1'
        exact ⟨ty rs1 rx t1, x', [], S1, Qd, rs1, rx, .nil, h1', fun v' H' d S' e => p v' H' d S' (e1.trans e)⟩
    | cons e0 er =>
      cases es with
      | nil => cases h4
      | cons ie0 ier =>
      have hst := (chkEs_star (env := X.env) h4)
      have h4' := h4
      simp only [chkEs, Bool.and_eq_true] at h4'
      have hs := star_cons (es := er) (env := X.env) (chkE_nst h4'.1)
      have ht := back_any (pos := cp) (chkEs_star (env := X.env) h4'.2).1
      refine (pe_bm PySem.F.plainAttrs_list s1 s2 (mth_ok m) ho hp (base_ok h3) ?_ h6 hs ht).imp ?_
      · rw [back_all hst.1]
        simp only [Bool.true_and, Bool.and_eq_true, decide_eq_true_eq]
        refine ⟨rfl, ?_⟩
        simp only [List.length_cons, List.length_nil, List.isEmpty_nil, if_true] at h5 ⊢
        omega
      · rintro σ H Q ⟨σd, S, Qd, E, rn, rs, h, p, xp⟩
        refine ⟨σd, S, _, E, rn, rs, h, fun v H1 x' S1 e1 rx rs1 h1' => ?_, xp⟩
        obtain ⟨t1, h1'⟩ := h1'
        refine ⟨ty rs1 rx t1, σd, S1, _, E, rn.ext e1, rs1, h1', fun vs H2 ds S2 e2 hl rd rs2 h2 => ?_, xp.ext e1⟩
        exact ⟨x', ds, S2, Qd, rs2, rx.ext e2, rd, h2, fun v' H' d S' e => p v' H' d S' ((e1.trans e2).trans e)⟩
  · cases h
/-! ### instances -/
theorem ok_fld {o : IE} {f : Str} (iho : OkE G C o) : OkE G C (.fld o f) := by
  intro X W A g e h
  unfold chkE at h
  split at h
  · rename_i x nm p
    simp only [Bool.and_eq_true, decide_eq_true_eq] at h
    obtain ⟨⟨h1, h2⟩, h3⟩ := h
    subst h1
    refine (pe_fld (iho X W A g _ h2) (base_ok h3)).imp ?_
    rintro σ H Q ⟨σd, S, Qd, E, rn, rs, h, p, xp⟩
    refine ⟨σd, S, _, E, rn, rs, h, fun v H1 y S1 e1 rx rs1 h1 => ?_, xp⟩
    split at h1
    · split at h1
      · rename_i C0 fs ei
        cases rx
        obtain ⟨cls, dx, fv, q1, q2, q3⟩ := rs1.iget ei
        obtain ⟨hf, h1⟩ := h1
        obtain ⟨cls', c1, c2, c3⟩ := g.fds _ _ hf
        have := c1.eq q1
        subst this
        split at h1
        · rename_i d ed
          obtain ⟨w, w1, w2⟩ := look_rel q3 ed
          exact ⟨_, _, dx, fv, w, rfl, q2, c2, c3, w1, p w H1 d S1 e1 w2 rs1 h1⟩
        · exact h1.elim
      · exact h1.elim
    · exact h1.elim
  · cases h
theorem form_ok {A : Sc} {es : IEs} {args : List Expr} {pos : Pos} {env : Env} (h : chkEs A es args = true) (hl : args.length < 29) : methodCallForm (args.length + ([] : List Keyword).length) (backTo pos (starEach args env)) (backToKw pos (keywordEach [] env)) = true := by
  unfold methodCallForm
  rw [back_all (chkEs_star (env := env) h).1]
  simp only [Bool.true_and, Bool.and_eq_true, decide_eq_true_eq]
  refine ⟨rfl, ?_⟩
  have e : (backToKw pos (keywordEach [] env)).isEmpty = true := rfl
  simp only [List.length_nil, e, if_true]
  omega
theorem ok_mcl {o : IE} {m : Str} {es : IEs} (iho : OkE G C o) (ih : OkEs G C es) : OkE G C (.mcl o m es) := by
  intro X W A g e h
  unfold chkE at h
  split at h
  · rename_i x nm ap args cp
    simp only [Bool.and_eq_true, decide_eq_true_eq] at h
    obtain ⟨⟨⟨⟨⟨⟨h1, h2⟩, h3⟩, h4⟩, h5⟩, h6⟩, h7⟩ := h
    subst h1
    have ho := iho X W A g _ h2
    have hp := ih X W A g _ h4
    have go : ∀ σ H Q, LE X W (fun E => semE G C E (.mcl o nm es)) σ H Q → tMethG X W nm (LE X W fun E => semE G C E o) (LA X W args.length fun E => semEs G C E es) σ H Q := by
      rintro σ H Q ⟨σd, S, Qd, E, rn, rs, h, p, xp⟩
      refine ⟨σd, S, _, E, rn, rs, h, fun v H1 y S1 e1 rx rs1 h1 => ?_, xp⟩
      split at h1
      · rename_i a
        split at h1
        · rename_i C0 fs ei
          cases rx
          obtain ⟨cls, dx, fv, q1, q2, q3⟩ := rs1.iget ei
          obtain ⟨hf, h1⟩ := h1
          split at h1
          · rename_i key ek
            obtain ⟨cls', f, fd, ps, k, c1, c2, c3, c4, c5, c6⟩ := g.mts h7 _ _ _ ek
            have := c1.eq q1
            subst this
            refine ⟨_, _, dx, fv, f, fd, ps, k, _, rfl, q2, look_none q3 hf, c2, c3, c6, c5, c4, ?_⟩
            refine ⟨σd, S1, _, E, rn.ext e1, rs1, h1, fun vs H2 ds S2 e2 hl rd rs2 h2 => ?_, xp.ext e1⟩
            exact ⟨.ref a :: ds, S2, Qd, E, .cons (.ref a) rd, rs2, h2, fun v' H' d S' e => p v' H' d S' ((e1.trans e2).trans e), xp.ext (e1.trans e2)⟩
          · exact h1.elim
        · exact h1.elim
      · exact h1.elim
    cases args with
    | nil =>
      cases es with
      | cons _ _ => cases h4
      | nil =>
        refine (pe_methG0 ho g.tk (base_ok h3) h6).imp fun σ H Q z => ?_
        have z := go σ H Q z
        obtain ⟨σd, S, R, E, rn, rs, h, p, xp⟩ := z
        refine ⟨σd, S, R, E, rn, rs, h, fun v H1 y S1 e1 rx rs1 h1 => ?_, xp⟩
        obtain ⟨a, cls, dx, fs, f, fd, ps, k, sp, b1, b2, b3, b4, b5, b6, b7, b8, b9⟩ := p v H1 y S1 e1 rx rs1 h1
        refine ⟨a, cls, dx, fs, f, fd, ps, k, sp, b1, b2, b3, b4, b5, b6, b7, b8, ?_⟩
        exact LA.nil _ _ _ b9
    | cons e0 er =>
      cases es with
      | nil => cases h4
      | cons ie0 ier =>
      have h4' := h4
      simp only [chkEs, Bool.and_eq_true] at h4'
      have hs := star_cons (es := er) (env := X.env) (chkE_nst h4'.1)
      have ht := back_any (pos := cp) (chkEs_star (env := X.env) h4'.2).1
      exact (pe_methG ho hp g.tk (base_ok h3) (form_ok h4 h5) h6 hs ht).imp go
  · cases h
theorem ok_mk {y : Str} {es : IEs} (ih : OkEs G C es) : OkE G C (.mk y es) := by
  intro X W A g e h
  unfold chkE at h
  split at h
  · rename_i x p1 args p2
    simp only [Bool.and_eq_true, decide_eq_true_eq] at h
    obtain ⟨⟨⟨⟨h1, h2⟩, h3⟩, h4⟩, h5⟩ := h
    subst h1
    obtain ⟨q1, q2⟩ := glb_of g.sc h2
    have hp := ih X W A g _ h5
    have go : ∀ (cls a : Addr) (fd : FuncData) (ps : List Str) (k : Nat) (key : Str), G.it x = some (some key) → ClsAt X.K x cls → ∀ σ H Q, LE X W (fun E => semE G C E (.mk x es)) σ H Q → tMakeS W cls (LF X.K X.mg C key) (LA X W args.length fun E => semEs G C E es) σ H Q := by
      rintro cls a fd ps k key ei hc σ H Q ⟨σd, S, Qd, E, rn, rs, h, p, xp⟩
      refine ⟨σd, S, _, E, rn, rs, h, fun vs H1 ds S1 e1 hl rd rs1 h1 => ?_, xp⟩
      rw [ei] at h1
      intro b dx nb nd ne
      have e2 : Ext H1 (upd (upd H1 dx (.own b)) b (.ins cls dx [])) := Ext.newI nb nd ne
      refine ⟨.ref b :: ds, _, _, E, .cons (.ref b) (Rvs.ext e2 rd), rs1.newI hc nb nd ne, h1 b (rs1.none nb), fun v' H' d S' e3 rv rs' hq => ?_, xp.ext (e1.trans e2)⟩
      obtain ⟨hq1, hq2⟩ := hq
      subst hq1
      cases rv
      exact ⟨rfl, p _ H' _ S' ((e1.trans e2).trans e3) (.ref b) rs' hq2⟩
    cases hb : A.mks.lookup x with
    | none => rw [hb] at h3; cases h3
    | some own =>
    rw [hb] at h3
    cases own with
    | true =>
      obtain ⟨key, cls, a, fd, ps, k, ei, c1, c2, c3, c4, c5, c6⟩ := g.mk1 h4 x hb
      cases args with
      | nil =>
        cases es with
        | cons _ _ => cases h5
        | nil =>
          refine (pe_makeS0 c3 c6 c5 q1 c2 c4 g.tk q2).imp fun σ H Q z => ?_
          exact LA.nil _ _ _ (go cls a fd ps k key ei c1 σ H Q z)
      | cons e0 er =>
        cases es with
        | nil => cases h5
        | cons ie0 ier =>
        have h5' := h5
        simp only [chkEs, Bool.and_eq_true] at h5'
        have hs := star_cons (es := er) (env := X.env) (chkE_nst h5'.1)
        have ht := back_any (pos := p2) (chkEs_star (env := X.env) h5'.2).1
        exact (pe_makeS c3 c6 c5 q1 c2 c4 g.tk hp q2 hs ht).imp (go cls a fd ps k key ei c1)
    | false =>
      obtain ⟨ei, cls, c1, c2, c3, c4, c5⟩ := g.mk0 h4 x hb
      cases args with
      | cons _ _ => cases h3
      | nil =>
        cases es with
        | cons _ _ => cases h5
        | nil =>
          refine (pe_newI q1 c2 c3 c4 c5 q2).imp ?_
          rintro σ H Q ⟨σd, S, Qd, E, rn, rs, hz, p, xp⟩
          simp only [semE, semEs, ei] at hz
          intro b dx nb nd ne
          exact p _ _ _ _ (Ext.newI nb nd ne) (.ref b) (rs.newI c1 nb nd ne) (hz.2 b (rs.none nb))
  · cases h
theorem ok_nil : OkEs G C .nil := by
  intro X W A g es h
  cases es with
  | nil => exact pa_nil.imp LA.nil
  | cons _ _ => cases h
theorem ok_cons {e : IE} {r : IEs} (ihe : OkE G C e) (ihr : OkEs G C r) : OkEs G C (.cons e r) := by
  intro X W A g es h
  cases es with
  | nil => cases h
  | cons x t =>
    simp only [chkEs, Bool.and_eq_true] at h
    exact (pa_cons (ihe X W A g _ h.1) (ihr X W A g _ h.2) (star_cons (chkE_nst h.1))).imp LA.cons
theorem ok_ono : OkO G C .no := by
  intro X W A g o h
  cases o with
  | none =>
    refine po_none.imp ?_
    rintro σ H Q ⟨σd, S, Qd, E, rn, rs, h, p, xp⟩
    exact p none H S (Ext.refl H) rs h
  | some _ => cases h
theorem ok_osome {e : IE} (ihe : OkE G C e) : OkO G C (.some e) := by
  intro X W A g o h
  cases o with
  | none => cases h
  | some x =>
    refine (po_some (ihe X W A g _ h)).imp ?_
    rintro σ H Q ⟨σd, S, Qd, E, rn, rs, h, p, xp⟩
    refine ⟨σd, S, _, E, rn, rs, h, fun v H1 x S1 e1 rx rs1 h1 => ?_, xp⟩
    split at h1
    · cases rx
      exact ⟨_, rfl, p _ H1 S1 e1 rs1 h1⟩
    · exact h1.elim

/-! ### tests -/
theorem pw_bool {op : BoolOp} {vs : List Expr} {p : Pos} {t : TT} (h : PT X (.BoolOp op vs p) t) : PW X (.BoolOp op vs p) t := ⟨fun wh pins s σ H Q I q => h.run pins s σ H Q I q⟩
theorem ok_cand {a b : IC} (iha : OkC G C a) (ihb : OkC G C b) : OkC G C (.and a b) := by
  intro X W A g e h
  unfold chkC at h
  split at h
  · simp only [Bool.and_eq_true] at h
    refine (pw_and (iha X W A g _ h.1) (pw_bool (ihb X W A g _ h.2))).pt.imp ?_
    rintro σ H Q ⟨σd, S, Qd, E, rn, rs, h, p, xp⟩
    refine ⟨σd, S, _, E, rn, rs, h, fun k H1 S1 e1 rs1 h1 => ?_, xp⟩
    cases k with
    | true => exact ⟨σd, S1, Qd, E, rn.ext e1, rs1, h1, fun v H' S' e => p v H' S' (e1.trans e), xp.ext e1⟩
    | false => exact p false H1 S1 e1 rs1 h1
  · cases h
theorem ok_cor {a b : IC} (iha : OkC G C a) (ihb : OkC G C b) : OkC G C (.or a b) := by
  intro X W A g e h
  unfold chkC at h
  split at h
  · simp only [Bool.and_eq_true] at h
    refine (pw_or (iha X W A g _ h.1) (pw_bool (ihb X W A g _ h.2))).pt.imp ?_
    rintro σ H Q ⟨σd, S, Qd, E, rn, rs, h, p, xp⟩
    refine ⟨σd, S, _, E, rn, rs, h, fun k H1 S1 e1 rs1 h1 => ?_, xp⟩
    cases k with
    | false => exact ⟨σd, S1, Qd, E, rn.ext e1, rs1, h1, fun v H' S' e => p v H' S' (e1.trans e), xp.ext e1⟩
    | true => exact p true H1 S1 e1 rs1 h1
  · cases h
theorem ok_cone {a : IC} (iha : OkC G C a) : OkC G C (.one a) := by
  intro X W A g e h
  unfold chkC at h
  split at h
  · rename_i op x p
    cases op with
    | And => exact (pw_and1 (iha X W A g _ h)).pt.imp fun σ H Q z => z
    | Or => exact (pw_or1 (iha X W A g _ h)).pt.imp fun σ H Q z => z
  · cases h
theorem ok_cnot {a : IC} (iha : OkC G C a) : OkC G C (.not a) := by
  intro X W A g e h
  unfold chkC at h
  split at h
  · refine (pt_not (iha X W A g _ h)).imp ?_
    rintro σ H Q ⟨σd, S, Qd, E, rn, rs, h, p, xp⟩
    exact ⟨σd, S, _, E, rn, rs, h, fun k H1 S1 e1 rs1 h1 => p _ H1 S1 e1 rs1 h1, xp⟩
  · cases h
theorem ok_ccmp {op : CmpOp} {a b : IE} (iha : OkE G C a) (ihb : OkE G C b) : OkC G C (.cmp op a b) := by
  intro X W A g e h
  unfold chkC at h
  split at h
  · simp only [Bool.and_eq_true, decide_eq_true_eq] at h
    obtain ⟨⟨h1, h2⟩, h3⟩ := h
    subst h1
    exact (pt_cmpR (cmpR_ok (Nat.lt_of_succ_lt g.hu) op) (iha X W A g _ h2) (ihb X W A g _ h3) (mark_ok h3)).imp LT.cmp
  · cases h
theorem LT.chain {fa fb fc : FE} {op op2 : CmpOp} : ∀ σ H Q, LT X W (fun E σ S Q => fa E σ S fun x S1 => fb E σ S1 fun y S2 => cmpS op x y S2 fun k =>
      if k = true then fc E σ S2 fun z S3 => cmpS op2 y z S3 fun k2 => Q k2 S3 else Q false S2) σ H Q → tTest (tChain (RC X.K op) (RC X.K op2) (LE X W fa) (LE X W fb) (LE X W fc)) σ H Q := by
  rintro σ H Q ⟨σd, S, Qd, E, rn, rs, h, p, xp⟩
  refine ⟨σd, S, _, E, rn, rs, h, fun v H1 x S1 e1 rx rs1 h1 => ⟨σd, S1, _, E, rn.ext e1, rs1, h1, fun w H2 y S2 e2 ry rs2 h2 => ?_, xp.ext e1⟩, xp⟩
  refine ⟨x, y, S2, _, rs2, rx.ext e2, ry, h2, fun k hk => ⟨k, rfl, ?_⟩⟩
  cases k with
  | true =>
    have hk : fc E σd S2 _ := hk
    refine ⟨σd, S2, _, E, rn.ext (e1.trans e2), rs2, hk, fun u H3 z S3 e3 rz rs3 h3 => ?_, xp.ext (e1.trans e2)⟩
    exact ⟨y, z, S3, _, rs3, ry.ext e3, rz, h3, fun k hk => ⟨k, rfl, p _ H3 S3 ((e1.trans e2).trans e3) rs3 hk⟩⟩
  | false =>
    have hk : Qd false S2 := hk
    exact ⟨false, rfl, p _ H2 S2 (e1.trans e2) rs2 hk⟩
theorem ok_cchn {op op2 : CmpOp} {a b c : IE} (iha : OkE G C a) (ihb : OkE G C b) (ihc : OkE G C c) : OkC G C (.chn op op2 a b c) := by
  intro X W A g e h
  unfold chkC at h
  split at h
  · simp only [Bool.and_eq_true, decide_eq_true_eq] at h
    obtain ⟨⟨⟨⟨h1, h2⟩, h3⟩, h4⟩, h5⟩ := h
    subst h1
    subst h2
    have hu := Nat.lt_of_succ_lt g.hu
    exact (pt_chain (cmpR_ok hu op) (cmpR_ok hu op2) (iha X W A g _ h3) (ihb X W A g _ h4) (ihc X W A g _ h5) (marks_ok h5)).imp LT.chain
  · cases h
theorem ok_cv {a : IE} (iha : OkE G C a) : OkC G C (.v a) := by
  intro X W A g e h
  unfold chkC at h
  simp only [Bool.and_eq_true] at h
  refine (pt_truth (iha X W A g _ h.1) (plt_ok h.2)).imp ?_
  rintro σ H Q ⟨σd, S, Qd, E, rn, rs, h, p, xp⟩
  refine ⟨σd, S, _, E, rn, rs, h, fun v H1 x S1 e1 rx rs1 h1 => ?_, xp⟩
  obtain ⟨k, k1, k2⟩ := tru_rel rs1 rx h1
  exact ⟨k, k1, p k H1 S1 e1 rs1 k2⟩
end
end Ev

/-! zip of a list with a tuple of the same length: over the library's zip of two iterators of any kind. -/
namespace Ev
open PySem PySem.Spec PyProof.Rows L2
theorem zipSep {z TI TO i1 i2 a b : Addr} (D : ZipApart z TI TO i1 i2 a b) (h : i1 ≠ b ∧ i2 ≠ a) : ZipSep2 z TI TO i1 i2 [i1, a] [i2, b] where
  TIz := D.TIz
  TOz := D.TOz
  TITO := D.TITO
  TIi1 := D.TIi1
  mem1 := by simp
  zf1 := by simp; exact ⟨D.i1z.symm, D.l1z.symm⟩
  Tf1 := by simp; exact ⟨D.TOi1, D.l1TO.symm⟩
  TIi2 := D.TIi2
  mem2 := by simp
  zf2 := by simp; exact ⟨D.i2z.symm, D.l2z.symm⟩
  Tf2 := by simp; exact ⟨D.TOi2, D.l2TO.symm⟩
  sep1_2 := by simp; exact ⟨D.i12, h.1⟩
  sep2_1 := by simp; exact ⟨D.i12.symm, h.2⟩
/-- the list at a and the tuple at b, of one length, as they stand at each turn -/
def ItM (K : PySem.W.Frag) (a b : Addr) : L2.It :=
  ⟨fun i H => ∃ (xs ys : List V) (x y : V), SqL K H a xs ∧ SqT K H b ys ∧ xs[i]? = some x ∧ ys[i]? = some y,
    fun i H v H' => ∃ T x y, v = .ref T ∧ H T = none ∧ H' = upd H T (.tup [x, y]) ∧ (∀ xs, SqL K H a xs → xs[i]? = some x) ∧ ∀ ys, SqT K H b ys → ys[i]? = some y,
    fun i H => ∃ xs ys : List V, SqL K H a xs ∧ SqT K H b ys ∧ i = xs.length ∧ i = ys.length⟩
theorem turn_zipM {P : Program} {w : World} {K : PySem.W.Frag} {elts : List Expr} {kk : Nat} {tpos : Pos} {a b z TI TO i1 i2 : Addr} (D : ZipApart z TI TO i1 i2 a b) :
    Turn P w K (.Tuple elts kk tpos) (ItM K a b) [z, TI, TO, i1, i2] z (fun i h => IsZip h z TI TO .none ∧ IsTupOf2 h TI (.ref i1) (.ref i2) ∧ (∃ x y, IsTupOf2 h TO x y) ∧ h.IsListIter i1 a i ∧ h.IsTupleIter i2 b i) where
  mem := by simp
  obj := fun i h st c hc => by
    obtain ⟨hz, hTI, ⟨x, y, hTO⟩, ⟨o1, e1, _, d1⟩, ⟨o2, e2, _, d2⟩⟩ := st
    have e' : c = z ∨ c = TI ∨ c = TO ∨ c = i1 ∨ c = i2 := by simpa using hc
    rcases e' with q | q | q | q | q
    · rw [q]; exact ⟨_, hz, fun v q => nomatch q⟩
    · rw [q]; exact ⟨_, hTI, fun v q => nomatch q⟩
    · rw [q]; exact ⟨_, hTO, fun v q => nomatch q⟩
    · rw [q]; exact ⟨o1, e1, fun v q => by rw [d1] at q; cases q⟩
    · rw [q]; exact ⟨o2, e2, fun v q => by rw [d2] at q; cases q⟩
  keep := fun i h h' st k => by
    obtain ⟨hz, hTI, ⟨x, y, hTO⟩, h1, h2⟩ := st
    exact ⟨k z (by simp) _ hz, k TI (by simp) _ hTI, ⟨x, y, k TO (by simp) _ hTO⟩, h1.at fun o q => k i1 (by simp) o q, h2.at fun o q => k i2 (by simp) o q⟩
  item := by
    intro X hP hw hK hc i pins s σ H E I hf st hg
    subst hP hw hK
    obtain ⟨hz, hTI, ⟨x0, y0, hTO⟩, h1, h2⟩ := st
    obtain ⟨xs, ys, x, y, hqx, hqy, hx, hy⟩ := hg
    obtain ⟨its, rv, p, _⟩ := I.list hqx
    obtain ⟨its2, rv2, p2, _⟩ := I.tuple hqy
    obtain ⟨u, hu, ru⟩ := rv.get hx
    obtain ⟨u2, hu2, ru2⟩ := rv2.get hy
    have hzl : z < s.heap.objs.size := Heap.lt_size hz
    have n1 : i < its.toArray.size := by simpa using (List.getElem?_eq_some_iff.mp hu).1
    have n2 : i < its2.toArray.size := by simpa using (List.getElem?_eq_some_iff.mp hu2).1
    have i1b : i1 ≠ b := fun e => by
      obtain ⟨o1, e1, c1, _⟩ := h1
      obtain ⟨o2, e2, c2, _⟩ := p2
      rw [e, e2] at e1
      cases e1
      rw [c2] at c1
      revert c1; decide
    have i2a : i2 ≠ a := fun e => by
      obtain ⟨o1, e1, c1, _⟩ := h2
      obtain ⟨o2, e2, c2, _⟩ := p.isList
      rw [e, e2] at e1
      cases e1
      rw [c2] at c1
      revert c1; decide
    refine wpAny_pyNext_zipD2_item (zipSep D ⟨i1b, i2a⟩) (Draws.list (A := Around.in1 _) (show Around.handled _ = none from I.ok.hd hc) i1 a D.l1i1 its.toArray) (Draws.tuple (A := Around.in1 _) (show Around.handled _ = none from I.ok.hd hc) i2 b D.l2i2 its2.toArray) hz hTI hTO ⟨h1, p.isList⟩ ⟨h2, p2⟩ n1 n2 fun w1 w2 h' tk hw1 hw2 z' TO' h1' h2' hT hsz hk => ?_
    have ew1 : w1 = u := by
      have : some w1 = some u := by rw [← hw1, ← hu]; simp
      injection this
    have ew2 : w2 = u2 := by
      have : some w2 = some u2 := by rw [← hw2, ← hu2]; simp
      injection this
    subst ew1 ew2
    refine ⟨_, rfl, wpAny_letOwnedTupleGo_zip (s := { s with heap := h', toks := tk }) z' fun h'' z'' sb => ?_⟩
    have hT2 : h''.get? s.heap.objs.size = some { cls := .type "tuple", data := .seq #[w1, w2] } := (sb.2 _ (Nat.ne_of_gt hzl)).trans hT
    have new : ObjOk X.prog X.w (upd H s.heap.objs.size (.tup [x, y])) h'' s.heap.objs.size (.tup [x, y]) :=
      ⟨by show 2 ≤ sizeLine; decide, [w1, w2], .cons ru (.cons ru2 .nil), ⟨_, hT2, rfl, _, rfl⟩⟩
    have I1 : Inv X pins σ (upd H s.heap.objs.size (.tup [x, y])) { s with heap := h'', toks := tk } :=
      I.turnedNew (t' := tk) (ch := [z, TI, TO, i1, i2]) (fun c o hb q => (sb.2 c (fun q' => hb (by simp [q']))).trans (hk c o (fun q' => hb (by simp [q'])) (fun q' => hb (by simp [q'])) (fun q' => hb (by simp [q'])) (fun q' => hb (by simp [q'])) q)) hf (Nat.le_refl _) new
    refine ⟨.ref s.heap.objs.size, _, I1, rfl, ⟨_, x, y, rfl, I.hok.fresh (Nat.le_refl _), rfl, fun l hl => by rw [I.list_inj hl hqx]; exact hx, fun l hl => by rw [I.tuple_inj hl hqy]; exact hy⟩, ⟨z'', ?_, ⟨w1, w2, ?_⟩, ?_, ?_⟩, fun c hcm => ?_⟩
    · exact (sb.2 _ D.TIz).trans (hk _ _ D.TIz D.TITO D.TIi1 D.TIi2 hTI)
    · exact (sb.2 _ D.TOz).trans TO'
    · exact h1'.1.at fun o q => (sb.2 _ D.i1z).trans q
    · exact h2'.1.at fun o q => (sb.2 _ D.i2z).trans q
    · have hlt : c < s.heap.objs.size := by
        have e' : c = z ∨ c = TI ∨ c = TO ∨ c = i1 ∨ c = i2 := by simpa using hcm
        rcases e' with q | q | q | q | q
        · rw [q]; exact hzl
        · rw [q]; exact Heap.lt_size hTI
        · rw [q]; exact Heap.lt_size hTO
        · rw [q]; obtain ⟨_, e1, _⟩ := h1; exact Heap.lt_size e1
        · rw [q]; obtain ⟨_, e2, _⟩ := h2; exact Heap.lt_size e2
      rw [upd_ne (Nat.ne_of_lt hlt)]
      exact (hf c hcm).1
  done := by
    intro X hP hw hK hc i pins s σ H E I hf st hg
    subst hP hw hK
    obtain ⟨hz, hTI, ⟨x0, y0, hTO⟩, h1, h2⟩ := st
    obtain ⟨xs, ys, hqx, hqy, e1, e2⟩ := hg
    obtain ⟨its, rv, p, _⟩ := I.list hqx
    obtain ⟨its2, rv2, p2, _⟩ := I.tuple hqy
    have l1 := rv.length
    have l2 := rv2.length
    have n1 : i = its.toArray.size := by simp; omega
    have n2 : i = its2.toArray.size := by simp; omega
    have i1b : i1 ≠ b := fun e => by
      obtain ⟨o1, e1, c1, _⟩ := h1
      obtain ⟨o2, e2, c2, _⟩ := p2
      rw [e, e2] at e1
      cases e1
      rw [c2] at c1
      revert c1; decide
    have i2a : i2 ≠ a := fun e => by
      obtain ⟨o1, e1, c1, _⟩ := h2
      obtain ⟨o2, e2, c2, _⟩ := p.isList
      rw [e, e2] at e1
      cases e1
      rw [c2] at c1
      revert c1; decide
    exact wpAny_pyNext_zipD2_end (zipSep D ⟨i1b, i2a⟩) (Draws.list (A := Around.in1 _) (show Around.handled _ = none from I.ok.hd hc) i1 a D.l1i1 its.toArray) (Draws.tuple (A := Around.in1 _) (show Around.handled _ = none from I.ok.hd hc) i2 b D.l2i2 its2.toArray) hz hTI hTO ⟨h1, p.isList⟩ ⟨h2, p2⟩ (Nat.le_of_eq n1) (Nat.le_of_eq n2) (.inl n1) fun h' tk hk => ⟨rfl, I.turnedL (t' := tk) (ch := [z, TI, TO, i1, i2]) (fun c o hb q =>
      hk c o (fun q' => hb (by simp [q'])) (fun q' => hb (by simp [q'])) (fun q' => hb (by simp [q'])) (fun q' => hb (by simp [q'])) q) hf⟩
  self := fun A i s Q E st h => wpAny_pyIter_zip st.1 h

/-- zip of two values: two lists, two tuples, or a list and a tuple -/
def iZipB (K : PySem.W.Frag) (ta : TA) : TI := fun σ H R => ta σ H fun vs H1 => ∃ a b xs ys, vs = [.ref a, .ref b] ∧ ((SqL K H1 a xs ∧ SqL K H1 b ys ∧ R (Itz K a b) H1) ∨ (SqT K H1 a xs ∧ SqT K H1 b ys ∧ R (RZ.ItzT K a b) H1) ∨ (SqL K H1 a xs ∧ SqT K H1 b ys ∧ R (ItM K a b) H1))
theorem pi_zipB {X : Cx} {e e2 : Expr} {ta : TA} {p pos tpos : Pos} {elts : List Expr} {kk : Nat} (hg : Gl X "zip") (hm : X.mg "zip" = none) (ha : PA X [e, e2] ta)
    (hs : starEach [e, e2] X.env = (false, eval e X.env) :: starEach [e2] X.env := by rfl) (hpl : (backTo pos (starEach [e2] X.env)).any (·.1) = false := by rfl) :
    PI X (.Tuple elts kk tpos) (.Call (.Name "zip" p) [e, e2] [] pos) (iZipB X.K ta) := by
  refine ⟨fun pins s σ H R I h => ?_⟩
  refine Call_ (ld_blt I hg hm PyProof.Rows.boot_zip (PyProof.Rows.callWith_type1 (thn (ha.run pos pins s σ H _ I h) fun us s1 ⟨vs, H1, I1, r1, q1⟩ => ?_) hs hpl))
  obtain ⟨a, b, xs, ys, ex, q1⟩ := q1
  subst ex
  cases r1 with
  | cons r rr =>
    cases rr with
    | cons r' rr =>
      cases rr
      cases r
      cases r'
      have fresh5 : ∀ c, c ∈ [s1.heap.objs.size + 4, s1.heap.objs.size + 2, s1.heap.objs.size + 3, s1.heap.objs.size, s1.heap.objs.size + 1] → FpOk X pins H1 c := fun c hcm => by
        have e' : c = s1.heap.objs.size + 4 ∨ c = s1.heap.objs.size + 2 ∨ c = s1.heap.objs.size + 3 ∨ c = s1.heap.objs.size ∨ c = s1.heap.objs.size + 1 := by simpa using hcm
        have hle : s1.heap.objs.size ≤ c := by
          rcases e' with z | z | z | z | z <;> rw [z] <;> first | exact Nat.le_refl _ | exact Nat.le_add_right _ _
        exact I1.fpOk hle (I1.hok.fresh hle)
      rcases q1 with ⟨hqx, hqy, q⟩ | ⟨hqx, hqy, q⟩ | ⟨hqx, hqy, q⟩
      · obtain ⟨its, rv, p1, _⟩ := I1.list hqx
        obtain ⟨its2, rv2, p2, _⟩ := I1.list hqy
        refine call_zip_2 p1.isList p2.isList fun h' hz hTI hTO h1 h2 hsz hk => wpAny_pyIter_zip hz ?_
        have I2 : Inv X pins σ H1 { s1 with heap := h' } := I1.kept (t' := s1.toks) hk
        exact ⟨s1.heap.objs.size + 4, [s1.heap.objs.size + 4, s1.heap.objs.size + 2, s1.heap.objs.size + 3, s1.heap.objs.size, s1.heap.objs.size + 1], _, _, H1, rfl, I2, turn_zip (PySem.W.ktu_apart s1.heap.objs.size a b p1.lt p2.lt), ⟨hz, hTI, ⟨_, _, hTO⟩, h1, h2⟩, fresh5, q⟩
      · obtain ⟨its, rv, p1, _⟩ := I1.tuple hqx
        obtain ⟨its2, rv2, p2, _⟩ := I1.tuple hqy
        obtain ⟨o1, ho1, _⟩ := id p1
        obtain ⟨o2, ho2, _⟩ := id p2
        refine RZ.call_zipT (show s1.heap.IsTuple a its.toArray from p1) (show s1.heap.IsTuple b its2.toArray from p2) fun h' hz hTI hTO h1 h2 hsz hk => wpAny_pyIter_zip hz ?_
        have I2 : Inv X pins σ H1 { s1 with heap := h' } := I1.kept (t' := s1.toks) hk
        exact ⟨s1.heap.objs.size + 4, [s1.heap.objs.size + 4, s1.heap.objs.size + 2, s1.heap.objs.size + 3, s1.heap.objs.size, s1.heap.objs.size + 1], _, _, H1, rfl, I2, RZ.turn_zipT (PySem.W.ktu_apart s1.heap.objs.size a b (Heap.lt_size ho1) (Heap.lt_size ho2)), ⟨hz, hTI, ⟨_, _, hTO⟩, h1, h2⟩, fresh5, q⟩
      · obtain ⟨its, rv, p1, _⟩ := I1.list hqx
        obtain ⟨its2, rv2, p2, _⟩ := I1.tuple hqy
        obtain ⟨o2, ho2, _⟩ := id p2
        refine zip_begins2 (begins_list a its.toArray) (begins_tuple b its2.toArray) p1.isList (show s1.heap.IsTuple b its2.toArray from p2) fun h' hz hTI hTO h1 h2 hsz hk => wpAny_pyIter_zip hz ?_
        have I2 : Inv X pins σ H1 { s1 with heap := h' } := I1.kept (t' := s1.toks) hk
        exact ⟨s1.heap.objs.size + 4, [s1.heap.objs.size + 4, s1.heap.objs.size + 2, s1.heap.objs.size + 3, s1.heap.objs.size, s1.heap.objs.size + 1], _, _, H1, rfl, I2, turn_zipM (PySem.W.ktu_apart s1.heap.objs.size a b p1.lt (Heap.lt_size ho2)), ⟨hz, hTI, ⟨_, _, hTO⟩, ⟨_, h1, rfl, rfl⟩, ⟨_, h2, rfl, rfl⟩⟩, fresh5, q⟩
end Ev

/-! A form that passes the check says what the text does: what is walked, targets, comprehensions. -/
namespace Ev
open PySem PySem.Spec PyProof.Rows L2
/-- the iterator of the layer and that of the evaluator -/
def RelIt (K : PySem.W.Frag) (J' : Ev.Itr) (J : L2.It) (H0 : Hp) : Prop := ∀ H S i, Ext H0 H → RS K H S → ∀ (stop : Prop) (go : D → Prop), nxt J' i S stop go →
  (J.stop i H ∧ stop) ∨ (J.go i H ∧ ∀ v H', J.yld i H v H' → Ext H H' ∧ RS K H' S ∧ ∃ d, Rv K H' d v ∧ go d)
section
variable {K : PySem.W.Frag} {H0 : Hp}
theorem Rvs.getN {H : Hp} {ds : List D} {vs : List V} (r : Rvs K H ds vs) {i : Nat} (h : ds[i]? = none) : vs.length ≤ i := by
  rw [← r.length]
  exact List.getElem?_eq_none_iff.mp h
theorem rel_tup {a : Addr} {ds : List D} {vs : List V} (h : SqT K H0 a vs) (r : Rvs K H0 ds vs) : RelIt K (.tup ds) (L2.Itt K a) H0 := by
  intro H S i e rs stop go q
  have r' := Rvs.ext e r
  simp only [nxt] at q
  split at q
  · rename_i d ed
    obtain ⟨v, hv, rv⟩ := r'.get ed
    refine .inr ⟨⟨vs, v, e.sqT h, hv⟩, fun w H' y => ?_⟩
    obtain ⟨y1, y2⟩ := y
    subst y1
    have := y2 vs (e.sqT h)
    rw [hv] at this
    cases this
    exact ⟨Ext.refl _, rs, d, rv, q⟩
  · rename_i ed
    exact .inl ⟨⟨vs, e.sqT h, r'.getN ed⟩, q⟩
theorem rel_rol {a : Addr} {ds : List D} {vs : List V} (h : SqF K H0 a vs) (r : Rvs K H0 ds vs) : RelIt K (.rol ds) (L2.Itl K a) H0 := by
  intro H S i e rs stop go q
  have r' := Rvs.ext e r
  simp only [nxt] at q
  split at q
  · rename_i d ed
    obtain ⟨v, hv, rv⟩ := r'.get ed
    refine .inr ⟨⟨vs, v, (e.sqF h).l, hv⟩, fun w H' y => ?_⟩
    obtain ⟨y1, y2⟩ := y
    subst y1
    have := y2 vs (e.sqF h).l
    rw [hv] at this
    cases this
    exact ⟨Ext.refl _, rs, d, rv, q⟩
  · rename_i ed
    exact .inl ⟨⟨vs, (e.sqF h).l, r'.getN ed⟩, q⟩
theorem rel_lst {a : Addr} : RelIt K (.lst a) (L2.Itl K a) H0 := by
  intro H S i e rs stop go q
  simp only [nxt] at q
  split at q
  · rename_i ds el
    obtain ⟨vs, h, r'⟩ := rs.lget el
    split at q
    · rename_i d ed
      obtain ⟨v, hv, rv⟩ := r'.get ed
      refine .inr ⟨⟨vs, v, h, hv⟩, fun w H' y => ?_⟩
      obtain ⟨y1, y2⟩ := y
      subst y1
      have := y2 vs h
      rw [hv] at this
      cases this
      exact ⟨Ext.refl _, rs, d, rv, q⟩
    · rename_i ed
      exact .inl ⟨⟨vs, h, r'.getN ed⟩, q⟩
  · exact q.elim
theorem rel_rng {lo : Int} {n : Nat} : RelIt K (.rng lo n) (L2.Itr lo n) H0 := by
  intro H S i e rs stop go q
  simp only [nxt] at q
  split at q
  · rename_i hi
    refine .inr ⟨hi, fun w H' y => ?_⟩
    obtain ⟨y1, y2⟩ := y
    subst y1 y2
    exact ⟨Ext.refl _, rs, _, .int _, q⟩
  · rename_i hi
    exact .inl ⟨Nat.le_of_not_lt hi, q⟩
theorem rel_rngc {lo c : Int} {n : Nat} : RelIt K (.rngc lo c n) (L2.Itc lo c n) H0 := by
  intro H S i e rs stop go q
  simp only [nxt] at q
  split at q
  · rename_i hi
    refine .inr ⟨hi, fun w H' y => ?_⟩
    obtain ⟨y1, y2⟩ := y
    subst y1 y2
    exact ⟨Ext.refl _, rs, _, .int _, q⟩
  · rename_i hi
    exact .inl ⟨Nat.le_of_not_lt hi, q⟩
theorem rel_enu {a : Addr} : RelIt K (.enu a) (L2.Ite K a) H0 := by
  intro H S i e rs stop go q
  simp only [nxt] at q
  split at q
  · rename_i ds el
    obtain ⟨vs, h, r'⟩ := rs.lget el
    split at q
    · rename_i d ed
      obtain ⟨v, hv, rv⟩ := r'.get ed
      refine .inr ⟨⟨vs, v, h, hv⟩, fun w H' y => ?_⟩
      obtain ⟨T, x, rfl, nT, rfl, y2⟩ := y
      have := y2 vs h
      rw [hv] at this
      cases this
      refine ⟨Ext.new nT, rs.new nT, _, .tup (.of upd_same) (.cons (.int _) (.cons (Rv.ext (Ext.new nT) rv) .nil)), q⟩
    · rename_i ed
      exact .inl ⟨⟨vs, h, r'.getN ed⟩, q⟩
  · exact q.elim
theorem rel_enuT {a : Addr} {ds : List D} {vs : List V} (h : SqT K H0 a vs) (r : Rvs K H0 ds vs) : RelIt K (.enuT ds) (IteT K a) H0 := by
  intro H S i e rs stop go q
  have r' := Rvs.ext e r
  simp only [nxt] at q
  split at q
  · rename_i d ed
    obtain ⟨v, hv, rv⟩ := r'.get ed
    refine .inr ⟨⟨vs, v, e.sqT h, hv⟩, fun w H' y => ?_⟩
    obtain ⟨p, x, rfl, np, rfl, y2⟩ := y
    have := y2 vs (e.sqT h)
    rw [hv] at this
    cases this
    refine ⟨Ext.new np, rs.new np, _, .tup (.of upd_same) (.cons (.int _) (.cons (Rv.ext (Ext.new np) rv) .nil)), q⟩
  · rename_i ed
    exact .inl ⟨⟨vs, e.sqT h, r'.getN ed⟩, q⟩
theorem rel_zip {a b : Addr} : RelIt K (.zip a b) (L2.Itz K a b) H0 := by
  intro H S i e rs stop go q
  simp only [nxt] at q
  split at q
  · rename_i ds es el el2
    obtain ⟨vs, h, r'⟩ := rs.lget el
    obtain ⟨ws, h2, r2'⟩ := rs.lget el2
    split at q
    · rename_i d ed
      obtain ⟨v, hv, rv⟩ := r'.get ed
      split at q
      · rename_i d2 ed2
        obtain ⟨v2, hv2, rv2⟩ := r2'.get ed2
        refine .inr ⟨⟨vs, ws, v, v2, h, h2, hv, hv2⟩, fun w H' y => ?_⟩
        obtain ⟨T, x, y0, rfl, nT, rfl, y2, y3⟩ := y
        have t1 := y2 vs h
        rw [hv] at t1
        cases t1
        have t2 := y3 ws h2
        rw [hv2] at t2
        cases t2
        exact ⟨Ext.new nT, rs.new nT, _, .tup (.of upd_same) (.cons (Rv.ext (Ext.new nT) rv) (.cons (Rv.ext (Ext.new nT) rv2) .nil)), q⟩
      · rename_i ed2
        exact .inl ⟨⟨vs, ws, h, h2, .inr (r2'.getN ed2)⟩, q⟩
    · rename_i ed
      exact .inl ⟨⟨vs, ws, h, h2, .inl (r'.getN ed)⟩, q⟩
  · exact q.elim
theorem rel_zipM {a b : Addr} {es : List D} {ws : List V} (h2 : SqT K H0 b ws) (r2 : Rvs K H0 es ws) : RelIt K (.zipM a es) (ItM K a b) H0 := by
  intro H S i e rs stop go q
  have r2' := Rvs.ext e r2
  simp only [nxt] at q
  split at q
  · rename_i ds el
    obtain ⟨vs, h, r'⟩ := rs.lget el
    obtain ⟨hl, hi, q⟩ := q
    split at q
    · rename_i d ed
      obtain ⟨v, hv, rv⟩ := r'.get ed
      split at q
      · rename_i d2 ed2
        obtain ⟨v2, hv2, rv2⟩ := r2'.get ed2
        refine .inr ⟨⟨vs, ws, v, v2, h, e.sqT h2, hv, hv2⟩, fun w H' y => ?_⟩
        obtain ⟨T, x, y0, rfl, nT, rfl, y2, y3⟩ := y
        have t1 := y2 vs h
        rw [hv] at t1
        cases t1
        have t2 := y3 ws (e.sqT h2)
        rw [hv2] at t2
        cases t2
        exact ⟨Ext.new nT, rs.new nT, _, .tup (.of upd_same) (.cons (Rv.ext (Ext.new nT) rv) (.cons (Rv.ext (Ext.new nT) rv2) .nil)), q⟩
      · exact q.elim
    · rename_i ed
      have l1 := r'.getN ed
      have l2 := r'.length
      have l3 := r2'.length
      have l4 := List.getElem?_eq_none_iff.mp ed
      exact .inl ⟨⟨vs, ws, h, e.sqT h2, by omega, by omega⟩, q⟩
  · exact q.elim
theorem rel_zipt {a b : Addr} {ds es : List D} {vs ws : List V} (h : SqT K H0 a vs) (r : Rvs K H0 ds vs) (h2 : SqT K H0 b ws) (r2 : Rvs K H0 es ws) : RelIt K (.tup (zipD ds es)) (RZ.ItzT K a b) H0 := by
  intro H S i e rs stop go q
  have r' := Rvs.ext e r
  have r2' := Rvs.ext e r2
  simp only [nxt, zipD, List.getElem?_zipWith] at q
  cases ed : ds[i]? with
  | none =>
    rw [ed] at q
    exact .inl ⟨⟨vs, ws, e.sqT h, e.sqT h2, .inl (r'.getN ed)⟩, q⟩
  | some d =>
    cases ed2 : es[i]? with
    | none =>
      rw [ed, ed2] at q
      exact .inl ⟨⟨vs, ws, e.sqT h, e.sqT h2, .inr (r2'.getN ed2)⟩, q⟩
    | some d2 =>
      rw [ed, ed2] at q
      have q : go (.tup [d, d2]) := q
      obtain ⟨v, hv, rv⟩ := r'.get ed
      obtain ⟨v2, hv2, rv2⟩ := r2'.get ed2
      refine .inr ⟨⟨vs, ws, v, v2, e.sqT h, e.sqT h2, hv, hv2⟩, fun w H' y => ?_⟩
      obtain ⟨T, x, y0, rfl, nT, rfl, y2, y3⟩ := y
      have t1 := y2 vs (e.sqT h)
      rw [hv] at t1
      cases t1
      have t2 := y3 ws (e.sqT h2)
      rw [hv2] at t2
      cases t2
      exact ⟨Ext.new nT, rs.new nT, _, .tup (.of upd_same) (.cons (Rv.ext (Ext.new nT) rv) (.cons (Rv.ext (Ext.new nT) rv2) .nil)), q⟩
theorem rel_revt {a : Addr} {ds : List D} {vs : List V} (h : SqT K H0 a vs) (r : Rvs K H0 ds vs) : RelIt K (.tup ds.reverse) (RT.ItvT K a vs.length) H0 := by
  intro H S i e rs stop go q
  have r' := Rvs.ext e r
  have hl := r.length
  simp only [nxt] at q
  split at q
  · rename_i d ed
    have hi : i < ds.length := by
      have := (List.getElem?_eq_some_iff.mp ed).1
      rwa [List.length_reverse] at this
    rw [List.getElem?_reverse hi] at ed
    obtain ⟨v, hv, rv⟩ := r'.get ed
    rw [hl] at hv
    refine .inr ⟨⟨by rw [← hl]; exact hi, vs, v, e.sqT h, hv⟩, fun w H' y => ?_⟩
    obtain ⟨y1, y2⟩ := y
    subst y1
    have := y2 vs (e.sqT h)
    rw [hv] at this
    cases this
    exact ⟨Ext.refl _, rs, d, rv, q⟩
  · rename_i ed
    have := List.getElem?_eq_none_iff.mp ed
    rw [List.length_reverse, hl] at this
    exact .inl ⟨this, q⟩
theorem rel_rev {a : Addr} {n : Nat} : RelIt K (.rev a n) (L2.Itv K a n) H0 := by
  intro H S i e rs stop go q
  simp only [nxt] at q
  split at q
  · rename_i ds el
    obtain ⟨vs, h, r'⟩ := rs.lget el
    split at q
    · rename_i hi
      split at q
      · rename_i d ed
        obtain ⟨v, hv, rv⟩ := r'.get ed
        refine .inr ⟨⟨hi, vs, v, h, hv⟩, fun w H' y => ?_⟩
        obtain ⟨y1, y2⟩ := y
        subst y1
        have := y2 vs h
        rw [hv] at this
        cases this
        exact ⟨Ext.refl _, rs, d, rv, q.2⟩
      · exact q.elim
    · rename_i hi
      exact .inl ⟨Nat.le_of_not_lt hi, q⟩
  · exact q.elim
end

def LI (X : Cx) (W : WX) (f : XS → En → Sto → (Ev.Itr → Sto → Prop) → Prop) : TI := fun σ H R => ∃ (σd : En) (S : Sto) (R' : Ev.Itr → Sto → Prop) (E : XS), Rn X.K H σd σ ∧ RS X.K H S ∧ f E σd S R' ∧
  (∀ J J' H' S', Ext H H' → RS X.K H' S' → RelIt X.K J' J H' → R' J' S' → R J H') ∧ XP X W E σ H
theorem _root_.L2.PI.imp {X : Cx} {tg it : Expr} {t t' : TI} (h : PI X tg it t) (i : ∀ σ H Q, t' σ H Q → t σ H Q) : PI X tg it t' := ⟨fun pins s σ H Q I q => h.run pins s σ H Q I (i _ _ _ q)⟩
/-- a list or a tuple, walked -/
def iSeq (K : PySem.W.Frag) (tl : TE) : TI := fun σ H R => tl σ H fun x H1 => ∃ a, x = .ref a ∧ (((∃ xs, SqL K H1 a xs) ∧ R (L2.Itl K a) H1) ∨ ((∃ xs, SqT K H1 a xs) ∧ R (L2.Itt K a) H1))
theorem pi_seq {X : Cx} {tg l : Expr} {tl : TE} (hl : PE X l tl) : PI X tg l (iSeq X.K tl) := by
  refine ⟨fun pins s σ H R I h => ?_⟩
  refine thn (hl.run pins s σ H _ I h) fun v s1 ⟨x, H1, I1, r1, q1⟩ => ?_
  obtain ⟨a, e, q⟩ := q1
  subst e
  cases r1
  rcases q with ⟨⟨xs, hq⟩, q⟩ | ⟨⟨xs, hq⟩, q⟩
  · obtain ⟨its, rv, p, hz⟩ := I1.list hq
    refine wpAny_pyIter_list p.isList ?_
    refine ⟨s1.heap.objs.size, [s1.heap.objs.size], _, _, H1, rfl, I1.kept (t' := s1.toks) fun b o e => Heap.get?_push_of_some _ e, turn_list a _, ⟨_, Heap.get?_push_size _ rfl, rfl, rfl⟩, fun b hb => ?_, q⟩
    have e : b = s1.heap.objs.size := by simpa using hb
    subst e
    exact I1.fpOk (Nat.le_refl _) (I1.hok.fresh (Nat.le_refl _))
  · obtain ⟨its, rv, p, hz⟩ := I1.tuple hq
    refine wpAny_pyIter_tuple (show s1.heap.IsTuple a its.toArray from p) ?_
    refine ⟨s1.heap.objs.size, [s1.heap.objs.size], _, _, H1, rfl, I1.kept (t' := s1.toks) fun b o e => Heap.get?_push_of_some _ e, turn_tuple a _, ⟨_, Heap.get?_push_size _ rfl, rfl, rfl⟩, fun b hb => ?_, q⟩
    have e : b = s1.heap.objs.size := by simpa using hb
    subst e
    exact I1.fpOk (Nat.le_refl _) (I1.hok.fresh (Nat.le_refl _))
section
variable {G : Gl0} {C : CallS}
def OkI (G : Gl0) (C : CallS) (ii : II) : Prop := ∀ (X : Cx) (W : WX) (A : Sc), Good G C X W A → ∀ tg e, chkI A ii tg e = true → PI X tg e (LI X W fun E => semI G C E ii) ∧ nset e = true
theorem bnm {G : Gl0} {C : CallS} {X : Cx} {W : WX} {A : Sc} (g : Good G C X W A) {n m : Str} (e : n = m) (h : A.bn n = true) : Gl X m ∧ X.mg m = none := by
  subst e
  obtain ⟨q1, q2, q3, q4⟩ := bn_of g h
  exact ⟨q1, q3⟩
theorem ok_iseq {e : IE} (ih : OkE G C e) : OkI G C (.seq e) := by
  intro X W A g tg x h
  simp only [chkI, Bool.and_eq_true] at h
  refine ⟨(pi_seq (ih X W A g _ h.1)).imp ?_, h.2⟩
  rintro σ H R ⟨σd, S, R', E, rn, rs, h, p, xp⟩
  refine ⟨σd, S, _, E, rn, rs, h, fun v H1 x S1 e1 rx rs1 h1 => ?_, xp⟩
  split at h1
  · cases rx with
    | tup q1 q2 => exact ⟨_, rfl, .inr ⟨⟨_, q1⟩, p _ _ H1 S1 e1 rs1 (rel_tup q1 q2) h1⟩⟩
  · cases rx with
    | rol q1 q2 => exact ⟨_, rfl, .inl ⟨⟨_, q1.l⟩, p _ _ H1 S1 e1 rs1 (rel_rol q1 q2) h1⟩⟩
  · split at h1
    · rename_i el
      cases rx
      obtain ⟨vs, h2, _⟩ := rs1.lget el
      exact ⟨_, rfl, .inl ⟨⟨_, h2⟩, p _ _ H1 S1 e1 rs1 rel_lst h1⟩⟩
    · exact h1.elim
  · exact h1.elim
theorem ok_irng1 {a : IE} (iha : OkE G C a) : OkI G C (.rng1 a) := by
  intro X W A g tg x h
  unfold chkI at h
  split at h
  · rename_i n p1 y p2
    simp only [Bool.and_eq_true, decide_eq_true_eq] at h
    obtain ⟨⟨h1, h2⟩, h3⟩ := h
    obtain ⟨b1, b2⟩ := bnm g h1 h2
    subst h1
    refine ⟨(pi_range1 b1 b2 (pa_cons (iha X W A g _ h3) pa_nil (star_cons (chkE_nst h3))) (star_cons (chkE_nst h3))).imp ?_, rfl⟩
    rintro σ H R ⟨σd, S, R', E, rn, rs, h, p, xp⟩
    refine ⟨σd, S, _, E, rn, rs, h, fun v H1 x S1 e1 rx rs1 h1 => ?_, xp⟩
    split at h1
    · cases rx
      exact ⟨_, rfl, h1.1, h1.2.1, p _ _ H1 S1 e1 rs1 rel_rng h1.2.2⟩
    · exact h1.elim
  · cases h
theorem ok_irng2 {a b : IE} (iha : OkE G C a) (ihb : OkE G C b) : OkI G C (.rng2 a b) := by
  intro X W A g tg x h
  unfold chkI at h
  split at h
  · rename_i n p1 y z p2
    simp only [Bool.and_eq_true, decide_eq_true_eq] at h
    obtain ⟨⟨⟨h1, h2⟩, h3⟩, h4⟩ := h
    obtain ⟨b1, b2⟩ := bnm g h1 h2
    subst h1
    refine ⟨(pi_range2 b1 b2 (pa_cons (iha X W A g _ h3) (pa_cons (ihb X W A g _ h4) pa_nil (star_cons (chkE_nst h4))) (star_cons (chkE_nst h3))) (by rw [star_cons (chkE_nst h3), star_cons (chkE_nst h4)]; rfl) (star_cons (chkE_nst h4))).imp ?_, rfl⟩
    rintro σ H R ⟨σd, S, R', E, rn, rs, h, p, xp⟩
    refine ⟨σd, S, _, E, rn, rs, h, fun v H1 x S1 e1 rx rs1 h1 => ⟨σd, S1, _, E, rn.ext e1, rs1, h1, fun w H2 y S2 e2 ry rs2 h2 => ?_, xp.ext e1⟩, xp⟩
    split at h2
    · cases rx; cases ry
      exact ⟨_, _, rfl, h2.1, p _ _ H2 S2 (e1.trans e2) rs2 rel_rng h2.2⟩
    · exact h2.elim
  · cases h
theorem ok_irng3 {a b c : IE} (iha : OkE G C a) (ihb : OkE G C b) (ihc : OkE G C c) : OkI G C (.rng3 a b c) := by
  intro X W A g tg x h
  unfold chkI at h
  split at h
  · rename_i n p1 y z u p2
    simp only [Bool.and_eq_true, decide_eq_true_eq] at h
    obtain ⟨⟨⟨⟨h1, h2⟩, h3⟩, h4⟩, h5⟩ := h
    obtain ⟨b1, b2⟩ := bnm g h1 h2
    subst h1
    have s3 := fun l => star_cons (es := l) (env := X.env) (chkE_nst h3)
    have s4 := fun l => star_cons (es := l) (env := X.env) (chkE_nst h4)
    have s5 := fun l => star_cons (es := l) (env := X.env) (chkE_nst h5)
    refine ⟨(pi_range3 b1 b2 (pa_cons (iha X W A g _ h3) (pa_cons (ihb X W A g _ h4) (pa_cons (ihc X W A g _ h5) pa_nil (s5 _)) (s4 _)) (s3 _)) (s3 _) (by rw [s4, s5]; rfl)).imp ?_, rfl⟩
    rintro σ H R ⟨σd, S, R', E, rn, rs, h, p, xp⟩
    refine ⟨σd, S, _, E, rn, rs, h, fun v H1 x S1 e1 rx rs1 h1 => ⟨σd, S1, _, E, rn.ext e1, rs1, h1, fun w H2 y S2 e2 ry rs2 h2 => ⟨σd, S2, _, E, rn.ext (e1.trans e2), rs2, h2, fun w3 H3 z S3 e3 rz rs3 h3 => ?_, xp.ext (e1.trans e2)⟩, xp.ext e1⟩, xp⟩
    split at h3
    · cases rx; cases ry; cases rz
      obtain ⟨n, h3, h4⟩ := h3
      exact ⟨_, _, _, n, rfl, h3, p _ _ H3 S3 ((e1.trans e2).trans e3) rs3 rel_rngc h4⟩
    · exact h3.elim
  · cases h
theorem ok_ienu {a : IE} (iha : OkE G C a) : OkI G C (.enu a) := by
  intro X W A g tg x h
  unfold chkI at h
  split at h
  · split at h
    · rename_i n p1 y p2
      simp only [Bool.and_eq_true, decide_eq_true_eq] at h
      obtain ⟨⟨h1, h2⟩, h3⟩ := h
      obtain ⟨b1, b2⟩ := bnm g h1 h2
      subst h1
      refine ⟨(pi_enumA b1 b2 (pa_cons (iha X W A g _ h3) pa_nil (star_cons (chkE_nst h3))) (star_cons (chkE_nst h3))).imp ?_, rfl⟩
      rintro σ H R ⟨σd, S, R', E, rn, rs, h, p, xp⟩
      refine ⟨σd, S, _, E, rn, rs, h, fun v H1 x S1 e1 rx rs1 h1 => ?_, xp⟩
      split at h1
      · split at h1
        · rename_i el
          cases rx
          obtain ⟨vs, h2, _⟩ := rs1.lget el
          exact ⟨_, rfl, .inl ⟨⟨vs, h2⟩, p _ _ H1 S1 e1 rs1 rel_enu h1⟩⟩
        · exact h1.elim
      · cases rx with
        | tup q1 q2 => exact ⟨_, rfl, .inr ⟨⟨_, q1⟩, p _ _ H1 S1 e1 rs1 (rel_enuT q1 q2) h1⟩⟩
      · exact h1.elim
    · cases h
  · cases h
theorem ok_izip {a b : IE} (iha : OkE G C a) (ihb : OkE G C b) : OkI G C (.zip a b) := by
  intro X W A g tg x h
  unfold chkI at h
  split at h
  · split at h
    · rename_i n p1 y z p2
      simp only [Bool.and_eq_true, decide_eq_true_eq] at h
      obtain ⟨⟨⟨h1, h2⟩, h3⟩, h4⟩ := h
      obtain ⟨b1, b2⟩ := bnm g h1 h2
      subst h1
      refine ⟨(pi_zipB b1 b2 (pa_cons (iha X W A g _ h3) (pa_cons (ihb X W A g _ h4) pa_nil (star_cons (chkE_nst h4))) (star_cons (chkE_nst h3))) (star_cons (chkE_nst h3)) (by rw [star_cons (chkE_nst h4)]; rfl)).imp ?_, rfl⟩
      rintro σ H R ⟨σd, S, R', E, rn, rs, h, p, xp⟩
      refine ⟨σd, S, _, E, rn, rs, h, fun v H1 x S1 e1 rx rs1 h1 => ⟨σd, S1, _, E, rn.ext e1, rs1, h1, fun w H2 y S2 e2 ry rs2 h2 => ?_, xp.ext e1⟩, xp⟩
      split at h2
      · split at h2
        · rename_i el el2
          cases rx; cases ry
          obtain ⟨vs, q2, _⟩ := rs2.lget el
          obtain ⟨ws, q3, _⟩ := rs2.lget el2
          exact ⟨_, _, vs, ws, rfl, .inl ⟨q2, q3, p _ _ H2 S2 (e1.trans e2) rs2 rel_zip h2⟩⟩
        · exact h2.elim
      · cases ry with
        | tup ht hr =>
          cases rx with
          | tup gt gr => exact ⟨_, _, _, _, rfl, .inr (.inl ⟨e2.sqT gt, ht, p _ _ H2 S2 (e1.trans e2) rs2 (rel_zipt (e2.sqT gt) (Rvs.ext e2 gr) ht hr) h2⟩)⟩
      · split at h2
        · rename_i el
          cases rx
          cases ry with
          | tup ht hr =>
            obtain ⟨vs, q2, _⟩ := rs2.lget el
            exact ⟨_, _, vs, _, rfl, .inr (.inr ⟨q2, ht, p _ _ H2 S2 (e1.trans e2) rs2 (rel_zipM ht hr) h2⟩)⟩
        · exact h2.elim
      · exact h2.elim
    · cases h
  · cases h
theorem ok_irev {a : IE} (iha : OkE G C a) : OkI G C (.rev a) := by
  intro X W A g tg x h
  unfold chkI at h
  split at h
  · rename_i n p1 y p2
    simp only [Bool.and_eq_true, decide_eq_true_eq] at h
    obtain ⟨⟨h1, h2⟩, h3⟩ := h
    obtain ⟨b1, b2⟩ := bnm g h1 h2
    subst h1
    refine ⟨(RT.pi_revA b1 b2 (iha X W A g _ h3) (star_cons (chkE_nst h3))).imp ?_, rfl⟩
    rintro σ H R ⟨σd, S, R', E, rn, rs, h, p, xp⟩
    refine ⟨σd, S, _, E, rn, rs, h, fun v H1 x S1 e1 rx rs1 h1 => ?_, xp⟩
    split at h1
    · split at h1
      · rename_i xs el
        cases rx
        obtain ⟨vs, h2, h3⟩ := rs1.lget el
        refine ⟨_, vs, rfl, .inl ⟨h2, p _ _ H1 S1 e1 rs1 ?_ h1⟩⟩
        rw [h3.length]
        exact rel_rev
      · exact h1.elim
    · cases rx with
      | tup ht hr => exact ⟨_, _, rfl, .inr ⟨ht, p _ _ H1 S1 e1 rs1 (rel_revt ht hr) h1⟩⟩
    · exact h1.elim
  · cases h

/-! ### targets -/
theorem wipe_at {σ : L2.St} {i : Nat} {x : Option V} : ∀ {l : List Nat}, i ∉ l → wipe (σ.set i x) l = (wipe σ l).set i x
  | [], _ => rfl
  | j :: r, h => by
    show (wipe (σ.set i x) r).set j none = ((wipe σ r).set j none).set i x
    rw [wipe_at fun q => h (List.mem_cons_of_mem _ q), List.set_comm _ _ (fun e => h (by rw [e]; exact List.mem_cons_self))]
theorem wipe_in {σ : L2.St} {i : Nat} {x : Option V} : ∀ {l : List Nat}, i ∈ l → wipe (σ.set i x) l = wipe σ l
  | [], h => by cases h
  | j :: r, h => by
    show (wipe (σ.set i x) r).set j none = (wipe σ r).set j none
    by_cases hr : i ∈ r
    · rw [wipe_in hr]
    · have e : i = j := by
        rcases List.mem_cons.mp h with e | e
        · exact e
        · exact absurd e hr
      rw [wipe_at hr, e, List.set_set]
def LG (X : Cx) (own : List Nat) (ig : IG) : TG := fun v σ H Q => ∃ (d : D) (σd : En) (S : Sto) (Qd : En → Prop), Rv X.K H d v ∧ Rn X.K H σd σ ∧ RS X.K H S ∧ asgS ig d σd S Qd ∧
  ∀ σ' σd', Rn X.K H σd' σ' → wipe σ' own = wipe σ own → Qd σd' → Q σ' H
def LGs (X : Cx) (own : List Nat) (ig : IGs) : TGs := fun vs σ H Q => ∃ (ds : List D) (σd : En) (S : Sto) (Qd : En → Prop), Rvs X.K H ds vs ∧ Rn X.K H σd σ ∧ RS X.K H S ∧ asgsS ig ds σd S Qd ∧
  ∀ σ' σd', Rn X.K H σd' σ' → wipe σ' own = wipe σ own → Qd σd' → Q σ' H
theorem _root_.L2.PG.imp {X : Cx} {tg : Expr} {t t' : TG} (h : PG X tg t) (i : ∀ v σ H Q, t' v σ H Q → t v σ H Q) : PG X tg t' := ⟨fun pins s σ H v u Q I r q => h.run pins s σ H v u Q I r (i _ _ _ _ q)⟩
theorem _root_.L2.PGs.imp {X : Cx} {tg : List Expr} {t t' : TGs} (h : PGs X tg t) (i : ∀ v σ H Q, t' v σ H Q → t v σ H Q) : PGs X tg t' := ⟨fun pins s σ H v u Q I r q => h.run pins s σ H v u Q I r (i _ _ _ _ q)⟩
/-- (a, b, ..) = a tuple or a list of that length -/
def gSeq (K : PySem.W.Frag) (n : Nat) (t : TGs) : TG := fun v σ H Q => ∃ a xs, v = .ref a ∧ (SqL K H a xs ∨ SqT K H a xs) ∧ xs.length = n ∧ t xs σ H Q
theorem pg_seq {X : Cx} {es : List Expr} {k : Nat} {t : TGs} {n : Nat} {pos : Pos} (hc : X.calm = true) (h : PGs X es t) (hn : (assignEach es X.env).length = n) (hst : (assignEach es X.env).findIdx? (·.1) = none) : PG X (.Tuple es k pos) (gSeq X.K n t) := by
  refine ⟨fun pins s σ H v u Q I r hw => ?_⟩
  obtain ⟨a, xs, e1, hq, hl, hw⟩ := hw
  rcases hq with hq | hq
  · exact (pg_lst hc h hn hst).run pins s σ H v u Q I r ⟨a, xs, e1, hq, hl, hw⟩
  · exact (pg_tup hc h hn hst).run pins s σ H v u Q I r ⟨a, xs, e1, hq, hl, hw⟩
theorem asg_cons {e : Expr} {es : List Expr} {env : Env} (h : nst e = true) : assignEach (e :: es) env = (false, assign e env) :: assignEach es env := by
  cases e <;> first | rfl | cases h
def gsl : IGs → Nat
  | .nil => 0
  | .cons _ r => gsl r + 1
mutual
theorem asgS_ex : ∀ (g : IG) {d : D} {σ : En} {S : Sto} {Q : En → Prop}, asgS g d σ S Q → ∃ σ', Q σ'
  | .nm i, d, σ, S, Q, h => ⟨_, h⟩
  | .tup gs, d, σ, S, Q, h => by
    simp only [asgS] at h
    split at h
    · exact (asgsS_ex gs h).2
    · exact h.elim
theorem asgsS_ex : ∀ (gs : IGs) {ds : List D} {σ : En} {S : Sto} {Q : En → Prop}, asgsS gs ds σ S Q → ds.length = gsl gs ∧ ∃ σ', Q σ'
  | .nil, ds, σ, S, Q, h => by
    cases ds with
    | nil => exact ⟨rfl, _, h⟩
    | cons _ _ => exact h.elim
  | .cons g r, ds, σ, S, Q, h => by
    cases ds with
    | nil => exact h.elim
    | cons d t =>
      obtain ⟨σ', h'⟩ := asgS_ex g h
      obtain ⟨h1, h2⟩ := asgsS_ex r h'
      exact ⟨by show t.length + 1 = gsl r + 1; rw [h1], h2⟩
end
theorem chkGs_asg {A : Sc} {own : List Nat} {env : Env} : ∀ {gs : IGs} {es : List Expr}, chkGs A own gs es = true → (assignEach es env).length = gsl gs ∧ (assignEach es env).findIdx? (·.1) = none
  | .nil, [], _ => ⟨rfl, rfl⟩
  | .nil, _ :: _, h => by cases h
  | .cons _ _, [], h => by cases h
  | .cons g r, x :: t, h => by
    simp only [chkGs, Bool.and_eq_true] at h
    obtain ⟨q1, q2⟩ := chkGs_asg (env := env) h.2
    rw [asg_cons h.1.2]
    refine ⟨by rw [List.length_cons, q1]; rfl, ?_⟩
    rw [List.findIdx?_cons, q2]
    rfl
mutual
theorem ok_g (own : List Nat) : ∀ (ig : IG) (X : Cx) (W : WX) (A : Sc), Good G C X W A → ∀ e, chkG A own ig e = true → PG X e (LG X own ig)
  | .nm i, X, W, A, g, e, h => by
    unfold chkG at h
    split at h
    · simp only [Bool.and_eq_true] at h
      obtain ⟨h1, h2, h3⟩ := loc_of g.hN g.sc g.stl g.fnc h.1
      refine (pg_name g.nd h1 h2 h3).imp ?_
      rintro v σ H Q ⟨d, σd, S, Qd, rv, rn, rs, h4, p⟩
      exact p _ _ (rn.set rv i) (wipe_in (by simpa using h.2)) h4
    · cases h
  | .tup gs, X, W, A, g, e, h => by
    unfold chkG at h
    split at h
    · simp only [Bool.and_eq_true] at h
      obtain ⟨q1, q2⟩ := chkGs_asg (env := X.env) h.2
      refine (pg_seq (g.calm h.1) (ok_gs own gs X W A g _ h.2) q1 q2).imp ?_
      rintro v σ H Q ⟨d, σd, S, Qd, rv, rn, rs, h4, p⟩
      simp only [asgS] at h4
      split at h4
      · rename_i xs ex
        obtain ⟨a, vs, rfl, hq, hr⟩ := rs.sget rv ex
        exact ⟨a, vs, rfl, hq, by rw [← hr.length]; exact (asgsS_ex gs h4).1, xs, σd, S, Qd, hr, rn, rs, h4, p⟩
      · exact h4.elim
    · cases h
theorem ok_gs (own : List Nat) : ∀ (igs : IGs) (X : Cx) (W : WX) (A : Sc), Good G C X W A → ∀ es, chkGs A own igs es = true → PGs X es (LGs X own igs)
  | .nil, X, W, A, g, es, h => by
    cases es with
    | cons _ _ => cases h
    | nil =>
      refine pgs_nil.imp ?_
      rintro vs σ H Q ⟨ds, σd, S, Qd, rv, rn, rs, h4, p⟩
      cases ds with
      | cons _ _ => exact h4.elim
      | nil =>
        cases rv
        exact ⟨rfl, p σ σd rn rfl h4⟩
  | .cons ig r, X, W, A, g, es, h => by
    cases es with
    | nil => cases h
    | cons x t =>
      simp only [chkGs, Bool.and_eq_true] at h
      refine (pgs_cons (ok_g own ig X W A g _ h.1.1) (ok_gs own r X W A g _ h.2) (by rw [asg_cons h.1.2]; rfl)).imp ?_
      rintro vs σ H Q ⟨ds, σd, S, Qd, rv, rn, rs, h4, p⟩
      cases ds with
      | nil => exact h4.elim
      | cons d ds =>
        cases rv with
        | @cons _ _ v vs rv1 rv2 =>
          exact ⟨v, vs, rfl, d, σd, S, _, rv1, rn, rs, h4, fun σ1 σd1 rn1 w1 h5 => ⟨ds, σd1, S, Qd, rv2, rn1, rs, h5, fun σ2 σd2 rn2 w2 h6 => p σ2 σd2 rn2 (w2.trans w1) h6⟩⟩
end

/-! ### comprehensions -/
theorem Good.blk {X : Cx} {W : WX} {A : Sc} (g : Good G C X W A) (hcm : A.cm = true) (s : Shared) (H : Hp) (scope : Scope) (Ca : Addr) (cl : List (Str × Addr)) (fp : List Addr) :
    Good G C (X.blk s H scope (compEnvC scope cl Ca X.env) fp) (fun _ _ _ _ => False) (A.inn scope) where
  hN := g.hN
  nd := g.nd
  sc := by
    show relabel scope X.env = relS scope A.sc
    rw [← g.sc]
    rfl
  fnc := fun x h => by
    show (scope.names.lookup x == some NameKind.cell) = true
    have h : scope.names.lookup x = some .cell := h
    rw [h]; rfl
  stl := fun x k hk h => lookup_relS_keep hk h
  calm := g.calm
  tk := fun u s' ⟨_, _, _, _, _, _, _, _, _, _, _, _, _, _, _, _, h⟩ => h
  po := PassesOwn.never
  hu := g.hu
  blt := g.blt
  gcd := g.gcd
  lcm := g.lcm
  cst := g.cst
  fns := g.fns
  py := fun hp => ⟨(g.py hp).seer, (g.py hp).tree, (g.py hp).fr, (g.py hp).dp⟩
  stk := fun z => by cases z
  exc := g.exc
  exn := g.exn
  mts := g.mts
  mk0 := g.mk0
  mk1 := g.mk1
  fds := g.fds
  exi := g.exi
  xcg := fun a e h => absurd ((g.xcg a e h).1.symm.trans hcm) (by decide)
theorem wipe_wipe (σ : L2.St) (l : List Nat) : wipe (wipe σ l) l = wipe σ l := by
  have key : ∀ (r : List Nat) (σ : L2.St), (∀ i ∈ r, i ∈ l) → wipe (wipe σ r) l = wipe σ l := by
    intro r
    induction r with
    | nil => intro σ _; rfl
    | cons j r ih =>
      intro σ h
      show wipe ((wipe σ r).set j none) l = wipe σ l
      rw [wipe_in (h j List.mem_cons_self), ih σ fun i hi => h i (List.mem_cons_of_mem _ hi)]
  exact key l σ fun _ h => h
theorem own_snd (N : List Str) (l : List Nat) : (ownOf N l).map (·.2) = l := by
  unfold ownOf
  rw [List.map_map]
  exact List.map_id l
theorem _root_.L2.PTs.imp {X : Cx} {e : List Expr} {t t' : TT} (h : PTs X e t) (i : ∀ σ H Q, t' σ H Q → t σ H Q) : PTs X e t' := ⟨fun pins s σ H Q I q => h.run pins s σ H Q I (i _ _ _ q)⟩
def OkQ (G : Gl0) (C : CallS) (iq : IQ) : Prop := ∀ (X : Cx) (W : WX) (A : Sc), Good G C X W A → ∀ es, chkQ A iq es = true → PTs X es (LT X W fun E => semQ G C E iq)
theorem ok_qno : OkQ G C .no := by
  intro X W A g es h
  cases es with
  | cons _ _ => cases h
  | nil =>
    refine pts_nil.imp ?_
    rintro σ H Q ⟨σd, S, Qd, E, rn, rs, h, p, xp⟩
    exact p true H S (Ext.refl H) rs h
theorem ok_qc {c : IC} (ih : OkC G C c) : OkQ G C (.c c) := by
  intro X W A g es h
  unfold chkQ at h
  split at h
  · exact (pts_one (ih X W A g _ h)).imp fun σ H Q z => z
  · cases h
/-- the wish of a block: nothing is raised -/
abbrev W0 : WX := fun _ _ _ _ => False
abbrev E0' : XS := fun _ _ => False
theorem lc_red {X : Cx} {W : WX} {elt : IE} {tg : IG} {it : II} {ifs : IQ} {own : List Nat} : ∀ σ H Q, LE X W (fun E => semE G C E (.lc elt tg it ifs own)) σ H Q →
    tLc (LI X W fun E => semI G C E it) (LG X own tg) (LT X W0 fun E => semQ G C E ifs) (LE X W0 fun E => semE G C E elt) own σ H Q := by
  rintro σ H Q ⟨σd, S, Qd, E, rn, rs, h, p, xp⟩
  have xp0 : ∀ σ H, XP X W0 E0' σ H := fun σ H c d H' x S' _ _ _ z => z
  refine ⟨σd, S, _, E, rn, rs, h, fun J J' H1 S1 e1 rs1 rel h1 a na => ?_, xp⟩
  obtain ⟨Wd, ⟨m0, w0⟩, turn⟩ := h1 a (rs1.none na)
  refine ⟨fun i m H => ∃ S, Ext H1 H ∧ RS X.K H S ∧ Wd i m S, ⟨m0, _, Ext.new na, rs1.newL na .nil, w0⟩, ?_⟩
  rintro i m H2 ⟨S2, e2, rs2, w2⟩
  rcases rel H2 S2 i e2 rs2 _ _ (turn i m S2 w2) with ⟨st, q⟩ | ⟨go, q⟩
  · exact .inl ⟨st, p (.ref a) H2 (.ref a) S2 (e1.trans e2) (.ref a) rs2 q⟩
  · refine .inr ⟨go, fun H' => ∃ m', m' < m ∧ ∃ S, Ext H1 H' ∧ RS X.K H' S ∧ Wd (i + 1) m' S, fun H' z => z, fun v H3 y => ?_⟩
    obtain ⟨e3, rs3, d, rv, hd⟩ := q v H3 y
    have rnw : Rn X.K H3 (wips σd own) (wipe σ own) := (rn.ext ((e1.trans e2).trans e3)).wips own
    refine ⟨d, wips σd own, S2, _, rv, rnw, rs3, hd, fun σ' σd' rn' w' hq => ⟨?_, ?_⟩⟩
    · rw [w']
      exact wipe_wipe σ own
    · refine ⟨σd', S2, _, E0', rn', rs3, hq, fun b H4 S4 e4 rs4 h4 => ?_, xp0 _ _⟩
      have e14 : Ext H1 H4 := (e2.trans e3).trans e4
      cases b with
      | true =>
        have h4 : semE G C E0' elt σd' S4 _ := h4
        refine ⟨σd', S4, _, E0', rn'.ext e4, rs4, h4, fun v5 H5 d5 S5 e5 rv5 rs5 h5 => ?_, xp0 _ _⟩
        obtain ⟨acc, a1, a2, m', hm, w5⟩ := h5
        obtain ⟨xs, x1, x2⟩ := rs5 _ _ a1
        refine ⟨xs, x1, by rw [← x2.length]; exact a2, m', hm, _, (e14.trans e5).trans (Ext.lst x1), rs5.write x1 a1 (x2.append (.cons rv5 .nil)), w5⟩
      | false =>
        have h4 : ∃ m', m' < m ∧ Wd (i + 1) m' S4 := h4
        obtain ⟨m', hm, w5⟩ := h4
        exact ⟨m', hm, S4, e14, rs4, w5⟩
end
end Ev

/-! A form that passes the check says what the text does: all expressions; statements. -/
namespace Ev
open PySem PySem.Spec PyProof.Rows L2
section
variable {G : Gl0} {C : CallS}
theorem ok_lc {elt : IE} {tg : IG} {it : II} {ifs : IQ} {own : List Nat} (ihe : OkE G C elt) (ihi : OkI G C it) (ihq : OkQ G C ifs) : OkE G C (.lc elt tg it ifs own) := by
  intro X W A g e h
  unfold chkE at h
  split at h
  · rename_i el t i cs scope pos
    simp only [Bool.and_eq_true] at h
    obtain ⟨⟨⟨⟨⟨h1, h2⟩, h3⟩, h4⟩, h5⟩, h6⟩ := h
    obtain ⟨hi, hs⟩ := ihi X W A g t i h3
    have ok : BlkOk X.N X.env.scope scope (ownOf A.N own) := by rw [g.hN, g.sc]; exact blkOk_by h2
    have hp := pe_lc (own := ownOf A.N own) (pos := pos) (g := LG X own tg) (tt := LT X W0 fun E => semQ G C E ifs) (te := LE X W0 fun E => semE G C E elt) (g.calm h1) g.nd hi ok (fun s H Ca cl fp => ok_g own tg _ _ _ (g.blk h1 s H scope Ca cl fp) t h4) (fun s H Ca cl fp => ihq _ _ _ (g.blk h1 s H scope Ca cl fp) cs h6)
      (fun s H Ca cl fp => ihe _ _ _ (g.blk h1 s H scope Ca cl fp) el h5) (fold_ok hs)
    rw [own_snd] at hp
    exact hp.imp lc_red
  · cases h
mutual
theorem okE : ∀ ie, OkE G C ie
  | .var i => ok_var i
  | .int i => ok_int i
  | .bl b => ok_bl b
  | .non => ok_non
  | .str x => ok_str x
  | .glo x => ok_glo x
  | .tup es => ok_tup (okEs es)
  | .lst es => ok_lst (okEs es)
  | .bin op a b => ok_bin (okE a) (okE b)
  | .neg a => ok_neg (okE a)
  | .cmp op a b => ok_cmp (okE a) (okE b)
  | .chn op op2 a b c => ok_chn (okE a) (okE b) (okE c)
  | .and a b => ok_and (okE a) (okE b)
  | .or a b => ok_or (okE a) (okE b)
  | .one a => ok_one (okE a)
  | .not a => ok_not (okE a)
  | .ifx c a b => ok_ifx (okC c) (okE a) (okE b)
  | .idx a i => ok_idx (okE a) (okE i)
  | .slc a lo hi => ok_slc (okE a) (okO lo) (okO hi)
  | .call f es => ok_call (okEs es)
  | .bi b es => ok_bi (okEs es)
  | .isi e ts => ok_isi (okE e)
  | .isx e c => ok_isx (okE e)
  | .isxs e cs => ok_isxs (okE e)
  | .mth m o es => ok_mth (okE o) (okEs es)
  | .fld o f => ok_fld (okE o)
  | .mcl o m es => ok_mcl (okE o) (okEs es)
  | .mk x es => ok_mk (okEs es)
  | .lc elt tg it ifs own => ok_lc (okE elt) (okI it) (okQ ifs)
theorem okEs : ∀ ies, OkEs G C ies
  | .nil => ok_nil
  | .cons e r => ok_cons (okE e) (okEs r)
theorem okO : ∀ io, OkO G C io
  | .no => ok_ono
  | .some e => ok_osome (okE e)
theorem okQ : ∀ iq, OkQ G C iq
  | .no => ok_qno
  | .c c => ok_qc (okC c)
theorem okC : ∀ ic, OkC G C ic
  | .and a b => ok_cand (okC a) (okC b)
  | .or a b => ok_cor (okC a) (okC b)
  | .one a => ok_cone (okC a)
  | .not a => ok_cnot (okC a)
  | .cmp op a b => ok_ccmp (okE a) (okE b)
  | .chn op op2 a b c => ok_cchn (okE a) (okE b) (okE c)
  | .v e => ok_cv (okE e)
theorem okI : ∀ ii, OkI G C ii
  | .seq e => ok_iseq (okE e)
  | .rng1 a => ok_irng1 (okE a)
  | .rng2 a b => ok_irng2 (okE a) (okE b)
  | .rng3 a b c => ok_irng3 (okE a) (okE b) (okE c)
  | .enu e => ok_ienu (okE e)
  | .zip a b => ok_izip (okE a) (okE b)
  | .rev e => ok_irev (okE e)
end

/-! ### statements -/
structure KP (X : Cx) (W : WX) (k : Kt) (D : Ends) (H : Hp) : Prop where
  nx : ∀ σ' H' σd S, Ext H H' → Rn X.K H' σd σ' → RS X.K H' S → k.nx σd S → D.nx σ' H'
  rt : Post X.K H k.rt D.rt
  bk : ∀ σ' H' σd S, Ext H H' → Rn X.K H' σd σ' → RS X.K H' S → k.bk σd S → D.bk σ' H'
  ct : ∀ σ' H' σd S, Ext H H' → Rn X.K H' σd σ' → RS X.K H' S → k.ct σd S → D.ct σ' H'
  ex : ∀ c dd σ' H' x σd S, Ext H H' → Rn X.K H' σd σ' → RX X.K X.mg H' x c dd → RS X.K H' S → k.ex x σd S → W c dd σ' H'
def LS (X : Cx) (W : WX) (f : Kt → En → Sto → Prop) : TS := fun D σ H => ∃ (σd : En) (S : Sto) (k : Kt), Rn X.K H σd σ ∧ RS X.K H S ∧ f k σd S ∧ KP X W k D H
section
variable {X : Cx} {W : WX} {k : Kt} {D : Ends} {H H' : Hp} {σ : L2.St} {σd : En}
theorem KP.ext (e : Ext H H') (p : KP X W k D H) : KP X W k D H' :=
  ⟨fun σ' H2 σd S x => p.nx σ' H2 σd S (e.trans x), fun v H2 d S x => p.rt v H2 d S (e.trans x), fun σ' H2 σd S x => p.bk σ' H2 σd S (e.trans x), fun σ' H2 σd S x => p.ct σ' H2 σd S (e.trans x), fun c dd σ' H2 y σd S x => p.ex c dd σ' H2 y σd S (e.trans x)⟩
theorem KP.xp (p : KP X W k D H) (rn : Rn X.K H σd σ) : XP X W (fun x S => k.ex x σd S) σ H := fun c d H' x S' e rx rs h => p.ex c d σ H' x σd S' e (rn.ext e) rx rs h
end
def OkS (G : Gl0) (C : CallS) (s : IS) : Prop := ∀ (X : Cx) (W : WX) (A : Sc), Good G C X W A → ∀ st, chkS A s st = true → PS X st (LS X W (semS G C s))
def OkSs (G : Gl0) (C : CallS) (s : ISs) : Prop := ∀ (X : Cx) (W : WX) (A : Sc), Good G C X W A → ∀ st, chkSs A s st = true → PSs X st (LS X W (semSs G C s))
theorem sw_nc {v : Expr} {t : Option Expr} {l : Nat} {env : Env} (h : ncomp v = true) : swapsWith v t l env = pure false := by
  cases v <;> first | rfl | cases h
theorem sw_lc {G : Gl0} {C : CallS} {X : Cx} {W : WX} {A : Sc} (g : Good G C X W A) {elt : Expr} {gs : List Comprehension} {scope : Scope} {pos py : Pos} {y : Str} {l : Nat} (hk : X.env.scope.kind = .function) :
    swapsWith (.ListComp elt gs scope pos) (some (.Name y py)) l X.env = pure (swB A y py (.ListComp elt gs scope pos)) := by
  have ky : X.env.kindOf y = A.sc.names.lookup y := kind_of g.sc y
  have hb : X.env.blockKind = .function := by unfold Env.blockKind; rw [hk]; rfl
  unfold swapsWith swB
  simp only [hb, ky, Expr.pos]
  by_cases h : A.sc.names.lookup y = some .local
  · rw [h]; rfl
  · have e : (A.sc.names.lookup y == some NameKind.local) = false := by
      cases q : A.sc.names.lookup y with
      | none => rfl
      | some z => rw [q] at h; cases z <;> first | rfl | exact absurd rfl h
    rw [e, decide_eq_false h]
    rfl
theorem sw_any {v t : Expr} {l : Nat} {env : Env} (h : ncomp v = true) : swapsWithSole [t] v l env = pure false := by
  unfold swapsWithSole
  exact sw_nc h
theorem LS.set {X : Cx} {W : WX} {i : Nat} {e : IE} : ∀ D σ H, LS X W (semS G C (.set i e)) D σ H → tAsg (LE X W fun E => semE G C E e) (gName i) D σ H := by
  rintro D σ H ⟨σd, S, k, rn, rs, h, p⟩
  exact ⟨σd, S, _, _, rn, rs, h, fun v H1 d S1 e1 rv rs1 h1 => p.nx _ H1 _ S1 e1 ((rn.ext e1).set rv i) rs1 h1, p.xp rn⟩
theorem ok_set {i : Nat} {e : IE} : OkS G C (.set i e) := by
  intro X W A g st h
  unfold chkS at h
  split at h
  · rename_i x py v pp
    simp only [Bool.and_eq_true] at h
    obtain ⟨⟨h1, h2⟩, h3⟩ := h
    obtain ⟨q1, q2, q3⟩ := loc_of g.hN g.sc g.stl g.fnc h1
    have hv := okE e X W A g v h2
    by_cases hn : ncomp v = true
    · exact (ps_set g.nd q1 q2 hv (sw_nc hn) q3).imp LS.set
    · have hk : X.env.scope.kind = .function ∨ True := .inr trivial
      refine ⟨fun pins s σ H D I hh => ?_⟩
      have hk : X.env.scope.kind = .function := I.ok.kind
      cases v with
      | ListComp elt gs scope pos =>
        by_cases hb : swB A x py (.ListComp elt gs scope pos) = true
        · have hl : X.env.scope.names.lookup x = some .local := by
            unfold swB at hb
            simp only [Bool.and_eq_true, decide_eq_true_eq] at hb
            rw [g.sc]
            exact hb.1.1
          have hsw : swapsWith (.ListComp elt gs scope pos) (some (.Name x py)) pp.line X.env = pure true := by rw [sw_lc g hk, hb]
          cases e with
          | lc elt' tg it ifs own =>
            unfold chkE at h2
            split at h2
            · rename_i ee el t it' cs sc' ps heq
              cases heq
              simp only [Bool.and_eq_true] at h2
              obtain ⟨⟨⟨⟨⟨c1, c2⟩, c3⟩, c4⟩, c5⟩, c6⟩ := h2
              obtain ⟨hi, hs⟩ := okI it X W A g t it' c3
              have ok : BlkOk X.N X.env.scope scope (ownOf A.N own) := by rw [g.hN, g.sc]; exact blkOk_by c2
              have hp := ps_setLc (own := ownOf A.N own) (g := LG X own tg) (tt := LT X W0 fun E => semQ G C E ifs) (te := LE X W0 fun E => semE G C E elt') (g.calm c1) g.nd q1 hl hsw hi ok (fun s H Ca cl fp => ok_g own tg _ _ _ (g.blk c1 s H scope Ca cl fp) t c4) (fun s H Ca cl fp => okQ ifs _ _ _ (g.blk c1 s H scope Ca cl fp) cs c6)
                (fun s H Ca cl fp => okE elt' _ _ _ (g.blk c1 s H scope Ca cl fp) elt c5) (fold_ok hs)
              rw [own_snd] at hp
              refine hp.run pins s σ H D I ?_
              have z := LS.set D σ H hh
              exact lc_red σ H _ z
            · cases h2
          | _ => cases h2
        · have hsw : swapsWith (.ListComp elt gs scope pos) (some (.Name x py)) pp.line X.env = pure false := by
            rw [sw_lc g hk]
            cases q : swB A x py (.ListComp elt gs scope pos) with
            | false => rfl
            | true => exact absurd q hb
          exact (ps_set g.nd q1 q2 hv hsw q3).run pins s σ H D I (LS.set D σ H hh)
      | SetComp => cases e <;> cases h2
      | DictComp => cases e <;> cases h2
      | _ => exact absurd rfl hn
  · cases h
theorem sw_none {G : Gl0} {C : CallS} {X : Cx} {W : WX} {A : Sc} (g : Good G C X W A) {xs : List Expr} {kk pp} {v : Expr} (h : nsw A xs v = true) : swappedStores [.Tuple xs kk pp] v X.env = pure none := by
  cases v <;> first | (cases h; done) | skip
  rename_i vs k2 p2
  have h : ((swNames A xs).length != xs.length) = true := h
  unfold swappedStores
  simp only [pure_bind, kind_of g.sc]
  generalize hn : List.filterMap _ xs = ns
  have e : ns = swNames A xs := hn.symm
  rw [e, h]
  simp only [Bool.true_or, if_true]
  split
  · rfl
  · split <;> rfl
theorem ok_asg {ig : IG} {e : IE} : OkS G C (.asg ig e) := by
  intro X W A g st h
  unfold chkS at h
  split at h
  · rename_i xs kk pp v ps
    simp only [Bool.and_eq_true] at h
    obtain ⟨⟨⟨h1, h2⟩, h3⟩, h4⟩ := h
    have hv := okE e X W A g v h2
    have hg := ok_g (List.range A.N.length) ig X W A g _ h1
    refine (ps_asg hv hg (sw_any h4) ?_ rfl).imp ?_
    · rcases Bool.or_eq_true _ _ ▸ h3 with h3 | h3
      · cases v <;> first | rfl | cases h3
      · exact sw_none g h3
    · rintro D σ H ⟨σd, S, k, rn, rs, h, p⟩
      refine ⟨σd, S, _, _, rn, rs, h, fun v H1 d S1 e1 rv rs1 h1 => ⟨d, σd, S1, _, rv, rn.ext e1, rs1, h1, fun σ' σd' rn' _ h5 => p.nx _ H1 _ S1 e1 rn' rs1 h5⟩, p.xp rn⟩
  · cases h
theorem ok_sub {o i e : IE} : OkS G C (.sub o i e) := by
  intro X W A g st h
  unfold chkS at h
  split at h
  · rename_i x y pp v ps
    simp only [Bool.and_eq_true] at h
    obtain ⟨⟨⟨⟨h1, h2⟩, h3⟩, h4⟩, h5⟩ := h
    refine (ps_asg (okE e X W A g v h4) (pg_sub (okE o X W A g x h1) (okE i X W A g y h2) set_list ?_) (sw_any h5) rfl rfl).imp ?_
    · intro v
      cases y <;> first | rfl | cases h3
    · rintro D σ H ⟨σd, S, k, rn, rs, h, p⟩
      refine ⟨σd, S, _, _, rn, rs, h, fun v H1 d S1 e1 rv rs1 h1 => ⟨σd, S1, _, _, rn.ext e1, rs1, h1, fun ov H2 od S2 e2 ro rs2 h2 => ⟨σd, S2, _, _, rn.ext (e1.trans e2), rs2, h2, fun iv H3 id S3 e3 ri rs3 h3 => ?_, ((p.xp rn).ext (e1.trans e2))⟩, (p.xp rn).ext e1⟩, p.xp rn⟩
      have e123 : Ext H H3 := (e1.trans e2).trans e3
      split at h3
      · split at h3
        · rename_i xs ex
          split at h3
          · rename_i j ej
            cases ro; cases ri
            obtain ⟨vs, v1, v2⟩ := rs3 _ _ ex
            rw [v2.length] at ej
            refine ⟨_, vs, _, j, rfl, rfl, v1, ej, ?_⟩
            exact p.nx σ _ σd _ (e123.trans (Ext.lst v1)) (rn.ext (e123.trans (Ext.lst v1))) (rs3.write v1 ex (v2.set j (Rv.ext (e2.trans e3) rv))) h3
          · exact h3.elim
        · exact h3.elim
      · exact h3.elim
  · cases h
theorem ok_setf {o e : IE} {f : Str} : OkS G C (.setf o f e) := by
  intro X W A g st h
  unfold chkS at h
  split at h
  · rename_i x nm ap v ps
    simp only [Bool.and_eq_true, decide_eq_true_eq] at h
    obtain ⟨⟨⟨⟨h1, h2⟩, h3⟩, h4⟩, h5⟩ := h
    subst h1
    refine (ps_fld (okE o X W A g x h2) (okE e X W A g v h4) (sw_nc h5)).imp ?_
    rintro D σ H ⟨σd, S, k, rn, rs, h, p⟩
    refine ⟨σd, S, _, _, rn, rs, h, fun v H1 d S1 e1 rv rs1 h1 => ⟨σd, S1, _, _, rn.ext e1, rs1, h1, fun ov H2 od S2 e2 ro rs2 h2 => ?_, (p.xp rn).ext e1⟩, p.xp rn⟩
    split at h2
    · rename_i a
      split at h2
      · rename_i C0 fs ei
        cases ro
        obtain ⟨cls, dx, fv, q1, q2, q3⟩ := rs2.iget ei
        obtain ⟨hf, hl, h2⟩ := h2
        obtain ⟨cls', c1, c2, c3⟩ := g.fds _ _ hf
        have := c1.eq q1
        subst this
        have e12 := e1.trans e2
        refine ⟨_, _, dx, fv, rfl, q2, c2, c3, by rw [← Paired.length q3]; exact hl, ?_⟩
        refine p.nx σ _ σd _ (e12.trans (Ext.ins q2)) (rn.ext (e12.trans (Ext.ins q2))) (rs2.writeI2 q1 q2 (put_rel (fun _ _ z => z.1) (fun g => ⟨rfl, Rv.ext e2 rv⟩) q3)) h2
      · exact h2.elim
    · exact h2.elim
  · cases h
theorem ok_par2 {i j : Nat} {a b : IE} : OkS G C (.par2 i j a b) := by
  intro X W A g st h
  unfold chkS at h
  split at h
  · rename_i x px y py kt tp u v k2 pt2 pos
    simp only [Bool.and_eq_true, decide_eq_true_eq, Bool.not_eq_true', bne_iff_ne] at h
    obtain ⟨⟨⟨⟨⟨⟨⟨⟨⟨h1, h2⟩, h3⟩, h4⟩, h5⟩, h6⟩, h7⟩, h8⟩, hf0⟩, h9⟩ := h
    obtain ⟨q1, q2⟩ := lcl_of g.hN g.sc h2
    obtain ⟨r1, r2⟩ := lcl_of g.hN g.sc h3
    refine ⟨fun pins s σ H D I hh => ?_⟩
    have hk : X.env.scope.kind = .function := I.ok.kind
    have hb : X.env.blockKind = .function := by unfold Env.blockKind; rw [hk]; rfl
    have kx : X.env.kindOf x = some .local := by rw [kind_of g.sc, ← g.sc]; exact q2
    have ky : X.env.kindOf y = some .local := by rw [kind_of g.sc, ← g.sc]; exact r2
    have su := chkE_nst h4
    have sv := chkE_nst h5
    have hf : ([u, v].all (foldedForSure 8)) = false := by
      simp only [List.all_cons, List.all_nil, Bool.and_true]
      exact hf0
    have hc : ([u, v].all (constantsAlone 8)) = false := by
      simp only [List.all_cons, List.all_nil, Bool.and_true]
      exact h8
    have hw : swappedStores [.Tuple [.Name x px, .Name y py] kt tp] (.Tuple [u, v] k2 pt2) X.env = pure (some [x, y]) := by
      have e1 : (px.line == px.line) = true := by simp
      have e2 : (py.line == px.line) = true := by rw [BEq.comm]; exact h7
      have hxy : (y == x) = false := by rw [BEq.comm]; exact h9
      unfold swappedStores
      simp only [hb, kx, ky, List.length_cons, List.length_nil, List.filterMap_cons, List.filterMap_nil, hf, hc, e1, e2, List.head?_cons, Option.map_some, Expr.pos, Option.getD_some, Bool.and_self, beq_self_eq_true, if_true, List.eraseDups_cons, List.eraseDups_nil, List.filter_cons, List.filter_nil, hxy, bne_self_eq_false, Bool.true_or, Bool.not_true, Bool.or_self, Bool.false_eq_true, if_false, Bool.not_false, Bool.false_or]
      cases u <;> cases v <;> first | rfl | (cases su; done) | (cases sv; done)
    refine (ps_par (g.calm h1) g.nd q1 r1 h6 q2 r2 (pa_cons (okE a X W A g u h4) (pa_cons (okE b X W A g v h5) pa_nil (star_cons sv)) (star_cons su)) hw rfl).run pins s σ H D I ?_
    obtain ⟨σd, S, k, rn, rs, h, p⟩ := hh
    refine ⟨σd, S, _, _, rn, rs, h, fun v1 H1 d1 S1 e1 rv1 rs1 h1 => ⟨σd, S1, _, _, rn.ext e1, rs1, h1, fun v2 H2 d2 S2 e2 rv2 rs2 h2 => ⟨v1, v2, rfl, ?_⟩, (p.xp rn).ext e1⟩, p.xp rn⟩
    exact p.nx _ H2 _ S2 (e1.trans e2) (((rn.ext (e1.trans e2)).set (Rv.ext e2 rv1) i).set rv2 j) rs2 h2
  · cases h
theorem ok_expr {e : IE} : OkS G C (.expr e) := by
  intro X W A g st h
  unfold chkS at h
  split at h
  · simp only [Bool.and_eq_true] at h
    refine (ps_expr (okE e X W A g _ h.1) (sw_nc h.2)).imp ?_
    rintro D σ H ⟨σd, S, k, rn, rs, h, p⟩
    exact ⟨σd, S, _, _, rn, rs, h, fun v H1 d S1 e1 rv rs1 h1 => p.nx σ H1 σd S1 e1 (rn.ext e1) rs1 h1, p.xp rn⟩
  · cases h
theorem ok_ret {e : IE} : OkS G C (.ret e) := by
  intro X W A g st h
  unfold chkS at h
  split at h
  · refine (ps_ret (okE e X W A g _ h)).imp ?_
    rintro D σ H ⟨σd, S, k, rn, rs, h, p⟩
    exact ⟨σd, S, _, _, rn, rs, h, p.rt, p.xp rn⟩
  · cases h
theorem ok_retN : OkS G C .retN := by
  intro X W A g st h
  unfold chkS at h
  split at h
  · refine ps_retN.imp ?_
    rintro D σ H ⟨σd, S, k, rn, rs, h, p⟩
    exact p.rt .non H .non S (Ext.refl H) .non rs h
  · cases h
theorem ok_brk : OkS G C .brk := by
  intro X W A g st h
  unfold chkS at h
  split at h
  · refine ps_break.imp ?_
    rintro D σ H ⟨σd, S, k, rn, rs, h, p⟩
    exact p.bk σ H σd S (Ext.refl H) rn rs h
  · cases h
theorem ok_cnt : OkS G C .cnt := by
  intro X W A g st h
  unfold chkS at h
  split at h
  · refine ps_continue.imp ?_
    rintro D σ H ⟨σd, S, k, rn, rs, h, p⟩
    exact p.ct σ H σd S (Ext.refl H) rn rs h
  · cases h
theorem ok_pass : OkS G C .pass := by
  intro X W A g st h
  unfold chkS at h
  split at h
  · refine ps_pass.imp ?_
    rintro D σ H ⟨σd, S, k, rn, rs, h, p⟩
    exact p.nx σ H σd S (Ext.refl H) rn rs h
  · cases h
theorem ok_ifs {c : IC} {a b : ISs} (iha : OkSs G C a) (ihb : OkSs G C b) : OkS G C (.ifs c a b) := by
  intro X W A g st h
  unfold chkS at h
  split at h
  · simp only [Bool.and_eq_true] at h
    refine (ps_if (okC c X W A g _ h.1.1) (iha X W A g _ h.1.2) (ihb X W A g _ h.2)).imp ?_
    rintro D σ H ⟨σd, S, k, rn, rs, h, p⟩
    refine ⟨σd, S, _, _, rn, rs, h, fun b H1 S1 e1 rs1 h1 => ?_, p.xp rn⟩
    cases b with
    | true => exact ⟨σd, S1, k, rn.ext e1, rs1, h1, p.ext e1⟩
    | false => exact ⟨σd, S1, k, rn.ext e1, rs1, h1, p.ext e1⟩
  · cases h
theorem ok_whl {c : IC} {b : ISs} (ihb : OkSs G C b) : OkS G C (.whl c b) := by
  intro X W A g st h
  unfold chkS at h
  split at h
  · simp only [Bool.and_eq_true] at h
    refine (ps_while g.po (okC c X W A g _ h.1) (ihb X W A g _ h.2)).imp ?_
    rintro D σ H ⟨σd, S, k, rn, rs, h, p⟩
    obtain ⟨Wd, ⟨m0, w0⟩, turn⟩ := h
    refine ⟨fun m σ H' => ∃ σd S, Ext H H' ∧ Rn X.K H' σd σ ∧ RS X.K H' S ∧ Wd m σd S, ⟨m0, σd, S, Ext.refl H, rn, rs, w0⟩, ?_⟩
    rintro m σ1 H1 ⟨σd1, S1, e1, rn1, rs1, w1⟩
    refine ⟨σd1, S1, _, _, rn1, rs1, turn m σd1 S1 w1, fun b H2 S2 e2 rs2 h2 => ?_, (p.ext e1).xp rn1⟩
    cases b with
    | true =>
      have h2 : semSs G C _ _ σd1 S2 := h2
      refine ⟨fun σ' H' => ∃ m', m' < m ∧ ∃ σd S, Ext H H' ∧ Rn X.K H' σd σ' ∧ RS X.K H' S ∧ Wd m' σd S, fun σ' H' z => z, σd1, S2, _, rn1.ext e2, rs2, h2, ?_⟩
      refine ⟨?_, (p.ext (e1.trans e2)).rt, (p.ext (e1.trans e2)).nx, ?_, (p.ext (e1.trans e2)).ex⟩
      · rintro σ' H' σd' S' e rn' rs' ⟨m', hm, w'⟩
        exact ⟨m', hm, σd', S', (e1.trans e2).trans e, rn', rs', w'⟩
      · rintro σ' H' σd' S' e rn' rs' ⟨m', hm, w'⟩
        exact ⟨m', hm, σd', S', (e1.trans e2).trans e, rn', rs', w'⟩
    | false => exact p.nx σ1 H2 σd1 S2 (e1.trans e2) (rn1.ext e2) rs2 h2
  · cases h
theorem ok_for {ig : IG} {it : II} {b : ISs} (ihb : OkSs G C b) : OkS G C (.for_ ig it b) := by
  intro X W A g st h
  unfold chkS at h
  split at h
  · rename_i t i x pos
    simp only [Bool.and_eq_true] at h
    obtain ⟨⟨⟨⟨h1, h2⟩, h3⟩, h4⟩, h5⟩ := h
    obtain ⟨hi, hs⟩ := okI it X W A g t i h3
    refine (ps_for g.po (g.calm h1) hi (ok_g (List.range A.N.length) ig X W A g _ h2) (ihb X W A g _ h5) (fold_ok h4)).imp ?_
    rintro D σ H ⟨σd, S, k, rn, rs, h, p⟩
    refine ⟨σd, S, _, _, rn, rs, h, fun J J' H1 S1 e1 rs1 rel h1 => ?_, p.xp rn⟩
    obtain ⟨Wd, ⟨m0, w0⟩, turn⟩ := h1
    refine ⟨fun i m σ H' => ∃ σd S, Ext H1 H' ∧ Rn X.K H' σd σ ∧ RS X.K H' S ∧ Wd i m σd S, ⟨m0, σd, S1, Ext.refl H1, rn.ext e1, rs1, w0⟩, ?_⟩
    rintro i m σ2 H2 ⟨σd2, S2, e2, rn2, rs2, w2⟩
    rcases rel H2 S2 i e2 rs2 _ _ (turn i m σd2 S2 w2) with ⟨st, q⟩ | ⟨go, q⟩
    · exact .inl ⟨st, p.nx σ2 H2 σd2 S2 (e1.trans e2) rn2 rs2 q⟩
    · refine .inr ⟨go, fun σ' H' => ∃ m', m' < m ∧ ∃ σd S, Ext H1 H' ∧ Rn X.K H' σd σ' ∧ RS X.K H' S ∧ Wd (i + 1) m' σd S, fun σ' H' z => z, fun v H3 y => ?_⟩
      obtain ⟨e3, rs3, d, rv, hd⟩ := q v H3 y
      have e13 : Ext H1 H3 := e2.trans e3
      refine ⟨d, σd2, S2, _, rv, rn2.ext e3, rs3, hd, fun σ' σd' rn' w' hq => ⟨σd', S2, _, rn', rs3, hq, ?_⟩⟩
      have p3 := p.ext (e1.trans e13)
      refine ⟨?_, p3.rt, p3.nx, ?_, p3.ex⟩
      · rintro σ5 H5 σd5 S5 e5 rn5 rs5 ⟨m', hm, w5⟩
        exact ⟨m', hm, σd5, S5, e13.trans e5, rn5, rs5, w5⟩
      · rintro σ5 H5 σd5 S5 e5 rn5 rs5 ⟨m', hm, w5⟩
        exact ⟨m', hm, σd5, S5, e13.trans e5, rn5, rs5, w5⟩
  · cases h
theorem ok_snil : OkSs G C .nil := by
  intro X W A g st h
  cases st with
  | cons _ _ => cases h
  | nil =>
    refine pss_nil.imp ?_
    rintro D σ H ⟨σd, S, k, rn, rs, h, p⟩
    exact p.nx σ H σd S (Ext.refl H) rn rs h
theorem ok_scons {s : IS} {r : ISs} (ihs : OkS G C s) (ihr : OkSs G C r) : OkSs G C (.cons s r) := by
  intro X W A g st h
  cases st with
  | nil => cases h
  | cons x t =>
    simp only [chkSs, Bool.and_eq_true] at h
    refine (pss_cons (ihs X W A g _ h.1) (ihr X W A g _ h.2)).imp ?_
    rintro D σ H ⟨σd, S, k, rn, rs, h, p⟩
    refine ⟨σd, S, _, rn, rs, h, ?_, p.rt, p.bk, p.ct, p.ex⟩
    intro σ' H' σd' S' e rn' rs' h'
    exact ⟨σd', S', k, rn', rs', h', p.ext e⟩
theorem ok_never : OkS G C .never := by
  intro X W A g st h
  refine (ps_never (X := X)).imp ?_
  rintro D σ H ⟨σd, S, k, rn, rs, h, p⟩
  exact h.elim
theorem ok_raise {x : Str} {es : IEs} : OkS G C (.raise x es) := by
  intro X W A g st h
  unfold chkS at h
  split at h
  · rename_i y p a r p2 p3
    simp only [Bool.and_eq_true, decide_eq_true_eq] at h
    obtain ⟨⟨⟨⟨rfl, h2⟩, h3⟩, h4⟩, h5⟩ := h
    obtain ⟨q1, q2⟩ := glb_of g.sc h4
    obtain ⟨c, w1, w2, w3, w4, w5⟩ := g.exc _ h3
    cases es with
    | nil => cases h5
    | cons e es =>
      have hz := chkEs_star (env := X.env) h5
      have h6 := h5
      simp only [chkEs, Bool.and_eq_true] at h6
      have h7 := chkEs_star (env := X.env) h6.2
      refine (ps_raise (g.calm h2) g.tk (pmk_ownA PySem.F.excBase_ValueError w3 w1 w2 (raises_own w4 w5) q1 (okEs _ X W A g _ h5) q2 (star_cons (chkE_nst h6.1)) (back_any h7.1))).imp ?_
      rintro D σ H ⟨σd, S, k, rn, rs, h, p⟩
      have h : semEs G C (fun x S => k.ex x σd S) (.cons e es) σd S (fun ds S1 => ds.length ≤ sizeLine ∧ k.ex ⟨x, []⟩ σd S1) := h
      refine ⟨σd, S, _, _, rn, rs, h, fun vs H1 ds S1 e1 hl rv rs1 h1 => ⟨by rw [← rv.length]; exact h1.1, p.ex _ none σ H1 ⟨x, []⟩ σd S1 e1 (rn.ext e1) ⟨w1, rfl⟩ rs1 h1.2⟩, p.xp rn⟩
  · cases h
/-- a try's body, a clause's suite -/
theorem Good.tr {X : Cx} {W W1 : WX} {A : Sc} (g : Good G C X W A) (ht : A.tp = true) (pn : List (Addr × Obj)) (xe : Value → Shared → Prop) (tk : Takes (X.tr pn xe) W1) (po : PassesOwn (model X.prog X.w) X.A X.env xe) : Good G C (X.tr pn xe) W1 A where
  hN := g.hN
  nd := g.nd
  sc := g.sc
  fnc := g.fnc
  stl := g.stl
  calm := g.calm
  tk := tk
  po := po
  hu := g.hu
  blt := g.blt
  gcd := g.gcd
  lcm := g.lcm
  cst := g.cst
  fns := g.fns
  py := fun hp => ⟨(g.py hp).seer, (g.py hp).tree, (g.py hp).fr, (g.py hp).dp⟩
  stk := g.stk
  exc := g.exc
  exn := g.exn
  mts := g.mts
  mk0 := g.mk0
  mk1 := g.mk1
  fds := g.fds
  exi := g.exi
  xcg := fun a e h => absurd ((g.xcg a e h).2.1.symm.trans ht) (by decide)
theorem Good.su {X : Cx} {W : WX} {A : Sc} (g : Good G C X W A) (ht : A.tp = true) (a : Addr) (pn : List (Addr × Obj)) : Good G C (X.suite a pn) (fun _ _ _ _ => False) { A with cm := false, tp := false } where
  hN := g.hN
  nd := g.nd
  sc := g.sc
  fnc := g.fnc
  stl := g.stl
  calm := fun z => by cases z
  tk := fun u s' ⟨_, _, _, _, _, _, _, _, _, _, _, _, _, _, _, _, h⟩ => h
  po := PassesOwn.never
  hu := g.hu
  blt := g.blt
  gcd := g.gcd
  lcm := g.lcm
  cst := g.cst
  fns := fun z => by cases z
  py := fun hp => ⟨(g.py hp).seer, (g.py hp).tree, (g.py hp).fr, (g.py hp).dp⟩
  stk := fun z => by cases z
  exc := g.exc
  exn := g.exn
  mts := fun z => by cases z
  mk0 := fun z => by cases z
  mk1 := fun z => by cases z
  fds := g.fds
  exi := g.exi
  xcg := fun a e h => absurd ((g.xcg a e h).2.1.symm.trans ht) (by decide)
/-- the suite of a clause that holds the exception -/
theorem Good.sux {X : Cx} {W : WX} {A : Sc} (g : Good G C X W A) (e : Exn) {D a : Addr} {oe : Obj} {pn : List (Addr × Obj)} (hD : X.mg e.cls = some (.ref D)) (hE : ExcC X.K D) (hz : Zc (.ref D) none oe) (hf : ∃ vs, oe.data = .fields vs) :
    Good { G with xc := some (a, e) } C (X.suite a ((a, oe) :: pn)) (fun _ _ _ _ => False) { A with cm := false, tp := false } where
  hN := g.hN
  nd := g.nd
  sc := g.sc
  fnc := g.fnc
  stl := g.stl
  calm := fun z => by cases z
  tk := fun u s' ⟨_, _, _, _, _, _, _, _, _, _, _, _, _, _, _, _, h⟩ => h
  po := PassesOwn.never
  hu := g.hu
  blt := g.blt
  gcd := g.gcd
  lcm := g.lcm
  cst := g.cst
  fns := fun z => by cases z
  py := fun hp => ⟨(g.py hp).seer, (g.py hp).tree, (g.py hp).fr, (g.py hp).dp⟩
  stk := fun z => by cases z
  exc := g.exc
  exn := g.exn
  mts := fun z => by cases z
  mk0 := fun z => by cases z
  mk1 := fun z => by cases z
  fds := g.fds
  exi := g.exi
  xcg := fun b e' h => by
    cases h
    exact ⟨rfl, rfl, D, hD, call_isE hE hz hf, call_isET hE hz hf⟩
theorem ok_try {b t : ISs} {x : Str} (ihb : OkSs G C b) (ihs : OkSs G C t) : OkS G C (.tryx b x t) := by
  intro X W A g st h
  unfold chkS at h
  split at h
  · rename_i u y p v w p2 p3
    simp only [Bool.and_eq_true, decide_eq_true_eq] at h
    obtain ⟨⟨⟨⟨⟨rfl, h1⟩, h2⟩, h3⟩, h4⟩, h5⟩ := h
    obtain ⟨q1, q2⟩ := glb_of g.sc h3
    obtain ⟨c, w1, w2⟩ := g.exn _ h2
    have hst := g.stk h1
    refine ⟨fun pins s σ H D I hh => ?_⟩
    refine (ps_try_only (c := c) (Wout := W) (tb := fun W1 => LS X W1 (semSs G C b)) (ts := fun _ _ _ => LS X (fun _ _ _ _ => False) (semSs G C t)) hst.1 hst.2 ⟨q1, q2, w1⟩ g.tk
      (fun W1 pn xe tk po => (ihb _ _ _ (g.tr h1 pn xe tk po) _ h4).imp ?_) (fun a oe cls d pn _ _ => (ihs _ _ _ (g.su h1 a _) _ h5).imp ?_)).run pins s σ H D I ?_
    · rintro D1 σ1 H1 ⟨σd, S, k, rn, rs, h, kp⟩
      exact ⟨σd, S, k, rn, rs, h, ⟨kp.nx, kp.rt, kp.bk, kp.ct, kp.ex⟩⟩
    · rintro D1 σ1 H1 ⟨σd, S, k, rn, rs, h, kp⟩
      exact ⟨σd, S, k, rn, rs, h, ⟨kp.nx, kp.rt, kp.bk, kp.ct, kp.ex⟩⟩
    · obtain ⟨σd, S, k, rn, rs, h, kp⟩ := hh
      refine ⟨σd, S, _, rn, rs, h, kp.nx, kp.rt, kp.bk, kp.ct, ?_⟩
      intro c1 dd σ' H' e σd' S' ex rn' rx rs' he
      have he : (match G.sub e.cls x with
        | some true => semSs G C t { k with ex := fun _ _ _ => False } σd' S'
        | some false => k.ex e σd' S'
        | none => False) := he
      split at he
      · rename_i es
        obtain ⟨u, u1, u2⟩ := w2 _ _ es
        have := rx.1
        rw [u1] at this
        cases this
        refine ⟨true, u2, fun _ a na => ⟨σd', S', _, rn', rs', he, ?_⟩, fun z => by cases z⟩
        have kp' := kp.ext ex
        exact ⟨kp'.nx, kp'.rt, kp'.bk, kp'.ct, fun _ _ _ _ _ _ _ _ _ _ _ z => z⟩
      · rename_i es
        obtain ⟨u, u1, u2⟩ := w2 _ _ es
        have := rx.1
        rw [u1] at this
        cases this
        exact ⟨false, u2, (fun z => Bool.noConfusion z), fun _ => kp.ex _ _ _ _ _ _ _ ex rn' rx rs' he⟩
      · exact he.elim
  · cases h
theorem ok_tryas {b t : ISs} {x : Str} {i : Nat} (ihb : OkSs G C b) (ihs : ∀ G, OkSs G C t) : OkS G C (.tryas b x i t) := by
  intro X W A g st h
  unfold chkS at h
  split at h
  · rename_i u y p n v w p2 p3
    simp only [Bool.and_eq_true, decide_eq_true_eq] at h
    obtain ⟨⟨⟨⟨⟨⟨⟨rfl, h1⟩, h2⟩, h2b⟩, h3⟩, h6⟩, h4⟩, h5⟩ := h
    obtain ⟨q1, q2⟩ := glb_of g.sc h3
    obtain ⟨l1, l2⟩ := lcl_of g.hN g.sc h6
    obtain ⟨c, w1, w2⟩ := g.exn _ h2
    obtain ⟨_, _, _, _, w3⟩ := g.exi _ h2b
    have hst := g.stk h1
    refine ⟨fun pins s σ H D I hh => ?_⟩
    refine (ps_try_as (c := c) (i := i) (Wout := W) (tb := fun W1 => LS X W1 (semSs G C b))
      (ts := fun a cls d D σ H => ∃ e : Exn, (∃ B : Addr, X.mg e.cls = some (.ref B) ∧ ExcC X.K B ∧ cls = .ref B ∧ d = none) ∧ LS X (fun _ _ _ _ => False) (semSs { G with xc := some (a, e) } C t) D σ H)
      hst.1 hst.2 g.nd l1 (by rw [kind_of g.sc, ← g.sc]; exact l2) ⟨q1, q2, w1⟩ g.tk
      (fun W1 pn xe tk po => (ihb _ _ _ (g.tr h1 pn xe tk po) _ h4).imp ?_) (fun a oe cls d pn hz hf => ⟨fun pins s σ H D I hh => ?_⟩)).run pins s σ H D I ?_
    · rintro D1 σ1 H1 ⟨σd, S, k, rn, rs, h, kp⟩
      exact ⟨σd, S, k, rn, rs, h, ⟨kp.nx, kp.rt, kp.bk, kp.ct, kp.ex⟩⟩
    · obtain ⟨e, ⟨B, b1, b2, rfl, rfl⟩, σd, S, k, rn, rs, h, kp⟩ := hh
      exact (ihs _ _ _ _ (g.sux e b1 b2 hz hf) _ h5).run pins s σ H D I ⟨σd, S, k, rn, rs, h, ⟨kp.nx, kp.rt, kp.bk, kp.ct, kp.ex⟩⟩
    · obtain ⟨σd, S, k, rn, rs, h, kp⟩ := hh
      refine ⟨σd, S, _, rn, rs, h, kp.nx, kp.rt, kp.bk, kp.ct, ?_⟩
      intro c1 dd σ' H' e σd' S' ex rn' rx rs' he
      have he : (match G.sub e.cls x with
        | some true => e.fs = [] ∧ ∀ a, S' a = none → semSs { G with xc := some (a, e) } C t { nx := fun σ2 S2 => k.nx (wip1 σ2 i) S2, rt := k.rt, bk := fun σ2 S2 => k.bk (wip1 σ2 i) S2, ct := fun σ2 S2 => k.ct (wip1 σ2 i) S2, ex := fun _ _ _ => False } (stn σd' i (.ref a)) S'
        | some false => k.ex e σd' S'
        | none => False) := he
      split at he
      · rename_i es
        obtain ⟨u, u1, u2⟩ := w2 _ _ es
        obtain ⟨B, b1, b2, _⟩ := w3 _ _ es
        have := rx.1
        rw [u1] at this
        cases this
        rw [b1] at u1
        cases u1
        refine ⟨true, u2, fun _ a na => ⟨e, ⟨B, b1, b2, rfl, ?_⟩, stn σd' i (.ref a), S', _, rn'.set (.ref a) i, rs', he.2 a (RS.none rs' na), ?_⟩, fun z => by cases z⟩
        · have r2 := rx.2
          cases dd with
          | none => rfl
          | some p => exact absurd he.1 r2.1
        · have kp' := kp.ext ex
          exact ⟨fun σ2 H2 σd2 S2 e2 rn2 rs2 q => kp'.nx _ H2 _ S2 e2 (rn2.wip i) rs2 q, kp'.rt, fun σ2 H2 σd2 S2 e2 rn2 rs2 q => kp'.bk _ H2 _ S2 e2 (rn2.wip i) rs2 q, fun σ2 H2 σd2 S2 e2 rn2 rs2 q => kp'.ct _ H2 _ S2 e2 (rn2.wip i) rs2 q, fun _ _ _ _ _ _ _ _ _ _ _ z => z⟩
      · rename_i es
        obtain ⟨u, u1, u2⟩ := w2 _ _ es
        have := rx.1
        rw [u1] at this
        cases this
        exact ⟨false, u2, (fun z => Bool.noConfusion z), fun _ => kp.ex _ _ _ _ _ _ _ ex rn' rx rs' he⟩
      · exact he.elim
  · cases h
mutual
theorem okS : ∀ (s : IS) (G : Gl0), OkS G C s
  | .set i e, G => ok_set
  | .asg g e, G => ok_asg
  | .par2 i j a b, G => ok_par2
  | .sub o i e, G => ok_sub
  | .expr e, G => ok_expr
  | .ret e, G => ok_ret
  | .retN, G => ok_retN
  | .ifs c a b, G => ok_ifs (okSs a G) (okSs b G)
  | .whl c b, G => ok_whl (okSs b G)
  | .for_ g it b, G => ok_for (okSs b G)
  | .brk, G => ok_brk
  | .cnt, G => ok_cnt
  | .pass, G => ok_pass
  | .raise x es, G => ok_raise
  | .tryx b x s, G => ok_try (okSs b G) (okSs s G)
  | .tryas b x i s, G => ok_tryas (okSs b G) (fun G => okSs s G)
  | .setf o f e, G => ok_setf
  | .never, G => ok_never
theorem okSs : ∀ (s : ISs) (G : Gl0), OkSs G C s
  | .nil, G => ok_snil
  | .cons s r, G => ok_scons (okS s G) (okSs r G)
end
end
end Ev

/-! The defs of a text by their forms; a law's end. -/
namespace Ev
open PySem PySem.Spec PyProof.Rows L2

/-- what is known of the module -/
structure Md where
  fns : List (Str × Nat)
  blt : List Str
  cst : List Str
  gcd : Bool
  lcm : Bool := false
  exc : List Str := []
  exn : List Str := []
  mks : List (Str × Bool) := []
  meth : List (Str × Str × Str) := []
  xis : List Str := []
def Md.sc (M : Md) (N : List Str) (scope : Scope) : Sc := { N := N, sc := scope, stl := scope.names, fns := M.fns, blt := M.blt, cst := M.cst, gcd := M.gcd, lcm := M.lcm, cm := true, tp := true, exc := M.exc, exn := M.exn, mks := M.mks, xis := M.xis }
/-- a def of the text and its form -/
structure FnT (M : Md) (st : Stmt) (F : Fn) (N ps : List Str) : Prop where
  sc : FnScope N ps (defScope st)
  chk : chkSs (M.sc N (defScope st)) F.body (defBody st) = true
  np : F.ps = ps.length
  ns : F.sl = N.length
/-- where a def stands: a name of the module, or a method of a class -/
def At (M : Md) (K : PySem.W.Frag) (mg : Str → Option Value) (f : Str) (a : Addr) : Prop := match M.meth.lookup f with
  | none => mg f = some (.ref a)
  | some (x, m) => ∃ cls : Addr, ClsAt K x cls ∧ Cls K cls ∧ Meth K cls m a
theorem memL {α β : Type} [BEq α] [LawfulBEq α] : ∀ {l : List (α × β)} {x : α} {y : β}, l.lookup x = some y → (x, y) ∈ l
  | [], x, y, h => by cases h
  | (a, b) :: r, x, y, h => by
    rw [List.lookup_cons] at h
    split at h
    · rename_i e
      cases h
      rw [eq_of_beq e]
      exact List.mem_cons_self
    · exact List.mem_cons_of_mem _ (memL h)
theorem at_f {M : Md} {K : PySem.W.Frag} {mg : Str → Option Value} {f : Str} {a : Addr} (h : M.meth.lookup f = none) (g : mg f = some (.ref a)) : At M K mg f a := by
  unfold At
  rw [h]
  exact g
theorem at_m {M : Md} {K : PySem.W.Frag} {mg : Str → Option Value} {f x m : Str} {a cls : Addr} (h : M.meth.lookup f = some (x, m)) (c : ClsAt K x cls) (l : Cls K cls) (g : Meth K cls m a) : At M K mg f a := by
  unfold At
  rw [h]
  exact ⟨cls, c, l, g⟩
/-- the module as it stands behind the top -/
structure Mok (M : Md) (G : Gl0) (T : Str → Option Fn) (P : Program) (K : PySem.W.Frag) (mg : Str → Option Value) (base : Heap) : Prop where
  blt : ∀ x, M.blt.contains x = true → mg x = none
  gcd : M.gcd = true → mg "gcd" = some (.builtin "math.gcd")
  lcm : M.lcm = true → mg "lcm" = some (.builtin "math.lcm")
  cst : ∀ x, M.cst.contains x = true → ∃ d u v, G.cs x = some d ∧ mg x = some u ∧ RelV v u ∧ ∀ H, Rv K H d v
  fns : ∀ f n, M.fns.lookup f = some n → M.meth.lookup f = none ∧ ∃ F, T f = some F ∧ F.ps = n
  fn : ∀ f F, T f = some F → ∃ (a : Addr) (fd : FuncData) (st : Stmt) (N ps : List Str) (nm qual : Str), At M K mg f a ∧ L2.Fun K nm qual st a fd ∧ FnT M st F N ps ∧ Binds K fd ps []
  py : G.PY → base.NoSeer ∧ P.given.tree = none
  exc : ∀ x, M.exc.contains x = true → ExcW K mg x
  exn : ∀ x, M.exn.contains x = true → ExnW G K mg x
  mts : ∀ x m key, G.mt x m = some key → M.meth.lookup key = some (x, m) ∧ ∃ F, T key = some F
  mk0 : ∀ x, M.mks.lookup x = some false → G.it x = some none ∧ ∃ cls : Addr, ClsAt K x cls ∧ mg x = some (.ref cls) ∧ PySem.W.keepIn K (.ref cls) = true ∧ PySem.W.makesIn K cls = true ∧
    PySem.W.findIn K (.ref cls) "__init__" = some (some (.builtin "object.__init__"))
  mk1 : ∀ x, M.mks.lookup x = some true → ∃ key : Str, G.it x = some (some key) ∧ M.meth.lookup key = some (x, ("__init__" : Str)) ∧ (∃ F, T key = some F) ∧ ∃ cls : Addr, ClsAt K x cls ∧ mg x = some (.ref cls) ∧
    PySem.W.makesIn K cls = true ∧ PySem.W.keepIn K (.ref cls) = true
  fds : ∀ x f, G.fd x f = true → ∃ cls : Addr, ClsAt K x cls ∧ Cls K cls ∧ NoAttr K cls f
  xc : G.xc = none := by rfl
  exi : ∀ x, M.xis.contains x = true → ExiW G K mg x := by intro x h; cases h
section
variable {M : Md} {G : Gl0} {T : Str → Option Fn} {P : Program} {w : World} {K : PySem.W.Frag} {mg : Str → Option Value} {base : Heap}
theorem Rvs.ent {H : Hp} {ds : List D} {vs : List V} (r : Rvs K H ds vs) (N : List Str) : Rn K H (ent N.length ds) (L2.start N vs) := by
  unfold Ev.ent L2.start
  rw [r.length]
  generalize N.length - vs.length = n
  induction ds generalizing vs with
  | nil =>
    cases r
    induction n with
    | zero => exact .nil
    | succ n ih => exact .cons trivial ih
  | cons d ds ih =>
    cases r with
    | cons h t => exact .cons h (ih t)
theorem fn_all (B : Mok M G T P K mg base) : ∀ (k : Nat) (f : Str) (F : Fn), T f = some F → ∃ (a : Addr) (fd : FuncData) (ps : List Str), At M K mg f a ∧ PySem.W.keepIn K (.ref a) = true ∧ Binds K fd ps [] ∧ ps.length = F.ps ∧
    FnOk P w K mg base (L2.CX P w) (2 * k + 40) a fd ps (LF K mg (semF G T k) f) := by
  intro k
  induction k with
  | zero =>
    intro f F hF
    obtain ⟨a, fd, st, N, ps, nm, qual, h1, h2, h3, h4⟩ := B.fn f F hF
    refine ⟨a, fd, ps, h1, h2.kp, h4, h3.np.symm, fun vs H Q E h => ?_, fun A outer s H args us vs Q E _ _ _ _ h => ?_⟩
    · obtain ⟨ds, S, Qd, Ed, _, _, h, _⟩ := h
      exact h.elim
    · obtain ⟨ds, S, Qd, Ed, _, _, h, _⟩ := h
      exact h.elim
  | succ k ih =>
    intro f F hF
    obtain ⟨a, fd, st, N, ps, nm, qual, h1, h2, h3, h4⟩ := B.fn f F hF
    refine ⟨a, fd, ps, h1, h2.kp, h4, h3.np.symm, ?_⟩
    obtain ⟨oc, od, kV, doc, pm, an, cdv, ct, osl, rfl, lk, hcd⟩ := h2.ex
    rw [show 2 * (k + 1) + 40 = (2 * k + 41) + 1 by omega]
    refine fn_of lk hcd h3.sc (fun vs H Q E h => ?_) (fun A outer s H vs Q E hr h => ?_)
    · obtain ⟨ds, S, Qd, Ed, rd, _, h, _⟩ := h
      simp only [semF, hF] at h
      rw [← rd.length, h.1, h3.np]
    · obtain ⟨ds, S, Qd, Ed, rd, rs, h, p, ex⟩ := h
      simp only [semF, hF] at h
      have good : Good G (semF G T k) (cxOf (L2.CX P w) P w K mg base N qual (defScope st) a cdv A outer s H E) (fun c d _ H' => E c d H') (M.sc N (defScope st)) := {
        hN := rfl
        nd := h3.sc.nd
        sc := rfl
        fnc := fun x _ => rfl
        stl := fun x k _ h => h
        calm := fun _ => rfl
        tk := takes_of rfl rfl rfl rfl
        po := passes_of rfl
        hu := by
          have := hr.un
          show (A.deeper _).units + 65 < cLine
          omega
        blt := B.blt
        gcd := B.gcd
        lcm := B.lcm
        cst := B.cst
        fns := fun _ f' n hn => by
          obtain ⟨t0, F', t1, t2⟩ := B.fns f' n hn
          obtain ⟨a', fd', ps', q1, q2, q3, q4, q5⟩ := ih f' F' t1
          unfold At at q1
          rw [t0] at q1
          exact ⟨a', fd', ps', 2 * k + 40, q1, q2, q3, hr.mono (Nat.le_succ _), q5⟩
        mts := fun _ x m key hn => by
          obtain ⟨t0, F', t1⟩ := B.mts x m key hn
          obtain ⟨a', fd', ps', q1, q2, q3, q4, q5⟩ := ih key F' t1
          unfold At at q1
          rw [t0] at q1
          obtain ⟨cls, c1, c2, c3⟩ := q1
          exact ⟨cls, a', fd', ps', 2 * k + 40, c1, c2, c3, q3, hr.mono (Nat.le_succ _), q5⟩
        mk0 := fun _ => B.mk0
        mk1 := fun _ x hn => by
          obtain ⟨key, t3, t0, ⟨F', t1⟩, cls, c1, c2, c3, c4⟩ := B.mk1 x hn
          obtain ⟨a', fd', ps', q1, q2, q3, q4, q5⟩ := ih key F' t1
          unfold At at q1
          rw [t0] at q1
          obtain ⟨cls', d1, d2, d3⟩ := q1
          have := c1.eq d1
          subst this
          exact ⟨key, _, a', fd', ps', 2 * k + 40, t3, c1, c2, ⟨c3, d3.at_, d3.fn, c4⟩, q3, hr, q5⟩
        fds := B.fds
        exi := B.exi
        xcg := fun a e h => by rw [B.xc] at h; cases h
        py := fun hp => ⟨(B.py hp).1, (B.py hp).2, ⟨_, _, rfl, h3.sc.gen, h3.sc.co, rfl, rfl⟩, by
          have := hr.dp
          show (A.deeper _).depth + 100 < recursionLimit
          omega⟩
        stk := fun _ => ⟨rfl, rfl⟩
        exc := B.exc
        exn := B.exn }
      refine ⟨_, okSs F.body G _ _ _ good _ h3.chk, ent F.sl ds, S, kend Qd Ed, ?_, rs, h.2, ?_⟩
      · rw [h3.ns]
        exact rd.ent N
      · exact ⟨fun σ' H' σd S' e rn rs' q => p .non H' .non S' e .non rs' q, p, fun _ _ _ _ _ _ _ q => q.elim, fun _ _ _ _ _ _ _ q => q.elim, fun c dd σ' H' x σd S' e rn rx rs' q => ex c dd H' x S' e rx rs' q⟩
end
/-- the head, with the library's big division -/
theorem law_callP {P : Program} {w : World} {K : PySem.W.Frag} {mg mb : Str → Option Value} {CX : CXT} {k : Nat} {fa a : Addr} {sp : Sp} {s₁ : Shared} {vs : List Value} {ns : List Int}
    (KX : K.In s₁.heap) (hns : s₁.heap.Ns mainGlobals mg) (hb : s₁.heap.Ns builtinsNs mb) (hbb : ∀ x : Str, x ≠ "__name__" → mb x = bootBuiltins x) (hlim : s₁.heap.NoLimit) (hseer : s₁.heap.NoSeer) (hg : s₁.gens = #[])
    (ha : s₁.heap.get? a = some { cls := .type "list", data := .seq vs.toArray }) (hi : IntsAre vs ns) (hl : ns.length ≤ sizeLine) (hr : Room k callerA)
    (F : ∀ base : Heap, K.In base → base.Ns mainGlobals mg → base.NoSeer → ∃ (fd : FuncData) (ps : List Str), Binds K fd ps [] ∧ ps.length = 1 ∧ FnOk P w K mg base CX k fa fd ps sp)
    (hsp : ∀ H : Hp, SqF K H a (ns.map V.int) → sp [.ref a] H (fun v _ => v = .bl true) fun _ _ _ => False)
    (hCX : ∀ H e s', CX [] H s₁ (fun _ _ _ => False) e s' → False) :
    codeAny (model P w) callerA (.call (.ref fa) ⟨[.ref a], []⟩) (fun r s' => r = .ok (.ret (.bool true)) ∧ OldK s₁.heap s'.heap ∧ s'.os = s₁.os ∧ AllBare s'.gens) s₁ := by
  have rv := vals_ints hi
  have lenV := hi.length
  have core : ∀ H : Hp, Only H → SqF K H a (ns.map V.int) → HOk P w H s₁.heap → (∀ b, H b ≠ none → b = a) → (H a ≠ none → K.lookup a = none) →
      codeAny (model P w) callerA (.call (.ref fa) ⟨[.ref a], []⟩) (fun r s' => r = .ok (.ret (.bool true)) ∧ OldK s₁.heap s'.heap ∧ s'.os = s₁.os ∧ AllBare s'.gens) s₁ := by
    intro H hO hS hok hA hK
    have base_of : ∀ {b : Addr} {o : Obj}, s₁.heap.get? b = some o → H b = none → (hidT s₁.heap H).get? b = some o := fun e n => hidT_get e n
    have noA : ∀ {b : Addr} {o : Obj} {es : Array DictEntry} {ep : Nat}, s₁.heap.get? b = some o → o.data = .dict es ep → H b = none := fun {b o es ep} e d => by
      cases q : H b with
      | none => rfl
      | some u =>
        have e' : b = a := hA b (by rw [q]; simp)
        subst e'
        rw [ha] at e; cases e
        have d' : Data.seq vs.toArray _ = Data.dict es ep := d
        cases d'
    have noM : ∀ {b : Addr} {o : Obj}, s₁.heap.get? b = some o → o.cls = .type "module" → H b = none := fun {b o} e d => by
      cases q : H b with
      | none => rfl
      | some u =>
        have e' : b = a := hA b (by rw [q]; simp)
        subst e'
        rw [ha] at e; cases e
        exact absurd (show Value.type "list" = Value.type "module" from d) (by decide)
    have nsK : ∀ {b : Addr} {m : Str → Option Value}, s₁.heap.Ns b m → (hidT s₁.heap H).Ns b m := fun {b m} ⟨o, es, ep, e, d, r⟩ => ⟨o, es, ep, base_of e (noA e d), d, r⟩
    have hKb : K.In (hidT s₁.heap H) := fun b o e => base_of (KX b o e) (by
      cases q : H b with
      | none => rfl
      | some u =>
        have e' : b = a := hA b (by rw [q]; simp)
        subst e'
        rw [hK (by rw [q]; simp)] at e; cases e)
    have hM : Mod K mg (hidT s₁.heap H) := ⟨hKb, nsK hns, ⟨mb, nsK hb, hbb⟩, let ⟨mc, h1, h2⟩ := hlim; ⟨mc, nsK h1, h2⟩⟩
    have hSe : (hidT s₁.heap H).NoSeer := ⟨let ⟨mc, h1, h2⟩ := hseer.statics; ⟨mc, nsK h1, h2⟩, let ⟨mc, h1, h2⟩ := hseer.mods; ⟨mc, nsK h1, h2⟩, let ⟨mc, h1, h2⟩ := hseer.imp; ⟨mc, nsK h1, h2⟩,
      let ⟨mc, bm, ob, h1, h2, h3, h4, h5⟩ := hseer.main; ⟨mc, bm, ob, nsK h1, h2, base_of h3 (noM h3 h4), h4, h5⟩⟩
    have e0 : Env0 P w K mg (hidT s₁.heap H) callerA [] s₁ H := ⟨rfl, hM, fun b o e => of_hidT e, Nat.le_of_eq (hidT_size _ _), trivial, fun b hb => absurd (show b ∈ ([] : List Addr) from hb) (by simp), hok, .of_eq hg⟩
    obtain ⟨fd, ps, b1, b2, F1⟩ := F _ hKb (nsK hns) hSe
    refine codeAny_mono (F1.run callerA [] s₁ H ⟨[.ref a], []⟩ [.ref a] [.ref a] _ _ hr e0 (b1 s₁ [.ref a] KX b2.symm) (.cons rfl .nil) (hsp H hS)) fun r s' h => ?_
    cases r with
    | error e => exact (hCX H e s' h).elim
    | ok fl =>
      cases fl with
      | next => exact False.elim h
      | brk => exact False.elim h
      | cont => exact False.elim h
      | ret u =>
        obtain ⟨v, H', os, bare, un, hok', r', q⟩ := h
        have q' : v = .bl true := q
        subst q'
        obtain rfl : u = Value.bool true := r'
        refine ⟨rfl, OldK.of_keep fun b o e => ?_, os, bare⟩
        cases q : H b with
        | none => exact un.keep b o e q (by intro z; exact absurd (show b ∈ ([] : List Addr) from z) (by simp)) (by simp)
        | some u =>
          rcases hO b with z | ⟨ob, xs, z⟩
          · rw [q] at z; cases z
          · have z2 := un.frzs b ob _ z
            obtain ⟨e1, _⟩ := hok b _ z
            obtain ⟨e2, _⟩ := hok' b _ z2
            rw [e] at e1; cases e1
            exact e2
  cases hk : K.lookup a with
  | some o =>
    have e := KX a o hk
    rw [ha] at e
    cases e
    refine core (fun _ => none) (fun _ => .inl rfl) (.inr ⟨_, vs.toArray, _, hk, rfl, rfl, rfl, by rw [List.size_toArray, lenV]; exact hl, by simpa using rv⟩) (fun b u z => by have z' : (none : Option HO) = some u := z; cases z') (fun b z => absurd rfl z) fun z => absurd rfl z
  | none =>
    refine core (fun b => if b = a then some (.frz { cls := .type "list", data := .seq vs.toArray } (.lst (ns.map V.int))) else none) (fun b => ?_) (.inl ⟨{ cls := .type "list", data := .seq vs.toArray }, if_pos rfl⟩) (fun b u z => ?_) (fun b z => ?_) fun _ => hk
    · by_cases hb : b = a
      · exact .inr ⟨_, _, if_pos hb⟩
      · exact .inl (if_neg hb)
    · by_cases hb : b = a
      · have z' := (if_pos hb).symm.trans z
        cases z'
        subst hb
        exact ⟨ha, by rw [List.length_map]; exact hl, vs, _, rv, ha⟩
      · have z' := (if_neg hb).symm.trans z
        cases z'
    · by_cases hb : b = a
      · exact hb
      · exact absurd (if_neg hb) z
/-- what the law's def is shown to do -/
def spL (G : Gl0) (T : Str → Option Fn) (k : Nat) (K : PySem.W.Frag) : Sp := fun vs H Q _ => ∃ (a : Addr) (ns : List Int), vs = [.ref a] ∧ SqF K H a (ns.map V.int) ∧
  semF G T k "law" [.rol (ns.map D.int)] (fun _ => none) (fun d _ => d = .bl true) (fun _ _ => False) ∧ ∀ H', Q (.bl true) H'
theorem rvs_ints {K : PySem.W.Frag} {H : Hp} : ∀ ns : List Int, Rvs K H (ns.map D.int) (ns.map V.int)
  | [] => .nil
  | _ :: r => .cons (.int _) (rvs_ints r)
theorem spL_ok {G : Gl0} {T : Str → Option Fn} {k : Nat} {K : PySem.W.Frag} {mg : Str → Option Value} (vs : List V) (H : Hp) (Q : VK) (E : XK) (h : spL G T k K vs H Q E) : LF K mg (semF G T k) "law" vs H Q E := by
  obtain ⟨a, ns, rfl, hS, hs, q⟩ := h
  refine ⟨[.rol (ns.map D.int)], fun _ => none, fun d _ => d = .bl true, fun _ _ => False, .cons (.rol hS (rvs_ints ns)) .nil, (fun _ _ e => nomatch e), hs, fun v H' d S' e rv rs hd => ?_, fun _ _ _ _ _ _ _ _ z => z.elim⟩
  subst hd
  cases rv
  exact q H'
/-- THE END: a law by the forms of its text's defs -/
theorem law_by {l : PySem.W.OpenLaw} {q : Program} {loose : List Str} {XP : (Str → Option Value) → Heap → Prop} {YP : World → Heap → Prop} {d : DefRec} {K : Params → PySem.W.Frag} {M : Md} {G : Gl0} {T : Str → Option Fn} {k : Nat} {Fl : Fn}
    (hn : l.most = some 63) (hdf : d.params.defaults = []) (hdn : d.name = "law") (hr : Room (2 * k + 40) callerA) (hq : importsNone q = true) (hL : M.meth.lookup ("law" : Str) = none)
    (hY : ∀ (w : World) (h : Heap), YP w h → (K w.params).In h)
    (hT : T "law" = some Fl) (hT1 : Fl.ps = 1)
    (B : ∀ (w : World) (mg : Str → Option Value) (h : Heap), (K w.params).In h → h.Ns mainGlobals mg → ∀ base : Heap, base.NoSeer → Mok M G T l.prog (K w.params) mg base)
    (hsp : ∀ ns : List Int, ns.length ≤ 63 → (∀ z ∈ ns, Builtin.Int.intBits z ≤ 1048576) → semF G T k "law" [.rol (ns.map D.int)] (fun _ => none) (fun d _ => d = .bl true) (fun _ _ => False)) :
    PySem.W.WalkO q loose XP YP l.row.toRowW d [] (fun f vs => PySem.call f vs) := by
  refine Att.attach_callB hn hdf fun w s₀ s₁ mg mb fa o pm cd doc a vs ns Gr Y ho hd hcd hmg hobj hints hlen hbits hg => ?_
  have KX := hY w _ Y
  refine law_callP (sp := spL G T k (K w.params)) (CX := L2.CX l.prog w) (k := 2 * k + 40) KX Gr.T.g Gr.T.b Gr.T.builtins Gr.T.nolimit (Gr.T.seer hq) hg hobj hints (Nat.le_trans hlen (by decide)) hr (fun base hb hns hse => ?_) (fun H hS => ⟨a, ns, rfl, hS, hsp ns hlen hbits, fun _ => rfl⟩) fun H e s' h => ?_
  · obtain ⟨a', fd, ps, q1, q2, q3, q4, q5⟩ := fn_all (w := w) (B w mg _ KX Gr.T.g base hse) k "law" Fl hT
    rw [hdn] at hmg
    unfold At at q1
    rw [hL] at q1
    have e := hmg.symm.trans q1
    cases e
    exact ⟨fd, ps, q3, q4.trans hT1, q5.imp spL_ok⟩
  · obtain ⟨_, _, _, _, _, _, _, _, _, _, _, _, z⟩ := h
    exact z
end Ev

/-! Rules over the evaluator alone: calls, loops, comprehensions. -/
namespace Ev
open PySem PySem.Spec PyProof.Rows L2
/-- a continuation record with another next step; a loop's; with other exceptions -/
def kN (k : Kt) (N : En → Sto → Prop) : Kt := { k with nx := N }
def kL (k : Kt) (N : En → Sto → Prop) : Kt := { nx := N, rt := k.rt, bk := k.nx, ct := N, ex := k.ex }
def kX (k : Kt) (X : Exn → En → Sto → Prop) : Kt := { k with ex := X }
section
variable {k : Kt} {N : En → Sto → Prop} {X : Exn → En → Sto → Prop}
theorem kN_nx : (kN k N).nx = N := rfl
theorem kN_rt : (kN k N).rt = k.rt := rfl
theorem kN_bk : (kN k N).bk = k.bk := rfl
theorem kN_ct : (kN k N).ct = k.ct := rfl
theorem kN_ex : (kN k N).ex = k.ex := rfl
theorem kL_nx : (kL k N).nx = N := rfl
theorem kL_rt : (kL k N).rt = k.rt := rfl
theorem kL_bk : (kL k N).bk = k.nx := rfl
theorem kL_ct : (kL k N).ct = N := rfl
theorem kL_ex : (kL k N).ex = k.ex := rfl
theorem kX_nx : (kX k X).nx = k.nx := rfl
theorem kX_rt : (kX k X).rt = k.rt := rfl
theorem kX_bk : (kX k X).bk = k.bk := rfl
theorem kX_ct : (kX k X).ct = k.ct := rfl
theorem kX_ex : (kX k X).ex = X := rfl
end
/-- what stood stands -/
def Sub (S S' : Sto) : Prop := ∀ a o, S a = some o → S' a = some o
theorem Sub.refl (S : Sto) : Sub S S := fun _ _ h => h
theorem Sub.trans {A B C : Sto} (h : Sub A B) (g : Sub B C) : Sub A C := fun a o x => g a o (h a o x)
theorem Sub.new {S : Sto} {a : Addr} {o : Ob} (h : S a = none) : Sub S (put S a o) := fun b u e => by
  have n : b ≠ a := fun z => by rw [z, h] at e; cases e
  rw [put_ne n]; exact e
theorem Sub.none {S S' : Sto} (h : Sub S S') {a : Addr} (e : S' a = Option.none) : S a = Option.none := by
  cases q : S a with
  | none => rfl
  | some o => rw [h a o q] at e; cases e
/-- a write to what is new -/
theorem Sub.write {S S' : Sto} (h : Sub S S') {a : Addr} {o : Ob} (e : S a = Option.none) : Sub S (put S' a o) := fun b u q => by
  have n : b ≠ a := fun z => by rw [z, e] at q; cases q
  rw [put_ne n]; exact h b u q
theorem lget_of {S : Sto} {a : Addr} {xs : List D} (h : S a = some (.lst xs)) : lget S a = some xs := by
  unfold lget; rw [h]
theorem put_lget {S : Sto} {a : Addr} {xs : List D} : lget (put S a (.lst xs)) a = some xs := lget_of put_same
theorem put_put {S : Sto} {a : Addr} {o u : Ob} : put (put S a o) a u = put S a u := by
  funext b; unfold put; split <;> rfl
section
variable {G : Gl0} {T : Str → Option Fn} {C : CallS} {k : Nat} {f : Str} {F : Fn} {ds : List D} {S : Sto} {Q : DK} {E : XS}
theorem call_of (h : T f = some F) (hl : ds.length = F.ps) (hb : semSs G (semF G T k) F.body (kend Q E) (ent F.sl ds) S) : semF G T (k + 1) f ds S Q E := by
  simp only [semF, h]
  exact ⟨hl, hb⟩
/-- while, over a state of one's own -/
theorem whl_by {α : Type} {c : IC} {b : ISs} {kt : Kt} {σ : En} (f : α → En) (I : α → Sto → Prop) (μ : α → Nat) (a0 : α) (h0 : σ = f a0) (hI : I a0 S)
    (step : ∀ a S (N : En → Sto → Prop), I a S → (∀ a' S', I a' S' → μ a' < μ a → N (f a') S') →
      semC G C (fun x S => kt.ex x (f a) S) c (f a) S fun h S1 => if h = true then semSs G C b (kL kt N) (f a) S1 else kt.nx (f a) S1) :
    semS G C (.whl c b) kt σ S := by
  subst h0
  simp only [semS]
  refine ⟨fun m σ S => ∃ a, σ = f a ∧ m = μ a ∧ I a S, ⟨_, a0, rfl, rfl, hI⟩, ?_⟩
  rintro m σ S ⟨a, rfl, rfl, hI⟩
  exact step a S _ hI fun a' S' h1 h2 => ⟨μ a', h2, a', rfl, rfl, h1⟩
/-- a loop over n items -/
theorem turn_by {J : Ev.Itr} {body : (En → Sto → Prop) → D → En → Sto → Prop} {nx : En → Sto → Prop} {σ : En} (n : Nat) (item : Nat → D) (I : Nat → En → Sto → Prop)
    (hJ : ∀ i σ S stop go, i ≤ n → I i σ S → (i < n → go (item i)) → (i = n → stop) → nxt J i S stop go)
    (h0 : I 0 σ S) (step : ∀ i σ S N, i < n → I i σ S → (∀ σ' S', I (i + 1) σ' S' → N σ' S') → body N (item i) σ S) (done : ∀ σ S, I n σ S → nx σ S) :
    ∃ W : Nat → Nat → En → Sto → Prop, (∃ m, W 0 m σ S) ∧ ∀ i m σ S, W i m σ S → nxt J i S (nx σ S) fun d => body (fun σ' S' => ∃ m', m' < m ∧ W (i + 1) m' σ' S') d σ S := by
  refine ⟨fun i m σ S => m = n - i ∧ i ≤ n ∧ I i σ S, ⟨n, rfl, Nat.zero_le _, h0⟩, ?_⟩
  rintro i m σ S ⟨rfl, hi, hI⟩
  refine hJ i σ S _ _ hi hI (fun hlt => ?_) fun e => ?_
  · exact step i σ S _ hlt hI fun σ' S' h => ⟨n - (i + 1), by omega, rfl, hlt, h⟩
  · subst e
    exact done σ S hI
theorem nxt_rng {lo : Int} {n i : Nat} {stop : Prop} {go : D → Prop} (hi : i ≤ n) (h1 : i < n → go (.int (lo + i))) (h2 : i = n → stop) : nxt (.rng lo n) i S stop go := by
  simp only [nxt]
  split
  · exact h1 ‹_›
  · exact h2 (by omega)
theorem nxt_list {xs : List D} {i : Nat} {stop : Prop} {go : D → Prop} (hi : i ≤ xs.length) (h1 : i < xs.length → go (xs.getD i .non)) (h2 : i = xs.length → stop) : (match xs[i]? with | some d => go d | none => stop) := by
  split
  · rename_i d e
    obtain ⟨h, e⟩ := List.getElem?_eq_some_iff.mp e
    have := h1 h
    rw [List.getD_eq_getElem?_getD, List.getElem?_eq_getElem h, e] at this
    exact this
  · rename_i e
    have := List.getElem?_eq_none_iff.mp e
    exact h2 (by omega)
section
variable {g : IG} {b : ISs} {kt : Kt} {σ : En}
def FOR (G : Gl0) (C : CallS) (J : Ev.Itr) (g : IG) (b : ISs) (kt : Kt) (σ : En) (S : Sto) : Prop := ∃ W : Nat → Nat → En → Sto → Prop, (∃ m, W 0 m σ S) ∧ ∀ i m σ S, W i m σ S →
      nxt J i S (kt.nx σ S) fun d => asgS g d σ S fun σ2 =>
        semSs G C b { nx := fun σ' S' => ∃ m', m' < m ∧ W (i + 1) m' σ' S', rt := kt.rt, bk := kt.nx, ct := fun σ' S' => ∃ m', m' < m ∧ W (i + 1) m' σ' S', ex := kt.ex } σ2 S
theorem for_rng {lo : Int} {n : Nat} (I : Nat → En → Sto → Prop) (h0 : I 0 σ S)
    (step : ∀ i σ S N, i < n → I i σ S → (∀ σ' S', I (i + 1) σ' S' → N σ' S') → asgS g (.int (lo + i)) σ S fun σ2 => semSs G C b (kL kt N) σ2 S)
    (done : ∀ σ S, I n σ S → kt.nx σ S) : FOR G C (.rng lo n) g b kt σ S :=
  turn_by (body := fun N d σ S => asgS g d σ S fun σ2 => semSs G C b (kL kt N) σ2 S) n (fun i => .int (lo + i)) I (fun i σ S stop go hi _ h1 h2 => nxt_rng hi h1 h2) h0 step done
theorem for_tup {xs : List D} (I : Nat → En → Sto → Prop) (h0 : I 0 σ S)
    (step : ∀ i σ S N, i < xs.length → I i σ S → (∀ σ' S', I (i + 1) σ' S' → N σ' S') → asgS g (xs.getD i .non) σ S fun σ2 => semSs G C b (kL kt N) σ2 S)
    (done : ∀ σ S, I xs.length σ S → kt.nx σ S) : FOR G C (.tup xs) g b kt σ S :=
  turn_by (body := fun N d σ S => asgS g d σ S fun σ2 => semSs G C b (kL kt N) σ2 S) xs.length (fun i => xs.getD i .non) I (fun i σ S stop go hi _ h1 h2 => nxt_list hi h1 h2) h0 step done
theorem for_enuT {xs : List D} (I : Nat → En → Sto → Prop) (h0 : I 0 σ S)
    (step : ∀ i σ S N, i < xs.length → I i σ S → (∀ σ' S', I (i + 1) σ' S' → N σ' S') → asgS g (.tup [.int i, xs.getD i .non]) σ S fun σ2 => semSs G C b (kL kt N) σ2 S)
    (done : ∀ σ S, I xs.length σ S → kt.nx σ S) : FOR G C (.enuT xs) g b kt σ S :=
  turn_by (body := fun N d σ S => asgS g d σ S fun σ2 => semSs G C b (kL kt N) σ2 S) xs.length (fun i => .tup [.int i, xs.getD i .non]) I (fun i σ S stop go hi _ h1 h2 => by
    simp only [nxt]
    exact nxt_list (go := fun d => go (.tup [.int i, d])) hi h1 h2) h0 step done
theorem for_enuL {a : Addr} {xs : List D} (I : Nat → En → Sto → Prop) (hl : ∀ i σ S, I i σ S → S a = some (.lst xs)) (h0 : I 0 σ S)
    (step : ∀ i σ S N, i < xs.length → I i σ S → (∀ σ' S', I (i + 1) σ' S' → N σ' S') → asgS g (.tup [.int i, xs.getD i .non]) σ S fun σ2 => semSs G C b (kL kt N) σ2 S)
    (done : ∀ σ S, I xs.length σ S → kt.nx σ S) : FOR G C (.enu a) g b kt σ S :=
  turn_by (body := fun N d σ S => asgS g d σ S fun σ2 => semSs G C b (kL kt N) σ2 S) xs.length (fun i => .tup [.int i, xs.getD i .non]) I (fun i σ S stop go hi hI h1 h2 => by
    simp only [nxt, lget_of (hl i σ S hI)]
    exact nxt_list (go := fun d => go (.tup [.int i, d])) hi h1 h2) h0 step done
theorem for_lst {a : Addr} {xs : List D} (I : Nat → En → Sto → Prop) (hl : ∀ i σ S, I i σ S → S a = some (.lst xs)) (h0 : I 0 σ S)
    (step : ∀ i σ S N, i < xs.length → I i σ S → (∀ σ' S', I (i + 1) σ' S' → N σ' S') → asgS g (xs.getD i .non) σ S fun σ2 => semSs G C b (kL kt N) σ2 S)
    (done : ∀ σ S, I xs.length σ S → kt.nx σ S) : FOR G C (.lst a) g b kt σ S :=
  turn_by (body := fun N d σ S => asgS g d σ S fun σ2 => semSs G C b (kL kt N) σ2 S) xs.length (fun i => xs.getD i .non) I (fun i σ S stop go hi hI h1 h2 => by
    simp only [nxt, lget_of (hl i σ S hI)]
    exact nxt_list hi h1 h2) h0 step done
end
end
/-! items of written tuples -/
section
variable {a b c d : D} {r : List D} {S : Sto} {Q : DK}
theorem atI0 {α : Type} {a : α} {r : List α} : atI (a :: r) 0 = some a := by simp [atI, ixN]
theorem atI1 {α : Type} {a b : α} {r : List α} : atI (a :: b :: r) 1 = some b := by
  have : (1 : Int) < ((r.length : Int) + 1 + 1) := by omega
  simp [atI, ixN, this]
theorem atI2 {α : Type} {a b c : α} {r : List α} : atI (a :: b :: c :: r) 2 = some c := by
  have : (2 : Int) < ((r.length : Int) + 1 + 1 + 1) := by omega
  simp [atI, ixN, this]
theorem atI3 {α : Type} {a b c d : α} {r : List α} : atI (a :: b :: c :: d :: r) 3 = some d := by
  have : (3 : Int) < ((r.length : Int) + 1 + 1 + 1 + 1) := by omega
  simp [atI, ixN, this]
end
/-! == of plain data without lists: the data as the comparison reads them -/
mutual
def pd : D → PyData
  | .non => .none
  | .bl b => .bool b
  | .int i => .int i
  | .str x => .str x
  | .tup xs => .tuple (pds xs)
  | .rol xs => .list (pds xs)
  | .ref _ => .none
def pds : List D → List PyData
  | [] => []
  | d :: r => pd d :: pds r
end
mutual
def pure_ : D → Bool
  | .tup xs => pures xs
  | .rol xs => pures xs
  | .ref _ => false
  | _ => true
def pures : List D → Bool
  | [] => true
  | d :: r => pure_ d && pures r
end
mutual
theorem pd_ok (S : Sto) : ∀ d : D, pure_ d = true → Pd S d (pd d)
  | .non, _ => .non
  | .bl b, _ => .bl b
  | .int b, _ => .int b
  | .str b, _ => .str b
  | .tup xs, h => .tup (pds_ok S xs h)
  | .rol xs, h => .rol (pds_ok S xs h)
  | .ref _, h => by cases h
theorem pds_ok (S : Sto) : ∀ ds : List D, pures ds = true → Pds S ds (pds ds)
  | [], _ => .nil
  | d :: r, h => by
    simp only [pures, Bool.and_eq_true] at h
    exact .cons (pd_ok S d h.1) (pds_ok S r h.2)
end
end Ev

/-! Equations for symbolic runs: one step each; what comes behind is not looked at before its turn. -/
namespace Ev
open PySem PySem.Spec PyProof.Rows L2
/-- what comes behind is not looked at before its turn: a covered function -/
inductive Tag {α : Type} (f : α) : Type where
  | mk
def cov {α : Type} (f : α) (_ : Tag f) : α := f
theorem cov1 {α β : Type} (f : α → β) (u : Tag f) (a : α) : cov f u a = f a := rfl
theorem cov2 {α β γ : Type} (f : α → β → γ) (u : Tag f) (a : α) (b : β) : cov f u a b = f a b := rfl
theorem cov3 {α β γ δ : Type} (f : α → β → γ → δ) (u : Tag f) (a : α) (b : β) (c : γ) : cov f u a b c = f a b c := rfl
def exS (o : Option Bool) (f g : Unit → Prop) : Prop := match o with | some true => f () | some false => g () | none => False
def vr (o : Option D) (f : D → Prop) : Prop := match o with | some d => f d | none => False
def vrl (o : Option (List D)) (f : List D → Prop) : Prop := match o with | some d => f d | none => False
def vrn (o : Option Nat) (f : Nat → Prop) : Prop := match o with | some d => f d | none => False
def nxR (o : Option D) (f : D → Prop) (g : Prop) : Prop := match o with | some d => f d | none => g
def vri (o : Option (Str × List (Str × D))) (f : Str → List (Str × D) → Prop) : Prop := match o with | some (x, fs) => f x fs | none => False
def vrk (o : Option Str) (f : Str → Prop) : Prop := match o with | some x => f x | none => False
def fldS (G : Gl0) (x : D) (f : Str) (S1 : Sto) (Q : DK) : Prop := match x with
      | .ref a => vri (iget S1 a) (cov (fun C0 fs => G.fd C0 f = true ∧ vr (fs.lookup f) (cov (fun d => Q d S1) .mk)) .mk)
      | _ => False
def mclS (G : Gl0) (x : D) (m : Str) (S1 : Sto) (Q : Str → D → Sto → Prop) : Prop := match x with
      | .ref a => vri (iget S1 a) (cov (fun C0 fs => fs.lookup m = none ∧ vrk (G.mt C0 m) (cov (fun key => Q key (.ref a) S1) .mk)) .mk)
      | _ => False
def mkS (o : Option (Option Str)) (x : Str) (ds : List D) (S1 : Sto) (C : CallS) (Q : DK) (X : XS) : Prop := match o with
      | some none => ds = [] ∧ ∀ a, S1 a = none → Q (.ref a) (put S1 a (.ins x []))
      | some (some key) => ∀ a, S1 a = none → C key (.ref a :: ds) (put S1 a (.ins x [])) (fun d S2 => d = .non ∧ Q (.ref a) S2) X
      | none => False
def setfS (G : Gl0) (ov : D) (f : Str) (d : D) (S2 : Sto) (R : Sto → Prop) : Prop := match ov with
      | .ref a => vri (iget S2 a) (cov (fun C0 fs => G.fd C0 f = true ∧ fs.length < 1000 ∧ R (put S2 a (.ins C0 (putD f d fs)))) .mk)
      | _ => False
def LCOMP (G : Gl0) (C : CallS) (J : Ev.Itr) (tg : IG) (ifs : IQ) (elt : IE) (own : List Nat) (σ : En) (S1 : Sto) (Q : DK) : Prop := ∀ a, S1 a = none →
      ∃ W : Nat → Nat → Sto → Prop, (∃ m, W 0 m (put S1 a (.lst []))) ∧ ∀ i m S, W i m S →
        nxt J i S (Q (.ref a) S) fun d => asgS tg d (wips σ own) S fun σ2 =>
          semQ G C (fun _ _ => False) ifs σ2 S fun k S3 => if k = true
              then semE G C (fun _ _ => False) elt σ2 S3 fun y S4 => ∃ acc, S4 a = some (.lst acc) ∧ acc.length < sizeLine ∧ ∃ m', m' < m ∧ W (i + 1) m' (put S4 a (.lst (acc ++ [y])))
              else ∃ m', m' < m ∧ W (i + 1) m' S3
def negS (x : D) (S : Sto) (Q : DK) : Prop := match x with | .int i => Q (.int (-i)) S | _ => False
def isiS (o : Option Bool) (S : Sto) (Q : DK) : Prop := match o with | some k => Q (.bl k) S | none => False
def oS (x : D) (S : Sto) (R : Option Int → Sto → Prop) : Prop := match x with | .int i => R (some i) S | _ => False
def seqS (x : D) (S1 : Sto) (R : Ev.Itr → Sto → Prop) : Prop := match x with
      | .tup xs => R (.tup xs) S1
      | .rol xs => R (.rol xs) S1
      | .ref a => (match lget S1 a with | some _ => R (.lst a) S1 | none => False)
      | _ => False
def rng1S (x : D) (S1 : Sto) (R : Ev.Itr → Sto → Prop) : Prop := match x with | .int j => -(2 ^ 62) ≤ j ∧ j < 2 ^ 62 ∧ R (.rng 0 j.toNat) S1 | _ => False
def rng2S (x y : D) (S2 : Sto) (R : Ev.Itr → Sto → Prop) : Prop := match x, y with
      | .int i, .int j => (-(2 ^ 62) ≤ i ∧ i < 2 ^ 62 ∧ -(2 ^ 62) ≤ j ∧ j < 2 ^ 62) ∧ R (.rng i (j - i).toNat) S2
      | _, _ => False
def rng3S (x y z : D) (S3 : Sto) (R : Ev.Itr → Sto → Prop) : Prop := match x, y, z with
      | .int i, .int j, .int k => ∃ n, RgC i j k n ∧ R (.rngc i k n) S3
      | _, _, _ => False
def enuS (x : D) (S1 : Sto) (R : Ev.Itr → Sto → Prop) : Prop := match x with
      | .ref a => (match lget S1 a with | some _ => R (.enu a) S1 | none => False)
      | .tup xs => R (.enuT xs) S1
      | _ => False
def zipS (x y : D) (S2 : Sto) (R : Ev.Itr → Sto → Prop) : Prop := match x, y with
      | .ref a, .ref b => (match lget S2 a, lget S2 b with | some _, some _ => R (.zip a b) S2 | _, _ => False)
      | .tup xs, .tup ys => R (.tup (zipD xs ys)) S2
      | .ref a, .tup ys => (match lget S2 a with | some _ => R (.zipM a ys) S2 | _ => False)
      | _, _ => False
def revS (x : D) (S1 : Sto) (R : Ev.Itr → Sto → Prop) : Prop := match x with
      | .ref a => (match lget S1 a with | some xs => R (.rev a xs.length) S1 | none => False)
      | .tup xs => R (.tup xs.reverse) S1
      | _ => False
def subS (ov iv d : D) (S3 : Sto) (R : Sto → Prop) : Prop := match ov, iv with
      | .ref a, .int n => (match S3 a with
        | some (.lst xs) => (match ixN xs.length n with | some j => R (put S3 a (.lst (xs.set j d))) | none => False)
        | _ => False)
      | _, _ => False
section
variable {G : Gl0} {C : CallS} {X : XS} {σ : En} {S : Sto} {Q : DK} {k : Kt}
theorem E_var (i : Nat) : semE G C X (.var i) σ S Q = (vr (gt σ i) (cov (fun d => Q d S) .mk)) := rfl
theorem E_int (i : Int) : semE G C X (.int i) σ S Q = (Q (.int i) S) := rfl
theorem E_bl (i : Bool) : semE G C X (.bl i) σ S Q = (Q (.bl i) S) := rfl
theorem E_non  : semE G C X .non σ S Q = (Q .non S) := rfl
theorem E_str (i : Str) : semE G C X (.str i) σ S Q = (Q (.str i) S) := rfl
theorem E_glo (x : Str) : semE G C X (.glo x) σ S Q = (vr (G.cs x) (cov (fun d => Q d S) .mk)) := rfl
theorem E_tup (es : IEs) : semE G C X (.tup es) σ S Q = (semEs G C X es σ S (cov (fun ds S1 => Q (.tup ds) S1) .mk)) := rfl
theorem E_lst (es : IEs) : semE G C X (.lst es) σ S Q = (semEs G C X es σ S (cov (fun ds S1 => ∀ a, S1 a = none → Q (.ref a) (put S1 a (.lst ds))) .mk)) := rfl
theorem E_bin (op : Operator) (a b : IE) : semE G C X (.bin op a b) σ S Q = (semE G C X a σ S (cov (fun x S1 => semE G C X b σ S1 (cov (fun y S2 => binS G.PY op x y S2 Q) .mk)) .mk)) := rfl
theorem E_neg (a : IE) : semE G C X (.neg a) σ S Q = (semE G C X a σ S (cov (fun x S1 => negS x S1 Q) .mk)) := rfl
theorem E_cmp (op : CmpOp) (a b : IE) : semE G C X (.cmp op a b) σ S Q = (semE G C X a σ S (cov (fun x S1 => semE G C X b σ S1 (cov (fun y S2 => cmpS op x y S2 (cov (fun k => Q (.bl k) S2) .mk)) .mk)) .mk)) := rfl
theorem E_chn (op op2 : CmpOp) (a b c : IE) : semE G C X (.chn op op2 a b c) σ S Q = (semE G C X a σ S (cov (fun x S1 => semE G C X b σ S1 (cov (fun y S2 => cmpS op x y S2 (cov (fun k =>
      if k = true then semE G C X c σ S2 (cov (fun z S3 => cmpS op2 y z S3 (cov (fun k2 => Q (.bl k2) S3) .mk)) .mk) else Q (.bl false) S2) .mk)) .mk)) .mk)) := rfl
theorem E_and (a b : IE) : semE G C X (.and a b) σ S Q = (semE G C X a σ S (cov (fun x S1 => truS x S1 (cov (fun k => if k = true then semE G C X b σ S1 Q else Q x S1) .mk)) .mk)) := rfl
theorem E_or (a b : IE) : semE G C X (.or a b) σ S Q = (semE G C X a σ S (cov (fun x S1 => truS x S1 (cov (fun k => if k = true then Q x S1 else semE G C X b σ S1 Q) .mk)) .mk)) := rfl
theorem E_one (a : IE) : semE G C X (.one a) σ S Q = (semE G C X a σ S Q) := rfl
theorem E_not (a : IE) : semE G C X (.not a) σ S Q = (semE G C X a σ S (cov (fun x S1 => truS x S1 (cov (fun k => Q (.bl (!k)) S1) .mk)) .mk)) := rfl
theorem E_ifx (c : IC) (a b : IE) : semE G C X (.ifx c a b) σ S Q = (semC G C X c σ S (cov (fun k S1 => if k = true then semE G C X a σ S1 Q else semE G C X b σ S1 Q) .mk)) := rfl
theorem E_idx (a i : IE) : semE G C X (.idx a i) σ S Q = (semE G C X a σ S (cov (fun x S1 => semE G C X i σ S1 (cov (fun y S2 => idxS x y S2 Q) .mk)) .mk)) := rfl
theorem E_slc (a : IE) (lo hi : IO) : semE G C X (.slc a lo hi) σ S Q = (semE G C X a σ S (cov (fun x S1 => semO G C X lo σ S1 (cov (fun l S2 => semO G C X hi σ S2 (cov (fun u S3 => slcS x l u S3 Q) .mk)) .mk)) .mk)) := rfl
theorem E_call (f : Str) (es : IEs) : semE G C X (.call f es) σ S Q = (semEs G C X es σ S (cov (fun ds S1 => C f ds S1 Q X) .mk)) := rfl
theorem E_bi (b : Bi) (es : IEs) : semE G C X (.bi b es) σ S Q = (semEs G C X es σ S (cov (fun ds S1 => biS b ds S1 Q) .mk)) := rfl
theorem E_isi (e : IE) (ts : List Ty) : semE G C X (.isi e ts) σ S Q = (semE G C X e σ S (cov (fun x S1 => isiS (isTs S1 x ts) S1 Q) .mk)) := rfl
theorem E_mth (m : Me) (o : IE) (es : IEs) : semE G C X (.mth m o es) σ S Q = (semE G C X o σ S (cov (fun x S1 => mthT m x S1 ∧ semEs G C X es σ S1 (cov (fun ds S2 => mthS m x ds S2 Q) .mk)) .mk)) := rfl
theorem E_fld (o : IE) (f : Str) : semE G C X (.fld o f) σ S Q = (semE G C X o σ S (cov (fun x S1 => fldS G x f S1 Q) .mk)) := rfl
theorem E_mcl (o : IE) (m : Str) (es : IEs) : semE G C X (.mcl o m es) σ S Q = (semE G C X o σ S (cov (fun x S1 => mclS G x m S1 (cov (fun key x S1 => semEs G C X es σ S1 (cov (fun ds S2 => C key (x :: ds) S2 Q X) .mk)) .mk)) .mk)) := rfl
theorem E_mk (x : Str) (es : IEs) : semE G C X (.mk x es) σ S Q = (semEs G C X es σ S (cov (fun ds S1 => mkS (G.it x) x ds S1 C Q X) .mk)) := rfl
theorem S_setf (o : IE) (f : Str) (e : IE) : semS G C (.setf o f e) k σ S = (semE G C ((cov (fun x S => k.ex x σ S) .mk)) e σ S (cov (fun d S1 => semE G C ((cov (fun x S => k.ex x σ S) .mk)) o σ S1 (cov (fun ov S2 => setfS G ov f d S2 (cov (fun S3 => k.nx σ S3) .mk)) .mk)) .mk)) := rfl
theorem fld_i (a : Addr) (f : Str) : fldS G (.ref a) f S Q = vri (iget S a) (cov (fun C0 fs => G.fd C0 f = true ∧ vr (fs.lookup f) (cov (fun d => Q d S) .mk)) .mk) := rfl
theorem mcl_i (a : Addr) (m : Str) {R : Str → D → Sto → Prop} : mclS G (.ref a) m S R = vri (iget S a) (cov (fun C0 fs => fs.lookup m = none ∧ vrk (G.mt C0 m) (cov (fun key => R key (.ref a) S) .mk)) .mk) := rfl
theorem setf_i (a : Addr) (f : Str) (d : D) {R : Sto → Prop} : setfS G (.ref a) f d S R = vri (iget S a) (cov (fun C0 fs => G.fd C0 f = true ∧ fs.length < 1000 ∧ R (put S a (.ins C0 (putD f d fs)))) .mk) := rfl
theorem vri_some {f : Str → List (Str × D) → Prop} (x : Str) (fs : List (Str × D)) : vri (some (x, fs)) f = f x fs := rfl
theorem vrk_some {f : Str → Prop} (x : Str) : vrk (some x) f = f x := rfl
theorem mk_0 (x : Str) (ds : List D) : mkS (some none) x ds S C Q X = (ds = [] ∧ ∀ a, S a = none → Q (.ref a) (put S a (.ins x []))) := rfl
theorem mk_1 (x key : Str) (ds : List D) : mkS (some (some key)) x ds S C Q X = (∀ a, S a = none → C key (.ref a :: ds) (put S a (.ins x [])) (fun d S2 => d = .non ∧ Q (.ref a) S2) X) := rfl
theorem E_lc (elt : IE) (tg : IG) (it : II) (ifs : IQ) (own : List Nat) : semE G C X (.lc elt tg it ifs own) σ S Q = (semI G C X it σ S (cov (fun J S1 => LCOMP G C J tg ifs elt own σ S1 Q) .mk)) := rfl
theorem Es_nil  {R : List D → Sto → Prop} : semEs G C X .nil σ S R = (R [] S) := rfl
theorem Es_cons (e : IE) (r : IEs) {R : List D → Sto → Prop} : semEs G C X (.cons e r) σ S R = (semE G C X e σ S (cov (fun d S1 => semEs G C X r σ S1 (cov (fun ds S2 => R (d :: ds) S2) .mk)) .mk)) := rfl
theorem O_no  {R : Option Int → Sto → Prop} : semO G C X .no σ S R = (R none S) := rfl
theorem O_some (e : IE) {R : Option Int → Sto → Prop} : semO G C X (.some e) σ S R = (semE G C X e σ S (cov (fun x S1 => oS x S1 R) .mk)) := rfl
theorem Q_no  {R : Bool → Sto → Prop} : semQ G C X .no σ S R = (R true S) := rfl
theorem Q_c (c : IC) {R : Bool → Sto → Prop} : semQ G C X (.c c) σ S R = (semC G C X c σ S R) := rfl
theorem C_and (a b : IC) {R : Bool → Sto → Prop} : semC G C X (.and a b) σ S R = (semC G C X a σ S (cov (fun k S1 => if k = true then semC G C X b σ S1 R else R false S1) .mk)) := rfl
theorem C_or (a b : IC) {R : Bool → Sto → Prop} : semC G C X (.or a b) σ S R = (semC G C X a σ S (cov (fun k S1 => if k = true then R true S1 else semC G C X b σ S1 R) .mk)) := rfl
theorem C_one (a : IC) {R : Bool → Sto → Prop} : semC G C X (.one a) σ S R = (semC G C X a σ S R) := rfl
theorem C_not (a : IC) {R : Bool → Sto → Prop} : semC G C X (.not a) σ S R = (semC G C X a σ S (cov (fun k S1 => R (!k) S1) .mk)) := rfl
theorem C_cmp (op : CmpOp) (a b : IE) {R : Bool → Sto → Prop} : semC G C X (.cmp op a b) σ S R = (semE G C X a σ S (cov (fun x S1 => semE G C X b σ S1 (cov (fun y S2 => cmpS op x y S2 (cov (fun k => R k S2) .mk)) .mk)) .mk)) := rfl
theorem C_chn (op op2 : CmpOp) (a b c : IE) {R : Bool → Sto → Prop} : semC G C X (.chn op op2 a b c) σ S R = (semE G C X a σ S (cov (fun x S1 => semE G C X b σ S1 (cov (fun y S2 => cmpS op x y S2 (cov (fun k =>
      if k = true then semE G C X c σ S2 (cov (fun z S3 => cmpS op2 y z S3 (cov (fun k2 => R k2 S3) .mk)) .mk) else R false S2) .mk)) .mk)) .mk)) := rfl
theorem C_v (e : IE) {R : Bool → Sto → Prop} : semC G C X (.v e) σ S R = (semE G C X e σ S (cov (fun x S1 => truS x S1 (cov (fun k => R k S1) .mk)) .mk)) := rfl
theorem I_seq (e : IE) {R : Ev.Itr → Sto → Prop} : semI G C X (.seq e) σ S R = (semE G C X e σ S (cov (fun x S1 => seqS x S1 R) .mk)) := rfl
theorem I_rng1 (a : IE) {R : Ev.Itr → Sto → Prop} : semI G C X (.rng1 a) σ S R = (semE G C X a σ S (cov (fun x S1 => rng1S x S1 R) .mk)) := rfl
theorem I_rng2 (a b : IE) {R : Ev.Itr → Sto → Prop} : semI G C X (.rng2 a b) σ S R = (semE G C X a σ S (cov (fun x S1 => semE G C X b σ S1 (cov (fun y S2 => rng2S x y S2 R) .mk)) .mk)) := rfl
theorem I_rng3 (a b c : IE) {R : Ev.Itr → Sto → Prop} : semI G C X (.rng3 a b c) σ S R = (semE G C X a σ S (cov (fun x S1 => semE G C X b σ S1 (cov (fun y S2 => semE G C X c σ S2 (cov (fun z S3 => rng3S x y z S3 R) .mk)) .mk)) .mk)) := rfl
theorem I_enu (a : IE) {R : Ev.Itr → Sto → Prop} : semI G C X (.enu a) σ S R = (semE G C X a σ S (cov (fun x S1 => enuS x S1 R) .mk)) := rfl
theorem I_zip (a b : IE) {R : Ev.Itr → Sto → Prop} : semI G C X (.zip a b) σ S R = (semE G C X a σ S (cov (fun x S1 => semE G C X b σ S1 (cov (fun y S2 => zipS x y S2 R) .mk)) .mk)) := rfl
theorem I_rev (a : IE) {R : Ev.Itr → Sto → Prop} : semI G C X (.rev a) σ S R = (semE G C X a σ S (cov (fun x S1 => revS x S1 R) .mk)) := rfl
theorem S_set (i : Nat) (e : IE) : semS G C (.set i e) k σ S = (semE G C ((cov (fun x S => k.ex x σ S) .mk)) e σ S (cov (fun d S1 => k.nx (stn σ i d) S1) .mk)) := rfl
theorem S_asg (g : IG) (e : IE) : semS G C (.asg g e) k σ S = (semE G C ((cov (fun x S => k.ex x σ S) .mk)) e σ S (cov (fun d S1 => asgS g d σ S1 (cov (fun σ1 => k.nx σ1 S1) .mk)) .mk)) := rfl
theorem S_par2 (i j : Nat) (a b : IE) : semS G C (.par2 i j a b) k σ S = (semE G C ((cov (fun x S => k.ex x σ S) .mk)) a σ S (cov (fun x S1 => semE G C ((cov (fun x S => k.ex x σ S) .mk)) b σ S1 (cov (fun y S2 => k.nx (stn (stn σ i x) j y) S2) .mk)) .mk)) := rfl
theorem S_sub (o i e : IE) : semS G C (.sub o i e) k σ S = (semE G C ((cov (fun x S => k.ex x σ S) .mk)) e σ S (cov (fun d S1 => semE G C ((cov (fun x S => k.ex x σ S) .mk)) o σ S1 (cov (fun ov S2 => semE G C ((cov (fun x S => k.ex x σ S) .mk)) i σ S2 (cov (fun iv S3 => subS ov iv d S3 (cov (fun S4 => k.nx σ S4) .mk)) .mk)) .mk)) .mk)) := rfl
theorem S_expr (e : IE) : semS G C (.expr e) k σ S = (semE G C ((cov (fun x S => k.ex x σ S) .mk)) e σ S (cov (fun _ S1 => k.nx σ S1) .mk)) := rfl
theorem S_ret (e : IE) : semS G C (.ret e) k σ S = (semE G C ((cov (fun x S => k.ex x σ S) .mk)) e σ S k.rt) := rfl
theorem S_retN  : semS G C .retN k σ S = (k.rt .non S) := rfl
theorem S_ifs (c : IC) (a b : ISs) : semS G C (.ifs c a b) k σ S = (semC G C ((cov (fun x S => k.ex x σ S) .mk)) c σ S (cov (fun h S1 => if h = true then semSs G C a k σ S1 else semSs G C b k σ S1) .mk)) := rfl
theorem S_for (g : IG) (it : II) (b : ISs) : semS G C (.for_ g it b) k σ S = (semI G C ((cov (fun x S => k.ex x σ S) .mk)) it σ S (cov (fun J S1 => FOR G C J g b k σ S1) .mk)) := rfl
theorem S_brk  : semS G C .brk k σ S = (k.bk σ S) := rfl
theorem S_cnt  : semS G C .cnt k σ S = (k.ct σ S) := rfl
theorem S_pass  : semS G C .pass k σ S = (k.nx σ S) := rfl
theorem S_nil  : semSs G C .nil k σ S = (k.nx σ S) := rfl
theorem S_cons (s : IS) (r : ISs) : semSs G C (.cons s r) k σ S = (semS G C s (kN k (cov (fun σ1 S1 => semSs G C r k σ1 S1 ) .mk)) σ S) := rfl
theorem S_raise (x : Str) (es : IEs) : semS G C (.raise x es) k σ S = (semEs G C ((cov (fun x S => k.ex x σ S) .mk)) es σ S (cov (fun ds S1 => ds.length ≤ sizeLine ∧ k.ex ⟨x, []⟩ σ S1) .mk)) := rfl
theorem S_try (b : ISs) (x : Str) (t : ISs) : semS G C (.tryx b x t) k σ S = (semSs G C b (kX k (cov (fun e σ' S' => exS (G.sub e.cls x) (cov (fun _ => semSs G C t (kX k fun _ _ _ => False) σ' S') .mk) (cov (fun _ => k.ex e σ' S') .mk)) .mk)) σ S) := rfl
theorem S_never : semS G C .never k σ S = False := rfl
/-- what goes on behind a clause that held its exception in slot i -/
def kW (k : Kt) (i : Nat) : Kt := { nx := fun σ2 S2 => k.nx (wip1 σ2 i) S2, rt := k.rt, bk := fun σ2 S2 => k.bk (wip1 σ2 i) S2, ct := fun σ2 S2 => k.ct (wip1 σ2 i) S2, ex := fun _ _ _ => False }
theorem kW_nx {i : Nat} {σ : En} : (kW k i).nx σ S = k.nx (wip1 σ i) S := rfl
theorem kW_rt {i : Nat} : (kW k i).rt = k.rt := rfl
theorem kW_bk {i : Nat} {σ : En} : (kW k i).bk σ S = k.bk (wip1 σ i) S := rfl
theorem kW_ct {i : Nat} {σ : En} : (kW k i).ct σ S = k.ct (wip1 σ i) S := rfl
theorem kW_ex {i : Nat} {σ : En} {e : Exn} : (kW k i).ex e σ S = False := rfl
def Gx (G : Gl0) (a : Addr) (e : Exn) : Gl0 := { G with xc := some (a, e) }
theorem gx_sub {a : Addr} {e : Exn} : (Gx G a e).sub = G.sub := rfl
theorem gx_cs {a : Addr} {e : Exn} : (Gx G a e).cs = G.cs := rfl
theorem gx_PY {a : Addr} {e : Exn} : (Gx G a e).PY = G.PY := rfl
theorem S_tryas (b : ISs) (x : Str) (i : Nat) (t : ISs) : semS G C (.tryas b x i t) k σ S = (semSs G C b (kX k (cov (fun e σ' S' => exS (G.sub e.cls x) (cov (fun _ => e.fs = [] ∧ ∀ a, S' a = none → semSs (Gx G a e) C t (kW k i) (stn σ' i (.ref a)) S') .mk) (cov (fun _ => k.ex e σ' S') .mk)) .mk)) σ S) := rfl
theorem E_isx {a : Addr} {ex : Exn} (e : IE) (c : Str) : semE (Gx G a ex) C X (.isx e c) σ S Q = (semE (Gx G a ex) C X e σ S (cov (fun x S1 => x = .ref a ∧ isiS (G.sub ex.cls c) S1 Q) .mk)) := rfl
theorem E_isxs {a : Addr} {ex : Exn} (e : IE) (cs : List Str) : semE (Gx G a ex) C X (.isxs e cs) σ S Q = (semE (Gx G a ex) C X e σ S (cov (fun x S1 => x = .ref a ∧ isiS (isXs G.sub ex.cls cs) S1 Q) .mk)) := rfl
theorem ex_t {f g : Unit → Prop} : exS (some true) f g = f () := rfl
theorem ex_f {f g : Unit → Prop} : exS (some false) f g = g () := rfl
theorem kend_nx {E : XS} : (kend Q E).nx = (fun _ S => Q .non S) := rfl
theorem kend_rt {E : XS} : (kend Q E).rt = (Q) := rfl
theorem kend_bk {E : XS} : (kend Q E).bk = (fun _ _ => False) := rfl
theorem kend_ct {E : XS} : (kend Q E).ct = (fun _ _ => False) := rfl
theorem kend_ex {E : XS} : (kend Q E).ex = (fun x _ S => E x S) := rfl
theorem vr_some {f : D → Prop} (d : D) : vr (some d) f = (f d) := rfl
theorem gt_0 (x : Option D) (r : En) : gt (x :: r) 0 = (x) := rfl
theorem gt_s (x : Option D) (r : En) (n : Nat) : gt (x :: r) (n + 1) = (gt r n) := rfl
theorem stn_0 (x : Option D) (r : En) (d : D) : stn (x :: r) 0 d = (some d :: r) := rfl
theorem stn_s (x : Option D) (r : En) (d : D) (n : Nat) : stn (x :: r) (n + 1) d = (x :: stn r n d) := rfl
theorem wip_0 (x : Option D) (r : En) : wip1 (x :: r) 0 = (none :: r) := rfl
theorem wip_s (x : Option D) (r : En) (n : Nat) : wip1 (x :: r) (n + 1) = (x :: wip1 r n) := rfl
theorem wips_0  : wips σ [] = (σ) := rfl
theorem wips_s (i : Nat) (r : List Nat) : wips σ (i :: r) = (wips (wip1 σ i) r) := rfl
theorem neg_i (i : Int) : negS (.int i) S Q = (Q (.int (-i)) S) := rfl
theorem isi_s (b : Bool) : isiS (some b) S Q = (Q (.bl b) S) := rfl
theorem o_i {R : Option Int → Sto → Prop} (i : Int) : oS (.int i) S R = (R (some i) S) := rfl
theorem tru_non {R : Bool → Prop}  : truS .non S R = (R (false)) := rfl
theorem tru_bl {R : Bool → Prop} (b : Bool) : truS (.bl b) S R = (R (b)) := rfl
theorem tru_int {R : Bool → Prop} (i : Int) : truS (.int i) S R = (R (i != 0)) := rfl
theorem tru_tup {R : Bool → Prop} (xs : List D) : truS (.tup xs) S R = (R (!xs.isEmpty)) := rfl
theorem tru_rol {R : Bool → Prop} (xs : List D) : truS (.rol xs) S R = (R (!xs.isEmpty)) := rfl
theorem c_Eq {R : Bool → Prop} (i j : Int) : cmpS .Eq (.int i) (.int j) S R = (R (decide (i = j))) := rfl
theorem c_NotEq {R : Bool → Prop} (i j : Int) : cmpS .NotEq (.int i) (.int j) S R = (R (!decide (i = j))) := rfl
theorem c_Lt {R : Bool → Prop} (i j : Int) : cmpS .Lt (.int i) (.int j) S R = (R (decide (i < j))) := rfl
theorem c_LtE {R : Bool → Prop} (i j : Int) : cmpS .LtE (.int i) (.int j) S R = (R (decide (i ≤ j))) := rfl
theorem c_Gt {R : Bool → Prop} (i j : Int) : cmpS .Gt (.int i) (.int j) S R = (R (decide (j < i))) := rfl
theorem c_GtE {R : Bool → Prop} (i j : Int) : cmpS .GtE (.int i) (.int j) S R = (R (decide (j ≤ i))) := rfl
theorem cs_Eq {R : Bool → Prop} (i j : Str) : cmpS .Eq (.str i) (.str j) S R = (R (decide (i = j))) := rfl
theorem cs_NotEq {R : Bool → Prop} (i j : Str) : cmpS .NotEq (.str i) (.str j) S R = (R (!decide (i = j))) := rfl
theorem is_non {R : Bool → Prop}  : cmpS .Is .non .non S R = (R true) := rfl
theorem isnot_non {R : Bool → Prop}  : cmpS .IsNot .non .non S R = (R false) := rfl
theorem is_bl {R : Bool → Prop} (b : Bool) : cmpS .Is (.bl b) .non S R = (R false) := rfl
theorem isnot_bl {R : Bool → Prop} (b : Bool) : cmpS .IsNot (.bl b) .non S R = (R true) := rfl
theorem is_int {R : Bool → Prop} (i : Int) : cmpS .Is (.int i) .non S R = (R false) := rfl
theorem isnot_int {R : Bool → Prop} (i : Int) : cmpS .IsNot (.int i) .non S R = (R true) := rfl
theorem is_str {R : Bool → Prop} (x : Str) : cmpS .Is (.str x) .non S R = (R false) := rfl
theorem isnot_str {R : Bool → Prop} (x : Str) : cmpS .IsNot (.str x) .non S R = (R true) := rfl
theorem is_tup {R : Bool → Prop} (xs : List D) : cmpS .Is (.tup xs) .non S R = (R false) := rfl
theorem isnot_tup {R : Bool → Prop} (xs : List D) : cmpS .IsNot (.tup xs) .non S R = (R true) := rfl
theorem is_rol {R : Bool → Prop} (xs : List D) : cmpS .Is (.rol xs) .non S R = (R false) := rfl
theorem isnot_rol {R : Bool → Prop} (xs : List D) : cmpS .IsNot (.rol xs) .non S R = (R true) := rfl
theorem is_ref {R : Bool → Prop} (a : Addr) : cmpS .Is (.ref a) .non S R = (R false) := rfl
theorem isnot_ref {R : Bool → Prop} (a : Addr) : cmpS .IsNot (.ref a) .non S R = (R true) := rfl
theorem is_b {R : Bool → Prop} (b c : Bool) : cmpS .Is (.bl c) (.bl b) S R = (R (decide (c = b))) := rfl
theorem isnot_b {R : Bool → Prop} (b c : Bool) : cmpS .IsNot (.bl c) (.bl b) S R = (R (!decide (c = b))) := rfl
theorem in_s {R : Bool → Prop} (i j : Str) : cmpS .In (.str i) (.str j) S R = (R (!(Builtin.Str.occurrences j i 0 j.length 1).isEmpty)) := rfl
theorem notin_s {R : Bool → Prop} (i j : Str) : cmpS .NotIn (.str i) (.str j) S R = (R (!(!(Builtin.Str.occurrences j i 0 j.length 1).isEmpty))) := rfl
theorem b_add {PY : Prop} (i j : Int) : binS PY .Add (.int i) (.int j) S Q = (Q (.int (i + j)) S) := rfl
theorem b_sub {PY : Prop} (i j : Int) : binS PY .Sub (.int i) (.int j) S Q = (Q (.int (i - j)) S) := rfl
theorem b_mul {PY : Prop} (i j : Int) : binS PY .Mult (.int i) (.int j) S Q = (IntMulOk i j ∧ Q (.int (i * j)) S) := rfl
theorem b_fdiv {PY : Prop} (i j : Int) : binS PY .FloorDiv (.int i) (.int j) S Q = (FdOk PY i j ∧ Q (.int (i.fdiv j)) S) := rfl
theorem b_mod {PY : Prop} (i j : Int) : binS PY .Mod (.int i) (.int j) S Q = (j ≠ 0 ∧ Q (.int (i.fmod j)) S) := rfl
theorem b_pow {PY : Prop} (i j : Int) : binS PY .Pow (.int i) (.int j) S Q = (CPow i j ∧ Q (.int (i ^ j.toNat)) S) := rfl
theorem b_addt {PY : Prop} (xs ys : List D) : binS PY .Add (.tup xs) (.tup ys) S Q = (xs.length + ys.length ≤ sizeLine ∧ Q (.tup (xs ++ ys)) S) := rfl
theorem b_adds {PY : Prop} (a b : Str) : binS PY .Add (.str a) (.str b) S Q = (a.length + b.length ≤ sizeLine ∧ Q (.str (a ++ b)) S) := rfl
theorem slc_t (xs : List D) (lo hi : Option Int) : slcS (.tup xs) lo hi S Q = (Q (.tup (cutD xs lo hi)) S) := rfl
theorem slc_r (xs : List D) (lo hi : Option Int) : slcS (.rol xs) lo hi S Q = (∀ c, S c = none → Q (.ref c) (put S c (.lst (cutD xs lo hi)))) := rfl
theorem len_s (z : Str) : biS .len [.str z] S Q = (z.length ≤ sizeLine ∧ Q (.int z.length) S) := rfl
theorem abs_i (i : Int) : biS .abs [.int i] S Q = (Q (.int (if i < 0 then -i else i)) S) := rfl
theorem int_i (i : Int) : biS .int [.int i] S Q = (Q (.int i) S) := rfl
theorem int_b (b : Bool) : biS .int [.bl b] S Q = (Q (.int (if b then 1 else 0)) S) := rfl
theorem min_i (i j : Int) : biS .min2 [.int i, .int j] S Q = (Q (.int (if j < i then j else i)) S) := rfl
theorem max_i (i j : Int) : biS .max2 [.int i, .int j] S Q = (Q (.int (if j > i then j else i)) S) := rfl
theorem lcm_i (i j : Int) : biS .lcm [.int i, .int j] S Q = (i.natAbs.log2 < 13000 ∧ j.natAbs.log2 < 13000 ∧ Q (.int ((Nat.lcm i.natAbs j.natAbs : Nat) : Int)) S) := rfl
theorem gcd_i (i j : Int) : biS .gcd [.int i, .int j] S Q = (Q (.int ((Nat.gcd i.natAbs j.natAbs : Nat) : Int)) S) := rfl
theorem seq_t {R : Ev.Itr → Sto → Prop} (xs : List D) : seqS (.tup xs) S R = (R (.tup xs) S) := rfl
theorem seq_r {R : Ev.Itr → Sto → Prop} (xs : List D) : seqS (.rol xs) S R = (R (.rol xs) S) := rfl
theorem r1_i {R : Ev.Itr → Sto → Prop} (j : Int) : rng1S (.int j) S R = (-(2 ^ 62) ≤ j ∧ j < 2 ^ 62 ∧ R (.rng 0 j.toNat) S) := rfl
theorem r2_i {R : Ev.Itr → Sto → Prop} (i j : Int) : rng2S (.int i) (.int j) S R = ((-(2 ^ 62) ≤ i ∧ i < 2 ^ 62 ∧ -(2 ^ 62) ≤ j ∧ j < 2 ^ 62) ∧ R (.rng i (j - i).toNat) S) := rfl
theorem r3_i {R : Ev.Itr → Sto → Prop} (i j k : Int) : rng3S (.int i) (.int j) (.int k) S R = (∃ n, RgC i j k n ∧ R (.rngc i k n) S) := rfl
theorem a_nm {R : En → Prop} (i : Nat) (d : D) : asgS (.nm i) d σ S R = (R (stn σ i d)) := rfl
theorem a_nil {R : En → Prop} : asgsS .nil [] σ S R = (R σ) := rfl
theorem a_cons {R : En → Prop} (g : IG) (r : IGs) (d : D) (t : List D) : asgsS (.cons g r) (d :: t) σ S R = (asgS g d σ S fun σ1 => asgsS r t σ1 S R) := rfl
theorem vrl_some {f : List D → Prop} (d : List D) : vrl (some d) f = f d := rfl
theorem vrn_some {f : Nat → Prop} (d : Nat) : vrn (some d) f = f d := rfl
theorem tru_ref {R : Bool → Prop} (a : Addr) : truS (.ref a) S R = vrl (lget S a) (cov (fun xs => R (!xs.isEmpty)) .mk) := rfl
theorem b_addl {PY : Prop} (a b : Addr) : binS PY .Add (.ref a) (.ref b) S Q = vrl (lget S a) (cov (fun xs => vrl (lget S b) (cov (fun ys => xs.length + ys.length ≤ sizeLine ∧ ∀ c, S c = none → Q (.ref c) (put S c (.lst (xs ++ ys)))) .mk)) .mk) := by
  rcases e : S a with _ | (⟨xs⟩ | ⟨y, fs⟩)
  · simp only [binS, lget, vrl, e]
  · rcases e2 : S b with _ | (⟨ys⟩ | ⟨y2, fs2⟩)
    · simp only [binS, lget, vrl, e, e2, cov]
    · simp only [binS, lget, vrl, e, e2, cov]
    · simp only [binS, lget, vrl, e, e2, cov]
  · simp only [binS, lget, vrl, e]
theorem b_mull {PY : Prop} (a : Addr) (k : Int) : binS PY .Mult (.ref a) (.int k) S Q = vrl (lget S a) (cov (fun xs => -(2 ^ 63) ≤ k ∧ k < 2 ^ 63 ∧ xs.length * k.toNat ≤ sizeLine ∧ ∀ c, S c = none → Q (.ref c) (put S c (.lst (List.replicate k.toNat xs).flatten))) .mk) := by
  rcases e : S a with _ | (⟨xs⟩ | ⟨y, fs⟩)
  · simp only [binS, lget, vrl, e]
  · simp only [binS, lget, vrl, e, cov]
  · simp only [binS, lget, vrl, e]
theorem idx_t (xs : List D) (n : Int) : idxS (.tup xs) (.int n) S Q = vr (atI xs n) (cov (fun d => Q d S) .mk) := rfl
theorem idx_r (xs : List D) (n : Int) : idxS (.rol xs) (.int n) S Q = vr (atI xs n) (cov (fun d => Q d S) .mk) := rfl
theorem idx_l (a : Addr) (n : Int) : idxS (.ref a) (.int n) S Q = vrl (lget S a) (cov (fun xs => vr (atI xs n) (cov (fun d => Q d S) .mk)) .mk) := rfl
theorem slc_l (a : Addr) (lo hi : Option Int) : slcS (.ref a) lo hi S Q = vrl (lget S a) (cov (fun xs => ∀ c, S c = none → Q (.ref c) (put S c (.lst (cutD xs lo hi)))) .mk) := rfl
theorem len_t (xs : List D) : biS .len [.tup xs] S Q = Q (.int xs.length) S := rfl
theorem len_r (xs : List D) : biS .len [.rol xs] S Q = Q (.int xs.length) S := rfl
theorem len_l (a : Addr) : biS .len [.ref a] S Q = vrl (lget S a) (cov (fun xs => Q (.int xs.length) S) .mk) := rfl
theorem tuple_t (xs : List D) : biS .tuple [.tup xs] S Q = Q (.tup xs) S := rfl
theorem tuple_r (xs : List D) : biS .tuple [.rol xs] S Q = Q (.tup xs) S := rfl
theorem tuple_l (a : Addr) : biS .tuple [.ref a] S Q = vrl (lget S a) (cov (fun xs => Q (.tup xs) S) .mk) := rfl
theorem list_t (xs : List D) : biS .list [.tup xs] S Q = (∀ c, S c = none → Q (.ref c) (put S c (.lst xs))) := rfl
theorem list_r (xs : List D) : biS .list [.rol xs] S Q = (∀ c, S c = none → Q (.ref c) (put S c (.lst xs))) := rfl
theorem list_l (a : Addr) : biS .list [.ref a] S Q = vrl (lget S a) (cov (fun xs => ∀ c, S c = none → Q (.ref c) (put S c (.lst xs))) .mk) := rfl
theorem app_l (a : Addr) (y : D) : mthS .append (.ref a) [y] S Q = vrl (lget S a) (cov (fun xs => xs.length < sizeLine ∧ Q .non (put S a (.lst (xs ++ [y])))) .mk) := by
  rcases e : S a with _ | (⟨xs⟩ | ⟨y, fs⟩)
  · simp only [mthS, lget, vrl, e]
  · simp only [mthS, lget, vrl, e, cov] <;> rfl
  · simp only [mthS, lget, vrl, e]
theorem rev_l (a : Addr) : mthS .reverse (.ref a) [] S Q = vrl (lget S a) (cov (fun xs => Q .non (put S a (.lst xs.reverse))) .mk) := by
  rcases e : S a with _ | (⟨xs⟩ | ⟨y, fs⟩)
  · simp only [mthS, lget, vrl, e]
  · simp only [mthS, lget, vrl, e, cov] <;> rfl
  · simp only [mthS, lget, vrl, e]
theorem pop_l (a : Addr) : mthS .pop (.ref a) [] S Q = vrl (lget S a) (cov (fun xs => vr xs[xs.length - 1]? (cov (fun y => Q y (put S a (.lst xs.dropLast))) .mk)) .mk) := by
  rcases e : S a with _ | (⟨xs⟩ | ⟨y, fs⟩)
  · simp only [mthS, lget, vrl, e]
  · simp only [mthS, lget, vrl, e, cov] <;> rfl
  · simp only [mthS, lget, vrl, e]
theorem popat_l (a : Addr) (i : Int) : mthS .popat (.ref a) [.int i] S Q = vrl (lget S a) (cov (fun xs => -(2 ^ 63) ≤ i ∧ i < 2 ^ 63 ∧ vrn (seqIndex? i xs.length) (cov (fun k => vr xs[k]? (cov (fun y => Q y (put S a (.lst (xs.eraseIdx k)))) .mk)) .mk)) .mk) := by
  rcases e : S a with _ | (⟨xs⟩ | ⟨y, fs⟩)
  · simp only [mthS, lget, vrl, e]
  · simp only [mthS, lget, vrl, e, cov] <;> rfl
  · simp only [mthS, lget, vrl, e]
theorem mT_l (m : Me) (a : Addr) : mthT m (.ref a) S = ((lget S a).isSome = true) := by
  unfold mthT
  apply propext
  exact Option.isSome_iff_exists.symm
theorem seq_l {R : Ev.Itr → Sto → Prop} (a : Addr) : seqS (.ref a) S R = vrl (lget S a) (cov (fun _ => R (.lst a) S) .mk) := rfl
theorem enu_l {R : Ev.Itr → Sto → Prop} (a : Addr) : enuS (.ref a) S R = vrl (lget S a) (cov (fun _ => R (.enu a) S) .mk) := rfl
theorem enu_t {R : Ev.Itr → Sto → Prop} (xs : List D) : enuS (.tup xs) S R = R (.enuT xs) S := rfl
theorem zip_l {R : Ev.Itr → Sto → Prop} (a b : Addr) : zipS (.ref a) (.ref b) S R = vrl (lget S a) (cov (fun _ => vrl (lget S b) (cov (fun _ => R (.zip a b) S) .mk)) .mk) := by
  rcases e : lget S a with _ | ⟨x, xs⟩ <;> rcases e2 : lget S b with _ | ⟨y, ys⟩ <;> simp only [zipS, vrl, e, e2, cov]
theorem in_t {R : Bool → Prop} (x : D) (ys : List D) : cmpS .In x (.tup ys) S R = (flD x = true ∧ ys.all flD = true ∧ R (inL x ys)) := rfl
theorem notin_t {R : Bool → Prop} (x : D) (ys : List D) : cmpS .NotIn x (.tup ys) S R = (flD x = true ∧ ys.all flD = true ∧ R (!inL x ys)) := rfl
theorem fl_s (a : Str) : flD (.str a) = true := rfl
theorem fl_i (a : Int) : flD (.int a) = true := rfl
theorem fl_b (a : Bool) : flD (.bl a) = true := rfl
theorem fl_n : flD .non = true := rfl
theorem inL_nil (x : D) : inL x [] = false := rfl
theorem inL_ss (a b : Str) (r : List D) : inL (.str a) (.str b :: r) = (decide (b = a) || inL (.str a) r) := by
  unfold inL
  rw [List.any_cons]
  show ((b == a) || _) = _
  congr 1
theorem inL_ii (a b : Int) (r : List D) : inL (.int a) (.int b :: r) = (decide (b = a) || inL (.int a) r) := by
  unfold inL
  rw [List.any_cons]
  rfl
theorem rev_t {R : Ev.Itr → Sto → Prop} (xs : List D) : revS (.tup xs) S R = R (.tup xs.reverse) S := rfl
theorem zip_m {R : Ev.Itr → Sto → Prop} (a : Addr) (ys : List D) : zipS (.ref a) (.tup ys) S R = vrl (lget S a) (cov (fun _ => R (.zipM a ys) S) .mk) := by
  rcases e : lget S a with _ | ⟨x, xs⟩ <;> simp only [zipS, vrl, e, cov]
theorem zip_t {R : Ev.Itr → Sto → Prop} (xs ys : List D) : zipS (.tup xs) (.tup ys) S R = R (.tup (zipD xs ys)) S := rfl
theorem rev_i {R : Ev.Itr → Sto → Prop} (a : Addr) : revS (.ref a) S R = vrl (lget S a) (cov (fun xs => R (.rev a xs.length) S) .mk) := rfl
theorem a_t {R : En → Prop} (gs : IGs) (xs : List D) : asgS (.tup gs) (.tup xs) σ S R = asgsS gs xs σ S R := by simp only [asgS, sget]
theorem a_l {R : En → Prop} (gs : IGs) (a : Addr) : asgS (.tup gs) (.ref a) σ S R = vrl (lget S a) (cov (fun xs => asgsS gs xs σ S R) .mk) := by simp only [asgS, sget]; rfl
theorem sub_l {R : Sto → Prop} (a : Addr) (n : Int) (d : D) : subS (.ref a) (.int n) d S R = vrl (lget S a) (cov (fun xs => vrn (ixN xs.length n) (cov (fun j => R (put S a (.lst (xs.set j d)))) .mk)) .mk) := by
  rcases e : S a with _ | (⟨xs⟩ | ⟨y, fs⟩)
  · simp only [subS, lget, vrl, e]
  · simp only [subS, lget, vrl, e, cov] <;> rfl
  · simp only [subS, lget, vrl, e]
end
end Ev

/-! == of plain data -/
namespace Ev
open PySem PySem.Spec PyProof.Rows L2
mutual
theorem pd_eq {S : Sto} : ∀ (d : D) (p : PyData), pure_ d = true → Pd S d p → p = pd d
  | .non, p, _, h => by cases h; rfl
  | .bl b, p, _, h => by cases h; rfl
  | .int b, p, _, h => by cases h; rfl
  | .str b, p, _, h => by cases h; rfl
  | .tup xs, p, hp, h => by
    cases h with
    | tup g => rw [pd, pds_eq xs _ hp g]
  | .rol xs, p, hp, h => by
    cases h with
    | rol g => rw [pd, pds_eq xs _ hp g]
  | .ref _, p, hp, h => by cases hp
theorem pds_eq {S : Sto} : ∀ (ds : List D) (ps : List PyData), pures ds = true → Pds S ds ps → ps = pds ds
  | [], ps, _, h => by cases h; rfl
  | d :: r, ps, hp, h => by
    simp only [pures, Bool.and_eq_true] at hp
    cases h with
    | cons g1 g2 => rw [pds, pd_eq d _ hp.1 g1, pds_eq r _ hp.2 g2]
end
theorem eqG_pure {S : Sto} {x y : D} {Q : Bool → Prop} (hx : pure_ x = true) (hy : pure_ y = true) (sx : SeqAt.shaped (pd x) = true) (sy : SeqAt.shaped (pd y) = true) : eqG x y S Q = Q (PyData.eqv (pd x) (pd y)) := by
  apply propext
  constructor
  · rintro ⟨p, q, h1, h2, _, _, h⟩
    rw [pd_eq x p hx h1, pd_eq y q hy h2] at h
    exact h
  · intro h
    exact ⟨_, _, pd_ok S x hx, pd_ok S y hy, sx, sy, h⟩
theorem getD_mem {α : Type} {xs : List α} {i : Nat} {d : α} (h : i < xs.length) : xs.getD i d ∈ xs := by
  rw [List.getD_eq_getElem?_getD, List.getElem?_eq_getElem h]
  exact List.getElem_mem h
section
variable {S : Sto} {R : Bool → Prop}
theorem cb_Eq (i j : Bool) : cmpS .Eq (.bl i) (.bl j) S R = (R (i == j)) := eqG_pure rfl rfl rfl rfl
theorem cb_NotEq (i j : Bool) : cmpS .NotEq (.bl i) (.bl j) S R = (R (!(i == j))) := cb_Eq i j (R := fun k => R (!k))
def eqR (x y : List D) (S : Sto) (R : Bool → Prop) : Prop := eqG (.tup x) (.tup y) S R
theorem c2_Eq (a b c d : Int) : cmpS .Eq (.tup [.int a, .int b]) (.tup [.int c, .int d]) S R = (R (decide (a = c ∧ b = d))) := by
  show eqG _ _ S R = _
  rw [eqG_pure rfl rfl rfl rfl]
  congr 1
  simp [pd, pds, PyData.eqv, PyData.eqvAll]
  rfl
theorem c2_NotEq (a b c d : Int) : cmpS .NotEq (.tup [.int a, .int b]) (.tup [.int c, .int d]) S R = (R (!decide (a = c ∧ b = d))) := c2_Eq a b c d (R := fun k => R (!k))
end
theorem lget_ne {S : Sto} {a b : Addr} {o : Ob} (h : b ≠ a) : lget (put S a o) b = lget S b := by unfold lget; rw [put_ne h]
/-- what comes behind a statement, once for all its ways -/
theorem join {G : Gl0} {C : CallS} {s : IS} {k : Kt} {σ : En} {S : Sto} (P : En → Sto → Prop) (hP : ∀ σ' S', P σ' S' → k.nx σ' S') (h : ∀ N : En → Sto → Prop, (∀ σ' S', P σ' S' → N σ' S') → semS G C s (kN k N) σ S) : semS G C s k σ S := h k.nx hP
section
variable {G : Gl0} {C : CallS} {tg : IG} {elt : IE} {own : List Nat} {σ : En} {S1 : Sto} {Q : DK}
theorem comp_by {J : Ev.Itr} (n : Nat) (item : Nat → D) (I : Addr → Nat → List D → Sto → Prop) (hx : ∀ a i acc S (stop : Prop) (go : D → Prop), i ≤ n → I a i acc S → (i < n → go (item i)) → (i = n → stop) → nxt J i S stop go)
    (h0 : ∀ a, S1 a = none → I a 0 [] (put S1 a (.lst [])))
    (step : ∀ a i acc S (N : DK), i < n → I a i acc S → (∀ y S4, S4 a = some (.lst acc) → acc.length < sizeLine → I a (i + 1) (acc ++ [y]) (put S4 a (.lst (acc ++ [y]))) → N y S4) → asgS tg (item i) (wips σ own) S fun σ2 => semE G C (fun _ _ => False) elt σ2 S N)
    (done : ∀ a acc S, I a n acc S → Q (.ref a) S) : LCOMP G C J tg .no elt own σ S1 Q := by
  intro a na
  refine ⟨fun i m S => m + i = n ∧ ∃ acc, I a i acc S, ⟨n, rfl, [], h0 a na⟩, ?_⟩
  rintro i m S ⟨hm, acc, hI⟩
  refine hx a i acc S _ _ (by omega) hI (fun hi => ?_) fun hi => done a acc S (hi ▸ hI)
  exact step a i acc S _ hi hI fun y S4 h1 h2 h3 => ⟨acc, h1, h2, m - 1, by omega, by omega, _, h3⟩
theorem comp_rng {lo : Int} {n : Nat} (I : Addr → Nat → List D → Sto → Prop) (h0 : ∀ a, S1 a = none → I a 0 [] (put S1 a (.lst [])))
    (step : ∀ a i acc S (N : DK), i < n → I a i acc S → (∀ y S4, S4 a = some (.lst acc) → acc.length < sizeLine → I a (i + 1) (acc ++ [y]) (put S4 a (.lst (acc ++ [y]))) → N y S4) → asgS tg (.int (lo + i)) (wips σ own) S fun σ2 => semE G C (fun _ _ => False) elt σ2 S N)
    (done : ∀ a acc S, I a n acc S → Q (.ref a) S) : LCOMP G C (.rng lo n) tg .no elt own σ S1 Q :=
  comp_by n (fun i => .int (lo + i)) I (fun a i acc S stop go hi _ h1 h2 => nxt_rng hi h1 h2) h0 step done
theorem comp_lst {b : Addr} {xs : List D} (I : Addr → Nat → List D → Sto → Prop) (hb : ∀ a i acc S, I a i acc S → S b = some (.lst xs)) (h0 : ∀ a, S1 a = none → I a 0 [] (put S1 a (.lst [])))
    (step : ∀ a i acc S (N : DK), i < xs.length → I a i acc S → (∀ y S4, S4 a = some (.lst acc) → acc.length < sizeLine → I a (i + 1) (acc ++ [y]) (put S4 a (.lst (acc ++ [y]))) → N y S4) → asgS tg (xs.getD i .non) (wips σ own) S fun σ2 => semE G C (fun _ _ => False) elt σ2 S N)
    (done : ∀ a acc S, I a xs.length acc S → Q (.ref a) S) : LCOMP G C (.lst b) tg .no elt own σ S1 Q :=
  comp_by xs.length (fun i => xs.getD i .non) I (fun a i acc S stop go hi hI h1 h2 => by
    simp only [nxt, lget_of (hb a i acc S hI)]
    exact nxt_list hi h1 h2) h0 step done
end
/-- written words: equal as texts exactly if equal as literals -/
theorem lit_inj (a b : String) : (Str.ofString a = Str.ofString b) = (a = b) := by
  apply propext
  constructor
  · intro h
    rw [Str.ofString_eq_toList, Str.ofString_eq_toList] at h
    have h1 : a.toList.map Char.toNat = b.toList.map Char.toNat := by
      have := congrArg (fun z : Str => z.cps.toList) h
      simpa using this
    have h2 : a.toList = b.toList := by
      have inj : ∀ l m : List Char, l.map Char.toNat = m.map Char.toNat → l = m := by
        intro l
        induction l with
        | nil => intro m h; cases m with
          | nil => rfl
          | cons _ _ => cases h
        | cons c l ih =>
          intro m h
          cases m with
          | nil => cases h
          | cons d m =>
            rw [List.map_cons, List.map_cons] at h
            injection h with h3 h4
            rw [ih m h4, show c = d from Char.ext (UInt32.toNat_inj.mp h3)]
      exact inj _ _ h1
    exact String.toList_inj.mp h2
  · intro h
    rw [h]
end Ev

/-! The laws' small helpers: cells, draws, gcd. -/
namespace LA
open PySem PySem.Spec PyProof.Rows L2 Ev
def F_law_cell : Fn := ⟨2, 2,
  (.cons (.ifs (.cmp .Lt (.var 1) (.bi .len (.cons (.var 0) .nil))) (.cons (.ret (.idx (.var 0) (.var 1))) .nil) .nil) (.cons (.ret (.int 0)) .nil))⟩
def F_law_draws : Fn := ⟨4, 9,
  (.cons (.set 4 (.call "_law_cell" (.cons (.var 0) (.cons (.var 1) .nil)))) (.cons (.set 5 (.lst .nil)) (.cons (.ifs (.cmp .GtE (.var 4) (.bin .Pow (.int 10) (.int 18))) (.cons (.for_ (.nm 7) (.rng1 (.var 2)) (.cons (.expr (.mth .append (.var 5) (.cons (.bin .Mod (.bi .int (.cons (.var 4) .nil)) (.var 3)) .nil))) (.cons (.set 4 (.bin .FloorDiv (.bi .int (.cons (.var 4) .nil)) (.var 3))) .nil))) (.cons (.ret (.var 5)) .nil)) .nil) (.cons (.set 6 (.bin .Add (.bin .Add (.bin .Mod (.bi .int (.cons (.var 4) .nil)) (.int 2147483647)) (.bin .Mult (.int 3) (.var 1))) (.int 1))) (.cons (.for_ (.nm 7) (.rng1 (.var 2)) (.cons (.set 6 (.bin .Mod (.bi .int (.cons (.bin .Add (.bin .Add (.bin .Mult (.var 6) (.int 48271)) (.bin .Mult (.int 11) (.var 7))) (.var 1)) .nil)) (.int 2147483647))) (.cons (.set 8 (.bin .Mod (.bi .int (.cons (.bin .Add (.bin .Add (.bin .Mult (.var 6) (.int 69621)) (.bin .Mult (.int 5) (.var 7))) (.int 7)) .nil)) (.int 2147483629))) (.cons (.expr (.mth .append (.var 5) (.cons (.bin .Mod (.bi .int (.cons (.var 8) .nil)) (.var 3)) .nil))) .nil)))) (.cons (.ret (.var 5)) .nil))))))⟩
def F_law_gcd : Fn := ⟨2, 5,
  (.cons (.set 2 (.bi .abs (.cons (.var 0) .nil))) (.cons (.set 3 (.bi .abs (.cons (.var 1) .nil))) (.cons (.whl (.cmp .NotEq (.var 3) (.int 0)) (.cons (.set 4 (.bin .Mod (.bi .int (.cons (.var 2) .nil)) (.var 3))) (.cons (.set 2 (.var 3)) (.cons (.set 3 (.var 4)) .nil)))) (.cons (.ret (.var 2)) .nil))))⟩
theorem mulL {i j : Int} (h1 : -(2 ^ 64) < i) (h2 : i < 2 ^ 64) : IntMulOk i j := .of_left (intBits_le_64 h1 h2)
theorem mulR {i j : Int} (h1 : -(2 ^ 64) < j) (h2 : j < 2 ^ 64) : IntMulOk i j := .of_right (intBits_le_64 h1 h2)
theorem fdS {PY : Prop} {i j : Int} (h0 : 0 < j) (h1 : j < 1073741824) : FdOk PY i j := ⟨by omega, .inl (PyProof.noPylong_small (by omega))⟩
theorem szl' {n : Nat} (h : n ≤ 100000) : n < sizeLine := by
  rw [sizeLine_eq]
  omega
/-- a script's item -/
def cellOf (ns : List Int) (i : Nat) : Int := ns.getD i 0
theorem cell_bits {ns : List Int} (h : ∀ z ∈ ns, Builtin.Int.intBits z ≤ 1048576) (i : Nat) : Builtin.Int.intBits (cellOf ns i) ≤ 1048576 := by
  unfold cellOf
  by_cases hi : i < ns.length
  · rw [List.getD_eq_getElem?_getD, List.getElem?_eq_getElem hi]
    exact h _ (List.getElem_mem hi)
  · rw [List.getD_eq_getElem?_getD, List.getElem?_eq_none (by omega)]
    decide
theorem atI_map {ns : List Int} {i : Nat} (hi : i < ns.length) : atI (ns.map D.int) (i : Int) = some (.int (cellOf ns i)) := by
  refine atI_nat ?_
  unfold cellOf
  rw [List.getElem?_map, List.getElem?_eq_getElem hi, List.getD_eq_getElem?_getD, List.getElem?_eq_getElem hi]
  rfl
section
variable {G : Gl0} {T : Str → Option Fn} {k : Nat} {S : Sto} {Q : DK} {E : XS}
theorem cell_ok (hT : T "_law_cell" = some F_law_cell) (ns : List Int) (i : Nat) (h : Q (.int (cellOf ns i)) S) : semF G T (k + 1) "_law_cell" [.rol (ns.map D.int), .int i] S Q E := by
  refine call_of hT rfl ?_
  simp -dsimp -implicitDefEqProofs only [ent, List.map_cons, List.map_nil, List.length_cons, List.length_nil, Nat.reduceAdd, Nat.reduceSub, Nat.zero_add, List.replicate, List.cons_append, List.nil_append, F_law_cell]
  simp -dsimp -implicitDefEqProofs only [↓cov3, ↓cov2, ↓cov1, ↓E_var, ↓E_int, ↓E_bl, ↓E_non, ↓E_str, ↓E_glo, ↓E_tup, ↓E_lst, ↓E_bin, ↓E_neg, ↓E_cmp, ↓E_chn, ↓E_and, ↓E_or, ↓E_one, ↓E_not, ↓E_ifx, ↓E_idx, ↓E_slc, ↓E_call, ↓E_bi, ↓E_isi, ↓E_mth, ↓E_lc, ↓E_fld, ↓E_mcl, ↓E_mk, ↓Es_nil, ↓Es_cons, ↓O_no, ↓O_some, ↓Q_no, ↓Q_c, ↓C_and, ↓C_or, ↓C_one, ↓C_not, ↓C_cmp, ↓C_chn, ↓C_v, ↓I_seq, ↓I_rng1, ↓I_rng2, ↓I_rng3, ↓I_enu, ↓I_zip, ↓I_rev, ↓S_set, ↓S_asg, ↓S_par2, ↓S_sub, ↓S_expr, ↓S_ret, ↓S_retN, ↓S_ifs, ↓S_for, ↓S_brk, ↓S_cnt, ↓S_pass, ↓S_raise, ↓S_try, ↓S_tryas, ↓E_isx, ↓E_isxs, kW_nx, kW_rt, kW_bk, kW_ct, kW_ex, gx_sub, gx_cs, gx_PY, ↓S_never, ↓S_setf, ex_t, ex_f, ↓S_nil, ↓S_cons, ↓kN_nx, ↓kN_rt, ↓kN_bk, ↓kN_ct, ↓kN_ex, ↓kL_nx, ↓kL_rt, ↓kL_bk, ↓kL_ct, ↓kL_ex, ↓kX_nx, ↓kX_rt, ↓kX_bk, ↓kX_ct, ↓kX_ex, ↓kend_nx, ↓kend_rt, ↓kend_bk, ↓kend_ct, ↓kend_ex, vr_some, gt_0, gt_s, stn_0, stn_s, wip_0, wip_s, wips_0, wips_s, neg_i, isi_s, o_i, tru_non, tru_bl, tru_int, tru_tup, tru_rol, c_Eq, c_NotEq, c_Lt, c_LtE, c_Gt, c_GtE, cs_Eq, cs_NotEq, cb_Eq, cb_NotEq, c2_Eq, c2_NotEq, is_non, isnot_non, is_bl, isnot_bl, is_int, isnot_int, is_str, isnot_str, is_tup, isnot_tup, is_rol, isnot_rol, is_ref, isnot_ref, is_b, isnot_b, in_s, notin_s, b_add, b_sub, b_mul, b_fdiv, b_mod, b_pow, b_addt, b_adds, atI0, atI1, atI2, atI3, slc_t, slc_r, len_s, abs_i, int_i, int_b, min_i, max_i, lcm_i, gcd_i, seq_t, seq_r, r1_i, r2_i, r3_i, a_nm, a_nil, a_cons, vrl_some, vrn_some, put_lget, Option.isSome_some, tru_ref, b_addl, idx_t, idx_r, idx_l, slc_l, len_t, len_r, len_l, tuple_t, tuple_r, tuple_l, list_t, list_r, list_l, app_l, rev_l, pop_l, popat_l, mT_l, seq_l, enu_l, enu_t, fld_i, mcl_i, setf_i, vri_some, vrk_some, mk_0, mk_1, b_mull, zip_l, rev_i, rev_t, in_t, notin_t, fl_s, fl_i, fl_b, fl_n, inL_nil, inL_ss, inL_ii, List.all_cons, List.all_nil, Bool.and_self, Bool.and_true, Bool.true_and, zip_t, zip_m, a_t, a_l, sub_l, isTs, isT, Option.map_some, List.length_cons, List.length_nil, List.lookup_nil, Nat.reduceAdd, Nat.reduceSub, Nat.reduceLT, Nat.zero_add, Bool.false_eq_true, Bool.true_eq_false, if_false, if_true, decide_eq_true_eq, Bool.not_true, Bool.not_false, ite_true, ite_false, reduceIte, Bool.not_eq_true', decide_eq_false_iff_not, Int.cast_ofNat_Int, Int.reduceEq, Int.reduceLT, Int.reduceLE, Int.reduceNeg, Int.reduceAdd, Int.reduceSub, Int.reduceMul, Int.reduceToNat, decide_true, decide_false, not_true, not_false, not_true_eq_false, not_false_eq_true, true_and, and_true, eq_self, reduceCtorEq, List.isEmpty_nil, List.isEmpty_cons, List.nil_append, List.cons_append, List.length_map]
  by_cases hi : i < ns.length
  · rw [if_pos (by omega), atI_map hi]
    exact h
  · rw [if_neg (by omega)]
    unfold cellOf at h
    rw [List.getD_eq_getElem?_getD, List.getElem?_eq_none (by omega)] at h
    exact h
theorem gcd_ok (hT : T "_law_gcd" = some F_law_gcd) (a b : Int) (h : Q (.int ((Nat.gcd a.natAbs b.natAbs : Nat) : Int)) S) : semF G T (k + 1) "_law_gcd" [.int a, .int b] S Q E := by
  refine call_of hT rfl ?_
  simp -dsimp -implicitDefEqProofs only [ent, List.map_cons, List.map_nil, List.length_cons, List.length_nil, Nat.reduceAdd, Nat.reduceSub, Nat.zero_add, List.replicate, List.cons_append, List.nil_append, F_law_gcd]
  simp -dsimp -implicitDefEqProofs only [↓cov3, ↓cov2, ↓cov1, ↓E_var, ↓E_int, ↓E_bl, ↓E_non, ↓E_str, ↓E_glo, ↓E_tup, ↓E_lst, ↓E_bin, ↓E_neg, ↓E_cmp, ↓E_chn, ↓E_and, ↓E_or, ↓E_one, ↓E_not, ↓E_ifx, ↓E_idx, ↓E_slc, ↓E_call, ↓E_bi, ↓E_isi, ↓E_mth, ↓E_lc, ↓E_fld, ↓E_mcl, ↓E_mk, ↓Es_nil, ↓Es_cons, ↓O_no, ↓O_some, ↓Q_no, ↓Q_c, ↓C_and, ↓C_or, ↓C_one, ↓C_not, ↓C_cmp, ↓C_chn, ↓C_v, ↓I_seq, ↓I_rng1, ↓I_rng2, ↓I_rng3, ↓I_enu, ↓I_zip, ↓I_rev, ↓S_set, ↓S_asg, ↓S_par2, ↓S_sub, ↓S_expr, ↓S_ret, ↓S_retN, ↓S_ifs, ↓S_for, ↓S_brk, ↓S_cnt, ↓S_pass, ↓S_raise, ↓S_try, ↓S_tryas, ↓E_isx, ↓E_isxs, kW_nx, kW_rt, kW_bk, kW_ct, kW_ex, gx_sub, gx_cs, gx_PY, ↓S_never, ↓S_setf, ex_t, ex_f, ↓S_nil, ↓S_cons, ↓kN_nx, ↓kN_rt, ↓kN_bk, ↓kN_ct, ↓kN_ex, ↓kL_nx, ↓kL_rt, ↓kL_bk, ↓kL_ct, ↓kL_ex, ↓kX_nx, ↓kX_rt, ↓kX_bk, ↓kX_ct, ↓kX_ex, ↓kend_nx, ↓kend_rt, ↓kend_bk, ↓kend_ct, ↓kend_ex, vr_some, gt_0, gt_s, stn_0, stn_s, wip_0, wip_s, wips_0, wips_s, neg_i, isi_s, o_i, tru_non, tru_bl, tru_int, tru_tup, tru_rol, c_Eq, c_NotEq, c_Lt, c_LtE, c_Gt, c_GtE, cs_Eq, cs_NotEq, cb_Eq, cb_NotEq, c2_Eq, c2_NotEq, is_non, isnot_non, is_bl, isnot_bl, is_int, isnot_int, is_str, isnot_str, is_tup, isnot_tup, is_rol, isnot_rol, is_ref, isnot_ref, is_b, isnot_b, in_s, notin_s, b_add, b_sub, b_mul, b_fdiv, b_mod, b_pow, b_addt, b_adds, atI0, atI1, atI2, atI3, slc_t, slc_r, len_s, abs_i, int_i, int_b, min_i, max_i, lcm_i, gcd_i, seq_t, seq_r, r1_i, r2_i, r3_i, a_nm, a_nil, a_cons, vrl_some, vrn_some, put_lget, Option.isSome_some, tru_ref, b_addl, idx_t, idx_r, idx_l, slc_l, len_t, len_r, len_l, tuple_t, tuple_r, tuple_l, list_t, list_r, list_l, app_l, rev_l, pop_l, popat_l, mT_l, seq_l, enu_l, enu_t, fld_i, mcl_i, setf_i, vri_some, vrk_some, mk_0, mk_1, b_mull, zip_l, rev_i, rev_t, in_t, notin_t, fl_s, fl_i, fl_b, fl_n, inL_nil, inL_ss, inL_ii, List.all_cons, List.all_nil, Bool.and_self, Bool.and_true, Bool.true_and, zip_t, zip_m, a_t, a_l, sub_l, isTs, isT, Option.map_some, List.length_cons, List.length_nil, List.lookup_nil, Nat.reduceAdd, Nat.reduceSub, Nat.reduceLT, Nat.zero_add, Bool.false_eq_true, Bool.true_eq_false, if_false, if_true, decide_eq_true_eq, Bool.not_true, Bool.not_false, ite_true, ite_false, reduceIte, Bool.not_eq_true', decide_eq_false_iff_not, Int.cast_ofNat_Int, Int.reduceEq, Int.reduceLT, Int.reduceLE, Int.reduceNeg, Int.reduceAdd, Int.reduceSub, Int.reduceMul, Int.reduceToNat, decide_true, decide_false, not_true, not_false, not_true_eq_false, not_false_eq_true, true_and, and_true, eq_self, reduceCtorEq, List.isEmpty_nil, List.isEmpty_cons, List.nil_append, List.cons_append]
  refine whl_by (α := Nat × Nat × Option D) (fun x => [some (.int a), some (.int b), some (.int x.1), some (.int x.2.1), x.2.2]) (fun x S' => S' = S ∧ Nat.gcd x.1 x.2.1 = Nat.gcd a.natAbs b.natAbs) (fun x => x.2.1) (a.natAbs, b.natAbs, none) ?_ ⟨rfl, rfl⟩ ?_
  · have e : ∀ z : Int, (if z < 0 then -z else z) = (z.natAbs : Int) := fun z => by split <;> omega
    rw [e, e]
  · rintro ⟨x, y, z⟩ S' N ⟨rfl, hI⟩ hN
    simp -dsimp -implicitDefEqProofs only [↓cov3, ↓cov2, ↓cov1, ↓E_var, ↓E_int, ↓E_bl, ↓E_non, ↓E_str, ↓E_glo, ↓E_tup, ↓E_lst, ↓E_bin, ↓E_neg, ↓E_cmp, ↓E_chn, ↓E_and, ↓E_or, ↓E_one, ↓E_not, ↓E_ifx, ↓E_idx, ↓E_slc, ↓E_call, ↓E_bi, ↓E_isi, ↓E_mth, ↓E_lc, ↓E_fld, ↓E_mcl, ↓E_mk, ↓Es_nil, ↓Es_cons, ↓O_no, ↓O_some, ↓Q_no, ↓Q_c, ↓C_and, ↓C_or, ↓C_one, ↓C_not, ↓C_cmp, ↓C_chn, ↓C_v, ↓I_seq, ↓I_rng1, ↓I_rng2, ↓I_rng3, ↓I_enu, ↓I_zip, ↓I_rev, ↓S_set, ↓S_asg, ↓S_par2, ↓S_sub, ↓S_expr, ↓S_ret, ↓S_retN, ↓S_ifs, ↓S_for, ↓S_brk, ↓S_cnt, ↓S_pass, ↓S_raise, ↓S_try, ↓S_tryas, ↓E_isx, ↓E_isxs, kW_nx, kW_rt, kW_bk, kW_ct, kW_ex, gx_sub, gx_cs, gx_PY, ↓S_never, ↓S_setf, ex_t, ex_f, ↓S_nil, ↓S_cons, ↓kN_nx, ↓kN_rt, ↓kN_bk, ↓kN_ct, ↓kN_ex, ↓kL_nx, ↓kL_rt, ↓kL_bk, ↓kL_ct, ↓kL_ex, ↓kX_nx, ↓kX_rt, ↓kX_bk, ↓kX_ct, ↓kX_ex, ↓kend_nx, ↓kend_rt, ↓kend_bk, ↓kend_ct, ↓kend_ex, vr_some, gt_0, gt_s, stn_0, stn_s, wip_0, wip_s, wips_0, wips_s, neg_i, isi_s, o_i, tru_non, tru_bl, tru_int, tru_tup, tru_rol, c_Eq, c_NotEq, c_Lt, c_LtE, c_Gt, c_GtE, cs_Eq, cs_NotEq, cb_Eq, cb_NotEq, c2_Eq, c2_NotEq, is_non, isnot_non, is_bl, isnot_bl, is_int, isnot_int, is_str, isnot_str, is_tup, isnot_tup, is_rol, isnot_rol, is_ref, isnot_ref, is_b, isnot_b, in_s, notin_s, b_add, b_sub, b_mul, b_fdiv, b_mod, b_pow, b_addt, b_adds, atI0, atI1, atI2, atI3, slc_t, slc_r, len_s, abs_i, int_i, int_b, min_i, max_i, lcm_i, gcd_i, seq_t, seq_r, r1_i, r2_i, r3_i, a_nm, a_nil, a_cons, vrl_some, vrn_some, put_lget, Option.isSome_some, tru_ref, b_addl, idx_t, idx_r, idx_l, slc_l, len_t, len_r, len_l, tuple_t, tuple_r, tuple_l, list_t, list_r, list_l, app_l, rev_l, pop_l, popat_l, mT_l, seq_l, enu_l, enu_t, fld_i, mcl_i, setf_i, vri_some, vrk_some, mk_0, mk_1, b_mull, zip_l, rev_i, rev_t, in_t, notin_t, fl_s, fl_i, fl_b, fl_n, inL_nil, inL_ss, inL_ii, List.all_cons, List.all_nil, Bool.and_self, Bool.and_true, Bool.true_and, zip_t, zip_m, a_t, a_l, sub_l, isTs, isT, Option.map_some, List.length_cons, List.length_nil, List.lookup_nil, Nat.reduceAdd, Nat.reduceSub, Nat.reduceLT, Nat.zero_add, Bool.false_eq_true, Bool.true_eq_false, if_false, if_true, decide_eq_true_eq, Bool.not_true, Bool.not_false, ite_true, ite_false, reduceIte, Bool.not_eq_true', decide_eq_false_iff_not, Int.cast_ofNat_Int, Int.reduceEq, Int.reduceLT, Int.reduceLE, Int.reduceNeg, Int.reduceAdd, Int.reduceSub, Int.reduceMul, Int.reduceToNat, decide_true, decide_false, not_true, not_false, not_true_eq_false, not_false_eq_true, true_and, and_true, eq_self, reduceCtorEq, List.isEmpty_nil, List.isEmpty_cons, List.nil_append, List.cons_append]
    refine ite2 (fun hy => ?_) fun hy => ?_
    · have hy : ¬ y = 0 := by omega
      refine ⟨by omega, ?_⟩
      have e : (x : Int).fmod (y : Int) = ((x % y : Nat) : Int) := by rw [Int.fmod_eq_emod_of_nonneg _ (by omega)]; rfl
      rw [e]
      exact hN (y, x % y, some (.int ((x % y : Nat) : Int))) S' ⟨rfl, by rw [← hI, Nat.gcd_comm x y, Nat.gcd_rec y x, Nat.gcd_comm]⟩ (Nat.mod_lt _ (by omega))
    · have hy : y = 0 := by omega
      subst hy
      rw [← hI, Nat.gcd_zero_right] at h
      exact h
/-- a row of drawn numbers -/
def Row (n : Nat) (b : Int) (row : List Int) : Prop := row.length = n ∧ ∀ z ∈ row, 0 ≤ z ∧ z < b
theorem Row.snoc {n : Nat} {b m : Int} {row : List Int} (h : Row n b row) (h0 : 0 ≤ m ∧ m < b) : Row (n + 1) b (row ++ [m]) := ⟨by rw [List.length_append, h.1]; rfl, fun y hy => by
  rcases List.mem_append.mp hy with hy | hy
  · exact h.2 y hy
  · rw [List.mem_singleton.mp hy]; exact h0⟩
theorem draws_ok (hT : T "_law_draws" = some F_law_draws) (hC : T "_law_cell" = some F_law_cell) (ns : List Int) (i n : Nat) (b : Int) (hi : i ≤ 1000) (hn : n ≤ 1000) (hb : 0 < b) (hb2 : b < 1073741824)
    (h : ∀ row r S', Row n b row → Sub S S' → S' r = some (.lst (row.map D.int)) → Q (.ref r) S') : semF G T (k + 2) "_law_draws" [.rol (ns.map D.int), .int i, .int n, .int b] S Q E := by
  refine call_of hT rfl ?_
  simp -dsimp -implicitDefEqProofs only [ent, List.map_cons, List.map_nil, List.length_cons, List.length_nil, Nat.reduceAdd, Nat.reduceSub, Nat.zero_add, List.replicate, List.cons_append, List.nil_append, F_law_draws]
  simp -dsimp -implicitDefEqProofs only [↓cov3, ↓cov2, ↓cov1, ↓E_var, ↓E_int, ↓E_bl, ↓E_non, ↓E_str, ↓E_glo, ↓E_tup, ↓E_lst, ↓E_bin, ↓E_neg, ↓E_cmp, ↓E_chn, ↓E_and, ↓E_or, ↓E_one, ↓E_not, ↓E_ifx, ↓E_idx, ↓E_slc, ↓E_call, ↓E_bi, ↓E_isi, ↓E_mth, ↓E_lc, ↓E_fld, ↓E_mcl, ↓E_mk, ↓Es_nil, ↓Es_cons, ↓O_no, ↓O_some, ↓Q_no, ↓Q_c, ↓C_and, ↓C_or, ↓C_one, ↓C_not, ↓C_cmp, ↓C_chn, ↓C_v, ↓I_seq, ↓I_rng1, ↓I_rng2, ↓I_rng3, ↓I_enu, ↓I_zip, ↓I_rev, ↓S_set, ↓S_asg, ↓S_par2, ↓S_sub, ↓S_expr, ↓S_ret, ↓S_retN, ↓S_ifs, ↓S_for, ↓S_brk, ↓S_cnt, ↓S_pass, ↓S_raise, ↓S_try, ↓S_tryas, ↓E_isx, ↓E_isxs, kW_nx, kW_rt, kW_bk, kW_ct, kW_ex, gx_sub, gx_cs, gx_PY, ↓S_never, ↓S_setf, ex_t, ex_f, ↓S_nil, ↓S_cons, ↓kN_nx, ↓kN_rt, ↓kN_bk, ↓kN_ct, ↓kN_ex, ↓kL_nx, ↓kL_rt, ↓kL_bk, ↓kL_ct, ↓kL_ex, ↓kX_nx, ↓kX_rt, ↓kX_bk, ↓kX_ct, ↓kX_ex, ↓kend_nx, ↓kend_rt, ↓kend_bk, ↓kend_ct, ↓kend_ex, vr_some, gt_0, gt_s, stn_0, stn_s, wip_0, wip_s, wips_0, wips_s, neg_i, isi_s, o_i, tru_non, tru_bl, tru_int, tru_tup, tru_rol, c_Eq, c_NotEq, c_Lt, c_LtE, c_Gt, c_GtE, cs_Eq, cs_NotEq, cb_Eq, cb_NotEq, c2_Eq, c2_NotEq, is_non, isnot_non, is_bl, isnot_bl, is_int, isnot_int, is_str, isnot_str, is_tup, isnot_tup, is_rol, isnot_rol, is_ref, isnot_ref, is_b, isnot_b, in_s, notin_s, b_add, b_sub, b_mul, b_fdiv, b_mod, b_pow, b_addt, b_adds, atI0, atI1, atI2, atI3, slc_t, slc_r, len_s, abs_i, int_i, int_b, min_i, max_i, lcm_i, gcd_i, seq_t, seq_r, r1_i, r2_i, r3_i, a_nm, a_nil, a_cons, vrl_some, vrn_some, put_lget, Option.isSome_some, tru_ref, b_addl, idx_t, idx_r, idx_l, slc_l, len_t, len_r, len_l, tuple_t, tuple_r, tuple_l, list_t, list_r, list_l, app_l, rev_l, pop_l, popat_l, mT_l, seq_l, enu_l, enu_t, fld_i, mcl_i, setf_i, vri_some, vrk_some, mk_0, mk_1, b_mull, zip_l, rev_i, rev_t, in_t, notin_t, fl_s, fl_i, fl_b, fl_n, inL_nil, inL_ss, inL_ii, List.all_cons, List.all_nil, Bool.and_self, Bool.and_true, Bool.true_and, zip_t, zip_m, a_t, a_l, sub_l, isTs, isT, Option.map_some, List.length_cons, List.length_nil, List.lookup_nil, Nat.reduceAdd, Nat.reduceSub, Nat.reduceLT, Nat.zero_add, Bool.false_eq_true, Bool.true_eq_false, if_false, if_true, decide_eq_true_eq, Bool.not_true, Bool.not_false, ite_true, ite_false, reduceIte, Bool.not_eq_true', decide_eq_false_iff_not, Int.cast_ofNat_Int, Int.reduceEq, Int.reduceLT, Int.reduceLE, Int.reduceNeg, Int.reduceAdd, Int.reduceSub, Int.reduceMul, Int.reduceToNat, decide_true, decide_false, not_true, not_false, not_true_eq_false, not_false_eq_true, true_and, and_true, eq_self, reduceCtorEq, List.isEmpty_nil, List.isEmpty_cons, List.nil_append, List.cons_append]
  refine cell_ok hC ns i ?_
  intro r nr
  have h10 : CPow 10 18 := ⟨by decide, by decide, by decide⟩
  refine ⟨h10, ite2 (fun hbig => ?_) fun _ => ?_⟩
  · refine ⟨by omega, by omega, ?_⟩
    refine for_rng (fun j σ S' => ∃ (c : Int) (row : List Int) (z : Option D), σ = [some (.rol (ns.map D.int)), some (.int i), some (.int n), some (.int b), some (.int c), some (.ref r), none, z, none] ∧ Row j b row ∧ Sub S S' ∧ S' r = some (.lst (row.map D.int)))
      ⟨_, [], none, rfl, ⟨rfl, fun _ h => by cases h⟩, Sub.new nr, put_same⟩ ?_ ?_
    · rintro j σ S' N hj ⟨c, row, z, rfl, hr, hs, hl⟩ hN
      simp -dsimp -implicitDefEqProofs only [↓cov3, ↓cov2, ↓cov1, ↓E_var, ↓E_int, ↓E_bl, ↓E_non, ↓E_str, ↓E_glo, ↓E_tup, ↓E_lst, ↓E_bin, ↓E_neg, ↓E_cmp, ↓E_chn, ↓E_and, ↓E_or, ↓E_one, ↓E_not, ↓E_ifx, ↓E_idx, ↓E_slc, ↓E_call, ↓E_bi, ↓E_isi, ↓E_mth, ↓E_lc, ↓E_fld, ↓E_mcl, ↓E_mk, ↓Es_nil, ↓Es_cons, ↓O_no, ↓O_some, ↓Q_no, ↓Q_c, ↓C_and, ↓C_or, ↓C_one, ↓C_not, ↓C_cmp, ↓C_chn, ↓C_v, ↓I_seq, ↓I_rng1, ↓I_rng2, ↓I_rng3, ↓I_enu, ↓I_zip, ↓I_rev, ↓S_set, ↓S_asg, ↓S_par2, ↓S_sub, ↓S_expr, ↓S_ret, ↓S_retN, ↓S_ifs, ↓S_for, ↓S_brk, ↓S_cnt, ↓S_pass, ↓S_raise, ↓S_try, ↓S_tryas, ↓E_isx, ↓E_isxs, kW_nx, kW_rt, kW_bk, kW_ct, kW_ex, gx_sub, gx_cs, gx_PY, ↓S_never, ↓S_setf, ex_t, ex_f, ↓S_nil, ↓S_cons, ↓kN_nx, ↓kN_rt, ↓kN_bk, ↓kN_ct, ↓kN_ex, ↓kL_nx, ↓kL_rt, ↓kL_bk, ↓kL_ct, ↓kL_ex, ↓kX_nx, ↓kX_rt, ↓kX_bk, ↓kX_ct, ↓kX_ex, ↓kend_nx, ↓kend_rt, ↓kend_bk, ↓kend_ct, ↓kend_ex, vr_some, gt_0, gt_s, stn_0, stn_s, wip_0, wip_s, wips_0, wips_s, neg_i, isi_s, o_i, tru_non, tru_bl, tru_int, tru_tup, tru_rol, c_Eq, c_NotEq, c_Lt, c_LtE, c_Gt, c_GtE, cs_Eq, cs_NotEq, cb_Eq, cb_NotEq, c2_Eq, c2_NotEq, is_non, isnot_non, is_bl, isnot_bl, is_int, isnot_int, is_str, isnot_str, is_tup, isnot_tup, is_rol, isnot_rol, is_ref, isnot_ref, is_b, isnot_b, in_s, notin_s, b_add, b_sub, b_mul, b_fdiv, b_mod, b_pow, b_addt, b_adds, atI0, atI1, atI2, atI3, slc_t, slc_r, len_s, abs_i, int_i, int_b, min_i, max_i, lcm_i, gcd_i, seq_t, seq_r, r1_i, r2_i, r3_i, a_nm, a_nil, a_cons, vrl_some, vrn_some, put_lget, Option.isSome_some, tru_ref, b_addl, idx_t, idx_r, idx_l, slc_l, len_t, len_r, len_l, tuple_t, tuple_r, tuple_l, list_t, list_r, list_l, app_l, rev_l, pop_l, popat_l, mT_l, seq_l, enu_l, enu_t, fld_i, mcl_i, setf_i, vri_some, vrk_some, mk_0, mk_1, b_mull, zip_l, rev_i, rev_t, in_t, notin_t, fl_s, fl_i, fl_b, fl_n, inL_nil, inL_ss, inL_ii, List.all_cons, List.all_nil, Bool.and_self, Bool.and_true, Bool.true_and, zip_t, zip_m, a_t, a_l, sub_l, isTs, isT, Option.map_some, List.length_cons, List.length_nil, List.lookup_nil, Nat.reduceAdd, Nat.reduceSub, Nat.reduceLT, Nat.zero_add, Bool.false_eq_true, Bool.true_eq_false, if_false, if_true, decide_eq_true_eq, Bool.not_true, Bool.not_false, ite_true, ite_false, reduceIte, Bool.not_eq_true', decide_eq_false_iff_not, Int.cast_ofNat_Int, Int.reduceEq, Int.reduceLT, Int.reduceLE, Int.reduceNeg, Int.reduceAdd, Int.reduceSub, Int.reduceMul, Int.reduceToNat, decide_true, decide_false, not_true, not_false, not_true_eq_false, not_false_eq_true, true_and, and_true, eq_self, reduceCtorEq, List.isEmpty_nil, List.isEmpty_cons, List.nil_append, List.cons_append, lget_of hl]
      have hm : 0 ≤ c.fmod b ∧ c.fmod b < b := ⟨Int.fmod_nonneg_of_pos c hb, Int.fmod_lt_of_pos c hb⟩
      refine ⟨by omega, small1000 (by rw [List.length_map, hr.1]; omega), fdS hb hb2, ?_⟩
      exact hN _ _ ⟨c.fdiv b, row ++ [c.fmod b], _, rfl, hr.snoc hm, hs.write nr, by rw [put_same, List.map_append]; rfl⟩
    · rintro σ S' ⟨c, row, z, rfl, hr, hs, hl⟩
      simp -dsimp -implicitDefEqProofs only [↓cov3, ↓cov2, ↓cov1, ↓E_var, ↓E_int, ↓E_bl, ↓E_non, ↓E_str, ↓E_glo, ↓E_tup, ↓E_lst, ↓E_bin, ↓E_neg, ↓E_cmp, ↓E_chn, ↓E_and, ↓E_or, ↓E_one, ↓E_not, ↓E_ifx, ↓E_idx, ↓E_slc, ↓E_call, ↓E_bi, ↓E_isi, ↓E_mth, ↓E_lc, ↓E_fld, ↓E_mcl, ↓E_mk, ↓Es_nil, ↓Es_cons, ↓O_no, ↓O_some, ↓Q_no, ↓Q_c, ↓C_and, ↓C_or, ↓C_one, ↓C_not, ↓C_cmp, ↓C_chn, ↓C_v, ↓I_seq, ↓I_rng1, ↓I_rng2, ↓I_rng3, ↓I_enu, ↓I_zip, ↓I_rev, ↓S_set, ↓S_asg, ↓S_par2, ↓S_sub, ↓S_expr, ↓S_ret, ↓S_retN, ↓S_ifs, ↓S_for, ↓S_brk, ↓S_cnt, ↓S_pass, ↓S_raise, ↓S_try, ↓S_tryas, ↓E_isx, ↓E_isxs, kW_nx, kW_rt, kW_bk, kW_ct, kW_ex, gx_sub, gx_cs, gx_PY, ↓S_never, ↓S_setf, ex_t, ex_f, ↓S_nil, ↓S_cons, ↓kN_nx, ↓kN_rt, ↓kN_bk, ↓kN_ct, ↓kN_ex, ↓kL_nx, ↓kL_rt, ↓kL_bk, ↓kL_ct, ↓kL_ex, ↓kX_nx, ↓kX_rt, ↓kX_bk, ↓kX_ct, ↓kX_ex, ↓kend_nx, ↓kend_rt, ↓kend_bk, ↓kend_ct, ↓kend_ex, vr_some, gt_0, gt_s, stn_0, stn_s, wip_0, wip_s, wips_0, wips_s, neg_i, isi_s, o_i, tru_non, tru_bl, tru_int, tru_tup, tru_rol, c_Eq, c_NotEq, c_Lt, c_LtE, c_Gt, c_GtE, cs_Eq, cs_NotEq, cb_Eq, cb_NotEq, c2_Eq, c2_NotEq, is_non, isnot_non, is_bl, isnot_bl, is_int, isnot_int, is_str, isnot_str, is_tup, isnot_tup, is_rol, isnot_rol, is_ref, isnot_ref, is_b, isnot_b, in_s, notin_s, b_add, b_sub, b_mul, b_fdiv, b_mod, b_pow, b_addt, b_adds, atI0, atI1, atI2, atI3, slc_t, slc_r, len_s, abs_i, int_i, int_b, min_i, max_i, lcm_i, gcd_i, seq_t, seq_r, r1_i, r2_i, r3_i, a_nm, a_nil, a_cons, vrl_some, vrn_some, put_lget, Option.isSome_some, tru_ref, b_addl, idx_t, idx_r, idx_l, slc_l, len_t, len_r, len_l, tuple_t, tuple_r, tuple_l, list_t, list_r, list_l, app_l, rev_l, pop_l, popat_l, mT_l, seq_l, enu_l, enu_t, fld_i, mcl_i, setf_i, vri_some, vrk_some, mk_0, mk_1, b_mull, zip_l, rev_i, rev_t, in_t, notin_t, fl_s, fl_i, fl_b, fl_n, inL_nil, inL_ss, inL_ii, List.all_cons, List.all_nil, Bool.and_self, Bool.and_true, Bool.true_and, zip_t, zip_m, a_t, a_l, sub_l, isTs, isT, Option.map_some, List.length_cons, List.length_nil, List.lookup_nil, Nat.reduceAdd, Nat.reduceSub, Nat.reduceLT, Nat.zero_add, Bool.false_eq_true, Bool.true_eq_false, if_false, if_true, decide_eq_true_eq, Bool.not_true, Bool.not_false, ite_true, ite_false, reduceIte, Bool.not_eq_true', decide_eq_false_iff_not, Int.cast_ofNat_Int, Int.reduceEq, Int.reduceLT, Int.reduceLE, Int.reduceNeg, Int.reduceAdd, Int.reduceSub, Int.reduceMul, Int.reduceToNat, decide_true, decide_false, not_true, not_false, not_true_eq_false, not_false_eq_true, true_and, and_true, eq_self, reduceCtorEq, List.isEmpty_nil, List.isEmpty_cons, List.nil_append, List.cons_append]
      rw [Int.toNat_natCast] at hr
      exact h row r S' hr hs hl
  · simp -dsimp -implicitDefEqProofs only [↓cov3, ↓cov2, ↓cov1, ↓E_var, ↓E_int, ↓E_bl, ↓E_non, ↓E_str, ↓E_glo, ↓E_tup, ↓E_lst, ↓E_bin, ↓E_neg, ↓E_cmp, ↓E_chn, ↓E_and, ↓E_or, ↓E_one, ↓E_not, ↓E_ifx, ↓E_idx, ↓E_slc, ↓E_call, ↓E_bi, ↓E_isi, ↓E_mth, ↓E_lc, ↓E_fld, ↓E_mcl, ↓E_mk, ↓Es_nil, ↓Es_cons, ↓O_no, ↓O_some, ↓Q_no, ↓Q_c, ↓C_and, ↓C_or, ↓C_one, ↓C_not, ↓C_cmp, ↓C_chn, ↓C_v, ↓I_seq, ↓I_rng1, ↓I_rng2, ↓I_rng3, ↓I_enu, ↓I_zip, ↓I_rev, ↓S_set, ↓S_asg, ↓S_par2, ↓S_sub, ↓S_expr, ↓S_ret, ↓S_retN, ↓S_ifs, ↓S_for, ↓S_brk, ↓S_cnt, ↓S_pass, ↓S_raise, ↓S_try, ↓S_tryas, ↓E_isx, ↓E_isxs, kW_nx, kW_rt, kW_bk, kW_ct, kW_ex, gx_sub, gx_cs, gx_PY, ↓S_never, ↓S_setf, ex_t, ex_f, ↓S_nil, ↓S_cons, ↓kN_nx, ↓kN_rt, ↓kN_bk, ↓kN_ct, ↓kN_ex, ↓kL_nx, ↓kL_rt, ↓kL_bk, ↓kL_ct, ↓kL_ex, ↓kX_nx, ↓kX_rt, ↓kX_bk, ↓kX_ct, ↓kX_ex, ↓kend_nx, ↓kend_rt, ↓kend_bk, ↓kend_ct, ↓kend_ex, vr_some, gt_0, gt_s, stn_0, stn_s, wip_0, wip_s, wips_0, wips_s, neg_i, isi_s, o_i, tru_non, tru_bl, tru_int, tru_tup, tru_rol, c_Eq, c_NotEq, c_Lt, c_LtE, c_Gt, c_GtE, cs_Eq, cs_NotEq, cb_Eq, cb_NotEq, c2_Eq, c2_NotEq, is_non, isnot_non, is_bl, isnot_bl, is_int, isnot_int, is_str, isnot_str, is_tup, isnot_tup, is_rol, isnot_rol, is_ref, isnot_ref, is_b, isnot_b, in_s, notin_s, b_add, b_sub, b_mul, b_fdiv, b_mod, b_pow, b_addt, b_adds, atI0, atI1, atI2, atI3, slc_t, slc_r, len_s, abs_i, int_i, int_b, min_i, max_i, lcm_i, gcd_i, seq_t, seq_r, r1_i, r2_i, r3_i, a_nm, a_nil, a_cons, vrl_some, vrn_some, put_lget, Option.isSome_some, tru_ref, b_addl, idx_t, idx_r, idx_l, slc_l, len_t, len_r, len_l, tuple_t, tuple_r, tuple_l, list_t, list_r, list_l, app_l, rev_l, pop_l, popat_l, mT_l, seq_l, enu_l, enu_t, fld_i, mcl_i, setf_i, vri_some, vrk_some, mk_0, mk_1, b_mull, zip_l, rev_i, rev_t, in_t, notin_t, fl_s, fl_i, fl_b, fl_n, inL_nil, inL_ss, inL_ii, List.all_cons, List.all_nil, Bool.and_self, Bool.and_true, Bool.true_and, zip_t, zip_m, a_t, a_l, sub_l, isTs, isT, Option.map_some, List.length_cons, List.length_nil, List.lookup_nil, Nat.reduceAdd, Nat.reduceSub, Nat.reduceLT, Nat.zero_add, Bool.false_eq_true, Bool.true_eq_false, if_false, if_true, decide_eq_true_eq, Bool.not_true, Bool.not_false, ite_true, ite_false, reduceIte, Bool.not_eq_true', decide_eq_false_iff_not, Int.cast_ofNat_Int, Int.reduceEq, Int.reduceLT, Int.reduceLE, Int.reduceNeg, Int.reduceAdd, Int.reduceSub, Int.reduceMul, Int.reduceToNat, decide_true, decide_false, not_true, not_false, not_true_eq_false, not_false_eq_true, true_and, and_true, eq_self, reduceCtorEq, List.isEmpty_nil, List.isEmpty_cons, List.nil_append, List.cons_append]
    refine ⟨by decide, mulL (by decide) (by decide), by omega, by omega, ?_⟩
    refine for_rng (fun j σ S' => ∃ (c : Int) (row : List Int) (z z2 : Option D), σ = [some (.rol (ns.map D.int)), some (.int i), some (.int n), some (.int b), some (.int (cellOf ns i)), some (.ref r), some (.int c), z, z2] ∧ Row j b row ∧ Sub S S' ∧ S' r = some (.lst (row.map D.int)))
      ⟨_, [], none, none, rfl, ⟨rfl, fun _ h => by cases h⟩, Sub.new nr, put_same⟩ ?_ ?_
    · rintro j σ S' N hj ⟨c, row, z, z2, rfl, hr, hs, hl⟩ hN
      simp -dsimp -implicitDefEqProofs only [↓cov3, ↓cov2, ↓cov1, ↓E_var, ↓E_int, ↓E_bl, ↓E_non, ↓E_str, ↓E_glo, ↓E_tup, ↓E_lst, ↓E_bin, ↓E_neg, ↓E_cmp, ↓E_chn, ↓E_and, ↓E_or, ↓E_one, ↓E_not, ↓E_ifx, ↓E_idx, ↓E_slc, ↓E_call, ↓E_bi, ↓E_isi, ↓E_mth, ↓E_lc, ↓E_fld, ↓E_mcl, ↓E_mk, ↓Es_nil, ↓Es_cons, ↓O_no, ↓O_some, ↓Q_no, ↓Q_c, ↓C_and, ↓C_or, ↓C_one, ↓C_not, ↓C_cmp, ↓C_chn, ↓C_v, ↓I_seq, ↓I_rng1, ↓I_rng2, ↓I_rng3, ↓I_enu, ↓I_zip, ↓I_rev, ↓S_set, ↓S_asg, ↓S_par2, ↓S_sub, ↓S_expr, ↓S_ret, ↓S_retN, ↓S_ifs, ↓S_for, ↓S_brk, ↓S_cnt, ↓S_pass, ↓S_raise, ↓S_try, ↓S_tryas, ↓E_isx, ↓E_isxs, kW_nx, kW_rt, kW_bk, kW_ct, kW_ex, gx_sub, gx_cs, gx_PY, ↓S_never, ↓S_setf, ex_t, ex_f, ↓S_nil, ↓S_cons, ↓kN_nx, ↓kN_rt, ↓kN_bk, ↓kN_ct, ↓kN_ex, ↓kL_nx, ↓kL_rt, ↓kL_bk, ↓kL_ct, ↓kL_ex, ↓kX_nx, ↓kX_rt, ↓kX_bk, ↓kX_ct, ↓kX_ex, ↓kend_nx, ↓kend_rt, ↓kend_bk, ↓kend_ct, ↓kend_ex, vr_some, gt_0, gt_s, stn_0, stn_s, wip_0, wip_s, wips_0, wips_s, neg_i, isi_s, o_i, tru_non, tru_bl, tru_int, tru_tup, tru_rol, c_Eq, c_NotEq, c_Lt, c_LtE, c_Gt, c_GtE, cs_Eq, cs_NotEq, cb_Eq, cb_NotEq, c2_Eq, c2_NotEq, is_non, isnot_non, is_bl, isnot_bl, is_int, isnot_int, is_str, isnot_str, is_tup, isnot_tup, is_rol, isnot_rol, is_ref, isnot_ref, is_b, isnot_b, in_s, notin_s, b_add, b_sub, b_mul, b_fdiv, b_mod, b_pow, b_addt, b_adds, atI0, atI1, atI2, atI3, slc_t, slc_r, len_s, abs_i, int_i, int_b, min_i, max_i, lcm_i, gcd_i, seq_t, seq_r, r1_i, r2_i, r3_i, a_nm, a_nil, a_cons, vrl_some, vrn_some, put_lget, Option.isSome_some, tru_ref, b_addl, idx_t, idx_r, idx_l, slc_l, len_t, len_r, len_l, tuple_t, tuple_r, tuple_l, list_t, list_r, list_l, app_l, rev_l, pop_l, popat_l, mT_l, seq_l, enu_l, enu_t, fld_i, mcl_i, setf_i, vri_some, vrk_some, mk_0, mk_1, b_mull, zip_l, rev_i, rev_t, in_t, notin_t, fl_s, fl_i, fl_b, fl_n, inL_nil, inL_ss, inL_ii, List.all_cons, List.all_nil, Bool.and_self, Bool.and_true, Bool.true_and, zip_t, zip_m, a_t, a_l, sub_l, isTs, isT, Option.map_some, List.length_cons, List.length_nil, List.lookup_nil, Nat.reduceAdd, Nat.reduceSub, Nat.reduceLT, Nat.zero_add, Bool.false_eq_true, Bool.true_eq_false, if_false, if_true, decide_eq_true_eq, Bool.not_true, Bool.not_false, ite_true, ite_false, reduceIte, Bool.not_eq_true', decide_eq_false_iff_not, Int.cast_ofNat_Int, Int.reduceEq, Int.reduceLT, Int.reduceLE, Int.reduceNeg, Int.reduceAdd, Int.reduceSub, Int.reduceMul, Int.reduceToNat, decide_true, decide_false, not_true, not_false, not_true_eq_false, not_false_eq_true, true_and, and_true, eq_self, reduceCtorEq, List.isEmpty_nil, List.isEmpty_cons, List.nil_append, List.cons_append, lget_of hl]
      refine ⟨mulR (by decide) (by decide), mulL (by decide) (by decide), by decide, mulR (by decide) (by decide), mulL (by decide) (by decide), by decide, by omega, small1000 (by rw [List.length_map, hr.1]; omega), ?_⟩
      exact hN _ _ ⟨_, row ++ [((((c * 48271 + 11 * (0 + (j : Int)) + i).fmod 2147483647 * 69621 + 5 * (0 + (j : Int)) + 7).fmod 2147483629).fmod b)], _, _, rfl, hr.snoc ⟨Int.fmod_nonneg_of_pos _ hb, Int.fmod_lt_of_pos _ hb⟩, hs.write nr, by rw [put_same, List.map_append]; rfl⟩
    · rintro σ S' ⟨c, row, z, z2, rfl, hr, hs, hl⟩
      simp -dsimp -implicitDefEqProofs only [↓cov3, ↓cov2, ↓cov1, ↓E_var, ↓E_int, ↓E_bl, ↓E_non, ↓E_str, ↓E_glo, ↓E_tup, ↓E_lst, ↓E_bin, ↓E_neg, ↓E_cmp, ↓E_chn, ↓E_and, ↓E_or, ↓E_one, ↓E_not, ↓E_ifx, ↓E_idx, ↓E_slc, ↓E_call, ↓E_bi, ↓E_isi, ↓E_mth, ↓E_lc, ↓E_fld, ↓E_mcl, ↓E_mk, ↓Es_nil, ↓Es_cons, ↓O_no, ↓O_some, ↓Q_no, ↓Q_c, ↓C_and, ↓C_or, ↓C_one, ↓C_not, ↓C_cmp, ↓C_chn, ↓C_v, ↓I_seq, ↓I_rng1, ↓I_rng2, ↓I_rng3, ↓I_enu, ↓I_zip, ↓I_rev, ↓S_set, ↓S_asg, ↓S_par2, ↓S_sub, ↓S_expr, ↓S_ret, ↓S_retN, ↓S_ifs, ↓S_for, ↓S_brk, ↓S_cnt, ↓S_pass, ↓S_raise, ↓S_try, ↓S_tryas, ↓E_isx, ↓E_isxs, kW_nx, kW_rt, kW_bk, kW_ct, kW_ex, gx_sub, gx_cs, gx_PY, ↓S_never, ↓S_setf, ex_t, ex_f, ↓S_nil, ↓S_cons, ↓kN_nx, ↓kN_rt, ↓kN_bk, ↓kN_ct, ↓kN_ex, ↓kL_nx, ↓kL_rt, ↓kL_bk, ↓kL_ct, ↓kL_ex, ↓kX_nx, ↓kX_rt, ↓kX_bk, ↓kX_ct, ↓kX_ex, ↓kend_nx, ↓kend_rt, ↓kend_bk, ↓kend_ct, ↓kend_ex, vr_some, gt_0, gt_s, stn_0, stn_s, wip_0, wip_s, wips_0, wips_s, neg_i, isi_s, o_i, tru_non, tru_bl, tru_int, tru_tup, tru_rol, c_Eq, c_NotEq, c_Lt, c_LtE, c_Gt, c_GtE, cs_Eq, cs_NotEq, cb_Eq, cb_NotEq, c2_Eq, c2_NotEq, is_non, isnot_non, is_bl, isnot_bl, is_int, isnot_int, is_str, isnot_str, is_tup, isnot_tup, is_rol, isnot_rol, is_ref, isnot_ref, is_b, isnot_b, in_s, notin_s, b_add, b_sub, b_mul, b_fdiv, b_mod, b_pow, b_addt, b_adds, atI0, atI1, atI2, atI3, slc_t, slc_r, len_s, abs_i, int_i, int_b, min_i, max_i, lcm_i, gcd_i, seq_t, seq_r, r1_i, r2_i, r3_i, a_nm, a_nil, a_cons, vrl_some, vrn_some, put_lget, Option.isSome_some, tru_ref, b_addl, idx_t, idx_r, idx_l, slc_l, len_t, len_r, len_l, tuple_t, tuple_r, tuple_l, list_t, list_r, list_l, app_l, rev_l, pop_l, popat_l, mT_l, seq_l, enu_l, enu_t, fld_i, mcl_i, setf_i, vri_some, vrk_some, mk_0, mk_1, b_mull, zip_l, rev_i, rev_t, in_t, notin_t, fl_s, fl_i, fl_b, fl_n, inL_nil, inL_ss, inL_ii, List.all_cons, List.all_nil, Bool.and_self, Bool.and_true, Bool.true_and, zip_t, zip_m, a_t, a_l, sub_l, isTs, isT, Option.map_some, List.length_cons, List.length_nil, List.lookup_nil, Nat.reduceAdd, Nat.reduceSub, Nat.reduceLT, Nat.zero_add, Bool.false_eq_true, Bool.true_eq_false, if_false, if_true, decide_eq_true_eq, Bool.not_true, Bool.not_false, ite_true, ite_false, reduceIte, Bool.not_eq_true', decide_eq_false_iff_not, Int.cast_ofNat_Int, Int.reduceEq, Int.reduceLT, Int.reduceLE, Int.reduceNeg, Int.reduceAdd, Int.reduceSub, Int.reduceMul, Int.reduceToNat, decide_true, decide_false, not_true, not_false, not_true_eq_false, not_false_eq_true, true_and, and_true, eq_self, reduceCtorEq, List.isEmpty_nil, List.isEmpty_cons, List.nil_append, List.cons_append]
      rw [Int.toNat_natCast] at hr
      exact h row r S' hr hs hl
end
end LA

/-! The program's rational numbers: what each def computes, over Rat. -/
namespace LA
open PySem PySem.Spec PyProof.Rows L2 Ev
def F_rational : Fn := ⟨2, 3,
  (.cons (.ifs (.cmp .Eq (.var 1) (.int 0)) (.cons (.raise "ZeroDivisor" (.cons (.str "denominator 0") .nil)) .nil) .nil) (.cons (.set 2 (.bi .gcd (.cons (.var 0) (.cons (.var 1) .nil)))) (.cons (.ifs (.cmp .Lt (.var 1) (.int 0)) (.cons (.set 2 (.neg (.var 2))) .nil) .nil) (.cons (.ret (.tup (.cons (.bin .FloorDiv (.var 0) (.var 2)) (.cons (.bin .FloorDiv (.var 1) (.var 2)) .nil)))) .nil))))⟩
def F_radd : Fn := ⟨2, 2,
  (.cons (.ifs (.and (.cmp .Eq (.idx (.var 0) (.int 1)) (.int 1)) (.one (.cmp .Eq (.idx (.var 1) (.int 1)) (.int 1)))) (.cons (.ret (.tup (.cons (.bin .Add (.idx (.var 0) (.int 0)) (.idx (.var 1) (.int 0))) (.cons (.int 1) .nil)))) .nil) .nil) (.cons (.ret (.call "rational" (.cons (.bin .Add (.bin .Mult (.idx (.var 0) (.int 0)) (.idx (.var 1) (.int 1))) (.bin .Mult (.idx (.var 1) (.int 0)) (.idx (.var 0) (.int 1)))) (.cons (.bin .Mult (.idx (.var 0) (.int 1)) (.idx (.var 1) (.int 1))) .nil)))) .nil))⟩
def F_rsub : Fn := ⟨2, 2,
  (.cons (.ifs (.and (.cmp .Eq (.idx (.var 0) (.int 1)) (.int 1)) (.one (.cmp .Eq (.idx (.var 1) (.int 1)) (.int 1)))) (.cons (.ret (.tup (.cons (.bin .Sub (.idx (.var 0) (.int 0)) (.idx (.var 1) (.int 0))) (.cons (.int 1) .nil)))) .nil) .nil) (.cons (.ret (.call "rational" (.cons (.bin .Sub (.bin .Mult (.idx (.var 0) (.int 0)) (.idx (.var 1) (.int 1))) (.bin .Mult (.idx (.var 1) (.int 0)) (.idx (.var 0) (.int 1)))) (.cons (.bin .Mult (.idx (.var 0) (.int 1)) (.idx (.var 1) (.int 1))) .nil)))) .nil))⟩
def F_rmul : Fn := ⟨2, 2,
  (.cons (.ifs (.and (.cmp .Eq (.idx (.var 0) (.int 1)) (.int 1)) (.one (.cmp .Eq (.idx (.var 1) (.int 1)) (.int 1)))) (.cons (.ret (.tup (.cons (.bin .Mult (.idx (.var 0) (.int 0)) (.idx (.var 1) (.int 0))) (.cons (.int 1) .nil)))) .nil) .nil) (.cons (.ret (.call "rational" (.cons (.bin .Mult (.idx (.var 0) (.int 0)) (.idx (.var 1) (.int 0))) (.cons (.bin .Mult (.idx (.var 0) (.int 1)) (.idx (.var 1) (.int 1))) .nil)))) .nil))⟩
def F_rneg : Fn := ⟨1, 1,
  (.cons (.ret (.tup (.cons (.neg (.idx (.var 0) (.int 0))) (.cons (.idx (.var 0) (.int 1)) .nil)))) .nil)⟩
def F_rinv : Fn := ⟨1, 1,
  (.cons (.ret (.call "rational" (.cons (.idx (.var 0) (.int 1)) (.cons (.idx (.var 0) (.int 0)) .nil)))) .nil)⟩
def F_rdiv : Fn := ⟨2, 2,
  (.cons (.ret (.call "rational" (.cons (.bin .Mult (.idx (.var 0) (.int 0)) (.idx (.var 1) (.int 1))) (.cons (.bin .Mult (.idx (.var 0) (.int 1)) (.idx (.var 1) (.int 0))) .nil)))) .nil)⟩
def F_rpow : Fn := ⟨2, 3,
  (.cons (.ifs (.cmp .Lt (.var 1) (.int 0)) (.cons (.ret (.call "rpow" (.cons (.call "rinv" (.cons (.var 0) .nil)) (.cons (.neg (.var 1)) .nil)))) .nil) .nil) (.cons (.set 2 (.glo "ONE")) (.cons (.whl (.cmp .Gt (.var 1) (.int 0)) (.cons (.ifs (.cmp .Eq (.bin .Mod (.var 1) (.int 2)) (.int 1)) (.cons (.set 2 (.call "rmul" (.cons (.var 2) (.cons (.var 0) .nil)))) .nil) .nil) (.cons (.set 0 (.call "rmul" (.cons (.var 0) (.cons (.var 0) .nil)))) (.cons (.set 1 (.bin .FloorDiv (.var 1) (.int 2))) .nil)))) (.cons (.ret (.var 2)) .nil))))⟩
def F_rsign : Fn := ⟨1, 1,
  (.cons (.ifs (.cmp .Eq (.idx (.var 0) (.int 0)) (.int 0)) (.cons (.ret (.int 0)) .nil) .nil) (.cons (.ret (.ifx (.cmp .Gt (.idx (.var 0) (.int 0)) (.int 0)) (.int 1) (.neg (.int 1)))) .nil))⟩
def F_rcompare : Fn := ⟨2, 4,
  (.cons (.set 2 (.bin .Mult (.idx (.var 0) (.int 0)) (.idx (.var 1) (.int 1)))) (.cons (.set 3 (.bin .Mult (.idx (.var 1) (.int 0)) (.idx (.var 0) (.int 1)))) (.cons (.ifs (.cmp .Eq (.var 2) (.var 3)) (.cons (.ret (.int 0)) .nil) .nil) (.cons (.ret (.ifx (.cmp .Gt (.var 2) (.var 3)) (.int 1) (.neg (.int 1)))) .nil))))⟩
def F_rfloor : Fn := ⟨1, 1,
  (.cons (.ret (.bin .FloorDiv (.idx (.var 0) (.int 0)) (.idx (.var 0) (.int 1)))) .nil)⟩
def F_rwhole : Fn := ⟨1, 1,
  (.cons (.ret (.cmp .Eq (.idx (.var 0) (.int 1)) (.int 1))) .nil)⟩
/-- a rational as the program has it -/
def QD (q : Rat) : D := .tup [.int q.num, .int q.den]
/-! sizes -/
def Bt (z : Int) (n : Nat) : Prop := z.natAbs < 2 ^ n
structure QB (q : Rat) (n : Nat) : Prop where
  num : Bt q.num n
  den : Bt q.den n
theorem Bt.le {z : Int} {m n : Nat} (h : Bt z m) (l : m ≤ n) : Bt z n := Nat.lt_of_lt_of_le h (Nat.pow_le_pow_right (by decide) l)
theorem Bt.bits {z : Int} {m : Nat} (h : Bt z m) : Builtin.Int.intBits z ≤ m := intBits_le h
theorem Bt.of_bits {z : Int} {m : Nat} (h : Builtin.Int.intBits z ≤ m) : Bt z m := by
  unfold Builtin.Int.intBits at h
  unfold Bt
  by_cases hz : z = 0
  · subst hz
    exact Nat.two_pow_pos m
  · rw [if_neg (by simpa using hz)] at h
    exact Nat.lt_of_lt_of_le Nat.lt_log2_self (Nat.pow_le_pow_right (by decide) h)
theorem Bt.mulOk {a b : Int} {m n : Nat} (ha : Bt a m) (hb : Bt b n) (h : m + n ≤ 134217728) : IntMulOk a b := mulOk_of_bits ha.bits hb.bits h
theorem Bt.mul {a b : Int} {m n : Nat} (ha : Bt a m) (hb : Bt b n) : Bt (a * b) (m + n) := by
  unfold Bt at *
  rw [Int.natAbs_mul, Nat.pow_add]
  exact Nat.mul_lt_mul'' ha hb
theorem Bt.add {a b : Int} {n : Nat} (ha : Bt a n) (hb : Bt b n) : Bt (a + b) (n + 1) := by
  unfold Bt at *
  rw [Nat.pow_succ]
  omega
theorem Bt.sub {a b : Int} {n : Nat} (ha : Bt a n) (hb : Bt b n) : Bt (a - b) (n + 1) := by
  unfold Bt at *
  rw [Nat.pow_succ]
  omega
theorem Bt.neg {a : Int} {n : Nat} (ha : Bt a n) : Bt (-a) n := by
  unfold Bt at *
  omega
theorem Bt.nat {a : Nat} {n : Nat} (ha : a < 2 ^ n) : Bt (a : Int) n := by
  unfold Bt
  omega
theorem floor_is (n : Int) {d : Int} (hd : 0 < d) : n.fdiv d * d ≤ n ∧ n < (n.fdiv d + 1) * d ∧ (n.fdiv d).natAbs ≤ n.natAbs := by
  rw [Int.fdiv_eq_ediv_of_nonneg _ (Int.le_of_lt hd)]
  have h3 := Int.lt_ediv_add_one_mul_self n hd
  have h4 := Int.ediv_mul_le n (Int.ne_of_gt hd)
  refine ⟨h4, h3, ?_⟩
  generalize n / d = q at h3 h4
  by_cases hq : 0 ≤ q
  · have := Int.mul_le_mul_of_nonneg_left (show (1 : Int) ≤ d by omega) hq
    rw [Int.mul_one] at this
    omega
  · have := Int.mul_le_mul_of_nonpos_left (show q + 1 ≤ 0 by omega) (show (1 : Int) ≤ d by omega)
    rw [Int.mul_one] at this
    omega
theorem Bt.le_abs {a b : Int} {n : Nat} (h : Bt b n) (l : a.natAbs ≤ b.natAbs) : Bt a n := Nat.lt_of_le_of_lt l h
/-! n / d in lowest terms -/
theorem divInt_pos {n d : Int} (hd : 0 < d) : (Rat.divInt n d).num = n / (Nat.gcd n.natAbs d.natAbs : Nat) ∧ ((Rat.divInt n d).den : Int) = d / (Nat.gcd n.natAbs d.natAbs : Nat) := by
  obtain ⟨m, rfl⟩ := Int.eq_ofNat_of_zero_le (Int.le_of_lt hd)
  have hm : m ≠ 0 := by omega
  have e : Rat.divInt n (m : Int) = Rat.normalize n m hm := by
    rw [Rat.divInt_ofNat, Rat.normalize_eq_mkRat]
  rw [e, Rat.normalize_eq]
  exact ⟨rfl, by simp⟩
theorem divInt_flip (n d : Int) : Rat.divInt n d = Rat.divInt (-n) (-d) := (Rat.neg_divInt_neg n d).symm
theorem ratio {n d : Int} (hd : d ≠ 0) (g : Int) (hg : g = if d < 0 then -((Nat.gcd n.natAbs d.natAbs : Nat) : Int) else ((Nat.gcd n.natAbs d.natAbs : Nat) : Int)) :
    g ≠ 0 ∧ n.fdiv g = (Rat.divInt n d).num ∧ d.fdiv g = ((Rat.divInt n d).den : Int) := by
  have g0 : Nat.gcd n.natAbs d.natAbs ≠ 0 := by
    intro h
    have := (Nat.gcd_eq_zero_iff.mp h).2
    omega
  have gn : ((Nat.gcd n.natAbs d.natAbs : Nat) : Int) ∣ n := Int.ofNat_dvd_left.mpr (Nat.gcd_dvd_left _ _)
  have gd : ((Nat.gcd n.natAbs d.natAbs : Nat) : Int) ∣ d := Int.ofNat_dvd_left.mpr (Nat.gcd_dvd_right _ _)
  by_cases h : d < 0
  · rw [if_pos h] at hg
    subst hg
    have p := divInt_pos (n := -n) (d := -d) (by omega)
    rw [← divInt_flip, Int.natAbs_neg, Int.natAbs_neg] at p
    refine ⟨by omega, ?_, ?_⟩
    · rw [p.1, Int.fdiv_eq_ediv_of_dvd (Int.neg_dvd.mpr gn), Int.ediv_neg, Int.neg_ediv_of_dvd gn]
    · rw [p.2, Int.fdiv_eq_ediv_of_dvd (Int.neg_dvd.mpr gd), Int.ediv_neg, Int.neg_ediv_of_dvd gd]
  · rw [if_neg h] at hg
    subst hg
    have p := divInt_pos (n := n) (d := d) (by omega)
    refine ⟨by omega, ?_, ?_⟩
    · rw [p.1, Int.fdiv_eq_ediv_of_dvd gn]
    · rw [p.2, Int.fdiv_eq_ediv_of_dvd gd]
theorem divInt_le {n d : Int} (hd : d ≠ 0) : (Rat.divInt n d).num.natAbs ≤ n.natAbs ∧ (Rat.divInt n d).den ≤ d.natAbs := by
  have key : ∀ n d : Int, 0 < d → (Rat.divInt n d).num.natAbs ≤ n.natAbs ∧ (Rat.divInt n d).den ≤ d.natAbs := by
    intro n d hd
    have p := divInt_pos (n := n) hd
    constructor
    · rw [p.1, Int.natAbs_ediv_of_dvd (Int.ofNat_dvd_left.mpr (Nat.gcd_dvd_left _ _))]
      exact Nat.div_le_self _ _
    · have : ((Rat.divInt n d).den : Int).natAbs ≤ d.natAbs := by
        rw [p.2, Int.natAbs_ediv_of_dvd (Int.ofNat_dvd_left.mpr (Nat.gcd_dvd_right _ _))]
        exact Nat.div_le_self _ _
      simpa using this
  by_cases h : 0 < d
  · exact key n d h
  · have := key (-n) (-d) (by omega)
    rwa [← divInt_flip, Int.natAbs_neg, Int.natAbs_neg] at this
theorem QB.of {n d : Int} {k : Nat} (hn : Bt n k) (hd : Bt d k) (h0 : d ≠ 0) : QB (Rat.divInt n d) k := by
  have p := divInt_le (n := n) h0
  unfold Bt at hn hd
  refine ⟨?_, ?_⟩
  · unfold Bt
    omega
  · unfold Bt
    omega
theorem QB.le {q : Rat} {m n : Nat} (h : QB q m) (l : m ≤ n) : QB q n := ⟨h.num.le l, h.den.le l⟩
theorem den_pos (q : Rat) : (0 : Int) < q.den := by have := q.den_nz; omega
theorem add_is (a b : Rat) : Rat.divInt (a.num * b.den + b.num * a.den) (a.den * b.den) = a + b := by
  have ha := den_pos a
  have hb := den_pos b
  rw [← Rat.divInt_add_divInt _ _ (by omega) (by omega), Rat.num_divInt_den, Rat.num_divInt_den]
theorem sub_is (a b : Rat) : Rat.divInt (a.num * b.den - b.num * a.den) (a.den * b.den) = a - b := by
  have ha := den_pos a
  have hb := den_pos b
  rw [← Rat.divInt_sub_divInt _ _ (by omega) (by omega), Rat.num_divInt_den, Rat.num_divInt_den]
theorem mul_is (a b : Rat) : Rat.divInt (a.num * b.num) (a.den * b.den) = a * b := by
  rw [← Rat.divInt_mul_divInt, Rat.num_divInt_den, Rat.num_divInt_den]
theorem inv_is (a : Rat) : Rat.divInt a.den a.num = a⁻¹ := by
  conv => rhs; rw [← Rat.num_divInt_den a]
  rw [Rat.inv_divInt]
theorem div_is (a b : Rat) : Rat.divInt (a.num * b.den) (a.den * b.num) = a / b := by
  rw [← Rat.divInt_mul_divInt, Rat.num_divInt_den, inv_is, Rat.div_def]
theorem QB.add {a b : Rat} {m n k : Nat} (ha : QB a m) (hb : QB b n) (hk : m + n + 1 ≤ k) : QB (a + b) k := by
  rw [← add_is]
  have h1 := den_pos a
  have h2 := den_pos b
  refine QB.of ?_ ((ha.den.mul hb.den).le (by omega)) (Int.ne_of_gt (Int.mul_pos h1 h2))
  exact (Bt.add ((ha.num.mul hb.den).le (Nat.le_refl (m + n))) ((hb.num.mul ha.den).le (by omega))).le hk
theorem QB.sub {a b : Rat} {m n k : Nat} (ha : QB a m) (hb : QB b n) (hk : m + n + 1 ≤ k) : QB (a - b) k := by
  rw [← sub_is]
  have h1 := den_pos a
  have h2 := den_pos b
  refine QB.of ?_ ((ha.den.mul hb.den).le (by omega)) (Int.ne_of_gt (Int.mul_pos h1 h2))
  exact (Bt.sub ((ha.num.mul hb.den).le (Nat.le_refl (m + n))) ((hb.num.mul ha.den).le (by omega))).le hk
theorem QB.mul {a b : Rat} {m n k : Nat} (ha : QB a m) (hb : QB b n) (hk : m + n ≤ k) : QB (a * b) k := by
  rw [← mul_is]
  have h1 := den_pos a
  have h2 := den_pos b
  exact QB.of ((ha.num.mul hb.num).le hk) ((ha.den.mul hb.den).le hk) (Int.ne_of_gt (Int.mul_pos h1 h2))
theorem QB.neg {a : Rat} {m : Nat} (ha : QB a m) : QB (-a) m := ⟨ha.num.neg, ha.den⟩
theorem QB.inv {a : Rat} {m : Nat} (ha : QB a m) (h0 : a.num ≠ 0) : QB a⁻¹ m := by
  rw [← inv_is]
  exact QB.of ha.den ha.num h0
theorem num_ne {a : Rat} (h : a ≠ 0) : a.num ≠ 0 := fun z => h (Rat.num_eq_zero.mp z)
/-! whole numbers -/
theorem QD_int (m : Int) : QD (m : Rat) = .tup [.int m, .int 1] := rfl
theorem whole {a : Rat} (h : (a.den : Int) = 1) : a = (a.num : Rat) := Rat.ext rfl (by show a.den = 1; omega)
section
variable {G : Gl0} {T : Str → Option Fn} {k : Nat} {S : Sto} {Q : DK} {E : XS}
theorem idx_Q0 (q : Rat) : idxS (QD q) (.int 0) S Q = Q (.int q.num) S := by
  unfold QD
  rw [idx_t, atI0]
  rfl
theorem idx_Q1 (q : Rat) : idxS (QD q) (.int 1) S Q = Q (.int q.den) S := by
  unfold QD
  rw [idx_t, atI1]
  rfl
theorem eq_iff (a b : Rat) : (a.num = b.num ∧ (a.den : Int) = b.den) = (a = b) := propext ⟨fun h => Rat.ext h.1 (by have := h.2; omega), fun h => by subst h; exact ⟨rfl, rfl⟩⟩
theorem cQ_Eq {R : Bool → Prop} (a b : Rat) : cmpS .Eq (QD a) (QD b) S R = R (decide (a = b)) := by
  unfold QD
  rw [c2_Eq]
  simp only [eq_iff]
theorem cQ_NotEq {R : Bool → Prop} (a b : Rat) : cmpS .NotEq (QD a) (QD b) S R = R (!decide (a = b)) := cQ_Eq a b (R := fun k => R (!k))
theorem atI_Q (qs : List Rat) {i : Nat} (h : i < qs.length) : atI (qs.map QD) ((0 : Int) + (i : Nat)) = some (QD (qs.getD i 0)) := by
  rw [Int.zero_add]
  refine atI_nat ?_
  rw [List.getElem?_map, List.getElem?_eq_getElem h, List.getD_eq_getElem?_getD, List.getElem?_eq_getElem h]
  rfl
theorem atI_Qz (qs : List Rat) {z : Int} {i : Nat} (hz : z = i) (h : i < qs.length) : atI (qs.map QD) z = some (QD (qs.getD i 0)) := by
  subst hz
  have := atI_Q qs h
  rwa [Int.zero_add] at this
theorem getD_Q (qs : List Rat) {i : Nat} (h : i < qs.length) : (qs.map QD).getD i .non = QD (qs.getD i 0) := by
  rw [List.getD_eq_getElem?_getD, List.getElem?_map, List.getElem?_eq_getElem h, List.getD_eq_getElem?_getD, List.getElem?_eq_getElem h]
  rfl
theorem pures_Q : ∀ qs : List Rat, pures (qs.map QD) = true
  | [] => rfl
  | q :: r => by
    rw [List.map_cons, pures, pures_Q r]
    rfl
theorem lay_Q : ∀ qs : List Rat, PyData.canLayAll0 (pds (qs.map QD)) = true
  | [] => by
    rw [List.map_nil, pds, PyData.canLayAll0]
  | q :: r => by
    rw [List.map_cons, pds, PyData.canLayAll0, lay_Q r]
    simp [QD, pd, pds, PyData.canLay0, PyData.canLayAll0]
theorem depth_Q : ∀ qs : List Rat, PyData.depthAll (pds (qs.map QD)) ≤ 1
  | [] => by
    rw [List.map_nil, pds, PyData.depthAll]
    decide
  | q :: r => by
    rw [List.map_cons, pds, PyData.depthAll]
    have := depth_Q r
    have e : PyData.depth (pd (QD q)) = 1 := by simp [QD, pd, pds, PyData.depth, PyData.depthAll]
    omega
theorem eqv_Q (q : Rat) : PyData.eqv (pd (QD q)) (pd (QD q)) = true := by simp [QD, pd, pds, PyData.eqv, PyData.eqvAll]
theorem eqvs_Q : ∀ qs : List Rat, PyData.eqvAll (pds (qs.map QD)) (pds (qs.map QD)) = true
  | [] => by rw [List.map_nil, pds, PyData.eqvAll]
  | q :: r => by rw [List.map_cons, pds, PyData.eqvAll, eqv_Q, eqvs_Q r]; rfl
theorem teq {R : Bool → Prop} (qs : List Rat) : cmpS .Eq (.tup (qs.map QD)) (.tup (qs.map QD)) S R = R true := by
  have p : pure_ (.tup (qs.map QD)) = true := by rw [pure_]; exact pures_Q qs
  have sh : SeqAt.shaped (pd (.tup (qs.map QD))) = true := by
    rw [pd]
    unfold SeqAt.shaped
    rw [Bool.and_eq_true]
    refine ⟨by rw [PyData.canLay0]; exact lay_Q qs, decide_eq_true ?_⟩
    rw [PyData.depth]
    have := depth_Q qs
    omega
  show eqG _ _ S R = _
  rw [eqG_pure p p sh sh, pd, PyData.eqv, eqvs_Q]
theorem rational_ok (hT : T "rational" = some F_rational) (hp : G.PY) {n d : Int} (hd : d ≠ 0) (h : Q (QD (Rat.divInt n d)) S) : semF G T (k + 1) "rational" [.int n, .int d] S Q E := by
  refine call_of hT rfl ?_
  simp -dsimp -implicitDefEqProofs only [ent, List.map_cons, List.map_nil, List.length_cons, List.length_nil, Nat.reduceAdd, Nat.reduceSub, Nat.zero_add, List.replicate, List.cons_append, List.nil_append, F_rational]
  simp -dsimp -implicitDefEqProofs only [↓cov3, ↓cov2, ↓cov1, ↓E_var, ↓E_int, ↓E_bl, ↓E_non, ↓E_str, ↓E_glo, ↓E_tup, ↓E_lst, ↓E_bin, ↓E_neg, ↓E_cmp, ↓E_chn, ↓E_and, ↓E_or, ↓E_one, ↓E_not, ↓E_ifx, ↓E_idx, ↓E_slc, ↓E_call, ↓E_bi, ↓E_isi, ↓E_mth, ↓E_lc, ↓E_fld, ↓E_mcl, ↓E_mk, ↓Es_nil, ↓Es_cons, ↓O_no, ↓O_some, ↓Q_no, ↓Q_c, ↓C_and, ↓C_or, ↓C_one, ↓C_not, ↓C_cmp, ↓C_chn, ↓C_v, ↓I_seq, ↓I_rng1, ↓I_rng2, ↓I_rng3, ↓I_enu, ↓I_zip, ↓I_rev, ↓S_set, ↓S_asg, ↓S_par2, ↓S_sub, ↓S_expr, ↓S_ret, ↓S_retN, ↓S_ifs, ↓S_for, ↓S_brk, ↓S_cnt, ↓S_pass, ↓S_raise, ↓S_try, ↓S_tryas, ↓E_isx, ↓E_isxs, kW_nx, kW_rt, kW_bk, kW_ct, kW_ex, gx_sub, gx_cs, gx_PY, ↓S_never, ↓S_setf, ex_t, ex_f, ↓S_nil, ↓S_cons, ↓kN_nx, ↓kN_rt, ↓kN_bk, ↓kN_ct, ↓kN_ex, ↓kL_nx, ↓kL_rt, ↓kL_bk, ↓kL_ct, ↓kL_ex, ↓kX_nx, ↓kX_rt, ↓kX_bk, ↓kX_ct, ↓kX_ex, ↓kend_nx, ↓kend_rt, ↓kend_bk, ↓kend_ct, ↓kend_ex, vr_some, gt_0, gt_s, stn_0, stn_s, wip_0, wip_s, wips_0, wips_s, neg_i, isi_s, o_i, tru_non, tru_bl, tru_int, tru_tup, tru_rol, c_Eq, c_NotEq, c_Lt, c_LtE, c_Gt, c_GtE, cs_Eq, cs_NotEq, cb_Eq, cb_NotEq, c2_Eq, c2_NotEq, is_non, isnot_non, is_bl, isnot_bl, is_int, isnot_int, is_str, isnot_str, is_tup, isnot_tup, is_rol, isnot_rol, is_ref, isnot_ref, is_b, isnot_b, in_s, notin_s, b_add, b_sub, b_mul, b_fdiv, b_mod, b_pow, b_addt, b_adds, atI0, atI1, atI2, atI3, slc_t, slc_r, len_s, abs_i, int_i, int_b, min_i, max_i, lcm_i, gcd_i, seq_t, seq_r, r1_i, r2_i, r3_i, a_nm, a_nil, a_cons, vrl_some, vrn_some, put_lget, Option.isSome_some, tru_ref, b_addl, idx_t, idx_r, idx_l, slc_l, len_t, len_r, len_l, tuple_t, tuple_r, tuple_l, list_t, list_r, list_l, app_l, rev_l, pop_l, popat_l, mT_l, seq_l, enu_l, enu_t, fld_i, mcl_i, setf_i, vri_some, vrk_some, mk_0, mk_1, b_mull, zip_l, rev_i, rev_t, in_t, notin_t, fl_s, fl_i, fl_b, fl_n, inL_nil, inL_ss, inL_ii, List.all_cons, List.all_nil, Bool.and_self, Bool.and_true, Bool.true_and, zip_t, zip_m, a_t, a_l, sub_l, isTs, isT, Option.map_some, List.length_cons, List.length_nil, List.lookup_nil, Nat.reduceAdd, Nat.reduceSub, Nat.reduceLT, Nat.zero_add, Bool.false_eq_true, Bool.true_eq_false, if_false, if_true, decide_eq_true_eq, Bool.not_true, Bool.not_false, ite_true, ite_false, reduceIte, Bool.not_eq_true', decide_eq_false_iff_not, Int.cast_ofNat_Int, Int.reduceEq, Int.reduceLT, Int.reduceLE, Int.reduceNeg, Int.reduceAdd, Int.reduceSub, Int.reduceMul, Int.reduceToNat, decide_true, decide_false, not_true, not_false, not_true_eq_false, not_false_eq_true, true_and, and_true, eq_self, reduceCtorEq, List.isEmpty_nil, List.isEmpty_cons, List.nil_append, List.cons_append, hd]
  have key : ∀ g : Int, (g = if d < 0 then -((Nat.gcd n.natAbs d.natAbs : Nat) : Int) else ((Nat.gcd n.natAbs d.natAbs : Nat) : Int)) → FdOk G.PY n g ∧ FdOk G.PY d g ∧ Q (.tup [.int (n.fdiv g), .int (d.fdiv g)]) S := by
    intro g hg
    obtain ⟨g0, e1, e2⟩ := ratio hd g hg
    refine ⟨⟨g0, .inr hp⟩, ⟨g0, .inr hp⟩, ?_⟩
    rw [e1, e2]
    exact h
  refine ite2 (fun hn => ?_) fun hn => ?_
  · exact key _ (by rw [if_pos hn])
  · exact key _ (by rw [if_neg hn])
theorem rational_zero (hT : T "rational" = some F_rational) {n : Int} (h : E ⟨"ZeroDivisor", []⟩ S) : semF G T (k + 1) "rational" [.int n, .int 0] S Q E := by
  refine call_of hT rfl ?_
  simp -dsimp -implicitDefEqProofs only [ent, List.map_cons, List.map_nil, List.length_cons, List.length_nil, Nat.reduceAdd, Nat.reduceSub, Nat.zero_add, List.replicate, List.cons_append, List.nil_append, F_rational]
  simp -dsimp -implicitDefEqProofs only [↓cov3, ↓cov2, ↓cov1, ↓E_var, ↓E_int, ↓E_bl, ↓E_non, ↓E_str, ↓E_glo, ↓E_tup, ↓E_lst, ↓E_bin, ↓E_neg, ↓E_cmp, ↓E_chn, ↓E_and, ↓E_or, ↓E_one, ↓E_not, ↓E_ifx, ↓E_idx, ↓E_slc, ↓E_call, ↓E_bi, ↓E_isi, ↓E_mth, ↓E_lc, ↓E_fld, ↓E_mcl, ↓E_mk, ↓Es_nil, ↓Es_cons, ↓O_no, ↓O_some, ↓Q_no, ↓Q_c, ↓C_and, ↓C_or, ↓C_one, ↓C_not, ↓C_cmp, ↓C_chn, ↓C_v, ↓I_seq, ↓I_rng1, ↓I_rng2, ↓I_rng3, ↓I_enu, ↓I_zip, ↓I_rev, ↓S_set, ↓S_asg, ↓S_par2, ↓S_sub, ↓S_expr, ↓S_ret, ↓S_retN, ↓S_ifs, ↓S_for, ↓S_brk, ↓S_cnt, ↓S_pass, ↓S_raise, ↓S_try, ↓S_tryas, ↓E_isx, ↓E_isxs, kW_nx, kW_rt, kW_bk, kW_ct, kW_ex, gx_sub, gx_cs, gx_PY, ↓S_never, ↓S_setf, ex_t, ex_f, ↓S_nil, ↓S_cons, ↓kN_nx, ↓kN_rt, ↓kN_bk, ↓kN_ct, ↓kN_ex, ↓kL_nx, ↓kL_rt, ↓kL_bk, ↓kL_ct, ↓kL_ex, ↓kX_nx, ↓kX_rt, ↓kX_bk, ↓kX_ct, ↓kX_ex, ↓kend_nx, ↓kend_rt, ↓kend_bk, ↓kend_ct, ↓kend_ex, vr_some, gt_0, gt_s, stn_0, stn_s, wip_0, wip_s, wips_0, wips_s, neg_i, isi_s, o_i, tru_non, tru_bl, tru_int, tru_tup, tru_rol, c_Eq, c_NotEq, c_Lt, c_LtE, c_Gt, c_GtE, cs_Eq, cs_NotEq, cb_Eq, cb_NotEq, c2_Eq, c2_NotEq, is_non, isnot_non, is_bl, isnot_bl, is_int, isnot_int, is_str, isnot_str, is_tup, isnot_tup, is_rol, isnot_rol, is_ref, isnot_ref, is_b, isnot_b, in_s, notin_s, b_add, b_sub, b_mul, b_fdiv, b_mod, b_pow, b_addt, b_adds, atI0, atI1, atI2, atI3, slc_t, slc_r, len_s, abs_i, int_i, int_b, min_i, max_i, lcm_i, gcd_i, seq_t, seq_r, r1_i, r2_i, r3_i, a_nm, a_nil, a_cons, vrl_some, vrn_some, put_lget, Option.isSome_some, tru_ref, b_addl, idx_t, idx_r, idx_l, slc_l, len_t, len_r, len_l, tuple_t, tuple_r, tuple_l, list_t, list_r, list_l, app_l, rev_l, pop_l, popat_l, mT_l, seq_l, enu_l, enu_t, fld_i, mcl_i, setf_i, vri_some, vrk_some, mk_0, mk_1, b_mull, zip_l, rev_i, rev_t, in_t, notin_t, fl_s, fl_i, fl_b, fl_n, inL_nil, inL_ss, inL_ii, List.all_cons, List.all_nil, Bool.and_self, Bool.and_true, Bool.true_and, zip_t, zip_m, a_t, a_l, sub_l, isTs, isT, Option.map_some, List.length_cons, List.length_nil, List.lookup_nil, Nat.reduceAdd, Nat.reduceSub, Nat.reduceLT, Nat.zero_add, Bool.false_eq_true, Bool.true_eq_false, if_false, if_true, decide_eq_true_eq, Bool.not_true, Bool.not_false, ite_true, ite_false, reduceIte, Bool.not_eq_true', decide_eq_false_iff_not, Int.cast_ofNat_Int, Int.reduceEq, Int.reduceLT, Int.reduceLE, Int.reduceNeg, Int.reduceAdd, Int.reduceSub, Int.reduceMul, Int.reduceToNat, decide_true, decide_false, not_true, not_false, not_true_eq_false, not_false_eq_true, true_and, and_true, eq_self, reduceCtorEq, List.isEmpty_nil, List.isEmpty_cons, List.nil_append, List.cons_append]
  exact ⟨by decide, h⟩
theorem radd_ok (hT : T "radd" = some F_radd) (hR : T "rational" = some F_rational) (hp : G.PY) {a b : Rat} {m n : Nat} (ha : QB a m) (hb : QB b n) (hmn : m + n ≤ 134217728) (h : Q (QD (a + b)) S) : semF G T (k + 2) "radd" [QD a, QD b] S Q E := by
  refine call_of hT rfl ?_
  simp -dsimp -implicitDefEqProofs only [ent, List.map_cons, List.map_nil, List.length_cons, List.length_nil, Nat.reduceAdd, Nat.reduceSub, Nat.zero_add, List.replicate, List.cons_append, List.nil_append, F_radd, QD]
  simp -dsimp -implicitDefEqProofs only [↓cov3, ↓cov2, ↓cov1, ↓E_var, ↓E_int, ↓E_bl, ↓E_non, ↓E_str, ↓E_glo, ↓E_tup, ↓E_lst, ↓E_bin, ↓E_neg, ↓E_cmp, ↓E_chn, ↓E_and, ↓E_or, ↓E_one, ↓E_not, ↓E_ifx, ↓E_idx, ↓E_slc, ↓E_call, ↓E_bi, ↓E_isi, ↓E_mth, ↓E_lc, ↓E_fld, ↓E_mcl, ↓E_mk, ↓Es_nil, ↓Es_cons, ↓O_no, ↓O_some, ↓Q_no, ↓Q_c, ↓C_and, ↓C_or, ↓C_one, ↓C_not, ↓C_cmp, ↓C_chn, ↓C_v, ↓I_seq, ↓I_rng1, ↓I_rng2, ↓I_rng3, ↓I_enu, ↓I_zip, ↓I_rev, ↓S_set, ↓S_asg, ↓S_par2, ↓S_sub, ↓S_expr, ↓S_ret, ↓S_retN, ↓S_ifs, ↓S_for, ↓S_brk, ↓S_cnt, ↓S_pass, ↓S_raise, ↓S_try, ↓S_tryas, ↓E_isx, ↓E_isxs, kW_nx, kW_rt, kW_bk, kW_ct, kW_ex, gx_sub, gx_cs, gx_PY, ↓S_never, ↓S_setf, ex_t, ex_f, ↓S_nil, ↓S_cons, ↓kN_nx, ↓kN_rt, ↓kN_bk, ↓kN_ct, ↓kN_ex, ↓kL_nx, ↓kL_rt, ↓kL_bk, ↓kL_ct, ↓kL_ex, ↓kX_nx, ↓kX_rt, ↓kX_bk, ↓kX_ct, ↓kX_ex, ↓kend_nx, ↓kend_rt, ↓kend_bk, ↓kend_ct, ↓kend_ex, vr_some, gt_0, gt_s, stn_0, stn_s, wip_0, wip_s, wips_0, wips_s, neg_i, isi_s, o_i, tru_non, tru_bl, tru_int, tru_tup, tru_rol, c_Eq, c_NotEq, c_Lt, c_LtE, c_Gt, c_GtE, cs_Eq, cs_NotEq, cb_Eq, cb_NotEq, c2_Eq, c2_NotEq, is_non, isnot_non, is_bl, isnot_bl, is_int, isnot_int, is_str, isnot_str, is_tup, isnot_tup, is_rol, isnot_rol, is_ref, isnot_ref, is_b, isnot_b, in_s, notin_s, b_add, b_sub, b_mul, b_fdiv, b_mod, b_pow, b_addt, b_adds, atI0, atI1, atI2, atI3, slc_t, slc_r, len_s, abs_i, int_i, int_b, min_i, max_i, lcm_i, gcd_i, seq_t, seq_r, r1_i, r2_i, r3_i, a_nm, a_nil, a_cons, vrl_some, vrn_some, put_lget, Option.isSome_some, tru_ref, b_addl, idx_t, idx_r, idx_l, slc_l, len_t, len_r, len_l, tuple_t, tuple_r, tuple_l, list_t, list_r, list_l, app_l, rev_l, pop_l, popat_l, mT_l, seq_l, enu_l, enu_t, fld_i, mcl_i, setf_i, vri_some, vrk_some, mk_0, mk_1, b_mull, zip_l, rev_i, rev_t, in_t, notin_t, fl_s, fl_i, fl_b, fl_n, inL_nil, inL_ss, inL_ii, List.all_cons, List.all_nil, Bool.and_self, Bool.and_true, Bool.true_and, zip_t, zip_m, a_t, a_l, sub_l, isTs, isT, Option.map_some, List.length_cons, List.length_nil, List.lookup_nil, Nat.reduceAdd, Nat.reduceSub, Nat.reduceLT, Nat.zero_add, Bool.false_eq_true, Bool.true_eq_false, if_false, if_true, decide_eq_true_eq, Bool.not_true, Bool.not_false, ite_true, ite_false, reduceIte, Bool.not_eq_true', decide_eq_false_iff_not, Int.cast_ofNat_Int, Int.reduceEq, Int.reduceLT, Int.reduceLE, Int.reduceNeg, Int.reduceAdd, Int.reduceSub, Int.reduceMul, Int.reduceToNat, decide_true, decide_false, not_true, not_false, not_true_eq_false, not_false_eq_true, true_and, and_true, eq_self, reduceCtorEq, List.isEmpty_nil, List.isEmpty_cons, List.nil_append, List.cons_append]
  have rest : semF G T (k + 1) "rational" [.int (a.num * b.den + b.num * a.den), .int (a.den * b.den)] S Q E := by
    refine rational_ok hR hp (Int.ne_of_gt (Int.mul_pos (den_pos a) (den_pos b))) ?_
    rw [add_is]
    exact h
  refine ite2 (fun h1 => ite2 (fun h2 => ?_) fun h2 => ?_) fun h1 => ?_
  · have e : a + b = ((a.num + b.num : Int) : Rat) := by
      rw [Rat.intCast_add, ← whole h1, ← whole h2]
    rw [e, QD_int] at h
    exact h
  all_goals exact ⟨ha.num.mulOk hb.den hmn, hb.num.mulOk ha.den (by omega), ha.den.mulOk hb.den hmn, rest⟩
theorem rsub_ok (hT : T "rsub" = some F_rsub) (hR : T "rational" = some F_rational) (hp : G.PY) {a b : Rat} {m n : Nat} (ha : QB a m) (hb : QB b n) (hmn : m + n ≤ 134217728) (h : Q (QD (a - b)) S) : semF G T (k + 2) "rsub" [QD a, QD b] S Q E := by
  refine call_of hT rfl ?_
  simp -dsimp -implicitDefEqProofs only [ent, List.map_cons, List.map_nil, List.length_cons, List.length_nil, Nat.reduceAdd, Nat.reduceSub, Nat.zero_add, List.replicate, List.cons_append, List.nil_append, F_rsub, QD]
  simp -dsimp -implicitDefEqProofs only [↓cov3, ↓cov2, ↓cov1, ↓E_var, ↓E_int, ↓E_bl, ↓E_non, ↓E_str, ↓E_glo, ↓E_tup, ↓E_lst, ↓E_bin, ↓E_neg, ↓E_cmp, ↓E_chn, ↓E_and, ↓E_or, ↓E_one, ↓E_not, ↓E_ifx, ↓E_idx, ↓E_slc, ↓E_call, ↓E_bi, ↓E_isi, ↓E_mth, ↓E_lc, ↓E_fld, ↓E_mcl, ↓E_mk, ↓Es_nil, ↓Es_cons, ↓O_no, ↓O_some, ↓Q_no, ↓Q_c, ↓C_and, ↓C_or, ↓C_one, ↓C_not, ↓C_cmp, ↓C_chn, ↓C_v, ↓I_seq, ↓I_rng1, ↓I_rng2, ↓I_rng3, ↓I_enu, ↓I_zip, ↓I_rev, ↓S_set, ↓S_asg, ↓S_par2, ↓S_sub, ↓S_expr, ↓S_ret, ↓S_retN, ↓S_ifs, ↓S_for, ↓S_brk, ↓S_cnt, ↓S_pass, ↓S_raise, ↓S_try, ↓S_tryas, ↓E_isx, ↓E_isxs, kW_nx, kW_rt, kW_bk, kW_ct, kW_ex, gx_sub, gx_cs, gx_PY, ↓S_never, ↓S_setf, ex_t, ex_f, ↓S_nil, ↓S_cons, ↓kN_nx, ↓kN_rt, ↓kN_bk, ↓kN_ct, ↓kN_ex, ↓kL_nx, ↓kL_rt, ↓kL_bk, ↓kL_ct, ↓kL_ex, ↓kX_nx, ↓kX_rt, ↓kX_bk, ↓kX_ct, ↓kX_ex, ↓kend_nx, ↓kend_rt, ↓kend_bk, ↓kend_ct, ↓kend_ex, vr_some, gt_0, gt_s, stn_0, stn_s, wip_0, wip_s, wips_0, wips_s, neg_i, isi_s, o_i, tru_non, tru_bl, tru_int, tru_tup, tru_rol, c_Eq, c_NotEq, c_Lt, c_LtE, c_Gt, c_GtE, cs_Eq, cs_NotEq, cb_Eq, cb_NotEq, c2_Eq, c2_NotEq, is_non, isnot_non, is_bl, isnot_bl, is_int, isnot_int, is_str, isnot_str, is_tup, isnot_tup, is_rol, isnot_rol, is_ref, isnot_ref, is_b, isnot_b, in_s, notin_s, b_add, b_sub, b_mul, b_fdiv, b_mod, b_pow, b_addt, b_adds, atI0, atI1, atI2, atI3, slc_t, slc_r, len_s, abs_i, int_i, int_b, min_i, max_i, lcm_i, gcd_i, seq_t, seq_r, r1_i, r2_i, r3_i, a_nm, a_nil, a_cons, vrl_some, vrn_some, put_lget, Option.isSome_some, tru_ref, b_addl, idx_t, idx_r, idx_l, slc_l, len_t, len_r, len_l, tuple_t, tuple_r, tuple_l, list_t, list_r, list_l, app_l, rev_l, pop_l, popat_l, mT_l, seq_l, enu_l, enu_t, fld_i, mcl_i, setf_i, vri_some, vrk_some, mk_0, mk_1, b_mull, zip_l, rev_i, rev_t, in_t, notin_t, fl_s, fl_i, fl_b, fl_n, inL_nil, inL_ss, inL_ii, List.all_cons, List.all_nil, Bool.and_self, Bool.and_true, Bool.true_and, zip_t, zip_m, a_t, a_l, sub_l, isTs, isT, Option.map_some, List.length_cons, List.length_nil, List.lookup_nil, Nat.reduceAdd, Nat.reduceSub, Nat.reduceLT, Nat.zero_add, Bool.false_eq_true, Bool.true_eq_false, if_false, if_true, decide_eq_true_eq, Bool.not_true, Bool.not_false, ite_true, ite_false, reduceIte, Bool.not_eq_true', decide_eq_false_iff_not, Int.cast_ofNat_Int, Int.reduceEq, Int.reduceLT, Int.reduceLE, Int.reduceNeg, Int.reduceAdd, Int.reduceSub, Int.reduceMul, Int.reduceToNat, decide_true, decide_false, not_true, not_false, not_true_eq_false, not_false_eq_true, true_and, and_true, eq_self, reduceCtorEq, List.isEmpty_nil, List.isEmpty_cons, List.nil_append, List.cons_append]
  have rest : semF G T (k + 1) "rational" [.int (a.num * b.den - b.num * a.den), .int (a.den * b.den)] S Q E := by
    refine rational_ok hR hp (Int.ne_of_gt (Int.mul_pos (den_pos a) (den_pos b))) ?_
    rw [sub_is]
    exact h
  refine ite2 (fun h1 => ite2 (fun h2 => ?_) fun h2 => ?_) fun h1 => ?_
  · have e : a - b = ((a.num - b.num : Int) : Rat) := by
      rw [Rat.intCast_sub, ← whole h1, ← whole h2]
    rw [e, QD_int] at h
    exact h
  all_goals exact ⟨ha.num.mulOk hb.den hmn, hb.num.mulOk ha.den (by omega), ha.den.mulOk hb.den hmn, rest⟩
theorem rmul_ok (hT : T "rmul" = some F_rmul) (hR : T "rational" = some F_rational) (hp : G.PY) {a b : Rat} {m n : Nat} (ha : QB a m) (hb : QB b n) (hmn : m + n ≤ 134217728) (h : Q (QD (a * b)) S) : semF G T (k + 2) "rmul" [QD a, QD b] S Q E := by
  refine call_of hT rfl ?_
  simp -dsimp -implicitDefEqProofs only [ent, List.map_cons, List.map_nil, List.length_cons, List.length_nil, Nat.reduceAdd, Nat.reduceSub, Nat.zero_add, List.replicate, List.cons_append, List.nil_append, F_rmul, QD]
  simp -dsimp -implicitDefEqProofs only [↓cov3, ↓cov2, ↓cov1, ↓E_var, ↓E_int, ↓E_bl, ↓E_non, ↓E_str, ↓E_glo, ↓E_tup, ↓E_lst, ↓E_bin, ↓E_neg, ↓E_cmp, ↓E_chn, ↓E_and, ↓E_or, ↓E_one, ↓E_not, ↓E_ifx, ↓E_idx, ↓E_slc, ↓E_call, ↓E_bi, ↓E_isi, ↓E_mth, ↓E_lc, ↓E_fld, ↓E_mcl, ↓E_mk, ↓Es_nil, ↓Es_cons, ↓O_no, ↓O_some, ↓Q_no, ↓Q_c, ↓C_and, ↓C_or, ↓C_one, ↓C_not, ↓C_cmp, ↓C_chn, ↓C_v, ↓I_seq, ↓I_rng1, ↓I_rng2, ↓I_rng3, ↓I_enu, ↓I_zip, ↓I_rev, ↓S_set, ↓S_asg, ↓S_par2, ↓S_sub, ↓S_expr, ↓S_ret, ↓S_retN, ↓S_ifs, ↓S_for, ↓S_brk, ↓S_cnt, ↓S_pass, ↓S_raise, ↓S_try, ↓S_tryas, ↓E_isx, ↓E_isxs, kW_nx, kW_rt, kW_bk, kW_ct, kW_ex, gx_sub, gx_cs, gx_PY, ↓S_never, ↓S_setf, ex_t, ex_f, ↓S_nil, ↓S_cons, ↓kN_nx, ↓kN_rt, ↓kN_bk, ↓kN_ct, ↓kN_ex, ↓kL_nx, ↓kL_rt, ↓kL_bk, ↓kL_ct, ↓kL_ex, ↓kX_nx, ↓kX_rt, ↓kX_bk, ↓kX_ct, ↓kX_ex, ↓kend_nx, ↓kend_rt, ↓kend_bk, ↓kend_ct, ↓kend_ex, vr_some, gt_0, gt_s, stn_0, stn_s, wip_0, wip_s, wips_0, wips_s, neg_i, isi_s, o_i, tru_non, tru_bl, tru_int, tru_tup, tru_rol, c_Eq, c_NotEq, c_Lt, c_LtE, c_Gt, c_GtE, cs_Eq, cs_NotEq, cb_Eq, cb_NotEq, c2_Eq, c2_NotEq, is_non, isnot_non, is_bl, isnot_bl, is_int, isnot_int, is_str, isnot_str, is_tup, isnot_tup, is_rol, isnot_rol, is_ref, isnot_ref, is_b, isnot_b, in_s, notin_s, b_add, b_sub, b_mul, b_fdiv, b_mod, b_pow, b_addt, b_adds, atI0, atI1, atI2, atI3, slc_t, slc_r, len_s, abs_i, int_i, int_b, min_i, max_i, lcm_i, gcd_i, seq_t, seq_r, r1_i, r2_i, r3_i, a_nm, a_nil, a_cons, vrl_some, vrn_some, put_lget, Option.isSome_some, tru_ref, b_addl, idx_t, idx_r, idx_l, slc_l, len_t, len_r, len_l, tuple_t, tuple_r, tuple_l, list_t, list_r, list_l, app_l, rev_l, pop_l, popat_l, mT_l, seq_l, enu_l, enu_t, fld_i, mcl_i, setf_i, vri_some, vrk_some, mk_0, mk_1, b_mull, zip_l, rev_i, rev_t, in_t, notin_t, fl_s, fl_i, fl_b, fl_n, inL_nil, inL_ss, inL_ii, List.all_cons, List.all_nil, Bool.and_self, Bool.and_true, Bool.true_and, zip_t, zip_m, a_t, a_l, sub_l, isTs, isT, Option.map_some, List.length_cons, List.length_nil, List.lookup_nil, Nat.reduceAdd, Nat.reduceSub, Nat.reduceLT, Nat.zero_add, Bool.false_eq_true, Bool.true_eq_false, if_false, if_true, decide_eq_true_eq, Bool.not_true, Bool.not_false, ite_true, ite_false, reduceIte, Bool.not_eq_true', decide_eq_false_iff_not, Int.cast_ofNat_Int, Int.reduceEq, Int.reduceLT, Int.reduceLE, Int.reduceNeg, Int.reduceAdd, Int.reduceSub, Int.reduceMul, Int.reduceToNat, decide_true, decide_false, not_true, not_false, not_true_eq_false, not_false_eq_true, true_and, and_true, eq_self, reduceCtorEq, List.isEmpty_nil, List.isEmpty_cons, List.nil_append, List.cons_append]
  have rest : semF G T (k + 1) "rational" [.int (a.num * b.num), .int (a.den * b.den)] S Q E := by
    refine rational_ok hR hp (Int.ne_of_gt (Int.mul_pos (den_pos a) (den_pos b))) ?_
    rw [mul_is]
    exact h
  refine ite2 (fun h1 => ite2 (fun h2 => ?_) fun h2 => ?_) fun h1 => ?_
  · have e : a * b = ((a.num * b.num : Int) : Rat) := by
      rw [Rat.intCast_mul, ← whole h1, ← whole h2]
    rw [e, QD_int] at h
    exact ⟨ha.num.mulOk hb.num hmn, h⟩
  all_goals exact ⟨ha.num.mulOk hb.num hmn, ha.den.mulOk hb.den hmn, rest⟩
theorem rneg_ok (hT : T "rneg" = some F_rneg) {a : Rat} (h : Q (QD (-a)) S) : semF G T (k + 1) "rneg" [QD a] S Q E := by
  refine call_of hT rfl ?_
  simp -dsimp -implicitDefEqProofs only [ent, List.map_cons, List.map_nil, List.length_cons, List.length_nil, Nat.reduceAdd, Nat.reduceSub, Nat.zero_add, List.replicate, List.cons_append, List.nil_append, F_rneg, QD]
  simp -dsimp -implicitDefEqProofs only [↓cov3, ↓cov2, ↓cov1, ↓E_var, ↓E_int, ↓E_bl, ↓E_non, ↓E_str, ↓E_glo, ↓E_tup, ↓E_lst, ↓E_bin, ↓E_neg, ↓E_cmp, ↓E_chn, ↓E_and, ↓E_or, ↓E_one, ↓E_not, ↓E_ifx, ↓E_idx, ↓E_slc, ↓E_call, ↓E_bi, ↓E_isi, ↓E_mth, ↓E_lc, ↓E_fld, ↓E_mcl, ↓E_mk, ↓Es_nil, ↓Es_cons, ↓O_no, ↓O_some, ↓Q_no, ↓Q_c, ↓C_and, ↓C_or, ↓C_one, ↓C_not, ↓C_cmp, ↓C_chn, ↓C_v, ↓I_seq, ↓I_rng1, ↓I_rng2, ↓I_rng3, ↓I_enu, ↓I_zip, ↓I_rev, ↓S_set, ↓S_asg, ↓S_par2, ↓S_sub, ↓S_expr, ↓S_ret, ↓S_retN, ↓S_ifs, ↓S_for, ↓S_brk, ↓S_cnt, ↓S_pass, ↓S_raise, ↓S_try, ↓S_tryas, ↓E_isx, ↓E_isxs, kW_nx, kW_rt, kW_bk, kW_ct, kW_ex, gx_sub, gx_cs, gx_PY, ↓S_never, ↓S_setf, ex_t, ex_f, ↓S_nil, ↓S_cons, ↓kN_nx, ↓kN_rt, ↓kN_bk, ↓kN_ct, ↓kN_ex, ↓kL_nx, ↓kL_rt, ↓kL_bk, ↓kL_ct, ↓kL_ex, ↓kX_nx, ↓kX_rt, ↓kX_bk, ↓kX_ct, ↓kX_ex, ↓kend_nx, ↓kend_rt, ↓kend_bk, ↓kend_ct, ↓kend_ex, vr_some, gt_0, gt_s, stn_0, stn_s, wip_0, wip_s, wips_0, wips_s, neg_i, isi_s, o_i, tru_non, tru_bl, tru_int, tru_tup, tru_rol, c_Eq, c_NotEq, c_Lt, c_LtE, c_Gt, c_GtE, cs_Eq, cs_NotEq, cb_Eq, cb_NotEq, c2_Eq, c2_NotEq, is_non, isnot_non, is_bl, isnot_bl, is_int, isnot_int, is_str, isnot_str, is_tup, isnot_tup, is_rol, isnot_rol, is_ref, isnot_ref, is_b, isnot_b, in_s, notin_s, b_add, b_sub, b_mul, b_fdiv, b_mod, b_pow, b_addt, b_adds, atI0, atI1, atI2, atI3, slc_t, slc_r, len_s, abs_i, int_i, int_b, min_i, max_i, lcm_i, gcd_i, seq_t, seq_r, r1_i, r2_i, r3_i, a_nm, a_nil, a_cons, vrl_some, vrn_some, put_lget, Option.isSome_some, tru_ref, b_addl, idx_t, idx_r, idx_l, slc_l, len_t, len_r, len_l, tuple_t, tuple_r, tuple_l, list_t, list_r, list_l, app_l, rev_l, pop_l, popat_l, mT_l, seq_l, enu_l, enu_t, fld_i, mcl_i, setf_i, vri_some, vrk_some, mk_0, mk_1, b_mull, zip_l, rev_i, rev_t, in_t, notin_t, fl_s, fl_i, fl_b, fl_n, inL_nil, inL_ss, inL_ii, List.all_cons, List.all_nil, Bool.and_self, Bool.and_true, Bool.true_and, zip_t, zip_m, a_t, a_l, sub_l, isTs, isT, Option.map_some, List.length_cons, List.length_nil, List.lookup_nil, Nat.reduceAdd, Nat.reduceSub, Nat.reduceLT, Nat.zero_add, Bool.false_eq_true, Bool.true_eq_false, if_false, if_true, decide_eq_true_eq, Bool.not_true, Bool.not_false, ite_true, ite_false, reduceIte, Bool.not_eq_true', decide_eq_false_iff_not, Int.cast_ofNat_Int, Int.reduceEq, Int.reduceLT, Int.reduceLE, Int.reduceNeg, Int.reduceAdd, Int.reduceSub, Int.reduceMul, Int.reduceToNat, decide_true, decide_false, not_true, not_false, not_true_eq_false, not_false_eq_true, true_and, and_true, eq_self, reduceCtorEq, List.isEmpty_nil, List.isEmpty_cons, List.nil_append, List.cons_append]
  exact h
theorem rinv_ok (hT : T "rinv" = some F_rinv) (hR : T "rational" = some F_rational) (hp : G.PY) {a : Rat} (h0 : a.num ≠ 0) (h : Q (QD a⁻¹) S) : semF G T (k + 2) "rinv" [QD a] S Q E := by
  refine call_of hT rfl ?_
  simp -dsimp -implicitDefEqProofs only [ent, List.map_cons, List.map_nil, List.length_cons, List.length_nil, Nat.reduceAdd, Nat.reduceSub, Nat.zero_add, List.replicate, List.cons_append, List.nil_append, F_rinv, QD]
  simp -dsimp -implicitDefEqProofs only [↓cov3, ↓cov2, ↓cov1, ↓E_var, ↓E_int, ↓E_bl, ↓E_non, ↓E_str, ↓E_glo, ↓E_tup, ↓E_lst, ↓E_bin, ↓E_neg, ↓E_cmp, ↓E_chn, ↓E_and, ↓E_or, ↓E_one, ↓E_not, ↓E_ifx, ↓E_idx, ↓E_slc, ↓E_call, ↓E_bi, ↓E_isi, ↓E_mth, ↓E_lc, ↓E_fld, ↓E_mcl, ↓E_mk, ↓Es_nil, ↓Es_cons, ↓O_no, ↓O_some, ↓Q_no, ↓Q_c, ↓C_and, ↓C_or, ↓C_one, ↓C_not, ↓C_cmp, ↓C_chn, ↓C_v, ↓I_seq, ↓I_rng1, ↓I_rng2, ↓I_rng3, ↓I_enu, ↓I_zip, ↓I_rev, ↓S_set, ↓S_asg, ↓S_par2, ↓S_sub, ↓S_expr, ↓S_ret, ↓S_retN, ↓S_ifs, ↓S_for, ↓S_brk, ↓S_cnt, ↓S_pass, ↓S_raise, ↓S_try, ↓S_tryas, ↓E_isx, ↓E_isxs, kW_nx, kW_rt, kW_bk, kW_ct, kW_ex, gx_sub, gx_cs, gx_PY, ↓S_never, ↓S_setf, ex_t, ex_f, ↓S_nil, ↓S_cons, ↓kN_nx, ↓kN_rt, ↓kN_bk, ↓kN_ct, ↓kN_ex, ↓kL_nx, ↓kL_rt, ↓kL_bk, ↓kL_ct, ↓kL_ex, ↓kX_nx, ↓kX_rt, ↓kX_bk, ↓kX_ct, ↓kX_ex, ↓kend_nx, ↓kend_rt, ↓kend_bk, ↓kend_ct, ↓kend_ex, vr_some, gt_0, gt_s, stn_0, stn_s, wip_0, wip_s, wips_0, wips_s, neg_i, isi_s, o_i, tru_non, tru_bl, tru_int, tru_tup, tru_rol, c_Eq, c_NotEq, c_Lt, c_LtE, c_Gt, c_GtE, cs_Eq, cs_NotEq, cb_Eq, cb_NotEq, c2_Eq, c2_NotEq, is_non, isnot_non, is_bl, isnot_bl, is_int, isnot_int, is_str, isnot_str, is_tup, isnot_tup, is_rol, isnot_rol, is_ref, isnot_ref, is_b, isnot_b, in_s, notin_s, b_add, b_sub, b_mul, b_fdiv, b_mod, b_pow, b_addt, b_adds, atI0, atI1, atI2, atI3, slc_t, slc_r, len_s, abs_i, int_i, int_b, min_i, max_i, lcm_i, gcd_i, seq_t, seq_r, r1_i, r2_i, r3_i, a_nm, a_nil, a_cons, vrl_some, vrn_some, put_lget, Option.isSome_some, tru_ref, b_addl, idx_t, idx_r, idx_l, slc_l, len_t, len_r, len_l, tuple_t, tuple_r, tuple_l, list_t, list_r, list_l, app_l, rev_l, pop_l, popat_l, mT_l, seq_l, enu_l, enu_t, fld_i, mcl_i, setf_i, vri_some, vrk_some, mk_0, mk_1, b_mull, zip_l, rev_i, rev_t, in_t, notin_t, fl_s, fl_i, fl_b, fl_n, inL_nil, inL_ss, inL_ii, List.all_cons, List.all_nil, Bool.and_self, Bool.and_true, Bool.true_and, zip_t, zip_m, a_t, a_l, sub_l, isTs, isT, Option.map_some, List.length_cons, List.length_nil, List.lookup_nil, Nat.reduceAdd, Nat.reduceSub, Nat.reduceLT, Nat.zero_add, Bool.false_eq_true, Bool.true_eq_false, if_false, if_true, decide_eq_true_eq, Bool.not_true, Bool.not_false, ite_true, ite_false, reduceIte, Bool.not_eq_true', decide_eq_false_iff_not, Int.cast_ofNat_Int, Int.reduceEq, Int.reduceLT, Int.reduceLE, Int.reduceNeg, Int.reduceAdd, Int.reduceSub, Int.reduceMul, Int.reduceToNat, decide_true, decide_false, not_true, not_false, not_true_eq_false, not_false_eq_true, true_and, and_true, eq_self, reduceCtorEq, List.isEmpty_nil, List.isEmpty_cons, List.nil_append, List.cons_append]
  refine rational_ok hR hp h0 ?_
  rw [inv_is]
  exact h
theorem rdiv_ok (hT : T "rdiv" = some F_rdiv) (hR : T "rational" = some F_rational) (hp : G.PY) {a b : Rat} {m n : Nat} (ha : QB a m) (hb : QB b n) (hmn : m + n ≤ 134217728) (h0 : b.num ≠ 0) (h : Q (QD (a / b)) S) : semF G T (k + 2) "rdiv" [QD a, QD b] S Q E := by
  refine call_of hT rfl ?_
  simp -dsimp -implicitDefEqProofs only [ent, List.map_cons, List.map_nil, List.length_cons, List.length_nil, Nat.reduceAdd, Nat.reduceSub, Nat.zero_add, List.replicate, List.cons_append, List.nil_append, F_rdiv, QD]
  simp -dsimp -implicitDefEqProofs only [↓cov3, ↓cov2, ↓cov1, ↓E_var, ↓E_int, ↓E_bl, ↓E_non, ↓E_str, ↓E_glo, ↓E_tup, ↓E_lst, ↓E_bin, ↓E_neg, ↓E_cmp, ↓E_chn, ↓E_and, ↓E_or, ↓E_one, ↓E_not, ↓E_ifx, ↓E_idx, ↓E_slc, ↓E_call, ↓E_bi, ↓E_isi, ↓E_mth, ↓E_lc, ↓E_fld, ↓E_mcl, ↓E_mk, ↓Es_nil, ↓Es_cons, ↓O_no, ↓O_some, ↓Q_no, ↓Q_c, ↓C_and, ↓C_or, ↓C_one, ↓C_not, ↓C_cmp, ↓C_chn, ↓C_v, ↓I_seq, ↓I_rng1, ↓I_rng2, ↓I_rng3, ↓I_enu, ↓I_zip, ↓I_rev, ↓S_set, ↓S_asg, ↓S_par2, ↓S_sub, ↓S_expr, ↓S_ret, ↓S_retN, ↓S_ifs, ↓S_for, ↓S_brk, ↓S_cnt, ↓S_pass, ↓S_raise, ↓S_try, ↓S_tryas, ↓E_isx, ↓E_isxs, kW_nx, kW_rt, kW_bk, kW_ct, kW_ex, gx_sub, gx_cs, gx_PY, ↓S_never, ↓S_setf, ex_t, ex_f, ↓S_nil, ↓S_cons, ↓kN_nx, ↓kN_rt, ↓kN_bk, ↓kN_ct, ↓kN_ex, ↓kL_nx, ↓kL_rt, ↓kL_bk, ↓kL_ct, ↓kL_ex, ↓kX_nx, ↓kX_rt, ↓kX_bk, ↓kX_ct, ↓kX_ex, ↓kend_nx, ↓kend_rt, ↓kend_bk, ↓kend_ct, ↓kend_ex, vr_some, gt_0, gt_s, stn_0, stn_s, wip_0, wip_s, wips_0, wips_s, neg_i, isi_s, o_i, tru_non, tru_bl, tru_int, tru_tup, tru_rol, c_Eq, c_NotEq, c_Lt, c_LtE, c_Gt, c_GtE, cs_Eq, cs_NotEq, cb_Eq, cb_NotEq, c2_Eq, c2_NotEq, is_non, isnot_non, is_bl, isnot_bl, is_int, isnot_int, is_str, isnot_str, is_tup, isnot_tup, is_rol, isnot_rol, is_ref, isnot_ref, is_b, isnot_b, in_s, notin_s, b_add, b_sub, b_mul, b_fdiv, b_mod, b_pow, b_addt, b_adds, atI0, atI1, atI2, atI3, slc_t, slc_r, len_s, abs_i, int_i, int_b, min_i, max_i, lcm_i, gcd_i, seq_t, seq_r, r1_i, r2_i, r3_i, a_nm, a_nil, a_cons, vrl_some, vrn_some, put_lget, Option.isSome_some, tru_ref, b_addl, idx_t, idx_r, idx_l, slc_l, len_t, len_r, len_l, tuple_t, tuple_r, tuple_l, list_t, list_r, list_l, app_l, rev_l, pop_l, popat_l, mT_l, seq_l, enu_l, enu_t, fld_i, mcl_i, setf_i, vri_some, vrk_some, mk_0, mk_1, b_mull, zip_l, rev_i, rev_t, in_t, notin_t, fl_s, fl_i, fl_b, fl_n, inL_nil, inL_ss, inL_ii, List.all_cons, List.all_nil, Bool.and_self, Bool.and_true, Bool.true_and, zip_t, zip_m, a_t, a_l, sub_l, isTs, isT, Option.map_some, List.length_cons, List.length_nil, List.lookup_nil, Nat.reduceAdd, Nat.reduceSub, Nat.reduceLT, Nat.zero_add, Bool.false_eq_true, Bool.true_eq_false, if_false, if_true, decide_eq_true_eq, Bool.not_true, Bool.not_false, ite_true, ite_false, reduceIte, Bool.not_eq_true', decide_eq_false_iff_not, Int.cast_ofNat_Int, Int.reduceEq, Int.reduceLT, Int.reduceLE, Int.reduceNeg, Int.reduceAdd, Int.reduceSub, Int.reduceMul, Int.reduceToNat, decide_true, decide_false, not_true, not_false, not_true_eq_false, not_false_eq_true, true_and, and_true, eq_self, reduceCtorEq, List.isEmpty_nil, List.isEmpty_cons, List.nil_append, List.cons_append]
  refine ⟨ha.num.mulOk hb.den hmn, ha.den.mulOk hb.num hmn, rational_ok hR hp (Int.mul_ne_zero (Int.ne_of_gt (den_pos a)) h0) ?_⟩
  rw [div_is]
  exact h
theorem rsign_ok (hT : T "rsign" = some F_rsign) {a : Rat} (h : Q (.int a.num.sign) S) : semF G T (k + 1) "rsign" [QD a] S Q E := by
  refine call_of hT rfl ?_
  simp -dsimp -implicitDefEqProofs only [ent, List.map_cons, List.map_nil, List.length_cons, List.length_nil, Nat.reduceAdd, Nat.reduceSub, Nat.zero_add, List.replicate, List.cons_append, List.nil_append, F_rsign, QD]
  simp -dsimp -implicitDefEqProofs only [↓cov3, ↓cov2, ↓cov1, ↓E_var, ↓E_int, ↓E_bl, ↓E_non, ↓E_str, ↓E_glo, ↓E_tup, ↓E_lst, ↓E_bin, ↓E_neg, ↓E_cmp, ↓E_chn, ↓E_and, ↓E_or, ↓E_one, ↓E_not, ↓E_ifx, ↓E_idx, ↓E_slc, ↓E_call, ↓E_bi, ↓E_isi, ↓E_mth, ↓E_lc, ↓E_fld, ↓E_mcl, ↓E_mk, ↓Es_nil, ↓Es_cons, ↓O_no, ↓O_some, ↓Q_no, ↓Q_c, ↓C_and, ↓C_or, ↓C_one, ↓C_not, ↓C_cmp, ↓C_chn, ↓C_v, ↓I_seq, ↓I_rng1, ↓I_rng2, ↓I_rng3, ↓I_enu, ↓I_zip, ↓I_rev, ↓S_set, ↓S_asg, ↓S_par2, ↓S_sub, ↓S_expr, ↓S_ret, ↓S_retN, ↓S_ifs, ↓S_for, ↓S_brk, ↓S_cnt, ↓S_pass, ↓S_raise, ↓S_try, ↓S_tryas, ↓E_isx, ↓E_isxs, kW_nx, kW_rt, kW_bk, kW_ct, kW_ex, gx_sub, gx_cs, gx_PY, ↓S_never, ↓S_setf, ex_t, ex_f, ↓S_nil, ↓S_cons, ↓kN_nx, ↓kN_rt, ↓kN_bk, ↓kN_ct, ↓kN_ex, ↓kL_nx, ↓kL_rt, ↓kL_bk, ↓kL_ct, ↓kL_ex, ↓kX_nx, ↓kX_rt, ↓kX_bk, ↓kX_ct, ↓kX_ex, ↓kend_nx, ↓kend_rt, ↓kend_bk, ↓kend_ct, ↓kend_ex, vr_some, gt_0, gt_s, stn_0, stn_s, wip_0, wip_s, wips_0, wips_s, neg_i, isi_s, o_i, tru_non, tru_bl, tru_int, tru_tup, tru_rol, c_Eq, c_NotEq, c_Lt, c_LtE, c_Gt, c_GtE, cs_Eq, cs_NotEq, cb_Eq, cb_NotEq, c2_Eq, c2_NotEq, is_non, isnot_non, is_bl, isnot_bl, is_int, isnot_int, is_str, isnot_str, is_tup, isnot_tup, is_rol, isnot_rol, is_ref, isnot_ref, is_b, isnot_b, in_s, notin_s, b_add, b_sub, b_mul, b_fdiv, b_mod, b_pow, b_addt, b_adds, atI0, atI1, atI2, atI3, slc_t, slc_r, len_s, abs_i, int_i, int_b, min_i, max_i, lcm_i, gcd_i, seq_t, seq_r, r1_i, r2_i, r3_i, a_nm, a_nil, a_cons, vrl_some, vrn_some, put_lget, Option.isSome_some, tru_ref, b_addl, idx_t, idx_r, idx_l, slc_l, len_t, len_r, len_l, tuple_t, tuple_r, tuple_l, list_t, list_r, list_l, app_l, rev_l, pop_l, popat_l, mT_l, seq_l, enu_l, enu_t, fld_i, mcl_i, setf_i, vri_some, vrk_some, mk_0, mk_1, b_mull, zip_l, rev_i, rev_t, in_t, notin_t, fl_s, fl_i, fl_b, fl_n, inL_nil, inL_ss, inL_ii, List.all_cons, List.all_nil, Bool.and_self, Bool.and_true, Bool.true_and, zip_t, zip_m, a_t, a_l, sub_l, isTs, isT, Option.map_some, List.length_cons, List.length_nil, List.lookup_nil, Nat.reduceAdd, Nat.reduceSub, Nat.reduceLT, Nat.zero_add, Bool.false_eq_true, Bool.true_eq_false, if_false, if_true, decide_eq_true_eq, Bool.not_true, Bool.not_false, ite_true, ite_false, reduceIte, Bool.not_eq_true', decide_eq_false_iff_not, Int.cast_ofNat_Int, Int.reduceEq, Int.reduceLT, Int.reduceLE, Int.reduceNeg, Int.reduceAdd, Int.reduceSub, Int.reduceMul, Int.reduceToNat, decide_true, decide_false, not_true, not_false, not_true_eq_false, not_false_eq_true, true_and, and_true, eq_self, reduceCtorEq, List.isEmpty_nil, List.isEmpty_cons, List.nil_append, List.cons_append]
  refine ite2 (fun h1 => ?_) fun h1 => ite2 (fun h2 => ?_) fun h2 => ?_
  · rw [h1] at h
    exact h
  · rw [Int.sign_eq_one_of_pos h2] at h
    exact h
  · rw [Int.sign_eq_neg_one_of_neg (by omega)] at h
    exact h
theorem rwhole_ok (hT : T "rwhole" = some F_rwhole) {a : Rat} (h : Q (.bl (decide ((a.den : Int) = 1))) S) : semF G T (k + 1) "rwhole" [QD a] S Q E := by
  refine call_of hT rfl ?_
  simp -dsimp -implicitDefEqProofs only [ent, List.map_cons, List.map_nil, List.length_cons, List.length_nil, Nat.reduceAdd, Nat.reduceSub, Nat.zero_add, List.replicate, List.cons_append, List.nil_append, F_rwhole, QD]
  simp -dsimp -implicitDefEqProofs only [↓cov3, ↓cov2, ↓cov1, ↓E_var, ↓E_int, ↓E_bl, ↓E_non, ↓E_str, ↓E_glo, ↓E_tup, ↓E_lst, ↓E_bin, ↓E_neg, ↓E_cmp, ↓E_chn, ↓E_and, ↓E_or, ↓E_one, ↓E_not, ↓E_ifx, ↓E_idx, ↓E_slc, ↓E_call, ↓E_bi, ↓E_isi, ↓E_mth, ↓E_lc, ↓E_fld, ↓E_mcl, ↓E_mk, ↓Es_nil, ↓Es_cons, ↓O_no, ↓O_some, ↓Q_no, ↓Q_c, ↓C_and, ↓C_or, ↓C_one, ↓C_not, ↓C_cmp, ↓C_chn, ↓C_v, ↓I_seq, ↓I_rng1, ↓I_rng2, ↓I_rng3, ↓I_enu, ↓I_zip, ↓I_rev, ↓S_set, ↓S_asg, ↓S_par2, ↓S_sub, ↓S_expr, ↓S_ret, ↓S_retN, ↓S_ifs, ↓S_for, ↓S_brk, ↓S_cnt, ↓S_pass, ↓S_raise, ↓S_try, ↓S_tryas, ↓E_isx, ↓E_isxs, kW_nx, kW_rt, kW_bk, kW_ct, kW_ex, gx_sub, gx_cs, gx_PY, ↓S_never, ↓S_setf, ex_t, ex_f, ↓S_nil, ↓S_cons, ↓kN_nx, ↓kN_rt, ↓kN_bk, ↓kN_ct, ↓kN_ex, ↓kL_nx, ↓kL_rt, ↓kL_bk, ↓kL_ct, ↓kL_ex, ↓kX_nx, ↓kX_rt, ↓kX_bk, ↓kX_ct, ↓kX_ex, ↓kend_nx, ↓kend_rt, ↓kend_bk, ↓kend_ct, ↓kend_ex, vr_some, gt_0, gt_s, stn_0, stn_s, wip_0, wip_s, wips_0, wips_s, neg_i, isi_s, o_i, tru_non, tru_bl, tru_int, tru_tup, tru_rol, c_Eq, c_NotEq, c_Lt, c_LtE, c_Gt, c_GtE, cs_Eq, cs_NotEq, cb_Eq, cb_NotEq, c2_Eq, c2_NotEq, is_non, isnot_non, is_bl, isnot_bl, is_int, isnot_int, is_str, isnot_str, is_tup, isnot_tup, is_rol, isnot_rol, is_ref, isnot_ref, is_b, isnot_b, in_s, notin_s, b_add, b_sub, b_mul, b_fdiv, b_mod, b_pow, b_addt, b_adds, atI0, atI1, atI2, atI3, slc_t, slc_r, len_s, abs_i, int_i, int_b, min_i, max_i, lcm_i, gcd_i, seq_t, seq_r, r1_i, r2_i, r3_i, a_nm, a_nil, a_cons, vrl_some, vrn_some, put_lget, Option.isSome_some, tru_ref, b_addl, idx_t, idx_r, idx_l, slc_l, len_t, len_r, len_l, tuple_t, tuple_r, tuple_l, list_t, list_r, list_l, app_l, rev_l, pop_l, popat_l, mT_l, seq_l, enu_l, enu_t, fld_i, mcl_i, setf_i, vri_some, vrk_some, mk_0, mk_1, b_mull, zip_l, rev_i, rev_t, in_t, notin_t, fl_s, fl_i, fl_b, fl_n, inL_nil, inL_ss, inL_ii, List.all_cons, List.all_nil, Bool.and_self, Bool.and_true, Bool.true_and, zip_t, zip_m, a_t, a_l, sub_l, isTs, isT, Option.map_some, List.length_cons, List.length_nil, List.lookup_nil, Nat.reduceAdd, Nat.reduceSub, Nat.reduceLT, Nat.zero_add, Bool.false_eq_true, Bool.true_eq_false, if_false, if_true, decide_eq_true_eq, Bool.not_true, Bool.not_false, ite_true, ite_false, reduceIte, Bool.not_eq_true', decide_eq_false_iff_not, Int.cast_ofNat_Int, Int.reduceEq, Int.reduceLT, Int.reduceLE, Int.reduceNeg, Int.reduceAdd, Int.reduceSub, Int.reduceMul, Int.reduceToNat, decide_true, decide_false, not_true, not_false, not_true_eq_false, not_false_eq_true, true_and, and_true, eq_self, reduceCtorEq, List.isEmpty_nil, List.isEmpty_cons, List.nil_append, List.cons_append]
  exact h
theorem rfloor_ok (hT : T "rfloor" = some F_rfloor) (hp : G.PY) {a : Rat} (h : Q (.int (a.num.fdiv a.den)) S) : semF G T (k + 1) "rfloor" [QD a] S Q E := by
  refine call_of hT rfl ?_
  simp -dsimp -implicitDefEqProofs only [ent, List.map_cons, List.map_nil, List.length_cons, List.length_nil, Nat.reduceAdd, Nat.reduceSub, Nat.zero_add, List.replicate, List.cons_append, List.nil_append, F_rfloor, QD]
  simp -dsimp -implicitDefEqProofs only [↓cov3, ↓cov2, ↓cov1, ↓E_var, ↓E_int, ↓E_bl, ↓E_non, ↓E_str, ↓E_glo, ↓E_tup, ↓E_lst, ↓E_bin, ↓E_neg, ↓E_cmp, ↓E_chn, ↓E_and, ↓E_or, ↓E_one, ↓E_not, ↓E_ifx, ↓E_idx, ↓E_slc, ↓E_call, ↓E_bi, ↓E_isi, ↓E_mth, ↓E_lc, ↓E_fld, ↓E_mcl, ↓E_mk, ↓Es_nil, ↓Es_cons, ↓O_no, ↓O_some, ↓Q_no, ↓Q_c, ↓C_and, ↓C_or, ↓C_one, ↓C_not, ↓C_cmp, ↓C_chn, ↓C_v, ↓I_seq, ↓I_rng1, ↓I_rng2, ↓I_rng3, ↓I_enu, ↓I_zip, ↓I_rev, ↓S_set, ↓S_asg, ↓S_par2, ↓S_sub, ↓S_expr, ↓S_ret, ↓S_retN, ↓S_ifs, ↓S_for, ↓S_brk, ↓S_cnt, ↓S_pass, ↓S_raise, ↓S_try, ↓S_tryas, ↓E_isx, ↓E_isxs, kW_nx, kW_rt, kW_bk, kW_ct, kW_ex, gx_sub, gx_cs, gx_PY, ↓S_never, ↓S_setf, ex_t, ex_f, ↓S_nil, ↓S_cons, ↓kN_nx, ↓kN_rt, ↓kN_bk, ↓kN_ct, ↓kN_ex, ↓kL_nx, ↓kL_rt, ↓kL_bk, ↓kL_ct, ↓kL_ex, ↓kX_nx, ↓kX_rt, ↓kX_bk, ↓kX_ct, ↓kX_ex, ↓kend_nx, ↓kend_rt, ↓kend_bk, ↓kend_ct, ↓kend_ex, vr_some, gt_0, gt_s, stn_0, stn_s, wip_0, wip_s, wips_0, wips_s, neg_i, isi_s, o_i, tru_non, tru_bl, tru_int, tru_tup, tru_rol, c_Eq, c_NotEq, c_Lt, c_LtE, c_Gt, c_GtE, cs_Eq, cs_NotEq, cb_Eq, cb_NotEq, c2_Eq, c2_NotEq, is_non, isnot_non, is_bl, isnot_bl, is_int, isnot_int, is_str, isnot_str, is_tup, isnot_tup, is_rol, isnot_rol, is_ref, isnot_ref, is_b, isnot_b, in_s, notin_s, b_add, b_sub, b_mul, b_fdiv, b_mod, b_pow, b_addt, b_adds, atI0, atI1, atI2, atI3, slc_t, slc_r, len_s, abs_i, int_i, int_b, min_i, max_i, lcm_i, gcd_i, seq_t, seq_r, r1_i, r2_i, r3_i, a_nm, a_nil, a_cons, vrl_some, vrn_some, put_lget, Option.isSome_some, tru_ref, b_addl, idx_t, idx_r, idx_l, slc_l, len_t, len_r, len_l, tuple_t, tuple_r, tuple_l, list_t, list_r, list_l, app_l, rev_l, pop_l, popat_l, mT_l, seq_l, enu_l, enu_t, fld_i, mcl_i, setf_i, vri_some, vrk_some, mk_0, mk_1, b_mull, zip_l, rev_i, rev_t, in_t, notin_t, fl_s, fl_i, fl_b, fl_n, inL_nil, inL_ss, inL_ii, List.all_cons, List.all_nil, Bool.and_self, Bool.and_true, Bool.true_and, zip_t, zip_m, a_t, a_l, sub_l, isTs, isT, Option.map_some, List.length_cons, List.length_nil, List.lookup_nil, Nat.reduceAdd, Nat.reduceSub, Nat.reduceLT, Nat.zero_add, Bool.false_eq_true, Bool.true_eq_false, if_false, if_true, decide_eq_true_eq, Bool.not_true, Bool.not_false, ite_true, ite_false, reduceIte, Bool.not_eq_true', decide_eq_false_iff_not, Int.cast_ofNat_Int, Int.reduceEq, Int.reduceLT, Int.reduceLE, Int.reduceNeg, Int.reduceAdd, Int.reduceSub, Int.reduceMul, Int.reduceToNat, decide_true, decide_false, not_true, not_false, not_true_eq_false, not_false_eq_true, true_and, and_true, eq_self, reduceCtorEq, List.isEmpty_nil, List.isEmpty_cons, List.nil_append, List.cons_append]
  exact ⟨⟨Int.ne_of_gt (den_pos a), .inr hp⟩, h⟩
theorem rcompare_ok (hT : T "rcompare" = some F_rcompare) {a b : Rat} {m n : Nat} (ha : QB a m) (hb : QB b n) (hmn : m + n ≤ 134217728) (h : Q (.int (a.num * b.den - b.num * a.den).sign) S) : semF G T (k + 1) "rcompare" [QD a, QD b] S Q E := by
  refine call_of hT rfl ?_
  simp -dsimp -implicitDefEqProofs only [ent, List.map_cons, List.map_nil, List.length_cons, List.length_nil, Nat.reduceAdd, Nat.reduceSub, Nat.zero_add, List.replicate, List.cons_append, List.nil_append, F_rcompare, QD]
  simp -dsimp -implicitDefEqProofs only [↓cov3, ↓cov2, ↓cov1, ↓E_var, ↓E_int, ↓E_bl, ↓E_non, ↓E_str, ↓E_glo, ↓E_tup, ↓E_lst, ↓E_bin, ↓E_neg, ↓E_cmp, ↓E_chn, ↓E_and, ↓E_or, ↓E_one, ↓E_not, ↓E_ifx, ↓E_idx, ↓E_slc, ↓E_call, ↓E_bi, ↓E_isi, ↓E_mth, ↓E_lc, ↓E_fld, ↓E_mcl, ↓E_mk, ↓Es_nil, ↓Es_cons, ↓O_no, ↓O_some, ↓Q_no, ↓Q_c, ↓C_and, ↓C_or, ↓C_one, ↓C_not, ↓C_cmp, ↓C_chn, ↓C_v, ↓I_seq, ↓I_rng1, ↓I_rng2, ↓I_rng3, ↓I_enu, ↓I_zip, ↓I_rev, ↓S_set, ↓S_asg, ↓S_par2, ↓S_sub, ↓S_expr, ↓S_ret, ↓S_retN, ↓S_ifs, ↓S_for, ↓S_brk, ↓S_cnt, ↓S_pass, ↓S_raise, ↓S_try, ↓S_tryas, ↓E_isx, ↓E_isxs, kW_nx, kW_rt, kW_bk, kW_ct, kW_ex, gx_sub, gx_cs, gx_PY, ↓S_never, ↓S_setf, ex_t, ex_f, ↓S_nil, ↓S_cons, ↓kN_nx, ↓kN_rt, ↓kN_bk, ↓kN_ct, ↓kN_ex, ↓kL_nx, ↓kL_rt, ↓kL_bk, ↓kL_ct, ↓kL_ex, ↓kX_nx, ↓kX_rt, ↓kX_bk, ↓kX_ct, ↓kX_ex, ↓kend_nx, ↓kend_rt, ↓kend_bk, ↓kend_ct, ↓kend_ex, vr_some, gt_0, gt_s, stn_0, stn_s, wip_0, wip_s, wips_0, wips_s, neg_i, isi_s, o_i, tru_non, tru_bl, tru_int, tru_tup, tru_rol, c_Eq, c_NotEq, c_Lt, c_LtE, c_Gt, c_GtE, cs_Eq, cs_NotEq, cb_Eq, cb_NotEq, c2_Eq, c2_NotEq, is_non, isnot_non, is_bl, isnot_bl, is_int, isnot_int, is_str, isnot_str, is_tup, isnot_tup, is_rol, isnot_rol, is_ref, isnot_ref, is_b, isnot_b, in_s, notin_s, b_add, b_sub, b_mul, b_fdiv, b_mod, b_pow, b_addt, b_adds, atI0, atI1, atI2, atI3, slc_t, slc_r, len_s, abs_i, int_i, int_b, min_i, max_i, lcm_i, gcd_i, seq_t, seq_r, r1_i, r2_i, r3_i, a_nm, a_nil, a_cons, vrl_some, vrn_some, put_lget, Option.isSome_some, tru_ref, b_addl, idx_t, idx_r, idx_l, slc_l, len_t, len_r, len_l, tuple_t, tuple_r, tuple_l, list_t, list_r, list_l, app_l, rev_l, pop_l, popat_l, mT_l, seq_l, enu_l, enu_t, fld_i, mcl_i, setf_i, vri_some, vrk_some, mk_0, mk_1, b_mull, zip_l, rev_i, rev_t, in_t, notin_t, fl_s, fl_i, fl_b, fl_n, inL_nil, inL_ss, inL_ii, List.all_cons, List.all_nil, Bool.and_self, Bool.and_true, Bool.true_and, zip_t, zip_m, a_t, a_l, sub_l, isTs, isT, Option.map_some, List.length_cons, List.length_nil, List.lookup_nil, Nat.reduceAdd, Nat.reduceSub, Nat.reduceLT, Nat.zero_add, Bool.false_eq_true, Bool.true_eq_false, if_false, if_true, decide_eq_true_eq, Bool.not_true, Bool.not_false, ite_true, ite_false, reduceIte, Bool.not_eq_true', decide_eq_false_iff_not, Int.cast_ofNat_Int, Int.reduceEq, Int.reduceLT, Int.reduceLE, Int.reduceNeg, Int.reduceAdd, Int.reduceSub, Int.reduceMul, Int.reduceToNat, decide_true, decide_false, not_true, not_false, not_true_eq_false, not_false_eq_true, true_and, and_true, eq_self, reduceCtorEq, List.isEmpty_nil, List.isEmpty_cons, List.nil_append, List.cons_append]
  refine ⟨ha.num.mulOk hb.den hmn, hb.num.mulOk ha.den (by omega), ite2 (fun h1 => ?_) fun h1 => ite2 (fun h2 => ?_) fun h2 => ?_⟩
  · rw [h1, Int.sub_self] at h
    exact h
  · rw [Int.sign_eq_one_of_pos (by omega)] at h
    exact h
  · rw [Int.sign_eq_neg_one_of_neg (by omega)] at h
    exact h
end
end LA

/-! Comprehensions whose items are told by their place; instances. -/
namespace Ev
open PySem PySem.Spec PyProof.Rows L2
section
variable {G : Gl0} {C : CallS} {tg : IG} {elt : IE} {own : List Nat} {σ : En} {S1 : Sto} {Q : DK}
theorem comp_fn {J : Ev.Itr} (n : Nat) (item g : Nat → D) (hn : n ≤ 100000) (hJ : ∀ i S (stop : Prop) (go : D → Prop), Sub S1 S → i ≤ n → (i < n → go (item i)) → (i = n → stop) → nxt J i S stop go)
    (step : ∀ i S (N : DK), i < n → Sub S1 S → (∀ S', Sub S S' → N (g i) S') → asgS tg (item i) (wips σ own) S fun σ2 => semE G C (fun _ _ => False) elt σ2 S N)
    (done : ∀ a S, Sub S1 S → S1 a = none → S a = some (.lst ((List.range n).map g)) → Q (.ref a) S) : LCOMP G C J tg .no elt own σ S1 Q := by
  refine comp_by n item (fun a i acc S => Sub S1 S ∧ S1 a = none ∧ S a = some (.lst acc) ∧ acc = (List.range i).map g) (fun a i acc S stop go hi hI h1 h2 => hJ i S stop go hI.1 hi h1 h2) (fun a na => ⟨Sub.new na, na, put_same, rfl⟩) ?_ ?_
  · rintro a i acc S N hi ⟨hs, na, ha, rfl⟩ hN
    refine step i S N hi hs fun S' hs' => ?_
    refine hN (g i) S' (hs' _ _ ha) ?_ ⟨(hs.trans hs').write na, na, put_same, by rw [List.range_succ, List.map_append]; rfl⟩
    rw [List.length_map, List.length_range, sizeLine_eq]
    omega
  · rintro a acc S ⟨hs, na, ha, rfl⟩
    exact done a S hs na ha
theorem compT {xs : List D} (g : Nat → D) (hn : xs.length ≤ 100000)
    (step : ∀ i S (N : DK), i < xs.length → Sub S1 S → (∀ S', Sub S S' → N (g i) S') → asgS tg (xs.getD i .non) (wips σ own) S fun σ2 => semE G C (fun _ _ => False) elt σ2 S N)
    (done : ∀ a S, Sub S1 S → S1 a = none → S a = some (.lst ((List.range xs.length).map g)) → Q (.ref a) S) : LCOMP G C (.tup xs) tg .no elt own σ S1 Q :=
  comp_fn xs.length (fun i => xs.getD i .non) g hn (fun i S stop go _ hi h1 h2 => nxt_list hi h1 h2) step done
theorem compR {lo : Int} {n : Nat} (g : Nat → D) (hn : n ≤ 100000)
    (step : ∀ i S (N : DK), i < n → Sub S1 S → (∀ S', Sub S S' → N (g i) S') → asgS tg (.int (lo + i)) (wips σ own) S fun σ2 => semE G C (fun _ _ => False) elt σ2 S N)
    (done : ∀ a S, Sub S1 S → S1 a = none → S a = some (.lst ((List.range n).map g)) → Q (.ref a) S) : LCOMP G C (.rng lo n) tg .no elt own σ S1 Q :=
  comp_fn n (fun i => .int (lo + i)) g hn (fun i S stop go _ hi h1 h2 => nxt_rng hi h1 h2) step done
theorem compL {b : Addr} {xs : List D} (g : Nat → D) (hn : xs.length ≤ 100000) (hb : S1 b = some (.lst xs))
    (step : ∀ i S (N : DK), i < xs.length → Sub S1 S → (∀ S', Sub S S' → N (g i) S') → asgS tg (xs.getD i .non) (wips σ own) S fun σ2 => semE G C (fun _ _ => False) elt σ2 S N)
    (done : ∀ a S, Sub S1 S → S1 a = none → S a = some (.lst ((List.range xs.length).map g)) → Q (.ref a) S) : LCOMP G C (.lst b) tg .no elt own σ S1 Q :=
  comp_fn xs.length (fun i => xs.getD i .non) g hn (fun i S stop go hs hi h1 h2 => by
    simp only [nxt, lget_of (hs _ _ hb)]
    exact nxt_list hi h1 h2) step done
theorem compM {b : Addr} {xs ys : List D} (g : Nat → D) (hn : ys.length ≤ 100000) (hl : xs.length = ys.length) (hb : S1 b = some (.lst xs))
    (step : ∀ i S (N : DK), i < ys.length → Sub S1 S → (∀ S', Sub S S' → N (g i) S') → asgS tg (.tup [xs.getD i .non, ys.getD i .non]) (wips σ own) S fun σ2 => semE G C (fun _ _ => False) elt σ2 S N)
    (done : ∀ a S, Sub S1 S → S1 a = none → S a = some (.lst ((List.range ys.length).map g)) → Q (.ref a) S) : LCOMP G C (.zipM b ys) tg .no elt own σ S1 Q :=
  comp_fn ys.length (fun i => .tup [xs.getD i .non, ys.getD i .non]) g hn (fun i S stop go hs hi h1 h2 => by
    simp only [nxt, lget_of (hs _ _ hb)]
    refine ⟨hl, hi, ?_⟩
    by_cases h : i < ys.length
    · have e1 : xs[i]? = some (xs.getD i .non) := by rw [List.getD_eq_getElem?_getD, List.getElem?_eq_getElem (by omega)]; rfl
      have e2 : ys[i]? = some (ys.getD i .non) := by rw [List.getD_eq_getElem?_getD, List.getElem?_eq_getElem h]; rfl
      rw [e1, e2]
      exact h1 h
    · rw [List.getElem?_eq_none_iff.mpr (by omega)]
      exact h2 (by omega)) step done
theorem compZ {b c : Addr} {xs ys : List D} (g : Nat → D) (hn : xs.length ≤ 100000) (hl : xs.length = ys.length) (hb : S1 b = some (.lst xs)) (hc : S1 c = some (.lst ys))
    (step : ∀ i S (N : DK), i < xs.length → Sub S1 S → (∀ S', Sub S S' → N (g i) S') → asgS tg (.tup [xs.getD i .non, ys.getD i .non]) (wips σ own) S fun σ2 => semE G C (fun _ _ => False) elt σ2 S N)
    (done : ∀ a S, Sub S1 S → S1 a = none → S a = some (.lst ((List.range xs.length).map g)) → Q (.ref a) S) : LCOMP G C (.zip b c) tg .no elt own σ S1 Q :=
  comp_fn xs.length (fun i => .tup [xs.getD i .non, ys.getD i .non]) g hn (fun i S stop go hs hi h1 h2 => by
    simp only [nxt, lget_of (hs _ _ hb), lget_of (hs _ _ hc)]
    by_cases h : i < xs.length
    · have e1 : xs[i]? = some (xs.getD i .non) := by rw [List.getD_eq_getElem?_getD, List.getElem?_eq_getElem h]; rfl
      have e2 : ys[i]? = some (ys.getD i .non) := by rw [List.getD_eq_getElem?_getD, List.getElem?_eq_getElem (by omega)]; rfl
      rw [e1, e2]
      exact h1 h
    · rw [List.getElem?_eq_none_iff.mpr (by omega)]
      exact h2 (by omega)) step done
theorem Sub.back {S S' : Sto} (s : Sub S S') {a : Addr} (h : S' a = Option.none) : S a = Option.none := by
  rcases e : S a with _ | o
  · rfl
  · rw [s _ _ e] at h; cases h
theorem comp_new {J : Ev.Itr} (n : Nat) (item : Nat → D) (F : Nat → Ob) (hn : n ≤ 100000) (hJ : ∀ i S (stop : Prop) (go : D → Prop), Sub S1 S → i ≤ n → (i < n → go (item i)) → (i = n → stop) → nxt J i S stop go)
    (step : ∀ i S (N : DK), i < n → Sub S1 S → (∀ b S', Sub S S' → S b = none → S' b = some (F i) → N (.ref b) S') → asgS tg (item i) (wips σ own) S fun σ2 => semE G C (fun _ _ => False) elt σ2 S N)
    (done : ∀ a (as : Nat → Addr) S, Sub S1 S → S1 a = none → S a = some (.lst ((List.range n).map fun i => .ref (as i))) → (∀ i, i < n → S (as i) = some (F i) ∧ as i ≠ a) → Q (.ref a) S) : LCOMP G C J tg .no elt own σ S1 Q := by
  refine comp_by n item (fun a i acc S => Sub S1 S ∧ S1 a = none ∧ S a = some (.lst acc) ∧ ∃ as : Nat → Addr, acc = (List.range i).map (fun i => .ref (as i)) ∧ ∀ j, j < i → S (as j) = some (F j) ∧ as j ≠ a) (fun a i acc S stop go hi hI h1 h2 => hJ i S stop go hI.1 hi h1 h2) (fun a na => ⟨Sub.new na, na, put_same, fun _ => 0, rfl, fun j hj => absurd hj (by omega)⟩) ?_ ?_
  · rintro a i acc S N hi ⟨hs, na, ha, as, rfl, hA⟩ hN
    refine step i S N hi hs fun b S' hs' nb hb => ?_
    have hba : b ≠ a := fun e => by rw [e, ha] at nb; cases nb
    refine hN (.ref b) S' (hs' _ _ ha) ?_ ⟨(hs.trans hs').write na, na, put_same, fun j => if j = i then b else as j, ?_, ?_⟩
    · rw [List.length_map, List.length_range, sizeLine_eq]
      omega
    · rw [List.range_succ, List.map_append]
      congr 1
      · refine List.map_congr_left fun j hj => ?_
        have := List.mem_range.mp hj
        dsimp only
        rw [if_neg (by omega)]
      · simp
    · intro j hj
      by_cases e : j = i
      · subst e
        dsimp only
        rw [if_pos rfl]
        exact ⟨(put_ne hba).trans hb, hba⟩
      · dsimp only
        rw [if_neg e]
        have := hA j (by omega)
        exact ⟨(put_ne this.2).trans (hs' _ _ this.1), this.2⟩
  · rintro a acc S ⟨hs, na, ha, as, rfl, hA⟩
    exact done a as S hs na ha hA
end
theorem iget_of {S : Sto} {a : Addr} {x : Str} {fs : List (Str × D)} (h : S a = some (.ins x fs)) : iget S a = some (x, fs) := by
  unfold iget; rw [h]
theorem ixN_nat' {n j : Nat} (hj : j < n) : ixN n (j : Int) = some j := by
  unfold ixN
  rw [if_pos (by omega), if_pos (by omega), Int.toNat_natCast]
theorem ixN_at {n i : Nat} (h : i < n) : ixN n ((0 : Int) + (i : Nat)) = some i := by rw [Int.zero_add]; exact ixN_nat' h
theorem ixN_at' {n i : Nat} {z : Int} (e : z = i) (h : i < n) : ixN n z = some i := by rw [e]; exact ixN_nat' h
theorem sz3 {n : Nat} (h : n ≤ 100000) : n ≤ sizeLine := by rw [sizeLine_eq]; omega
theorem for_rngc {G : Gl0} {C : CallS} {g : IG} {b : ISs} {kt : Kt} {σ : En} {S : Sto} {lo c : Int} {n : Nat} (I : Nat → En → Sto → Prop) (h0 : I 0 σ S)
    (step : ∀ i σ S N, i < n → I i σ S → (∀ σ' S', I (i + 1) σ' S' → N σ' S') → asgS g (.int (lo + (i : Nat) * c)) σ S fun σ2 => semSs G C b (kL kt N) σ2 S)
    (done : ∀ σ S, I n σ S → kt.nx σ S) : FOR G C (.rngc lo c n) g b kt σ S :=
  turn_by (body := fun N d σ S => asgS g d σ S fun σ2 => semSs G C b (kL kt N) σ2 S) n (fun i => .int (lo + (i : Nat) * c)) I (fun i σ S stop go hi _ h1 h2 => by
    simp only [nxt]
    split
    · exact h1 ‹_›
    · exact h2 (by omega)) h0 step done
/-- what comes behind an expression, once for all its ways -/
theorem joinE {G : Gl0} {C : CallS} {X : XS} {e : IE} {σ : En} {S : Sto} {Q : DK} (P : D → Sto → Prop) (hP : ∀ d S', P d S' → Q d S') (h : ∀ N : DK, (∀ d S', P d S' → N d S') → semE G C X e σ S N) : semE G C X e σ S Q := h Q hP
theorem Sub.none' {S S' : Sto} (_ : Sub S S') {a : Addr} (e : S a = Option.none) : S a = Option.none := e
/-! ### classes of a caught exception -/
theorem kit_self {K : PySem.W.Frag} {t : Value} : PySem.W.kitOne K t t = some true := by
  unfold PySem.W.kitOne
  rw [if_pos (by simp)]
theorem kit_ne {K : PySem.W.Frag} {D B : Addr} {b : Bool} (hne : (Value.ref D == Value.ref B) = false) (hd : PySem.W.hasDictIn K B = true) (ht : PySem.W.typeIn K (.ref B) = some (.type "type")) (h : PySem.W.subIn K (.ref D) (.ref B) = some b) : PySem.W.kitOne K (.ref D) (.ref B) = some b := by
  obtain ⟨cd, hc, _⟩ := PySem.W.any_some hd
  have e2 : ((PySem.W.clsIn K B).isSome && PySem.W.typeIn K (.ref B) == some (.type "type")) = true := by rw [hc, ht] <;> rfl
  unfold PySem.W.kitOne
  rw [if_neg (by rw [hne]; decide)]
  show (if ((PySem.W.clsIn K B).isSome && PySem.W.typeIn K (.ref B) == some (.type "type")) = true then PySem.W.subIn K (.ref D) (.ref B) else none) = some b
  rw [if_pos e2]
  exact h
theorem kit_bt {K : PySem.W.Frag} {D : Addr} {n : String} {b : Bool} (hm : PySem.W.kitMeta n = true) (h : PySem.W.subIn K (.ref D) (.type n) = some b) : PySem.W.kitOne K (.ref D) (.type n) = some b := by
  unfold PySem.W.kitOne
  rw [if_neg (by rw [show (Value.ref D == Value.type n) = false from rfl]; decide)]
  show (if PySem.W.kitMeta n = true then PySem.W.subIn K (.ref D) (.type n) else none) = some b
  rw [if_pos hm]
  exact h
end Ev

namespace Lw
open PySem PySem.Spec PyProof.Rows L2 Ev
def F_rational : Fn := ⟨2, 3,
  (.cons (.ifs (.cmp .Eq (.var 1) (.int 0)) (.cons (.raise "ZeroDivisor" (.cons (.str "denominator 0") .nil)) .nil) .nil) (.cons (.set 2 (.bi .gcd (.cons (.var 0) (.cons (.var 1) .nil)))) (.cons (.ifs (.cmp .Lt (.var 1) (.int 0)) (.cons (.set 2 (.neg (.var 2))) .nil) .nil) (.cons (.ret (.tup (.cons (.bin .FloorDiv (.var 0) (.var 2)) (.cons (.bin .FloorDiv (.var 1) (.var 2)) .nil)))) .nil))))⟩
def F_law_cell : Fn := ⟨2, 2,
  (.cons (.ifs (.cmp .Lt (.var 1) (.bi .len (.cons (.var 0) .nil))) (.cons (.ret (.idx (.var 0) (.var 1))) .nil) .nil) (.cons (.ret (.int 0)) .nil))⟩
def F_law_draws : Fn := ⟨4, 9,
  (.cons (.set 4 (.call "_law_cell" (.cons (.var 0) (.cons (.var 1) .nil)))) (.cons (.set 5 (.lst .nil)) (.cons (.ifs (.cmp .GtE (.var 4) (.bin .Pow (.int 10) (.int 18))) (.cons (.for_ (.nm 7) (.rng1 (.var 2)) (.cons (.expr (.mth .append (.var 5) (.cons (.bin .Mod (.bi .int (.cons (.var 4) .nil)) (.var 3)) .nil))) (.cons (.set 4 (.bin .FloorDiv (.bi .int (.cons (.var 4) .nil)) (.var 3))) .nil))) (.cons (.ret (.var 5)) .nil)) .nil) (.cons (.set 6 (.bin .Add (.bin .Add (.bin .Mod (.bi .int (.cons (.var 4) .nil)) (.int 2147483647)) (.bin .Mult (.int 3) (.var 1))) (.int 1))) (.cons (.for_ (.nm 7) (.rng1 (.var 2)) (.cons (.set 6 (.bin .Mod (.bi .int (.cons (.bin .Add (.bin .Add (.bin .Mult (.var 6) (.int 48271)) (.bin .Mult (.int 11) (.var 7))) (.var 1)) .nil)) (.int 2147483647))) (.cons (.set 8 (.bin .Mod (.bi .int (.cons (.bin .Add (.bin .Add (.bin .Mult (.var 6) (.int 69621)) (.bin .Mult (.int 5) (.var 7))) (.int 7)) .nil)) (.int 2147483629))) (.cons (.expr (.mth .append (.var 5) (.cons (.bin .Mod (.bi .int (.cons (.var 8) .nil)) (.var 3)) .nil))) .nil)))) (.cons (.ret (.var 5)) .nil))))))⟩
def F_law_gcd : Fn := ⟨2, 5,
  (.cons (.set 2 (.bi .abs (.cons (.var 0) .nil))) (.cons (.set 3 (.bi .abs (.cons (.var 1) .nil))) (.cons (.whl (.cmp .NotEq (.var 3) (.int 0)) (.cons (.set 4 (.bin .Mod (.bi .int (.cons (.var 2) .nil)) (.var 3))) (.cons (.set 2 (.var 3)) (.cons (.set 3 (.var 4)) .nil)))) (.cons (.ret (.var 2)) .nil))))⟩
def F_law_is_integer : Fn := ⟨1, 1,
  (.cons (.ret (.and (.isi (.var 0) [.int]) (.one (.not (.isi (.var 0) [.bool]))))) .nil)⟩
def F_law_is_rat : Fn := ⟨1, 1,
  (.cons (.ifs (.or (.not (.v (.isi (.var 0) [.tuple]))) (.one (.cmp .NotEq (.bi .len (.cons (.var 0) .nil)) (.int 2)))) (.cons (.ret (.bl false)) .nil) .nil) (.cons (.ifs (.or (.not (.v (.call "_law_is_integer" (.cons (.idx (.var 0) (.int 0)) .nil)))) (.one (.not (.v (.call "_law_is_integer" (.cons (.idx (.var 0) (.int 1)) .nil)))))) (.cons (.ret (.bl false)) .nil) .nil) (.cons (.ret (.and (.cmp .Gt (.idx (.var 0) (.int 1)) (.int 0)) (.one (.cmp .Eq (.call "_law_gcd" (.cons (.idx (.var 0) (.int 0)) (.cons (.idx (.var 0) (.int 1)) .nil))) (.int 1))))) .nil)))⟩
def F_law_number : Fn := ⟨2, 3,
  (.cons (.set 2 (.call "_law_draws" (.cons (.var 0) (.cons (.var 1) (.cons (.int 3) (.cons (.int 121) .nil)))))) (.cons (.ifs (.cmp .Eq (.bin .Mod (.idx (.var 2) (.int 0)) (.int 3)) (.int 0)) (.cons (.ret (.call "_law_cell" (.cons (.var 0) (.cons (.var 1) .nil)))) .nil) .nil) (.cons (.ret (.bin .Mult (.bin .Sub (.idx (.var 2) (.int 1)) (.int 60)) (.bin .Add (.bin .Mod (.idx (.var 2) (.int 2)) (.int 40)) (.int 1)))) .nil)))⟩
def F_law_refused : Fn := ⟨1, 3,
  (.cons (.set 1 (.str "none")) (.cons (.tryas (.cons (.expr (.call "rational" (.cons (.var 0) (.cons (.int 0) .nil)))) .nil) "Fault" 2 (.cons (.set 1 (.str "fault")) (.cons (.ifs (.or (.not (.v (.isx (.var 2) "ZeroDivisor"))) (.one (.not (.v (.isx (.var 2) "ValueError"))))) (.cons (.set 1 (.str "other")) .nil) .nil) (.cons (.ifs (.v (.isxs (.var 2) ["Malformed", "NoText", "Refused", "TooLarge"])) (.cons (.set 1 (.str "other")) .nil) .nil) .nil)))) (.cons (.ret (.cmp .Eq (.var 1) (.str "fault"))) .nil)))⟩
def F_law : Fn := ⟨1, 5,
  (.cons (.set 1 (.call "_law_number" (.cons (.var 0) (.cons (.int 0) .nil)))) (.cons (.set 2 (.call "_law_number" (.cons (.var 0) (.cons (.int 1) .nil)))) (.cons (.ifs (.cmp .Eq (.bin .Mod (.bi .int (.cons (.call "_law_cell" (.cons (.var 0) (.cons (.int 2) .nil))) .nil)) (.int 9)) (.int 4)) (.cons (.set 2 (.int 0)) .nil) .nil) (.cons (.ifs (.not (.v (.call "_law_refused" (.cons (.var 1) .nil)))) (.cons (.ret (.bl false)) .nil) .nil) (.cons (.ifs (.cmp .Eq (.var 2) (.int 0)) (.cons (.ret (.bl true)) .nil) .nil) (.cons (.set 3 (.call "rational" (.cons (.var 1) (.cons (.var 2) .nil)))) (.cons (.ifs (.not (.v (.call "_law_is_rat" (.cons (.var 3) .nil)))) (.cons (.ret (.bl false)) .nil) .nil) (.cons (.set 4 (.call "rational" (.cons (.int 0) (.cons (.var 2) .nil)))) (.cons (.ret (.and (.cmp .Eq (.bin .Mult (.idx (.var 3) (.int 0)) (.var 2)) (.bin .Mult (.var 1) (.idx (.var 3) (.int 1)))) (.and (.call "_law_is_rat" (.cons (.var 4) .nil)) (.one (.cmp .Eq (.var 4) (.tup (.cons (.int 0) (.cons (.int 1) .nil)))))))) .nil)))))))))⟩
def tbl : List (Str × Fn) := [(("rational" : Str), F_rational), (("_law_cell" : Str), F_law_cell), (("_law_draws" : Str), F_law_draws), (("_law_gcd" : Str), F_law_gcd), (("_law_is_integer" : Str), F_law_is_integer), (("_law_is_rat" : Str), F_law_is_rat), (("_law_number" : Str), F_law_number), (("_law_refused" : Str), F_law_refused), (("law" : Str), F_law)]
def T : Str → Option Fn := fun f => tbl.lookup f
theorem t_rational : T "rational" = some F_rational := rfl
theorem t_law_cell : T "_law_cell" = some F_law_cell := rfl
theorem t_law_draws : T "_law_draws" = some F_law_draws := rfl
theorem t_law_gcd : T "_law_gcd" = some F_law_gcd := rfl
theorem t_law_is_integer : T "_law_is_integer" = some F_law_is_integer := rfl
theorem t_law_is_rat : T "_law_is_rat" = some F_law_is_rat := rfl
theorem t_law_number : T "_law_number" = some F_law_number := rfl
theorem t_law_refused : T "_law_refused" = some F_law_refused := rfl
theorem t_law : T "law" = some F_law := rfl
def mtT : List ((Str × Str) × Str) := []
def itT : List (Str × Option Str) := []
def fdT : List (Str × Str) := []
def subT : List (Str × Str × Bool) := [("ZeroDivisor", "Fault", true), ("ZeroDivisor", "Malformed", false), ("ZeroDivisor", "NoText", false), ("ZeroDivisor", "Refused", false), ("ZeroDivisor", "TooLarge", false), ("ZeroDivisor", "ValueError", true), ("ZeroDivisor", "ZeroDivisor", true)]
def G : Gl0 := { cs := fun x => none, PY := True, sub := fun c x => ((subT.filter fun z => z.2.1 == x).map fun z => (z.1, z.2.2)).lookup c, mt := fun x y => mtT.lookup (x, y), it := fun x => itT.lookup x, fd := fun x y => fdT.contains (x, y) }
def topS (i : Nat) : Stmt := PySem.Challenge.pw_integraph_k00_lowest_terms.main.body.getD i (.Pass ⟨0, 0, 0, 0⟩)
def M : Md := { mks := [], meth := [], fns := [(("rational" : Str), 2), (("_law_cell" : Str), 2), (("_law_draws" : Str), 4), (("_law_gcd" : Str), 2), (("_law_is_integer" : Str), 1), (("_law_is_rat" : Str), 1), (("_law_number" : Str), 2), (("_law_refused" : Str), 1), (("law" : Str), 1)], blt := ["ValueError", "abs", "bool", "int", "isinstance", "len", "range", "tuple"], cst := [], gcd := true, lcm := false, exc := ["ZeroDivisor"], exn := ["Fault"], xis := ["Fault", "Malformed", "NoText", "Refused", "TooLarge", "ValueError", "ZeroDivisor"] }
abbrev n_rational : List Str := ["n", "d", "common"]
abbrev p_rational : List Str := ["n", "d"]
theorem ft_rational : FnT M (topS 9) F_rational n_rational p_rational := ⟨⟨rfl, rfl, rfl, by decide +kernel, rfl, by decide +kernel, by decide +kernel⟩, by decide +kernel, rfl, rfl⟩
abbrev n_law_cell : List Str := ["_law_script", "_law_k"]
abbrev p_law_cell : List Str := ["_law_script", "_law_k"]
theorem ft_law_cell : FnT M (topS 11) F_law_cell n_law_cell p_law_cell := ⟨⟨rfl, rfl, rfl, by decide +kernel, rfl, by decide +kernel, by decide +kernel⟩, by decide +kernel, rfl, rfl⟩
abbrev n_law_draws : List Str := ["_law_script", "_law_at", "_law_count", "_law_bound", "_law_cell_here", "_law_out", "_law_number_here", "_law_k", "_law_mixed"]
abbrev p_law_draws : List Str := ["_law_script", "_law_at", "_law_count", "_law_bound"]
theorem ft_law_draws : FnT M (topS 12) F_law_draws n_law_draws p_law_draws := ⟨⟨rfl, rfl, rfl, by decide +kernel, rfl, by decide +kernel, by decide +kernel⟩, by decide +kernel, rfl, rfl⟩
abbrev n_law_gcd : List Str := ["_law_a", "_law_b", "_law_one", "_law_two", "_law_rest"]
abbrev p_law_gcd : List Str := ["_law_a", "_law_b"]
theorem ft_law_gcd : FnT M (topS 13) F_law_gcd n_law_gcd p_law_gcd := ⟨⟨rfl, rfl, rfl, by decide +kernel, rfl, by decide +kernel, by decide +kernel⟩, by decide +kernel, rfl, rfl⟩
abbrev n_law_is_integer : List Str := ["_law_value"]
abbrev p_law_is_integer : List Str := ["_law_value"]
theorem ft_law_is_integer : FnT M (topS 14) F_law_is_integer n_law_is_integer p_law_is_integer := ⟨⟨rfl, rfl, rfl, by decide +kernel, rfl, by decide +kernel, by decide +kernel⟩, by decide +kernel, rfl, rfl⟩
abbrev n_law_is_rat : List Str := ["_law_value"]
abbrev p_law_is_rat : List Str := ["_law_value"]
theorem ft_law_is_rat : FnT M (topS 15) F_law_is_rat n_law_is_rat p_law_is_rat := ⟨⟨rfl, rfl, rfl, by decide +kernel, rfl, by decide +kernel, by decide +kernel⟩, by decide +kernel, rfl, rfl⟩
abbrev n_law_number : List Str := ["_law_script", "_law_at", "_law_row"]
abbrev p_law_number : List Str := ["_law_script", "_law_at"]
theorem ft_law_number : FnT M (topS 16) F_law_number n_law_number p_law_number := ⟨⟨rfl, rfl, rfl, by decide +kernel, rfl, by decide +kernel, by decide +kernel⟩, by decide +kernel, rfl, rfl⟩
abbrev n_law_refused : List Str := ["_law_n", "_law_told", "e"]
abbrev p_law_refused : List Str := ["_law_n"]
theorem ft_law_refused : FnT M (topS 17) F_law_refused n_law_refused p_law_refused := ⟨⟨rfl, rfl, rfl, by decide +kernel, rfl, by decide +kernel, by decide +kernel⟩, by decide +kernel, rfl, rfl⟩
abbrev n_law : List Str := ["_law_script", "_law_n", "_law_d", "_law_told", "_law_zero"]
abbrev p_law : List Str := ["_law_script"]
theorem ft_law : FnT M (topS 18) F_law n_law p_law := ⟨⟨rfl, rfl, rfl, by decide +kernel, rfl, by decide +kernel, by decide +kernel⟩, by decide +kernel, rfl, rfl⟩
theorem mok_mk {P : Program} {K : PySem.W.Frag} {h base : Heap} {mg : Str → Option Value} (X : K.In h) (Gn : h.Ns mainGlobals mg) (hse : base.NoSeer) (ht : P.given.tree = none)
    {f0 : Addr} {od0 an0 : Option Addr} {sl0 : Array (Option Value)} {oc0 kV0 dc0 pm0 cd0 ct0 : Value}
    {f1 : Addr} {od1 an1 : Option Addr} {sl1 : Array (Option Value)} {oc1 kV1 dc1 pm1 cd1 ct1 : Value}
    {f2 : Addr} {od2 an2 : Option Addr} {sl2 : Array (Option Value)} {oc2 kV2 dc2 pm2 cd2 ct2 : Value}
    {f3 : Addr} {od3 an3 : Option Addr} {sl3 : Array (Option Value)} {oc3 kV3 dc3 pm3 cd3 ct3 : Value}
    {f4 : Addr} {od4 an4 : Option Addr} {sl4 : Array (Option Value)} {oc4 kV4 dc4 pm4 cd4 ct4 : Value}
    {f5 : Addr} {od5 an5 : Option Addr} {sl5 : Array (Option Value)} {oc5 kV5 dc5 pm5 cd5 ct5 : Value}
    {f6 : Addr} {od6 an6 : Option Addr} {sl6 : Array (Option Value)} {oc6 kV6 dc6 pm6 cd6 ct6 : Value}
    {f7 : Addr} {od7 an7 : Option Addr} {sl7 : Array (Option Value)} {oc7 kV7 dc7 pm7 cd7 ct7 : Value}
    {f8 : Addr} {od8 an8 : Option Addr} {sl8 : Array (Option Value)} {oc8 kV8 dc8 pm8 cd8 ct8 : Value}
    (a0 : PySem.W.nsIn K mainGlobals "rational" = some (some (.ref f0))) (l0 : K.lookup f0 = some ⟨oc0, od0, .func (PySem.W.fnOf "rational" "rational" (defArgs (topS 9)) (defBody (topS 9)) (defScope (topS 9)) .none kV0 dc0 pm0 an0 cd0 ct0), sl0⟩) (c0 : PySem.W.codeIn K cd0 "rational" = true) (k0 : PySem.W.keepIn K (.ref f0) = true)
    (a1 : PySem.W.nsIn K mainGlobals "_law_cell" = some (some (.ref f1))) (l1 : K.lookup f1 = some ⟨oc1, od1, .func (PySem.W.fnOf "_law_cell" "_law_cell" (defArgs (topS 11)) (defBody (topS 11)) (defScope (topS 11)) .none kV1 dc1 pm1 an1 cd1 ct1), sl1⟩) (c1 : PySem.W.codeIn K cd1 "_law_cell" = true) (k1 : PySem.W.keepIn K (.ref f1) = true)
    (a2 : PySem.W.nsIn K mainGlobals "_law_draws" = some (some (.ref f2))) (l2 : K.lookup f2 = some ⟨oc2, od2, .func (PySem.W.fnOf "_law_draws" "_law_draws" (defArgs (topS 12)) (defBody (topS 12)) (defScope (topS 12)) .none kV2 dc2 pm2 an2 cd2 ct2), sl2⟩) (c2 : PySem.W.codeIn K cd2 "_law_draws" = true) (k2 : PySem.W.keepIn K (.ref f2) = true)
    (a3 : PySem.W.nsIn K mainGlobals "_law_gcd" = some (some (.ref f3))) (l3 : K.lookup f3 = some ⟨oc3, od3, .func (PySem.W.fnOf "_law_gcd" "_law_gcd" (defArgs (topS 13)) (defBody (topS 13)) (defScope (topS 13)) .none kV3 dc3 pm3 an3 cd3 ct3), sl3⟩) (c3 : PySem.W.codeIn K cd3 "_law_gcd" = true) (k3 : PySem.W.keepIn K (.ref f3) = true)
    (a4 : PySem.W.nsIn K mainGlobals "_law_is_integer" = some (some (.ref f4))) (l4 : K.lookup f4 = some ⟨oc4, od4, .func (PySem.W.fnOf "_law_is_integer" "_law_is_integer" (defArgs (topS 14)) (defBody (topS 14)) (defScope (topS 14)) .none kV4 dc4 pm4 an4 cd4 ct4), sl4⟩) (c4 : PySem.W.codeIn K cd4 "_law_is_integer" = true) (k4 : PySem.W.keepIn K (.ref f4) = true)
    (a5 : PySem.W.nsIn K mainGlobals "_law_is_rat" = some (some (.ref f5))) (l5 : K.lookup f5 = some ⟨oc5, od5, .func (PySem.W.fnOf "_law_is_rat" "_law_is_rat" (defArgs (topS 15)) (defBody (topS 15)) (defScope (topS 15)) .none kV5 dc5 pm5 an5 cd5 ct5), sl5⟩) (c5 : PySem.W.codeIn K cd5 "_law_is_rat" = true) (k5 : PySem.W.keepIn K (.ref f5) = true)
    (a6 : PySem.W.nsIn K mainGlobals "_law_number" = some (some (.ref f6))) (l6 : K.lookup f6 = some ⟨oc6, od6, .func (PySem.W.fnOf "_law_number" "_law_number" (defArgs (topS 16)) (defBody (topS 16)) (defScope (topS 16)) .none kV6 dc6 pm6 an6 cd6 ct6), sl6⟩) (c6 : PySem.W.codeIn K cd6 "_law_number" = true) (k6 : PySem.W.keepIn K (.ref f6) = true)
    (a7 : PySem.W.nsIn K mainGlobals "_law_refused" = some (some (.ref f7))) (l7 : K.lookup f7 = some ⟨oc7, od7, .func (PySem.W.fnOf "_law_refused" "_law_refused" (defArgs (topS 17)) (defBody (topS 17)) (defScope (topS 17)) .none kV7 dc7 pm7 an7 cd7 ct7), sl7⟩) (c7 : PySem.W.codeIn K cd7 "_law_refused" = true) (k7 : PySem.W.keepIn K (.ref f7) = true)
    (a8 : PySem.W.nsIn K mainGlobals "law" = some (some (.ref f8))) (l8 : K.lookup f8 = some ⟨oc8, od8, .func (PySem.W.fnOf "law" "law" (defArgs (topS 18)) (defBody (topS 18)) (defScope (topS 18)) .none kV8 dc8 pm8 an8 cd8 ct8), sl8⟩) (c8 : PySem.W.codeIn K cd8 "law" = true) (k8 : PySem.W.keepIn K (.ref f8) = true)
    (z0 : PySem.W.nsIn K mainGlobals "ValueError" = some none)
    (z1 : PySem.W.nsIn K mainGlobals "abs" = some none)
    (z2 : PySem.W.nsIn K mainGlobals "bool" = some none)
    (z3 : PySem.W.nsIn K mainGlobals "int" = some none)
    (z4 : PySem.W.nsIn K mainGlobals "isinstance" = some none)
    (z5 : PySem.W.nsIn K mainGlobals "len" = some none)
    (z6 : PySem.W.nsIn K mainGlobals "range" = some none)
    (z7 : PySem.W.nsIn K mainGlobals "tuple" = some none)
    (zg : PySem.W.nsIn K mainGlobals "gcd" = some (some (.builtin "math.gcd")))
    {e0 : Addr} (ea0 : PySem.W.nsIn K mainGlobals "Fault" = some (some (.ref e0))) (ek0 : PySem.W.keepIn K (.ref e0) = true) (eb0 : PySem.W.subIn K (.ref e0) (.type "BaseException") = some true) (et0 : PySem.W.typeIn K (.ref e0) = some (.type "type"))
    (ed0 : PySem.W.hasDictIn K e0 = true)
    {e1 : Addr} (ea1 : PySem.W.nsIn K mainGlobals "Malformed" = some (some (.ref e1))) (ek1 : PySem.W.keepIn K (.ref e1) = true) (eb1 : PySem.W.subIn K (.ref e1) (.type "BaseException") = some true) (et1 : PySem.W.typeIn K (.ref e1) = some (.type "type"))
    (ed1 : PySem.W.hasDictIn K e1 = true)
    {e2 : Addr} (ea2 : PySem.W.nsIn K mainGlobals "NoText" = some (some (.ref e2))) (ek2 : PySem.W.keepIn K (.ref e2) = true) (eb2 : PySem.W.subIn K (.ref e2) (.type "BaseException") = some true) (et2 : PySem.W.typeIn K (.ref e2) = some (.type "type"))
    (ed2 : PySem.W.hasDictIn K e2 = true)
    {e3 : Addr} (ea3 : PySem.W.nsIn K mainGlobals "Refused" = some (some (.ref e3))) (ek3 : PySem.W.keepIn K (.ref e3) = true) (eb3 : PySem.W.subIn K (.ref e3) (.type "BaseException") = some true) (et3 : PySem.W.typeIn K (.ref e3) = some (.type "type"))
    (ed3 : PySem.W.hasDictIn K e3 = true)
    {e4 : Addr} (ea4 : PySem.W.nsIn K mainGlobals "TooLarge" = some (some (.ref e4))) (ek4 : PySem.W.keepIn K (.ref e4) = true) (eb4 : PySem.W.subIn K (.ref e4) (.type "BaseException") = some true) (et4 : PySem.W.typeIn K (.ref e4) = some (.type "type"))
    (ed4 : PySem.W.hasDictIn K e4 = true)
    {e5 : Addr} (ea5 : PySem.W.nsIn K mainGlobals "ZeroDivisor" = some (some (.ref e5))) (ek5 : PySem.W.keepIn K (.ref e5) = true) (eb5 : PySem.W.subIn K (.ref e5) (.type "BaseException") = some true) (et5 : PySem.W.typeIn K (.ref e5) = some (.type "type"))
    (ex5 : PySem.W.excIn K e5 [.type "ValueError", .type "Exception", .type "BaseException", .type "object"] "ValueError.__new__" = true)
    (ed5 : PySem.W.hasDictIn K e5 = true)
    (es5_0 : PySem.W.subIn K (.ref e5) (.ref e0) = some true)
    (en5_0 : (Value.ref e5 == Value.ref e0) = false)
    (es5_1 : PySem.W.subIn K (.ref e5) (.ref e1) = some false)
    (en5_1 : (Value.ref e5 == Value.ref e1) = false)
    (es5_2 : PySem.W.subIn K (.ref e5) (.ref e2) = some false)
    (en5_2 : (Value.ref e5 == Value.ref e2) = false)
    (es5_3 : PySem.W.subIn K (.ref e5) (.ref e3) = some false)
    (en5_3 : (Value.ref e5 == Value.ref e3) = false)
    (es5_4 : PySem.W.subIn K (.ref e5) (.ref e4) = some false)
    (en5_4 : (Value.ref e5 == Value.ref e4) = false)
    (es5_5 : PySem.W.subIn K (.ref e5) (.ref e5) = some true)
    (xn : PySem.W.specialIn K (.builtin "object.__class__") "__get__" = some (some (.builtin "getset_descriptor.__get__"))) (xt : PySem.W.takesIn K (.builtin "object.__class__") = some true)
    (xg5 : PySem.W.findIn K (.ref e5) "__getattribute__" = some (some (.builtin "BaseException.__getattribute__"))) (xk5 : PySem.W.findIn K (.ref e5) "__getattr__" = some none) (xa5 : PySem.W.findIn K (.ref e5) "__class__" = some (some (.builtin "object.__class__"))) (xm5 : PySem.W.mroIn K e5 (.type "object") = some true)
    (xb5_0 : PySem.W.subIn K (.ref e5) (.type "ValueError") = some true) :
    Mok M G T P K mg base where
  blt := fun x hx => by
    have hx : x ∈ M.blt := by simpa using hx
    simp only [M, List.mem_cons, List.not_mem_nil, or_false] at hx
    rcases hx with rfl | rfl | rfl | rfl | rfl | rfl | rfl | rfl
    · exact PySem.W.mg_none_of X Gn z0
    · exact PySem.W.mg_none_of X Gn z1
    · exact PySem.W.mg_none_of X Gn z2
    · exact PySem.W.mg_none_of X Gn z3
    · exact PySem.W.mg_none_of X Gn z4
    · exact PySem.W.mg_none_of X Gn z5
    · exact PySem.W.mg_none_of X Gn z6
    · exact PySem.W.mg_none_of X Gn z7
  lcm := fun h => by cases h
  gcd := fun _ => PySem.W.mg_of X Gn zg
  cst := fun x h => by cases h
  fns := fun f n h => by
    have h := mem_of_lookup h
    simp only [M, List.mem_cons, List.not_mem_nil, or_false, Prod.mk.injEq] at h
    rcases h with ⟨rfl, rfl⟩ | ⟨rfl, rfl⟩ | ⟨rfl, rfl⟩ | ⟨rfl, rfl⟩ | ⟨rfl, rfl⟩ | ⟨rfl, rfl⟩ | ⟨rfl, rfl⟩ | ⟨rfl, rfl⟩ | ⟨rfl, rfl⟩
    · exact ⟨by decide +kernel, _, t_rational, rfl⟩
    · exact ⟨by decide +kernel, _, t_law_cell, rfl⟩
    · exact ⟨by decide +kernel, _, t_law_draws, rfl⟩
    · exact ⟨by decide +kernel, _, t_law_gcd, rfl⟩
    · exact ⟨by decide +kernel, _, t_law_is_integer, rfl⟩
    · exact ⟨by decide +kernel, _, t_law_is_rat, rfl⟩
    · exact ⟨by decide +kernel, _, t_law_number, rfl⟩
    · exact ⟨by decide +kernel, _, t_law_refused, rfl⟩
    · exact ⟨by decide +kernel, _, t_law, rfl⟩
  fn := fun f F h => by
    have h := mem_of_lookup (l := tbl) h
    simp only [tbl, List.mem_cons, List.not_mem_nil, or_false, Prod.mk.injEq] at h
    rcases h with ⟨rfl, rfl⟩ | ⟨rfl, rfl⟩ | ⟨rfl, rfl⟩ | ⟨rfl, rfl⟩ | ⟨rfl, rfl⟩ | ⟨rfl, rfl⟩ | ⟨rfl, rfl⟩ | ⟨rfl, rfl⟩ | ⟨rfl, rfl⟩
    · exact ⟨f0, _, (topS 9), _, _, "rational", "rational", (at_f (by decide +kernel) (PySem.W.mg_of X Gn a0)), fun_mk (st := (topS 9)) l0 c0 k0, ft_rational, (fun_mk (st := (topS 9)) l0 c0 k0).binds (ps := p_rational) fun _ _ _ _ _ _ us hl => match us, hl with | [_, _], _ => rfl⟩
    · exact ⟨f1, _, (topS 11), _, _, "_law_cell", "_law_cell", (at_f (by decide +kernel) (PySem.W.mg_of X Gn a1)), fun_mk (st := (topS 11)) l1 c1 k1, ft_law_cell, (fun_mk (st := (topS 11)) l1 c1 k1).binds (ps := p_law_cell) fun _ _ _ _ _ _ us hl => match us, hl with | [_, _], _ => rfl⟩
    · exact ⟨f2, _, (topS 12), _, _, "_law_draws", "_law_draws", (at_f (by decide +kernel) (PySem.W.mg_of X Gn a2)), fun_mk (st := (topS 12)) l2 c2 k2, ft_law_draws, (fun_mk (st := (topS 12)) l2 c2 k2).binds (ps := p_law_draws) fun _ _ _ _ _ _ us hl => match us, hl with | [_, _, _, _], _ => rfl⟩
    · exact ⟨f3, _, (topS 13), _, _, "_law_gcd", "_law_gcd", (at_f (by decide +kernel) (PySem.W.mg_of X Gn a3)), fun_mk (st := (topS 13)) l3 c3 k3, ft_law_gcd, (fun_mk (st := (topS 13)) l3 c3 k3).binds (ps := p_law_gcd) fun _ _ _ _ _ _ us hl => match us, hl with | [_, _], _ => rfl⟩
    · exact ⟨f4, _, (topS 14), _, _, "_law_is_integer", "_law_is_integer", (at_f (by decide +kernel) (PySem.W.mg_of X Gn a4)), fun_mk (st := (topS 14)) l4 c4 k4, ft_law_is_integer, (fun_mk (st := (topS 14)) l4 c4 k4).binds (ps := p_law_is_integer) fun _ _ _ _ _ _ us hl => match us, hl with | [_], _ => rfl⟩
    · exact ⟨f5, _, (topS 15), _, _, "_law_is_rat", "_law_is_rat", (at_f (by decide +kernel) (PySem.W.mg_of X Gn a5)), fun_mk (st := (topS 15)) l5 c5 k5, ft_law_is_rat, (fun_mk (st := (topS 15)) l5 c5 k5).binds (ps := p_law_is_rat) fun _ _ _ _ _ _ us hl => match us, hl with | [_], _ => rfl⟩
    · exact ⟨f6, _, (topS 16), _, _, "_law_number", "_law_number", (at_f (by decide +kernel) (PySem.W.mg_of X Gn a6)), fun_mk (st := (topS 16)) l6 c6 k6, ft_law_number, (fun_mk (st := (topS 16)) l6 c6 k6).binds (ps := p_law_number) fun _ _ _ _ _ _ us hl => match us, hl with | [_, _], _ => rfl⟩
    · exact ⟨f7, _, (topS 17), _, _, "_law_refused", "_law_refused", (at_f (by decide +kernel) (PySem.W.mg_of X Gn a7)), fun_mk (st := (topS 17)) l7 c7 k7, ft_law_refused, (fun_mk (st := (topS 17)) l7 c7 k7).binds (ps := p_law_refused) fun _ _ _ _ _ _ us hl => match us, hl with | [_], _ => rfl⟩
    · exact ⟨f8, _, (topS 18), _, _, "law", "law", (at_f (by decide +kernel) (PySem.W.mg_of X Gn a8)), fun_mk (st := (topS 18)) l8 c8 k8, ft_law, (fun_mk (st := (topS 18)) l8 c8 k8).binds (ps := p_law) fun _ _ _ _ _ _ us hl => match us, hl with | [_], _ => rfl⟩
  mts := fun x y key h => by cases h
  mk0 := fun x h => by cases h
  mk1 := fun x h => by cases h
  fds := fun x y h => by cases h
  py := fun _ => ⟨hse, ht⟩
  exc := fun x hx => by
    have hx : x ∈ M.exc := by simpa using hx
    simp only [M, List.mem_cons, List.not_mem_nil, or_false] at hx
    rcases hx with rfl
    · exact ⟨e5, PySem.W.mg_of X Gn ea5, ek5, ex5, eb5, et5⟩
  exn := fun x hx => by
    have hx : x ∈ M.exn := by simpa using hx
    simp only [M, List.mem_cons, List.not_mem_nil, or_false] at hx
    rcases hx with rfl
    · refine ⟨_, .inl (PySem.W.mg_of X Gn ea0), fun c b hc => ?_⟩
      have hc : ((subT.filter fun z => z.2.1 == ("Fault" : Str)).map fun z => (z.1, z.2.2)).lookup c = some b := hc
      have hc := mem_of_lookup hc
      rw [show (subT.filter fun z => z.2.1 == ("Fault" : Str)).map (fun z => (z.1, z.2.2)) = ([("ZeroDivisor", true)] : List (Str × Bool)) from by decide +kernel] at hc
      simp only [List.mem_cons, List.not_mem_nil, or_false, Prod.mk.injEq] at hc
      rcases hc with ⟨rfl, rfl⟩
      · exact ⟨_, PySem.W.mg_of X Gn ea5, PySem.W.exm_ref eb0 ed0 et0 es5_0⟩
  exi := fun x hx => by
    have hx : x ∈ M.xis := by simpa using hx
    simp only [M, List.mem_cons, List.not_mem_nil, or_false] at hx
    rcases hx with rfl | rfl | rfl | rfl | rfl | rfl | rfl
    · refine ⟨.ref e0, .ref e0, .own _, .inl (PySem.W.mg_of X Gn ea0), fun k b hc => ?_⟩
      have hc : ((subT.filter fun z => z.2.1 == ("Fault" : Str)).map fun z => (z.1, z.2.2)).lookup k = some b := hc
      have hc := mem_of_lookup hc
      rw [show (subT.filter fun z => z.2.1 == ("Fault" : Str)).map (fun z => (z.1, z.2.2)) = ([("ZeroDivisor", true)] : List (Str × Bool)) from by decide +kernel] at hc
      simp only [List.mem_cons, List.not_mem_nil, or_false, Prod.mk.injEq] at hc
      rcases hc with ⟨rfl, rfl⟩
      · exact ⟨_, PySem.W.mg_of X Gn ea5, ⟨xg5, xk5, eb5, ed5, xa5, xn, xt, xm5⟩, kit_ne en5_0 ed0 et0 es5_0⟩
    · refine ⟨.ref e1, .ref e1, .own _, .inl (PySem.W.mg_of X Gn ea1), fun k b hc => ?_⟩
      have hc : ((subT.filter fun z => z.2.1 == ("Malformed" : Str)).map fun z => (z.1, z.2.2)).lookup k = some b := hc
      have hc := mem_of_lookup hc
      rw [show (subT.filter fun z => z.2.1 == ("Malformed" : Str)).map (fun z => (z.1, z.2.2)) = ([("ZeroDivisor", false)] : List (Str × Bool)) from by decide +kernel] at hc
      simp only [List.mem_cons, List.not_mem_nil, or_false, Prod.mk.injEq] at hc
      rcases hc with ⟨rfl, rfl⟩
      · exact ⟨_, PySem.W.mg_of X Gn ea5, ⟨xg5, xk5, eb5, ed5, xa5, xn, xt, xm5⟩, kit_ne en5_1 ed1 et1 es5_1⟩
    · refine ⟨.ref e2, .ref e2, .own _, .inl (PySem.W.mg_of X Gn ea2), fun k b hc => ?_⟩
      have hc : ((subT.filter fun z => z.2.1 == ("NoText" : Str)).map fun z => (z.1, z.2.2)).lookup k = some b := hc
      have hc := mem_of_lookup hc
      rw [show (subT.filter fun z => z.2.1 == ("NoText" : Str)).map (fun z => (z.1, z.2.2)) = ([("ZeroDivisor", false)] : List (Str × Bool)) from by decide +kernel] at hc
      simp only [List.mem_cons, List.not_mem_nil, or_false, Prod.mk.injEq] at hc
      rcases hc with ⟨rfl, rfl⟩
      · exact ⟨_, PySem.W.mg_of X Gn ea5, ⟨xg5, xk5, eb5, ed5, xa5, xn, xt, xm5⟩, kit_ne en5_2 ed2 et2 es5_2⟩
    · refine ⟨.ref e3, .ref e3, .own _, .inl (PySem.W.mg_of X Gn ea3), fun k b hc => ?_⟩
      have hc : ((subT.filter fun z => z.2.1 == ("Refused" : Str)).map fun z => (z.1, z.2.2)).lookup k = some b := hc
      have hc := mem_of_lookup hc
      rw [show (subT.filter fun z => z.2.1 == ("Refused" : Str)).map (fun z => (z.1, z.2.2)) = ([("ZeroDivisor", false)] : List (Str × Bool)) from by decide +kernel] at hc
      simp only [List.mem_cons, List.not_mem_nil, or_false, Prod.mk.injEq] at hc
      rcases hc with ⟨rfl, rfl⟩
      · exact ⟨_, PySem.W.mg_of X Gn ea5, ⟨xg5, xk5, eb5, ed5, xa5, xn, xt, xm5⟩, kit_ne en5_3 ed3 et3 es5_3⟩
    · refine ⟨.ref e4, .ref e4, .own _, .inl (PySem.W.mg_of X Gn ea4), fun k b hc => ?_⟩
      have hc : ((subT.filter fun z => z.2.1 == ("TooLarge" : Str)).map fun z => (z.1, z.2.2)).lookup k = some b := hc
      have hc := mem_of_lookup hc
      rw [show (subT.filter fun z => z.2.1 == ("TooLarge" : Str)).map (fun z => (z.1, z.2.2)) = ([("ZeroDivisor", false)] : List (Str × Bool)) from by decide +kernel] at hc
      simp only [List.mem_cons, List.not_mem_nil, or_false, Prod.mk.injEq] at hc
      rcases hc with ⟨rfl, rfl⟩
      · exact ⟨_, PySem.W.mg_of X Gn ea5, ⟨xg5, xk5, eb5, ed5, xa5, xn, xt, xm5⟩, kit_ne en5_4 ed4 et4 es5_4⟩
    · refine ⟨.ty "ValueError", .type "ValueError", .ty _, .inr ⟨PySem.W.mg_none_of X Gn z0, by decide +kernel, by decide⟩, fun k b hc => ?_⟩
      have hc : ((subT.filter fun z => z.2.1 == ("ValueError" : Str)).map fun z => (z.1, z.2.2)).lookup k = some b := hc
      have hc := mem_of_lookup hc
      rw [show (subT.filter fun z => z.2.1 == ("ValueError" : Str)).map (fun z => (z.1, z.2.2)) = ([("ZeroDivisor", true)] : List (Str × Bool)) from by decide +kernel] at hc
      simp only [List.mem_cons, List.not_mem_nil, or_false, Prod.mk.injEq] at hc
      rcases hc with ⟨rfl, rfl⟩
      · exact ⟨_, PySem.W.mg_of X Gn ea5, ⟨xg5, xk5, eb5, ed5, xa5, xn, xt, xm5⟩, kit_bt (by decide +kernel) xb5_0⟩
    · refine ⟨.ref e5, .ref e5, .own _, .inl (PySem.W.mg_of X Gn ea5), fun k b hc => ?_⟩
      have hc : ((subT.filter fun z => z.2.1 == ("ZeroDivisor" : Str)).map fun z => (z.1, z.2.2)).lookup k = some b := hc
      have hc := mem_of_lookup hc
      rw [show (subT.filter fun z => z.2.1 == ("ZeroDivisor" : Str)).map (fun z => (z.1, z.2.2)) = ([("ZeroDivisor", true)] : List (Str × Bool)) from by decide +kernel] at hc
      simp only [List.mem_cons, List.not_mem_nil, or_false, Prod.mk.injEq] at hc
      rcases hc with ⟨rfl, rfl⟩
      · exact ⟨_, PySem.W.mg_of X Gn ea5, ⟨xg5, xk5, eb5, ed5, xa5, xn, xt, xm5⟩, kit_self⟩
/-! k00: lowest terms. -/
open LA
variable {k : Nat} {S : Sto} {Q : DK} {E : XS}
theorem is_int_ok (n : Int) (h : Q (.bl true) S) : semF G T (k + 1) "_law_is_integer" [.int n] S Q E := by
  refine call_of t_law_is_integer rfl ?_
  simp -dsimp -implicitDefEqProofs only [ent, List.map_cons, List.map_nil, List.length_cons, List.length_nil, Nat.reduceAdd, Nat.reduceSub, Nat.zero_add, List.replicate, List.cons_append, List.nil_append, F_law_is_integer]
  simp -dsimp -implicitDefEqProofs only [↓cov3, ↓cov2, ↓cov1, ↓E_var, ↓E_int, ↓E_bl, ↓E_non, ↓E_str, ↓E_glo, ↓E_tup, ↓E_lst, ↓E_bin, ↓E_neg, ↓E_cmp, ↓E_chn, ↓E_and, ↓E_or, ↓E_one, ↓E_not, ↓E_ifx, ↓E_idx, ↓E_slc, ↓E_call, ↓E_bi, ↓E_isi, ↓E_mth, ↓E_lc, ↓E_fld, ↓E_mcl, ↓E_mk, ↓Es_nil, ↓Es_cons, ↓O_no, ↓O_some, ↓Q_no, ↓Q_c, ↓C_and, ↓C_or, ↓C_one, ↓C_not, ↓C_cmp, ↓C_chn, ↓C_v, ↓I_seq, ↓I_rng1, ↓I_rng2, ↓I_rng3, ↓I_enu, ↓I_zip, ↓I_rev, ↓S_set, ↓S_asg, ↓S_par2, ↓S_sub, ↓S_expr, ↓S_ret, ↓S_retN, ↓S_ifs, ↓S_for, ↓S_brk, ↓S_cnt, ↓S_pass, ↓S_raise, ↓S_try, ↓S_tryas, ↓E_isx, ↓E_isxs, kW_nx, kW_rt, kW_bk, kW_ct, kW_ex, gx_sub, gx_cs, gx_PY, ↓S_never, ↓S_setf, ex_t, ex_f, ↓S_nil, ↓S_cons, ↓kN_nx, ↓kN_rt, ↓kN_bk, ↓kN_ct, ↓kN_ex, ↓kL_nx, ↓kL_rt, ↓kL_bk, ↓kL_ct, ↓kL_ex, ↓kX_nx, ↓kX_rt, ↓kX_bk, ↓kX_ct, ↓kX_ex, ↓kend_nx, ↓kend_rt, ↓kend_bk, ↓kend_ct, ↓kend_ex, vr_some, gt_0, gt_s, stn_0, stn_s, wip_0, wip_s, wips_0, wips_s, neg_i, isi_s, o_i, tru_non, tru_bl, tru_int, tru_tup, tru_rol, c_Eq, c_NotEq, c_Lt, c_LtE, c_Gt, c_GtE, cs_Eq, cs_NotEq, cb_Eq, cb_NotEq, c2_Eq, c2_NotEq, is_non, isnot_non, is_bl, isnot_bl, is_int, isnot_int, is_str, isnot_str, is_tup, isnot_tup, is_rol, isnot_rol, is_ref, isnot_ref, is_b, isnot_b, in_s, notin_s, b_add, b_sub, b_mul, b_fdiv, b_mod, b_pow, b_addt, b_adds, atI0, atI1, atI2, atI3, slc_t, slc_r, len_s, abs_i, int_i, int_b, min_i, max_i, lcm_i, gcd_i, seq_t, seq_r, r1_i, r2_i, r3_i, a_nm, a_nil, a_cons, vrl_some, vrn_some, put_lget, Option.isSome_some, tru_ref, b_addl, idx_t, idx_r, idx_l, slc_l, len_t, len_r, len_l, tuple_t, tuple_r, tuple_l, list_t, list_r, list_l, app_l, rev_l, pop_l, popat_l, mT_l, seq_l, enu_l, enu_t, fld_i, mcl_i, setf_i, vri_some, vrk_some, mk_0, mk_1, b_mull, zip_l, rev_i, rev_t, in_t, notin_t, fl_s, fl_i, fl_b, fl_n, inL_nil, inL_ss, inL_ii, List.all_cons, List.all_nil, Bool.and_self, Bool.and_true, Bool.true_and, zip_t, zip_m, a_t, a_l, sub_l, isTs, isT, Option.map_some, List.length_cons, List.length_nil, List.lookup_nil, Nat.reduceAdd, Nat.reduceSub, Nat.reduceLT, Nat.zero_add, Bool.false_eq_true, Bool.true_eq_false, if_false, if_true, decide_eq_true_eq, Bool.not_true, Bool.not_false, ite_true, ite_false, reduceIte, Bool.not_eq_true', decide_eq_false_iff_not, Int.cast_ofNat_Int, Int.reduceEq, Int.reduceLT, Int.reduceLE, Int.reduceNeg, Int.reduceAdd, Int.reduceSub, Int.reduceMul, Int.reduceToNat, decide_true, decide_false, not_true, not_false, not_true_eq_false, not_false_eq_true, true_and, and_true, eq_self, reduceCtorEq, List.isEmpty_nil, List.isEmpty_cons, List.nil_append, List.cons_append]
  exact h
theorem is_rat_ok (q : Rat) (h : Q (.bl true) S) : semF G T (k + 2) "_law_is_rat" [QD q] S Q E := by
  refine call_of t_law_is_rat rfl ?_
  simp -dsimp -implicitDefEqProofs only [ent, List.map_cons, List.map_nil, List.length_cons, List.length_nil, Nat.reduceAdd, Nat.reduceSub, Nat.zero_add, List.replicate, List.cons_append, List.nil_append, F_law_is_rat, QD]
  simp -dsimp -implicitDefEqProofs only [↓cov3, ↓cov2, ↓cov1, ↓E_var, ↓E_int, ↓E_bl, ↓E_non, ↓E_str, ↓E_glo, ↓E_tup, ↓E_lst, ↓E_bin, ↓E_neg, ↓E_cmp, ↓E_chn, ↓E_and, ↓E_or, ↓E_one, ↓E_not, ↓E_ifx, ↓E_idx, ↓E_slc, ↓E_call, ↓E_bi, ↓E_isi, ↓E_mth, ↓E_lc, ↓E_fld, ↓E_mcl, ↓E_mk, ↓Es_nil, ↓Es_cons, ↓O_no, ↓O_some, ↓Q_no, ↓Q_c, ↓C_and, ↓C_or, ↓C_one, ↓C_not, ↓C_cmp, ↓C_chn, ↓C_v, ↓I_seq, ↓I_rng1, ↓I_rng2, ↓I_rng3, ↓I_enu, ↓I_zip, ↓I_rev, ↓S_set, ↓S_asg, ↓S_par2, ↓S_sub, ↓S_expr, ↓S_ret, ↓S_retN, ↓S_ifs, ↓S_for, ↓S_brk, ↓S_cnt, ↓S_pass, ↓S_raise, ↓S_try, ↓S_tryas, ↓E_isx, ↓E_isxs, kW_nx, kW_rt, kW_bk, kW_ct, kW_ex, gx_sub, gx_cs, gx_PY, ↓S_never, ↓S_setf, ex_t, ex_f, ↓S_nil, ↓S_cons, ↓kN_nx, ↓kN_rt, ↓kN_bk, ↓kN_ct, ↓kN_ex, ↓kL_nx, ↓kL_rt, ↓kL_bk, ↓kL_ct, ↓kL_ex, ↓kX_nx, ↓kX_rt, ↓kX_bk, ↓kX_ct, ↓kX_ex, ↓kend_nx, ↓kend_rt, ↓kend_bk, ↓kend_ct, ↓kend_ex, vr_some, gt_0, gt_s, stn_0, stn_s, wip_0, wip_s, wips_0, wips_s, neg_i, isi_s, o_i, tru_non, tru_bl, tru_int, tru_tup, tru_rol, c_Eq, c_NotEq, c_Lt, c_LtE, c_Gt, c_GtE, cs_Eq, cs_NotEq, cb_Eq, cb_NotEq, c2_Eq, c2_NotEq, is_non, isnot_non, is_bl, isnot_bl, is_int, isnot_int, is_str, isnot_str, is_tup, isnot_tup, is_rol, isnot_rol, is_ref, isnot_ref, is_b, isnot_b, in_s, notin_s, b_add, b_sub, b_mul, b_fdiv, b_mod, b_pow, b_addt, b_adds, atI0, atI1, atI2, atI3, slc_t, slc_r, len_s, abs_i, int_i, int_b, min_i, max_i, lcm_i, gcd_i, seq_t, seq_r, r1_i, r2_i, r3_i, a_nm, a_nil, a_cons, vrl_some, vrn_some, put_lget, Option.isSome_some, tru_ref, b_addl, idx_t, idx_r, idx_l, slc_l, len_t, len_r, len_l, tuple_t, tuple_r, tuple_l, list_t, list_r, list_l, app_l, rev_l, pop_l, popat_l, mT_l, seq_l, enu_l, enu_t, fld_i, mcl_i, setf_i, vri_some, vrk_some, mk_0, mk_1, b_mull, zip_l, rev_i, rev_t, in_t, notin_t, fl_s, fl_i, fl_b, fl_n, inL_nil, inL_ss, inL_ii, List.all_cons, List.all_nil, Bool.and_self, Bool.and_true, Bool.true_and, zip_t, zip_m, a_t, a_l, sub_l, isTs, isT, Option.map_some, List.length_cons, List.length_nil, List.lookup_nil, Nat.reduceAdd, Nat.reduceSub, Nat.reduceLT, Nat.zero_add, Bool.false_eq_true, Bool.true_eq_false, if_false, if_true, decide_eq_true_eq, Bool.not_true, Bool.not_false, ite_true, ite_false, reduceIte, Bool.not_eq_true', decide_eq_false_iff_not, Int.cast_ofNat_Int, Int.reduceEq, Int.reduceLT, Int.reduceLE, Int.reduceNeg, Int.reduceAdd, Int.reduceSub, Int.reduceMul, Int.reduceToNat, decide_true, decide_false, not_true, not_false, not_true_eq_false, not_false_eq_true, true_and, and_true, eq_self, reduceCtorEq, List.isEmpty_nil, List.isEmpty_cons, List.nil_append, List.cons_append]
  refine is_int_ok _ ?_
  simp -dsimp -implicitDefEqProofs only [↓cov3, ↓cov2, ↓cov1, ↓E_var, ↓E_int, ↓E_bl, ↓E_non, ↓E_str, ↓E_glo, ↓E_tup, ↓E_lst, ↓E_bin, ↓E_neg, ↓E_cmp, ↓E_chn, ↓E_and, ↓E_or, ↓E_one, ↓E_not, ↓E_ifx, ↓E_idx, ↓E_slc, ↓E_call, ↓E_bi, ↓E_isi, ↓E_mth, ↓E_lc, ↓E_fld, ↓E_mcl, ↓E_mk, ↓Es_nil, ↓Es_cons, ↓O_no, ↓O_some, ↓Q_no, ↓Q_c, ↓C_and, ↓C_or, ↓C_one, ↓C_not, ↓C_cmp, ↓C_chn, ↓C_v, ↓I_seq, ↓I_rng1, ↓I_rng2, ↓I_rng3, ↓I_enu, ↓I_zip, ↓I_rev, ↓S_set, ↓S_asg, ↓S_par2, ↓S_sub, ↓S_expr, ↓S_ret, ↓S_retN, ↓S_ifs, ↓S_for, ↓S_brk, ↓S_cnt, ↓S_pass, ↓S_raise, ↓S_try, ↓S_tryas, ↓E_isx, ↓E_isxs, kW_nx, kW_rt, kW_bk, kW_ct, kW_ex, gx_sub, gx_cs, gx_PY, ↓S_never, ↓S_setf, ex_t, ex_f, ↓S_nil, ↓S_cons, ↓kN_nx, ↓kN_rt, ↓kN_bk, ↓kN_ct, ↓kN_ex, ↓kL_nx, ↓kL_rt, ↓kL_bk, ↓kL_ct, ↓kL_ex, ↓kX_nx, ↓kX_rt, ↓kX_bk, ↓kX_ct, ↓kX_ex, ↓kend_nx, ↓kend_rt, ↓kend_bk, ↓kend_ct, ↓kend_ex, vr_some, gt_0, gt_s, stn_0, stn_s, wip_0, wip_s, wips_0, wips_s, neg_i, isi_s, o_i, tru_non, tru_bl, tru_int, tru_tup, tru_rol, c_Eq, c_NotEq, c_Lt, c_LtE, c_Gt, c_GtE, cs_Eq, cs_NotEq, cb_Eq, cb_NotEq, c2_Eq, c2_NotEq, is_non, isnot_non, is_bl, isnot_bl, is_int, isnot_int, is_str, isnot_str, is_tup, isnot_tup, is_rol, isnot_rol, is_ref, isnot_ref, is_b, isnot_b, in_s, notin_s, b_add, b_sub, b_mul, b_fdiv, b_mod, b_pow, b_addt, b_adds, atI0, atI1, atI2, atI3, slc_t, slc_r, len_s, abs_i, int_i, int_b, min_i, max_i, lcm_i, gcd_i, seq_t, seq_r, r1_i, r2_i, r3_i, a_nm, a_nil, a_cons, vrl_some, vrn_some, put_lget, Option.isSome_some, tru_ref, b_addl, idx_t, idx_r, idx_l, slc_l, len_t, len_r, len_l, tuple_t, tuple_r, tuple_l, list_t, list_r, list_l, app_l, rev_l, pop_l, popat_l, mT_l, seq_l, enu_l, enu_t, fld_i, mcl_i, setf_i, vri_some, vrk_some, mk_0, mk_1, b_mull, zip_l, rev_i, rev_t, in_t, notin_t, fl_s, fl_i, fl_b, fl_n, inL_nil, inL_ss, inL_ii, List.all_cons, List.all_nil, Bool.and_self, Bool.and_true, Bool.true_and, zip_t, zip_m, a_t, a_l, sub_l, isTs, isT, Option.map_some, List.length_cons, List.length_nil, List.lookup_nil, Nat.reduceAdd, Nat.reduceSub, Nat.reduceLT, Nat.zero_add, Bool.false_eq_true, Bool.true_eq_false, if_false, if_true, decide_eq_true_eq, Bool.not_true, Bool.not_false, ite_true, ite_false, reduceIte, Bool.not_eq_true', decide_eq_false_iff_not, Int.cast_ofNat_Int, Int.reduceEq, Int.reduceLT, Int.reduceLE, Int.reduceNeg, Int.reduceAdd, Int.reduceSub, Int.reduceMul, Int.reduceToNat, decide_true, decide_false, not_true, not_false, not_true_eq_false, not_false_eq_true, true_and, and_true, eq_self, reduceCtorEq, List.isEmpty_nil, List.isEmpty_cons, List.nil_append, List.cons_append]
  refine is_int_ok _ ?_
  simp -dsimp -implicitDefEqProofs only [↓cov3, ↓cov2, ↓cov1, ↓E_var, ↓E_int, ↓E_bl, ↓E_non, ↓E_str, ↓E_glo, ↓E_tup, ↓E_lst, ↓E_bin, ↓E_neg, ↓E_cmp, ↓E_chn, ↓E_and, ↓E_or, ↓E_one, ↓E_not, ↓E_ifx, ↓E_idx, ↓E_slc, ↓E_call, ↓E_bi, ↓E_isi, ↓E_mth, ↓E_lc, ↓E_fld, ↓E_mcl, ↓E_mk, ↓Es_nil, ↓Es_cons, ↓O_no, ↓O_some, ↓Q_no, ↓Q_c, ↓C_and, ↓C_or, ↓C_one, ↓C_not, ↓C_cmp, ↓C_chn, ↓C_v, ↓I_seq, ↓I_rng1, ↓I_rng2, ↓I_rng3, ↓I_enu, ↓I_zip, ↓I_rev, ↓S_set, ↓S_asg, ↓S_par2, ↓S_sub, ↓S_expr, ↓S_ret, ↓S_retN, ↓S_ifs, ↓S_for, ↓S_brk, ↓S_cnt, ↓S_pass, ↓S_raise, ↓S_try, ↓S_tryas, ↓E_isx, ↓E_isxs, kW_nx, kW_rt, kW_bk, kW_ct, kW_ex, gx_sub, gx_cs, gx_PY, ↓S_never, ↓S_setf, ex_t, ex_f, ↓S_nil, ↓S_cons, ↓kN_nx, ↓kN_rt, ↓kN_bk, ↓kN_ct, ↓kN_ex, ↓kL_nx, ↓kL_rt, ↓kL_bk, ↓kL_ct, ↓kL_ex, ↓kX_nx, ↓kX_rt, ↓kX_bk, ↓kX_ct, ↓kX_ex, ↓kend_nx, ↓kend_rt, ↓kend_bk, ↓kend_ct, ↓kend_ex, vr_some, gt_0, gt_s, stn_0, stn_s, wip_0, wip_s, wips_0, wips_s, neg_i, isi_s, o_i, tru_non, tru_bl, tru_int, tru_tup, tru_rol, c_Eq, c_NotEq, c_Lt, c_LtE, c_Gt, c_GtE, cs_Eq, cs_NotEq, cb_Eq, cb_NotEq, c2_Eq, c2_NotEq, is_non, isnot_non, is_bl, isnot_bl, is_int, isnot_int, is_str, isnot_str, is_tup, isnot_tup, is_rol, isnot_rol, is_ref, isnot_ref, is_b, isnot_b, in_s, notin_s, b_add, b_sub, b_mul, b_fdiv, b_mod, b_pow, b_addt, b_adds, atI0, atI1, atI2, atI3, slc_t, slc_r, len_s, abs_i, int_i, int_b, min_i, max_i, lcm_i, gcd_i, seq_t, seq_r, r1_i, r2_i, r3_i, a_nm, a_nil, a_cons, vrl_some, vrn_some, put_lget, Option.isSome_some, tru_ref, b_addl, idx_t, idx_r, idx_l, slc_l, len_t, len_r, len_l, tuple_t, tuple_r, tuple_l, list_t, list_r, list_l, app_l, rev_l, pop_l, popat_l, mT_l, seq_l, enu_l, enu_t, fld_i, mcl_i, setf_i, vri_some, vrk_some, mk_0, mk_1, b_mull, zip_l, rev_i, rev_t, in_t, notin_t, fl_s, fl_i, fl_b, fl_n, inL_nil, inL_ss, inL_ii, List.all_cons, List.all_nil, Bool.and_self, Bool.and_true, Bool.true_and, zip_t, zip_m, a_t, a_l, sub_l, isTs, isT, Option.map_some, List.length_cons, List.length_nil, List.lookup_nil, Nat.reduceAdd, Nat.reduceSub, Nat.reduceLT, Nat.zero_add, Bool.false_eq_true, Bool.true_eq_false, if_false, if_true, decide_eq_true_eq, Bool.not_true, Bool.not_false, ite_true, ite_false, reduceIte, Bool.not_eq_true', decide_eq_false_iff_not, Int.cast_ofNat_Int, Int.reduceEq, Int.reduceLT, Int.reduceLE, Int.reduceNeg, Int.reduceAdd, Int.reduceSub, Int.reduceMul, Int.reduceToNat, decide_true, decide_false, not_true, not_false, not_true_eq_false, not_false_eq_true, true_and, and_true, eq_self, reduceCtorEq, List.isEmpty_nil, List.isEmpty_cons, List.nil_append, List.cons_append]
  rw [if_pos (den_pos q)]
  refine gcd_ok t_law_gcd _ _ ?_
  simp -dsimp -implicitDefEqProofs only [↓cov3, ↓cov2, ↓cov1, ↓E_var, ↓E_int, ↓E_bl, ↓E_non, ↓E_str, ↓E_glo, ↓E_tup, ↓E_lst, ↓E_bin, ↓E_neg, ↓E_cmp, ↓E_chn, ↓E_and, ↓E_or, ↓E_one, ↓E_not, ↓E_ifx, ↓E_idx, ↓E_slc, ↓E_call, ↓E_bi, ↓E_isi, ↓E_mth, ↓E_lc, ↓E_fld, ↓E_mcl, ↓E_mk, ↓Es_nil, ↓Es_cons, ↓O_no, ↓O_some, ↓Q_no, ↓Q_c, ↓C_and, ↓C_or, ↓C_one, ↓C_not, ↓C_cmp, ↓C_chn, ↓C_v, ↓I_seq, ↓I_rng1, ↓I_rng2, ↓I_rng3, ↓I_enu, ↓I_zip, ↓I_rev, ↓S_set, ↓S_asg, ↓S_par2, ↓S_sub, ↓S_expr, ↓S_ret, ↓S_retN, ↓S_ifs, ↓S_for, ↓S_brk, ↓S_cnt, ↓S_pass, ↓S_raise, ↓S_try, ↓S_tryas, ↓E_isx, ↓E_isxs, kW_nx, kW_rt, kW_bk, kW_ct, kW_ex, gx_sub, gx_cs, gx_PY, ↓S_never, ↓S_setf, ex_t, ex_f, ↓S_nil, ↓S_cons, ↓kN_nx, ↓kN_rt, ↓kN_bk, ↓kN_ct, ↓kN_ex, ↓kL_nx, ↓kL_rt, ↓kL_bk, ↓kL_ct, ↓kL_ex, ↓kX_nx, ↓kX_rt, ↓kX_bk, ↓kX_ct, ↓kX_ex, ↓kend_nx, ↓kend_rt, ↓kend_bk, ↓kend_ct, ↓kend_ex, vr_some, gt_0, gt_s, stn_0, stn_s, wip_0, wip_s, wips_0, wips_s, neg_i, isi_s, o_i, tru_non, tru_bl, tru_int, tru_tup, tru_rol, c_Eq, c_NotEq, c_Lt, c_LtE, c_Gt, c_GtE, cs_Eq, cs_NotEq, cb_Eq, cb_NotEq, c2_Eq, c2_NotEq, is_non, isnot_non, is_bl, isnot_bl, is_int, isnot_int, is_str, isnot_str, is_tup, isnot_tup, is_rol, isnot_rol, is_ref, isnot_ref, is_b, isnot_b, in_s, notin_s, b_add, b_sub, b_mul, b_fdiv, b_mod, b_pow, b_addt, b_adds, atI0, atI1, atI2, atI3, slc_t, slc_r, len_s, abs_i, int_i, int_b, min_i, max_i, lcm_i, gcd_i, seq_t, seq_r, r1_i, r2_i, r3_i, a_nm, a_nil, a_cons, vrl_some, vrn_some, put_lget, Option.isSome_some, tru_ref, b_addl, idx_t, idx_r, idx_l, slc_l, len_t, len_r, len_l, tuple_t, tuple_r, tuple_l, list_t, list_r, list_l, app_l, rev_l, pop_l, popat_l, mT_l, seq_l, enu_l, enu_t, fld_i, mcl_i, setf_i, vri_some, vrk_some, mk_0, mk_1, b_mull, zip_l, rev_i, rev_t, in_t, notin_t, fl_s, fl_i, fl_b, fl_n, inL_nil, inL_ss, inL_ii, List.all_cons, List.all_nil, Bool.and_self, Bool.and_true, Bool.true_and, zip_t, zip_m, a_t, a_l, sub_l, isTs, isT, Option.map_some, List.length_cons, List.length_nil, List.lookup_nil, Nat.reduceAdd, Nat.reduceSub, Nat.reduceLT, Nat.zero_add, Bool.false_eq_true, Bool.true_eq_false, if_false, if_true, decide_eq_true_eq, Bool.not_true, Bool.not_false, ite_true, ite_false, reduceIte, Bool.not_eq_true', decide_eq_false_iff_not, Int.cast_ofNat_Int, Int.reduceEq, Int.reduceLT, Int.reduceLE, Int.reduceNeg, Int.reduceAdd, Int.reduceSub, Int.reduceMul, Int.reduceToNat, decide_true, decide_false, not_true, not_false, not_true_eq_false, not_false_eq_true, true_and, and_true, eq_self, reduceCtorEq, List.isEmpty_nil, List.isEmpty_cons, List.nil_append, List.cons_append]
  rw [show Nat.gcd q.num.natAbs (q.den : Int).natAbs = 1 from q.reduced]
  exact h
theorem number_ok {ns : List Int} (hb : ∀ z ∈ ns, Builtin.Int.intBits z ≤ 1048576) (i : Nat) (hi : i ≤ 1000) (h : ∀ n S', Bt n 1048576 → Sub S S' → Q (.int n) S') : semF G T (k + 3) "_law_number" [.rol (ns.map D.int), .int i] S Q E := by
  refine call_of t_law_number rfl ?_
  simp -dsimp -implicitDefEqProofs only [ent, List.map_cons, List.map_nil, List.length_cons, List.length_nil, Nat.reduceAdd, Nat.reduceSub, Nat.zero_add, List.replicate, List.cons_append, List.nil_append, F_law_number]
  simp -dsimp -implicitDefEqProofs only [↓cov3, ↓cov2, ↓cov1, ↓E_var, ↓E_int, ↓E_bl, ↓E_non, ↓E_str, ↓E_glo, ↓E_tup, ↓E_lst, ↓E_bin, ↓E_neg, ↓E_cmp, ↓E_chn, ↓E_and, ↓E_or, ↓E_one, ↓E_not, ↓E_ifx, ↓E_idx, ↓E_slc, ↓E_call, ↓E_bi, ↓E_isi, ↓E_mth, ↓E_lc, ↓E_fld, ↓E_mcl, ↓E_mk, ↓Es_nil, ↓Es_cons, ↓O_no, ↓O_some, ↓Q_no, ↓Q_c, ↓C_and, ↓C_or, ↓C_one, ↓C_not, ↓C_cmp, ↓C_chn, ↓C_v, ↓I_seq, ↓I_rng1, ↓I_rng2, ↓I_rng3, ↓I_enu, ↓I_zip, ↓I_rev, ↓S_set, ↓S_asg, ↓S_par2, ↓S_sub, ↓S_expr, ↓S_ret, ↓S_retN, ↓S_for, ↓S_brk, ↓S_cnt, ↓S_pass, ↓S_raise, ↓S_tryas, ↓E_isx, ↓E_isxs, kW_nx, kW_rt, kW_bk, kW_ct, kW_ex, gx_sub, gx_cs, gx_PY, ↓S_never, ↓S_setf, ex_t, ex_f, ↓S_nil, ↓S_cons, ↓kN_nx, ↓kN_rt, ↓kN_bk, ↓kN_ct, ↓kN_ex, ↓kL_nx, ↓kL_rt, ↓kL_bk, ↓kL_ct, ↓kL_ex, ↓kX_nx, ↓kX_rt, ↓kX_bk, ↓kX_ct, ↓kX_ex, ↓kend_nx, ↓kend_rt, ↓kend_bk, ↓kend_ct, ↓kend_ex, vr_some, gt_0, gt_s, stn_0, stn_s, wip_0, wip_s, wips_0, wips_s, neg_i, isi_s, o_i, tru_non, tru_bl, tru_int, tru_tup, tru_rol, c_Eq, c_NotEq, c_Lt, c_LtE, c_Gt, c_GtE, cs_Eq, cs_NotEq, cb_Eq, cb_NotEq, c2_Eq, c2_NotEq, is_non, isnot_non, is_bl, isnot_bl, is_int, isnot_int, is_str, isnot_str, is_tup, isnot_tup, is_rol, isnot_rol, is_ref, isnot_ref, is_b, isnot_b, in_s, notin_s, b_add, b_sub, b_mul, b_fdiv, b_mod, b_pow, b_addt, b_adds, atI0, atI1, atI2, atI3, slc_t, slc_r, len_s, abs_i, int_i, int_b, min_i, max_i, lcm_i, gcd_i, seq_t, seq_r, r1_i, r2_i, r3_i, a_nm, a_nil, a_cons, vrl_some, vrn_some, put_lget, Option.isSome_some, tru_ref, b_addl, idx_t, idx_r, idx_l, slc_l, len_t, len_r, len_l, tuple_t, tuple_r, tuple_l, list_t, list_r, list_l, app_l, rev_l, pop_l, popat_l, mT_l, seq_l, enu_l, enu_t, fld_i, mcl_i, setf_i, vri_some, vrk_some, mk_0, mk_1, b_mull, zip_l, rev_i, rev_t, in_t, notin_t, fl_s, fl_i, fl_b, fl_n, inL_nil, inL_ss, inL_ii, List.all_cons, List.all_nil, Bool.and_self, Bool.and_true, Bool.true_and, zip_t, zip_m, a_t, a_l, sub_l, isTs, isT, Option.map_some, List.length_cons, List.length_nil, List.lookup_nil, Nat.reduceAdd, Nat.reduceSub, Nat.reduceLT, Nat.zero_add, Bool.false_eq_true, Bool.true_eq_false, if_false, if_true, decide_eq_true_eq, Bool.not_true, Bool.not_false, ite_true, ite_false, reduceIte, Bool.not_eq_true', decide_eq_false_iff_not, Int.cast_ofNat_Int, Int.reduceEq, Int.reduceLT, Int.reduceLE, Int.reduceNeg, Int.reduceAdd, Int.reduceSub, Int.reduceMul, Int.reduceToNat, decide_true, decide_false, not_true, not_false, not_true_eq_false, not_false_eq_true, true_and, and_true, eq_self, reduceCtorEq, List.isEmpty_nil, List.isEmpty_cons, List.nil_append, List.cons_append]
  refine draws_ok t_law_draws t_law_cell ns i 3 121 hi (by decide) (by decide) (by decide) fun row r0 S3 hrow s3 hr => ?_
  obtain ⟨x, y, z, rfl⟩ : ∃ x y z, row = [x, y, z] := by
    match row, hrow with
    | [x, y, z], _ => exact ⟨x, y, z, rfl⟩
    | [], h => exact absurd h.1 (by decide)
    | [_], h => have := h.1; simp only [List.length_cons, List.length_nil] at this; omega
    | [_, _], h => have := h.1; simp only [List.length_cons, List.length_nil] at this; omega
    | _ :: _ :: _ :: _ :: _, h => have := h.1; simp only [List.length_cons] at this; omega
  have hx := hrow.2 x (by simp)
  have hy := hrow.2 y (by simp)
  have hz := hrow.2 z (by simp)
  replace hr : S3 r0 = some (.lst [.int x, .int y, .int z]) := hr
  simp -dsimp -implicitDefEqProofs only [↓cov3, ↓cov2, ↓cov1, ↓E_var, ↓E_int, ↓E_bl, ↓E_non, ↓E_str, ↓E_glo, ↓E_tup, ↓E_lst, ↓E_bin, ↓E_neg, ↓E_cmp, ↓E_chn, ↓E_and, ↓E_or, ↓E_one, ↓E_not, ↓E_ifx, ↓E_idx, ↓E_slc, ↓E_call, ↓E_bi, ↓E_isi, ↓E_mth, ↓E_lc, ↓E_fld, ↓E_mcl, ↓E_mk, ↓Es_nil, ↓Es_cons, ↓O_no, ↓O_some, ↓Q_no, ↓Q_c, ↓C_and, ↓C_or, ↓C_one, ↓C_not, ↓C_cmp, ↓C_chn, ↓C_v, ↓I_seq, ↓I_rng1, ↓I_rng2, ↓I_rng3, ↓I_enu, ↓I_zip, ↓I_rev, ↓S_set, ↓S_asg, ↓S_par2, ↓S_sub, ↓S_expr, ↓S_ret, ↓S_retN, ↓S_ifs, ↓S_for, ↓S_brk, ↓S_cnt, ↓S_pass, ↓S_raise, ↓S_try, ↓S_tryas, ↓E_isx, ↓E_isxs, kW_nx, kW_rt, kW_bk, kW_ct, kW_ex, gx_sub, gx_cs, gx_PY, ↓S_never, ↓S_setf, ex_t, ex_f, ↓S_nil, ↓S_cons, ↓kN_nx, ↓kN_rt, ↓kN_bk, ↓kN_ct, ↓kN_ex, ↓kL_nx, ↓kL_rt, ↓kL_bk, ↓kL_ct, ↓kL_ex, ↓kX_nx, ↓kX_rt, ↓kX_bk, ↓kX_ct, ↓kX_ex, ↓kend_nx, ↓kend_rt, ↓kend_bk, ↓kend_ct, ↓kend_ex, vr_some, gt_0, gt_s, stn_0, stn_s, wip_0, wip_s, wips_0, wips_s, neg_i, isi_s, o_i, tru_non, tru_bl, tru_int, tru_tup, tru_rol, c_Eq, c_NotEq, c_Lt, c_LtE, c_Gt, c_GtE, cs_Eq, cs_NotEq, cb_Eq, cb_NotEq, c2_Eq, c2_NotEq, is_non, isnot_non, is_bl, isnot_bl, is_int, isnot_int, is_str, isnot_str, is_tup, isnot_tup, is_rol, isnot_rol, is_ref, isnot_ref, is_b, isnot_b, in_s, notin_s, b_add, b_sub, b_mul, b_fdiv, b_mod, b_pow, b_addt, b_adds, atI0, atI1, atI2, atI3, slc_t, slc_r, len_s, abs_i, int_i, int_b, min_i, max_i, lcm_i, gcd_i, seq_t, seq_r, r1_i, r2_i, r3_i, a_nm, a_nil, a_cons, vrl_some, vrn_some, put_lget, Option.isSome_some, tru_ref, b_addl, idx_t, idx_r, idx_l, slc_l, len_t, len_r, len_l, tuple_t, tuple_r, tuple_l, list_t, list_r, list_l, app_l, rev_l, pop_l, popat_l, mT_l, seq_l, enu_l, enu_t, fld_i, mcl_i, setf_i, vri_some, vrk_some, mk_0, mk_1, b_mull, zip_l, rev_i, rev_t, in_t, notin_t, fl_s, fl_i, fl_b, fl_n, inL_nil, inL_ss, inL_ii, List.all_cons, List.all_nil, Bool.and_self, Bool.and_true, Bool.true_and, zip_t, zip_m, a_t, a_l, sub_l, isTs, isT, Option.map_some, List.length_cons, List.length_nil, List.lookup_nil, Nat.reduceAdd, Nat.reduceSub, Nat.reduceLT, Nat.zero_add, Bool.false_eq_true, Bool.true_eq_false, if_false, if_true, decide_eq_true_eq, Bool.not_true, Bool.not_false, ite_true, ite_false, reduceIte, Bool.not_eq_true', decide_eq_false_iff_not, Int.cast_ofNat_Int, Int.reduceEq, Int.reduceLT, Int.reduceLE, Int.reduceNeg, Int.reduceAdd, Int.reduceSub, Int.reduceMul, Int.reduceToNat, decide_true, decide_false, not_true, not_false, not_true_eq_false, not_false_eq_true, true_and, and_true, eq_self, reduceCtorEq, List.isEmpty_nil, List.isEmpty_cons, List.nil_append, List.cons_append, lget_of hr]
  refine ⟨by decide, ite2 (fun _ => ?_) fun _ => ?_⟩
  · refine cell_ok t_law_cell ns i ?_
    exact h _ _ (Bt.of_bits (cell_bits hb i)) s3
  · have hm : 0 ≤ z.fmod 40 ∧ z.fmod 40 < 40 := ⟨Int.fmod_nonneg_of_pos z (by decide), Int.fmod_lt_of_pos z (by decide)⟩
    refine ⟨by decide, mulL (by omega) (by omega), h _ _ ?_ s3⟩
    have b1 : Bt (y - 60) 10 := by unfold Bt; omega
    have b2 : Bt (z.fmod 40 + 1) 10 := by unfold Bt; omega
    exact (b1.mul b2).le (by decide)
theorem s_fault : G.sub "ZeroDivisor" "Fault" = some true := by decide +kernel
theorem s_zd : G.sub "ZeroDivisor" "ZeroDivisor" = some true := by decide +kernel
theorem s_ve : G.sub "ZeroDivisor" "ValueError" = some true := by decide +kernel
theorem s_oth : isXs G.sub "ZeroDivisor" ["Malformed", "NoText", "Refused", "TooLarge"] = some false := by decide +kernel
theorem refused_ok (n : Int) (h : Q (.bl true) S) : semF G T (k + 2) "_law_refused" [.int n] S Q E := by
  refine call_of t_law_refused rfl ?_
  simp -dsimp -implicitDefEqProofs only [ent, List.map_cons, List.map_nil, List.length_cons, List.length_nil, Nat.reduceAdd, Nat.reduceSub, Nat.zero_add, List.replicate, List.cons_append, List.nil_append, F_law_refused]
  simp -dsimp -implicitDefEqProofs only [↓cov3, ↓cov2, ↓cov1, ↓E_var, ↓E_int, ↓E_bl, ↓E_non, ↓E_str, ↓E_glo, ↓E_tup, ↓E_lst, ↓E_bin, ↓E_neg, ↓E_cmp, ↓E_chn, ↓E_and, ↓E_or, ↓E_one, ↓E_not, ↓E_ifx, ↓E_idx, ↓E_slc, ↓E_call, ↓E_bi, ↓E_isi, ↓E_mth, ↓E_lc, ↓E_fld, ↓E_mcl, ↓E_mk, ↓Es_nil, ↓Es_cons, ↓O_no, ↓O_some, ↓Q_no, ↓Q_c, ↓C_and, ↓C_or, ↓C_one, ↓C_not, ↓C_cmp, ↓C_chn, ↓C_v, ↓I_seq, ↓I_rng1, ↓I_rng2, ↓I_rng3, ↓I_enu, ↓I_zip, ↓I_rev, ↓S_set, ↓S_asg, ↓S_par2, ↓S_sub, ↓S_expr, ↓S_ret, ↓S_retN, ↓S_ifs, ↓S_for, ↓S_brk, ↓S_cnt, ↓S_pass, ↓S_raise, ↓S_try, ↓S_tryas, ↓E_isx, ↓E_isxs, kW_nx, kW_rt, kW_bk, kW_ct, kW_ex, gx_sub, gx_cs, gx_PY, ↓S_never, ↓S_setf, ex_t, ex_f, ↓S_nil, ↓S_cons, ↓kN_nx, ↓kN_rt, ↓kN_bk, ↓kN_ct, ↓kN_ex, ↓kL_nx, ↓kL_rt, ↓kL_bk, ↓kL_ct, ↓kL_ex, ↓kX_nx, ↓kX_rt, ↓kX_bk, ↓kX_ct, ↓kX_ex, ↓kend_nx, ↓kend_rt, ↓kend_bk, ↓kend_ct, ↓kend_ex, vr_some, gt_0, gt_s, stn_0, stn_s, wip_0, wip_s, wips_0, wips_s, neg_i, isi_s, o_i, tru_non, tru_bl, tru_int, tru_tup, tru_rol, c_Eq, c_NotEq, c_Lt, c_LtE, c_Gt, c_GtE, cs_Eq, cs_NotEq, cb_Eq, cb_NotEq, c2_Eq, c2_NotEq, is_non, isnot_non, is_bl, isnot_bl, is_int, isnot_int, is_str, isnot_str, is_tup, isnot_tup, is_rol, isnot_rol, is_ref, isnot_ref, is_b, isnot_b, in_s, notin_s, b_add, b_sub, b_mul, b_fdiv, b_mod, b_pow, b_addt, b_adds, atI0, atI1, atI2, atI3, slc_t, slc_r, len_s, abs_i, int_i, int_b, min_i, max_i, lcm_i, gcd_i, seq_t, seq_r, r1_i, r2_i, r3_i, a_nm, a_nil, a_cons, vrl_some, vrn_some, put_lget, Option.isSome_some, tru_ref, b_addl, idx_t, idx_r, idx_l, slc_l, len_t, len_r, len_l, tuple_t, tuple_r, tuple_l, list_t, list_r, list_l, app_l, rev_l, pop_l, popat_l, mT_l, seq_l, enu_l, enu_t, fld_i, mcl_i, setf_i, vri_some, vrk_some, mk_0, mk_1, b_mull, zip_l, rev_i, rev_t, in_t, notin_t, fl_s, fl_i, fl_b, fl_n, inL_nil, inL_ss, inL_ii, List.all_cons, List.all_nil, Bool.and_self, Bool.and_true, Bool.true_and, zip_t, zip_m, a_t, a_l, sub_l, isTs, isT, Option.map_some, List.length_cons, List.length_nil, List.lookup_nil, Nat.reduceAdd, Nat.reduceSub, Nat.reduceLT, Nat.zero_add, Bool.false_eq_true, Bool.true_eq_false, if_false, if_true, decide_eq_true_eq, Bool.not_true, Bool.not_false, ite_true, ite_false, reduceIte, Bool.not_eq_true', decide_eq_false_iff_not, Int.cast_ofNat_Int, Int.reduceEq, Int.reduceLT, Int.reduceLE, Int.reduceNeg, Int.reduceAdd, Int.reduceSub, Int.reduceMul, Int.reduceToNat, decide_true, decide_false, not_true, not_false, not_true_eq_false, not_false_eq_true, true_and, and_true, eq_self, reduceCtorEq, List.isEmpty_nil, List.isEmpty_cons, List.nil_append, List.cons_append]
  refine rational_zero t_rational ?_
  simp -dsimp -implicitDefEqProofs only [↓cov3, ↓cov2, ↓cov1, ↓E_var, ↓E_int, ↓E_bl, ↓E_non, ↓E_str, ↓E_glo, ↓E_tup, ↓E_lst, ↓E_bin, ↓E_neg, ↓E_cmp, ↓E_chn, ↓E_and, ↓E_or, ↓E_one, ↓E_not, ↓E_ifx, ↓E_idx, ↓E_slc, ↓E_call, ↓E_bi, ↓E_isi, ↓E_mth, ↓E_lc, ↓E_fld, ↓E_mcl, ↓E_mk, ↓Es_nil, ↓Es_cons, ↓O_no, ↓O_some, ↓Q_no, ↓Q_c, ↓C_and, ↓C_or, ↓C_one, ↓C_not, ↓C_cmp, ↓C_chn, ↓C_v, ↓I_seq, ↓I_rng1, ↓I_rng2, ↓I_rng3, ↓I_enu, ↓I_zip, ↓I_rev, ↓S_set, ↓S_asg, ↓S_par2, ↓S_sub, ↓S_expr, ↓S_ret, ↓S_retN, ↓S_ifs, ↓S_for, ↓S_brk, ↓S_cnt, ↓S_pass, ↓S_raise, ↓S_try, ↓S_tryas, ↓E_isx, ↓E_isxs, kW_nx, kW_rt, kW_bk, kW_ct, kW_ex, gx_sub, gx_cs, gx_PY, ↓S_never, ↓S_setf, ex_t, ex_f, ↓S_nil, ↓S_cons, ↓kN_nx, ↓kN_rt, ↓kN_bk, ↓kN_ct, ↓kN_ex, ↓kL_nx, ↓kL_rt, ↓kL_bk, ↓kL_ct, ↓kL_ex, ↓kX_nx, ↓kX_rt, ↓kX_bk, ↓kX_ct, ↓kX_ex, ↓kend_nx, ↓kend_rt, ↓kend_bk, ↓kend_ct, ↓kend_ex, vr_some, gt_0, gt_s, stn_0, stn_s, wip_0, wip_s, wips_0, wips_s, neg_i, isi_s, o_i, tru_non, tru_bl, tru_int, tru_tup, tru_rol, c_Eq, c_NotEq, c_Lt, c_LtE, c_Gt, c_GtE, cs_Eq, cs_NotEq, cb_Eq, cb_NotEq, c2_Eq, c2_NotEq, is_non, isnot_non, is_bl, isnot_bl, is_int, isnot_int, is_str, isnot_str, is_tup, isnot_tup, is_rol, isnot_rol, is_ref, isnot_ref, is_b, isnot_b, in_s, notin_s, b_add, b_sub, b_mul, b_fdiv, b_mod, b_pow, b_addt, b_adds, atI0, atI1, atI2, atI3, slc_t, slc_r, len_s, abs_i, int_i, int_b, min_i, max_i, lcm_i, gcd_i, seq_t, seq_r, r1_i, r2_i, r3_i, a_nm, a_nil, a_cons, vrl_some, vrn_some, put_lget, Option.isSome_some, tru_ref, b_addl, idx_t, idx_r, idx_l, slc_l, len_t, len_r, len_l, tuple_t, tuple_r, tuple_l, list_t, list_r, list_l, app_l, rev_l, pop_l, popat_l, mT_l, seq_l, enu_l, enu_t, fld_i, mcl_i, setf_i, vri_some, vrk_some, mk_0, mk_1, b_mull, zip_l, rev_i, rev_t, in_t, notin_t, fl_s, fl_i, fl_b, fl_n, inL_nil, inL_ss, inL_ii, List.all_cons, List.all_nil, Bool.and_self, Bool.and_true, Bool.true_and, zip_t, zip_m, a_t, a_l, sub_l, isTs, isT, Option.map_some, List.length_cons, List.length_nil, List.lookup_nil, Nat.reduceAdd, Nat.reduceSub, Nat.reduceLT, Nat.zero_add, Bool.false_eq_true, Bool.true_eq_false, if_false, if_true, decide_eq_true_eq, Bool.not_true, Bool.not_false, ite_true, ite_false, reduceIte, Bool.not_eq_true', decide_eq_false_iff_not, Int.cast_ofNat_Int, Int.reduceEq, Int.reduceLT, Int.reduceLE, Int.reduceNeg, Int.reduceAdd, Int.reduceSub, Int.reduceMul, Int.reduceToNat, decide_true, decide_false, not_true, not_false, not_true_eq_false, not_false_eq_true, true_and, and_true, eq_self, reduceCtorEq, List.isEmpty_nil, List.isEmpty_cons, List.nil_append, List.cons_append, s_fault]
  intro a na
  simp -dsimp -implicitDefEqProofs only [↓cov3, ↓cov2, ↓cov1, ↓E_var, ↓E_int, ↓E_bl, ↓E_non, ↓E_str, ↓E_glo, ↓E_tup, ↓E_lst, ↓E_bin, ↓E_neg, ↓E_cmp, ↓E_chn, ↓E_and, ↓E_or, ↓E_one, ↓E_not, ↓E_ifx, ↓E_idx, ↓E_slc, ↓E_call, ↓E_bi, ↓E_isi, ↓E_mth, ↓E_lc, ↓E_fld, ↓E_mcl, ↓E_mk, ↓Es_nil, ↓Es_cons, ↓O_no, ↓O_some, ↓Q_no, ↓Q_c, ↓C_and, ↓C_or, ↓C_one, ↓C_not, ↓C_cmp, ↓C_chn, ↓C_v, ↓I_seq, ↓I_rng1, ↓I_rng2, ↓I_rng3, ↓I_enu, ↓I_zip, ↓I_rev, ↓S_set, ↓S_asg, ↓S_par2, ↓S_sub, ↓S_expr, ↓S_ret, ↓S_retN, ↓S_ifs, ↓S_for, ↓S_brk, ↓S_cnt, ↓S_pass, ↓S_raise, ↓S_try, ↓S_tryas, ↓E_isx, ↓E_isxs, kW_nx, kW_rt, kW_bk, kW_ct, kW_ex, gx_sub, gx_cs, gx_PY, ↓S_never, ↓S_setf, ex_t, ex_f, ↓S_nil, ↓S_cons, ↓kN_nx, ↓kN_rt, ↓kN_bk, ↓kN_ct, ↓kN_ex, ↓kL_nx, ↓kL_rt, ↓kL_bk, ↓kL_ct, ↓kL_ex, ↓kX_nx, ↓kX_rt, ↓kX_bk, ↓kX_ct, ↓kX_ex, ↓kend_nx, ↓kend_rt, ↓kend_bk, ↓kend_ct, ↓kend_ex, vr_some, gt_0, gt_s, stn_0, stn_s, wip_0, wip_s, wips_0, wips_s, neg_i, isi_s, o_i, tru_non, tru_bl, tru_int, tru_tup, tru_rol, c_Eq, c_NotEq, c_Lt, c_LtE, c_Gt, c_GtE, cs_Eq, cs_NotEq, cb_Eq, cb_NotEq, c2_Eq, c2_NotEq, is_non, isnot_non, is_bl, isnot_bl, is_int, isnot_int, is_str, isnot_str, is_tup, isnot_tup, is_rol, isnot_rol, is_ref, isnot_ref, is_b, isnot_b, in_s, notin_s, b_add, b_sub, b_mul, b_fdiv, b_mod, b_pow, b_addt, b_adds, atI0, atI1, atI2, atI3, slc_t, slc_r, len_s, abs_i, int_i, int_b, min_i, max_i, lcm_i, gcd_i, seq_t, seq_r, r1_i, r2_i, r3_i, a_nm, a_nil, a_cons, vrl_some, vrn_some, put_lget, Option.isSome_some, tru_ref, b_addl, idx_t, idx_r, idx_l, slc_l, len_t, len_r, len_l, tuple_t, tuple_r, tuple_l, list_t, list_r, list_l, app_l, rev_l, pop_l, popat_l, mT_l, seq_l, enu_l, enu_t, fld_i, mcl_i, setf_i, vri_some, vrk_some, mk_0, mk_1, b_mull, zip_l, rev_i, rev_t, in_t, notin_t, fl_s, fl_i, fl_b, fl_n, inL_nil, inL_ss, inL_ii, List.all_cons, List.all_nil, Bool.and_self, Bool.and_true, Bool.true_and, zip_t, zip_m, a_t, a_l, sub_l, isTs, isT, Option.map_some, List.length_cons, List.length_nil, List.lookup_nil, Nat.reduceAdd, Nat.reduceSub, Nat.reduceLT, Nat.zero_add, Bool.false_eq_true, Bool.true_eq_false, if_false, if_true, decide_eq_true_eq, Bool.not_true, Bool.not_false, ite_true, ite_false, reduceIte, Bool.not_eq_true', decide_eq_false_iff_not, Int.cast_ofNat_Int, Int.reduceEq, Int.reduceLT, Int.reduceLE, Int.reduceNeg, Int.reduceAdd, Int.reduceSub, Int.reduceMul, Int.reduceToNat, decide_true, decide_false, not_true, not_false, not_true_eq_false, not_false_eq_true, true_and, and_true, eq_self, reduceCtorEq, List.isEmpty_nil, List.isEmpty_cons, List.nil_append, List.cons_append, s_zd, s_ve, s_oth]
  exact h
theorem main : ∀ ns : List Int, ns.length ≤ 63 → (∀ z ∈ ns, Builtin.Int.intBits z ≤ 1048576) → semF G T 30 "law" [.rol (ns.map D.int)] (fun _ => none) (fun d _ => d = .bl true) (fun _ _ => False) := by
  intro ns hl hb
  refine call_of t_law rfl ?_
  simp -dsimp -implicitDefEqProofs only [ent, List.map_cons, List.map_nil, List.length_cons, List.length_nil, Nat.reduceAdd, Nat.reduceSub, Nat.zero_add, List.replicate, List.cons_append, List.nil_append, F_law]
  simp -dsimp -implicitDefEqProofs only [↓cov3, ↓cov2, ↓cov1, ↓E_var, ↓E_int, ↓E_bl, ↓E_non, ↓E_str, ↓E_glo, ↓E_tup, ↓E_lst, ↓E_bin, ↓E_neg, ↓E_cmp, ↓E_chn, ↓E_and, ↓E_or, ↓E_one, ↓E_not, ↓E_ifx, ↓E_idx, ↓E_slc, ↓E_call, ↓E_bi, ↓E_isi, ↓E_mth, ↓E_lc, ↓E_fld, ↓E_mcl, ↓E_mk, ↓Es_nil, ↓Es_cons, ↓O_no, ↓O_some, ↓Q_no, ↓Q_c, ↓C_and, ↓C_or, ↓C_one, ↓C_not, ↓C_cmp, ↓C_chn, ↓C_v, ↓I_seq, ↓I_rng1, ↓I_rng2, ↓I_rng3, ↓I_enu, ↓I_zip, ↓I_rev, ↓S_set, ↓S_asg, ↓S_par2, ↓S_sub, ↓S_expr, ↓S_ret, ↓S_retN, ↓S_for, ↓S_brk, ↓S_cnt, ↓S_pass, ↓S_raise, ↓S_tryas, ↓E_isx, ↓E_isxs, kW_nx, kW_rt, kW_bk, kW_ct, kW_ex, gx_sub, gx_cs, gx_PY, ↓S_never, ↓S_setf, ex_t, ex_f, ↓S_nil, ↓S_cons, ↓kN_nx, ↓kN_rt, ↓kN_bk, ↓kN_ct, ↓kN_ex, ↓kL_nx, ↓kL_rt, ↓kL_bk, ↓kL_ct, ↓kL_ex, ↓kX_nx, ↓kX_rt, ↓kX_bk, ↓kX_ct, ↓kX_ex, ↓kend_nx, ↓kend_rt, ↓kend_bk, ↓kend_ct, ↓kend_ex, vr_some, gt_0, gt_s, stn_0, stn_s, wip_0, wip_s, wips_0, wips_s, neg_i, isi_s, o_i, tru_non, tru_bl, tru_int, tru_tup, tru_rol, c_Eq, c_NotEq, c_Lt, c_LtE, c_Gt, c_GtE, cs_Eq, cs_NotEq, cb_Eq, cb_NotEq, c2_Eq, c2_NotEq, is_non, isnot_non, is_bl, isnot_bl, is_int, isnot_int, is_str, isnot_str, is_tup, isnot_tup, is_rol, isnot_rol, is_ref, isnot_ref, is_b, isnot_b, in_s, notin_s, b_add, b_sub, b_mul, b_fdiv, b_mod, b_pow, b_addt, b_adds, atI0, atI1, atI2, atI3, slc_t, slc_r, len_s, abs_i, int_i, int_b, min_i, max_i, lcm_i, gcd_i, seq_t, seq_r, r1_i, r2_i, r3_i, a_nm, a_nil, a_cons, vrl_some, vrn_some, put_lget, Option.isSome_some, tru_ref, b_addl, idx_t, idx_r, idx_l, slc_l, len_t, len_r, len_l, tuple_t, tuple_r, tuple_l, list_t, list_r, list_l, app_l, rev_l, pop_l, popat_l, mT_l, seq_l, enu_l, enu_t, fld_i, mcl_i, setf_i, vri_some, vrk_some, mk_0, mk_1, b_mull, zip_l, rev_i, rev_t, in_t, notin_t, fl_s, fl_i, fl_b, fl_n, inL_nil, inL_ss, inL_ii, List.all_cons, List.all_nil, Bool.and_self, Bool.and_true, Bool.true_and, zip_t, zip_m, a_t, a_l, sub_l, isTs, isT, Option.map_some, List.length_cons, List.length_nil, List.lookup_nil, Nat.reduceAdd, Nat.reduceSub, Nat.reduceLT, Nat.zero_add, Bool.false_eq_true, Bool.true_eq_false, if_false, if_true, decide_eq_true_eq, Bool.not_true, Bool.not_false, ite_true, ite_false, reduceIte, Bool.not_eq_true', decide_eq_false_iff_not, Int.cast_ofNat_Int, Int.reduceEq, Int.reduceLT, Int.reduceLE, Int.reduceNeg, Int.reduceAdd, Int.reduceSub, Int.reduceMul, Int.reduceToNat, decide_true, decide_false, not_true, not_false, not_true_eq_false, not_false_eq_true, true_and, and_true, eq_self, reduceCtorEq, List.isEmpty_nil, List.isEmpty_cons, List.nil_append, List.cons_append]
  refine number_ok hb 0 (by decide) fun n S1 hn s1 => ?_
  simp -dsimp -implicitDefEqProofs only [↓cov3, ↓cov2, ↓cov1, ↓E_var, ↓E_int, ↓E_bl, ↓E_non, ↓E_str, ↓E_glo, ↓E_tup, ↓E_lst, ↓E_bin, ↓E_neg, ↓E_cmp, ↓E_chn, ↓E_and, ↓E_or, ↓E_one, ↓E_not, ↓E_ifx, ↓E_idx, ↓E_slc, ↓E_call, ↓E_bi, ↓E_isi, ↓E_mth, ↓E_lc, ↓E_fld, ↓E_mcl, ↓E_mk, ↓Es_nil, ↓Es_cons, ↓O_no, ↓O_some, ↓Q_no, ↓Q_c, ↓C_and, ↓C_or, ↓C_one, ↓C_not, ↓C_cmp, ↓C_chn, ↓C_v, ↓I_seq, ↓I_rng1, ↓I_rng2, ↓I_rng3, ↓I_enu, ↓I_zip, ↓I_rev, ↓S_set, ↓S_asg, ↓S_par2, ↓S_sub, ↓S_expr, ↓S_ret, ↓S_retN, ↓S_for, ↓S_brk, ↓S_cnt, ↓S_pass, ↓S_raise, ↓S_tryas, ↓E_isx, ↓E_isxs, kW_nx, kW_rt, kW_bk, kW_ct, kW_ex, gx_sub, gx_cs, gx_PY, ↓S_never, ↓S_setf, ex_t, ex_f, ↓S_nil, ↓S_cons, ↓kN_nx, ↓kN_rt, ↓kN_bk, ↓kN_ct, ↓kN_ex, ↓kL_nx, ↓kL_rt, ↓kL_bk, ↓kL_ct, ↓kL_ex, ↓kX_nx, ↓kX_rt, ↓kX_bk, ↓kX_ct, ↓kX_ex, ↓kend_nx, ↓kend_rt, ↓kend_bk, ↓kend_ct, ↓kend_ex, vr_some, gt_0, gt_s, stn_0, stn_s, wip_0, wip_s, wips_0, wips_s, neg_i, isi_s, o_i, tru_non, tru_bl, tru_int, tru_tup, tru_rol, c_Eq, c_NotEq, c_Lt, c_LtE, c_Gt, c_GtE, cs_Eq, cs_NotEq, cb_Eq, cb_NotEq, c2_Eq, c2_NotEq, is_non, isnot_non, is_bl, isnot_bl, is_int, isnot_int, is_str, isnot_str, is_tup, isnot_tup, is_rol, isnot_rol, is_ref, isnot_ref, is_b, isnot_b, in_s, notin_s, b_add, b_sub, b_mul, b_fdiv, b_mod, b_pow, b_addt, b_adds, atI0, atI1, atI2, atI3, slc_t, slc_r, len_s, abs_i, int_i, int_b, min_i, max_i, lcm_i, gcd_i, seq_t, seq_r, r1_i, r2_i, r3_i, a_nm, a_nil, a_cons, vrl_some, vrn_some, put_lget, Option.isSome_some, tru_ref, b_addl, idx_t, idx_r, idx_l, slc_l, len_t, len_r, len_l, tuple_t, tuple_r, tuple_l, list_t, list_r, list_l, app_l, rev_l, pop_l, popat_l, mT_l, seq_l, enu_l, enu_t, fld_i, mcl_i, setf_i, vri_some, vrk_some, mk_0, mk_1, b_mull, zip_l, rev_i, rev_t, in_t, notin_t, fl_s, fl_i, fl_b, fl_n, inL_nil, inL_ss, inL_ii, List.all_cons, List.all_nil, Bool.and_self, Bool.and_true, Bool.true_and, zip_t, zip_m, a_t, a_l, sub_l, isTs, isT, Option.map_some, List.length_cons, List.length_nil, List.lookup_nil, Nat.reduceAdd, Nat.reduceSub, Nat.reduceLT, Nat.zero_add, Bool.false_eq_true, Bool.true_eq_false, if_false, if_true, decide_eq_true_eq, Bool.not_true, Bool.not_false, ite_true, ite_false, reduceIte, Bool.not_eq_true', decide_eq_false_iff_not, Int.cast_ofNat_Int, Int.reduceEq, Int.reduceLT, Int.reduceLE, Int.reduceNeg, Int.reduceAdd, Int.reduceSub, Int.reduceMul, Int.reduceToNat, decide_true, decide_false, not_true, not_false, not_true_eq_false, not_false_eq_true, true_and, and_true, eq_self, reduceCtorEq, List.isEmpty_nil, List.isEmpty_cons, List.nil_append, List.cons_append]
  refine number_ok hb 1 (by decide) fun d0 S2 hd0 s2 => ?_
  simp -dsimp -implicitDefEqProofs only [↓cov3, ↓cov2, ↓cov1, ↓E_var, ↓E_int, ↓E_bl, ↓E_non, ↓E_str, ↓E_glo, ↓E_tup, ↓E_lst, ↓E_bin, ↓E_neg, ↓E_cmp, ↓E_chn, ↓E_and, ↓E_or, ↓E_one, ↓E_not, ↓E_ifx, ↓E_idx, ↓E_slc, ↓E_call, ↓E_bi, ↓E_isi, ↓E_mth, ↓E_lc, ↓E_fld, ↓E_mcl, ↓E_mk, ↓Es_nil, ↓Es_cons, ↓O_no, ↓O_some, ↓Q_no, ↓Q_c, ↓C_and, ↓C_or, ↓C_one, ↓C_not, ↓C_cmp, ↓C_chn, ↓C_v, ↓I_seq, ↓I_rng1, ↓I_rng2, ↓I_rng3, ↓I_enu, ↓I_zip, ↓I_rev, ↓S_set, ↓S_asg, ↓S_par2, ↓S_sub, ↓S_expr, ↓S_ret, ↓S_retN, ↓S_for, ↓S_brk, ↓S_cnt, ↓S_pass, ↓S_raise, ↓S_tryas, ↓E_isx, ↓E_isxs, kW_nx, kW_rt, kW_bk, kW_ct, kW_ex, gx_sub, gx_cs, gx_PY, ↓S_never, ↓S_setf, ex_t, ex_f, ↓S_nil, ↓S_cons, ↓kN_nx, ↓kN_rt, ↓kN_bk, ↓kN_ct, ↓kN_ex, ↓kL_nx, ↓kL_rt, ↓kL_bk, ↓kL_ct, ↓kL_ex, ↓kX_nx, ↓kX_rt, ↓kX_bk, ↓kX_ct, ↓kX_ex, ↓kend_nx, ↓kend_rt, ↓kend_bk, ↓kend_ct, ↓kend_ex, vr_some, gt_0, gt_s, stn_0, stn_s, wip_0, wip_s, wips_0, wips_s, neg_i, isi_s, o_i, tru_non, tru_bl, tru_int, tru_tup, tru_rol, c_Eq, c_NotEq, c_Lt, c_LtE, c_Gt, c_GtE, cs_Eq, cs_NotEq, cb_Eq, cb_NotEq, c2_Eq, c2_NotEq, is_non, isnot_non, is_bl, isnot_bl, is_int, isnot_int, is_str, isnot_str, is_tup, isnot_tup, is_rol, isnot_rol, is_ref, isnot_ref, is_b, isnot_b, in_s, notin_s, b_add, b_sub, b_mul, b_fdiv, b_mod, b_pow, b_addt, b_adds, atI0, atI1, atI2, atI3, slc_t, slc_r, len_s, abs_i, int_i, int_b, min_i, max_i, lcm_i, gcd_i, seq_t, seq_r, r1_i, r2_i, r3_i, a_nm, a_nil, a_cons, vrl_some, vrn_some, put_lget, Option.isSome_some, tru_ref, b_addl, idx_t, idx_r, idx_l, slc_l, len_t, len_r, len_l, tuple_t, tuple_r, tuple_l, list_t, list_r, list_l, app_l, rev_l, pop_l, popat_l, mT_l, seq_l, enu_l, enu_t, fld_i, mcl_i, setf_i, vri_some, vrk_some, mk_0, mk_1, b_mull, zip_l, rev_i, rev_t, in_t, notin_t, fl_s, fl_i, fl_b, fl_n, inL_nil, inL_ss, inL_ii, List.all_cons, List.all_nil, Bool.and_self, Bool.and_true, Bool.true_and, zip_t, zip_m, a_t, a_l, sub_l, isTs, isT, Option.map_some, List.length_cons, List.length_nil, List.lookup_nil, Nat.reduceAdd, Nat.reduceSub, Nat.reduceLT, Nat.zero_add, Bool.false_eq_true, Bool.true_eq_false, if_false, if_true, decide_eq_true_eq, Bool.not_true, Bool.not_false, ite_true, ite_false, reduceIte, Bool.not_eq_true', decide_eq_false_iff_not, Int.cast_ofNat_Int, Int.reduceEq, Int.reduceLT, Int.reduceLE, Int.reduceNeg, Int.reduceAdd, Int.reduceSub, Int.reduceMul, Int.reduceToNat, decide_true, decide_false, not_true, not_false, not_true_eq_false, not_false_eq_true, true_and, and_true, eq_self, reduceCtorEq, List.isEmpty_nil, List.isEmpty_cons, List.nil_append, List.cons_append]
  refine cell_ok t_law_cell ns 2 ?_
  simp -dsimp -implicitDefEqProofs only [↓cov3, ↓cov2, ↓cov1, ↓E_var, ↓E_int, ↓E_bl, ↓E_non, ↓E_str, ↓E_glo, ↓E_tup, ↓E_lst, ↓E_bin, ↓E_neg, ↓E_cmp, ↓E_chn, ↓E_and, ↓E_or, ↓E_one, ↓E_not, ↓E_ifx, ↓E_idx, ↓E_slc, ↓E_call, ↓E_bi, ↓E_isi, ↓E_mth, ↓E_lc, ↓E_fld, ↓E_mcl, ↓E_mk, ↓Es_nil, ↓Es_cons, ↓O_no, ↓O_some, ↓Q_no, ↓Q_c, ↓C_and, ↓C_or, ↓C_one, ↓C_not, ↓C_cmp, ↓C_chn, ↓C_v, ↓I_seq, ↓I_rng1, ↓I_rng2, ↓I_rng3, ↓I_enu, ↓I_zip, ↓I_rev, ↓S_set, ↓S_asg, ↓S_par2, ↓S_sub, ↓S_expr, ↓S_ret, ↓S_retN, ↓S_for, ↓S_brk, ↓S_cnt, ↓S_pass, ↓S_raise, ↓S_tryas, ↓E_isx, ↓E_isxs, kW_nx, kW_rt, kW_bk, kW_ct, kW_ex, gx_sub, gx_cs, gx_PY, ↓S_never, ↓S_setf, ex_t, ex_f, ↓S_nil, ↓S_cons, ↓kN_nx, ↓kN_rt, ↓kN_bk, ↓kN_ct, ↓kN_ex, ↓kL_nx, ↓kL_rt, ↓kL_bk, ↓kL_ct, ↓kL_ex, ↓kX_nx, ↓kX_rt, ↓kX_bk, ↓kX_ct, ↓kX_ex, ↓kend_nx, ↓kend_rt, ↓kend_bk, ↓kend_ct, ↓kend_ex, vr_some, gt_0, gt_s, stn_0, stn_s, wip_0, wip_s, wips_0, wips_s, neg_i, isi_s, o_i, tru_non, tru_bl, tru_int, tru_tup, tru_rol, c_Eq, c_NotEq, c_Lt, c_LtE, c_Gt, c_GtE, cs_Eq, cs_NotEq, cb_Eq, cb_NotEq, c2_Eq, c2_NotEq, is_non, isnot_non, is_bl, isnot_bl, is_int, isnot_int, is_str, isnot_str, is_tup, isnot_tup, is_rol, isnot_rol, is_ref, isnot_ref, is_b, isnot_b, in_s, notin_s, b_add, b_sub, b_mul, b_fdiv, b_mod, b_pow, b_addt, b_adds, atI0, atI1, atI2, atI3, slc_t, slc_r, len_s, abs_i, int_i, int_b, min_i, max_i, lcm_i, gcd_i, seq_t, seq_r, r1_i, r2_i, r3_i, a_nm, a_nil, a_cons, vrl_some, vrn_some, put_lget, Option.isSome_some, tru_ref, b_addl, idx_t, idx_r, idx_l, slc_l, len_t, len_r, len_l, tuple_t, tuple_r, tuple_l, list_t, list_r, list_l, app_l, rev_l, pop_l, popat_l, mT_l, seq_l, enu_l, enu_t, fld_i, mcl_i, setf_i, vri_some, vrk_some, mk_0, mk_1, b_mull, zip_l, rev_i, rev_t, in_t, notin_t, fl_s, fl_i, fl_b, fl_n, inL_nil, inL_ss, inL_ii, List.all_cons, List.all_nil, Bool.and_self, Bool.and_true, Bool.true_and, zip_t, zip_m, a_t, a_l, sub_l, isTs, isT, Option.map_some, List.length_cons, List.length_nil, List.lookup_nil, Nat.reduceAdd, Nat.reduceSub, Nat.reduceLT, Nat.zero_add, Bool.false_eq_true, Bool.true_eq_false, if_false, if_true, decide_eq_true_eq, Bool.not_true, Bool.not_false, ite_true, ite_false, reduceIte, Bool.not_eq_true', decide_eq_false_iff_not, Int.cast_ofNat_Int, Int.reduceEq, Int.reduceLT, Int.reduceLE, Int.reduceNeg, Int.reduceAdd, Int.reduceSub, Int.reduceMul, Int.reduceToNat, decide_true, decide_false, not_true, not_false, not_true_eq_false, not_false_eq_true, true_and, and_true, eq_self, reduceCtorEq, List.isEmpty_nil, List.isEmpty_cons, List.nil_append, List.cons_append]
  refine ⟨by decide, ite2 (fun _ => ?_) fun _ => ?_⟩
  · simp -dsimp -implicitDefEqProofs only [↓cov3, ↓cov2, ↓cov1, ↓E_var, ↓E_int, ↓E_bl, ↓E_non, ↓E_str, ↓E_glo, ↓E_tup, ↓E_lst, ↓E_bin, ↓E_neg, ↓E_cmp, ↓E_chn, ↓E_and, ↓E_or, ↓E_one, ↓E_not, ↓E_ifx, ↓E_idx, ↓E_slc, ↓E_call, ↓E_bi, ↓E_isi, ↓E_mth, ↓E_lc, ↓E_fld, ↓E_mcl, ↓E_mk, ↓Es_nil, ↓Es_cons, ↓O_no, ↓O_some, ↓Q_no, ↓Q_c, ↓C_and, ↓C_or, ↓C_one, ↓C_not, ↓C_cmp, ↓C_chn, ↓C_v, ↓I_seq, ↓I_rng1, ↓I_rng2, ↓I_rng3, ↓I_enu, ↓I_zip, ↓I_rev, ↓S_set, ↓S_asg, ↓S_par2, ↓S_sub, ↓S_expr, ↓S_ret, ↓S_retN, ↓S_ifs, ↓S_for, ↓S_brk, ↓S_cnt, ↓S_pass, ↓S_raise, ↓S_try, ↓S_tryas, ↓E_isx, ↓E_isxs, kW_nx, kW_rt, kW_bk, kW_ct, kW_ex, gx_sub, gx_cs, gx_PY, ↓S_never, ↓S_setf, ex_t, ex_f, ↓S_nil, ↓S_cons, ↓kN_nx, ↓kN_rt, ↓kN_bk, ↓kN_ct, ↓kN_ex, ↓kL_nx, ↓kL_rt, ↓kL_bk, ↓kL_ct, ↓kL_ex, ↓kX_nx, ↓kX_rt, ↓kX_bk, ↓kX_ct, ↓kX_ex, ↓kend_nx, ↓kend_rt, ↓kend_bk, ↓kend_ct, ↓kend_ex, vr_some, gt_0, gt_s, stn_0, stn_s, wip_0, wip_s, wips_0, wips_s, neg_i, isi_s, o_i, tru_non, tru_bl, tru_int, tru_tup, tru_rol, c_Eq, c_NotEq, c_Lt, c_LtE, c_Gt, c_GtE, cs_Eq, cs_NotEq, cb_Eq, cb_NotEq, c2_Eq, c2_NotEq, is_non, isnot_non, is_bl, isnot_bl, is_int, isnot_int, is_str, isnot_str, is_tup, isnot_tup, is_rol, isnot_rol, is_ref, isnot_ref, is_b, isnot_b, in_s, notin_s, b_add, b_sub, b_mul, b_fdiv, b_mod, b_pow, b_addt, b_adds, atI0, atI1, atI2, atI3, slc_t, slc_r, len_s, abs_i, int_i, int_b, min_i, max_i, lcm_i, gcd_i, seq_t, seq_r, r1_i, r2_i, r3_i, a_nm, a_nil, a_cons, vrl_some, vrn_some, put_lget, Option.isSome_some, tru_ref, b_addl, idx_t, idx_r, idx_l, slc_l, len_t, len_r, len_l, tuple_t, tuple_r, tuple_l, list_t, list_r, list_l, app_l, rev_l, pop_l, popat_l, mT_l, seq_l, enu_l, enu_t, fld_i, mcl_i, setf_i, vri_some, vrk_some, mk_0, mk_1, b_mull, zip_l, rev_i, rev_t, in_t, notin_t, fl_s, fl_i, fl_b, fl_n, inL_nil, inL_ss, inL_ii, List.all_cons, List.all_nil, Bool.and_self, Bool.and_true, Bool.true_and, zip_t, zip_m, a_t, a_l, sub_l, isTs, isT, Option.map_some, List.length_cons, List.length_nil, List.lookup_nil, Nat.reduceAdd, Nat.reduceSub, Nat.reduceLT, Nat.zero_add, Bool.false_eq_true, Bool.true_eq_false, if_false, if_true, decide_eq_true_eq, Bool.not_true, Bool.not_false, ite_true, ite_false, reduceIte, Bool.not_eq_true', decide_eq_false_iff_not, Int.cast_ofNat_Int, Int.reduceEq, Int.reduceLT, Int.reduceLE, Int.reduceNeg, Int.reduceAdd, Int.reduceSub, Int.reduceMul, Int.reduceToNat, decide_true, decide_false, not_true, not_false, not_true_eq_false, not_false_eq_true, true_and, and_true, eq_self, reduceCtorEq, List.isEmpty_nil, List.isEmpty_cons, List.nil_append, List.cons_append]
    refine refused_ok _ ?_
    simp -dsimp -implicitDefEqProofs only [↓cov3, ↓cov2, ↓cov1, ↓E_var, ↓E_int, ↓E_bl, ↓E_non, ↓E_str, ↓E_glo, ↓E_tup, ↓E_lst, ↓E_bin, ↓E_neg, ↓E_cmp, ↓E_chn, ↓E_and, ↓E_or, ↓E_one, ↓E_not, ↓E_ifx, ↓E_idx, ↓E_slc, ↓E_call, ↓E_bi, ↓E_isi, ↓E_mth, ↓E_lc, ↓E_fld, ↓E_mcl, ↓E_mk, ↓Es_nil, ↓Es_cons, ↓O_no, ↓O_some, ↓Q_no, ↓Q_c, ↓C_and, ↓C_or, ↓C_one, ↓C_not, ↓C_cmp, ↓C_chn, ↓C_v, ↓I_seq, ↓I_rng1, ↓I_rng2, ↓I_rng3, ↓I_enu, ↓I_zip, ↓I_rev, ↓S_set, ↓S_asg, ↓S_par2, ↓S_sub, ↓S_expr, ↓S_ret, ↓S_retN, ↓S_ifs, ↓S_for, ↓S_brk, ↓S_cnt, ↓S_pass, ↓S_raise, ↓S_try, ↓S_tryas, ↓E_isx, ↓E_isxs, kW_nx, kW_rt, kW_bk, kW_ct, kW_ex, gx_sub, gx_cs, gx_PY, ↓S_never, ↓S_setf, ex_t, ex_f, ↓S_nil, ↓S_cons, ↓kN_nx, ↓kN_rt, ↓kN_bk, ↓kN_ct, ↓kN_ex, ↓kL_nx, ↓kL_rt, ↓kL_bk, ↓kL_ct, ↓kL_ex, ↓kX_nx, ↓kX_rt, ↓kX_bk, ↓kX_ct, ↓kX_ex, ↓kend_nx, ↓kend_rt, ↓kend_bk, ↓kend_ct, ↓kend_ex, vr_some, gt_0, gt_s, stn_0, stn_s, wip_0, wip_s, wips_0, wips_s, neg_i, isi_s, o_i, tru_non, tru_bl, tru_int, tru_tup, tru_rol, c_Eq, c_NotEq, c_Lt, c_LtE, c_Gt, c_GtE, cs_Eq, cs_NotEq, cb_Eq, cb_NotEq, c2_Eq, c2_NotEq, is_non, isnot_non, is_bl, isnot_bl, is_int, isnot_int, is_str, isnot_str, is_tup, isnot_tup, is_rol, isnot_rol, is_ref, isnot_ref, is_b, isnot_b, in_s, notin_s, b_add, b_sub, b_mul, b_fdiv, b_mod, b_pow, b_addt, b_adds, atI0, atI1, atI2, atI3, slc_t, slc_r, len_s, abs_i, int_i, int_b, min_i, max_i, lcm_i, gcd_i, seq_t, seq_r, r1_i, r2_i, r3_i, a_nm, a_nil, a_cons, vrl_some, vrn_some, put_lget, Option.isSome_some, tru_ref, b_addl, idx_t, idx_r, idx_l, slc_l, len_t, len_r, len_l, tuple_t, tuple_r, tuple_l, list_t, list_r, list_l, app_l, rev_l, pop_l, popat_l, mT_l, seq_l, enu_l, enu_t, fld_i, mcl_i, setf_i, vri_some, vrk_some, mk_0, mk_1, b_mull, zip_l, rev_i, rev_t, in_t, notin_t, fl_s, fl_i, fl_b, fl_n, inL_nil, inL_ss, inL_ii, List.all_cons, List.all_nil, Bool.and_self, Bool.and_true, Bool.true_and, zip_t, zip_m, a_t, a_l, sub_l, isTs, isT, Option.map_some, List.length_cons, List.length_nil, List.lookup_nil, Nat.reduceAdd, Nat.reduceSub, Nat.reduceLT, Nat.zero_add, Bool.false_eq_true, Bool.true_eq_false, if_false, if_true, decide_eq_true_eq, Bool.not_true, Bool.not_false, ite_true, ite_false, reduceIte, Bool.not_eq_true', decide_eq_false_iff_not, Int.cast_ofNat_Int, Int.reduceEq, Int.reduceLT, Int.reduceLE, Int.reduceNeg, Int.reduceAdd, Int.reduceSub, Int.reduceMul, Int.reduceToNat, decide_true, decide_false, not_true, not_false, not_true_eq_false, not_false_eq_true, true_and, and_true, eq_self, reduceCtorEq, List.isEmpty_nil, List.isEmpty_cons, List.nil_append, List.cons_append]
  · simp -dsimp -implicitDefEqProofs only [↓cov3, ↓cov2, ↓cov1, ↓E_var, ↓E_int, ↓E_bl, ↓E_non, ↓E_str, ↓E_glo, ↓E_tup, ↓E_lst, ↓E_bin, ↓E_neg, ↓E_cmp, ↓E_chn, ↓E_and, ↓E_or, ↓E_one, ↓E_not, ↓E_ifx, ↓E_idx, ↓E_slc, ↓E_call, ↓E_bi, ↓E_isi, ↓E_mth, ↓E_lc, ↓E_fld, ↓E_mcl, ↓E_mk, ↓Es_nil, ↓Es_cons, ↓O_no, ↓O_some, ↓Q_no, ↓Q_c, ↓C_and, ↓C_or, ↓C_one, ↓C_not, ↓C_cmp, ↓C_chn, ↓C_v, ↓I_seq, ↓I_rng1, ↓I_rng2, ↓I_rng3, ↓I_enu, ↓I_zip, ↓I_rev, ↓S_set, ↓S_asg, ↓S_par2, ↓S_sub, ↓S_expr, ↓S_ret, ↓S_retN, ↓S_ifs, ↓S_for, ↓S_brk, ↓S_cnt, ↓S_pass, ↓S_raise, ↓S_try, ↓S_tryas, ↓E_isx, ↓E_isxs, kW_nx, kW_rt, kW_bk, kW_ct, kW_ex, gx_sub, gx_cs, gx_PY, ↓S_never, ↓S_setf, ex_t, ex_f, ↓S_nil, ↓S_cons, ↓kN_nx, ↓kN_rt, ↓kN_bk, ↓kN_ct, ↓kN_ex, ↓kL_nx, ↓kL_rt, ↓kL_bk, ↓kL_ct, ↓kL_ex, ↓kX_nx, ↓kX_rt, ↓kX_bk, ↓kX_ct, ↓kX_ex, ↓kend_nx, ↓kend_rt, ↓kend_bk, ↓kend_ct, ↓kend_ex, vr_some, gt_0, gt_s, stn_0, stn_s, wip_0, wip_s, wips_0, wips_s, neg_i, isi_s, o_i, tru_non, tru_bl, tru_int, tru_tup, tru_rol, c_Eq, c_NotEq, c_Lt, c_LtE, c_Gt, c_GtE, cs_Eq, cs_NotEq, cb_Eq, cb_NotEq, c2_Eq, c2_NotEq, is_non, isnot_non, is_bl, isnot_bl, is_int, isnot_int, is_str, isnot_str, is_tup, isnot_tup, is_rol, isnot_rol, is_ref, isnot_ref, is_b, isnot_b, in_s, notin_s, b_add, b_sub, b_mul, b_fdiv, b_mod, b_pow, b_addt, b_adds, atI0, atI1, atI2, atI3, slc_t, slc_r, len_s, abs_i, int_i, int_b, min_i, max_i, lcm_i, gcd_i, seq_t, seq_r, r1_i, r2_i, r3_i, a_nm, a_nil, a_cons, vrl_some, vrn_some, put_lget, Option.isSome_some, tru_ref, b_addl, idx_t, idx_r, idx_l, slc_l, len_t, len_r, len_l, tuple_t, tuple_r, tuple_l, list_t, list_r, list_l, app_l, rev_l, pop_l, popat_l, mT_l, seq_l, enu_l, enu_t, fld_i, mcl_i, setf_i, vri_some, vrk_some, mk_0, mk_1, b_mull, zip_l, rev_i, rev_t, in_t, notin_t, fl_s, fl_i, fl_b, fl_n, inL_nil, inL_ss, inL_ii, List.all_cons, List.all_nil, Bool.and_self, Bool.and_true, Bool.true_and, zip_t, zip_m, a_t, a_l, sub_l, isTs, isT, Option.map_some, List.length_cons, List.length_nil, List.lookup_nil, Nat.reduceAdd, Nat.reduceSub, Nat.reduceLT, Nat.zero_add, Bool.false_eq_true, Bool.true_eq_false, if_false, if_true, decide_eq_true_eq, Bool.not_true, Bool.not_false, ite_true, ite_false, reduceIte, Bool.not_eq_true', decide_eq_false_iff_not, Int.cast_ofNat_Int, Int.reduceEq, Int.reduceLT, Int.reduceLE, Int.reduceNeg, Int.reduceAdd, Int.reduceSub, Int.reduceMul, Int.reduceToNat, decide_true, decide_false, not_true, not_false, not_true_eq_false, not_false_eq_true, true_and, and_true, eq_self, reduceCtorEq, List.isEmpty_nil, List.isEmpty_cons, List.nil_append, List.cons_append]
    refine refused_ok _ ?_
    simp -dsimp -implicitDefEqProofs only [↓cov3, ↓cov2, ↓cov1, ↓E_var, ↓E_int, ↓E_bl, ↓E_non, ↓E_str, ↓E_glo, ↓E_tup, ↓E_lst, ↓E_bin, ↓E_neg, ↓E_cmp, ↓E_chn, ↓E_and, ↓E_or, ↓E_one, ↓E_not, ↓E_ifx, ↓E_idx, ↓E_slc, ↓E_call, ↓E_bi, ↓E_isi, ↓E_mth, ↓E_lc, ↓E_fld, ↓E_mcl, ↓E_mk, ↓Es_nil, ↓Es_cons, ↓O_no, ↓O_some, ↓Q_no, ↓Q_c, ↓C_and, ↓C_or, ↓C_one, ↓C_not, ↓C_cmp, ↓C_chn, ↓C_v, ↓I_seq, ↓I_rng1, ↓I_rng2, ↓I_rng3, ↓I_enu, ↓I_zip, ↓I_rev, ↓S_set, ↓S_asg, ↓S_par2, ↓S_sub, ↓S_expr, ↓S_ret, ↓S_retN, ↓S_ifs, ↓S_for, ↓S_brk, ↓S_cnt, ↓S_pass, ↓S_raise, ↓S_try, ↓S_tryas, ↓E_isx, ↓E_isxs, kW_nx, kW_rt, kW_bk, kW_ct, kW_ex, gx_sub, gx_cs, gx_PY, ↓S_never, ↓S_setf, ex_t, ex_f, ↓S_nil, ↓S_cons, ↓kN_nx, ↓kN_rt, ↓kN_bk, ↓kN_ct, ↓kN_ex, ↓kL_nx, ↓kL_rt, ↓kL_bk, ↓kL_ct, ↓kL_ex, ↓kX_nx, ↓kX_rt, ↓kX_bk, ↓kX_ct, ↓kX_ex, ↓kend_nx, ↓kend_rt, ↓kend_bk, ↓kend_ct, ↓kend_ex, vr_some, gt_0, gt_s, stn_0, stn_s, wip_0, wip_s, wips_0, wips_s, neg_i, isi_s, o_i, tru_non, tru_bl, tru_int, tru_tup, tru_rol, c_Eq, c_NotEq, c_Lt, c_LtE, c_Gt, c_GtE, cs_Eq, cs_NotEq, cb_Eq, cb_NotEq, c2_Eq, c2_NotEq, is_non, isnot_non, is_bl, isnot_bl, is_int, isnot_int, is_str, isnot_str, is_tup, isnot_tup, is_rol, isnot_rol, is_ref, isnot_ref, is_b, isnot_b, in_s, notin_s, b_add, b_sub, b_mul, b_fdiv, b_mod, b_pow, b_addt, b_adds, atI0, atI1, atI2, atI3, slc_t, slc_r, len_s, abs_i, int_i, int_b, min_i, max_i, lcm_i, gcd_i, seq_t, seq_r, r1_i, r2_i, r3_i, a_nm, a_nil, a_cons, vrl_some, vrn_some, put_lget, Option.isSome_some, tru_ref, b_addl, idx_t, idx_r, idx_l, slc_l, len_t, len_r, len_l, tuple_t, tuple_r, tuple_l, list_t, list_r, list_l, app_l, rev_l, pop_l, popat_l, mT_l, seq_l, enu_l, enu_t, fld_i, mcl_i, setf_i, vri_some, vrk_some, mk_0, mk_1, b_mull, zip_l, rev_i, rev_t, in_t, notin_t, fl_s, fl_i, fl_b, fl_n, inL_nil, inL_ss, inL_ii, List.all_cons, List.all_nil, Bool.and_self, Bool.and_true, Bool.true_and, zip_t, zip_m, a_t, a_l, sub_l, isTs, isT, Option.map_some, List.length_cons, List.length_nil, List.lookup_nil, Nat.reduceAdd, Nat.reduceSub, Nat.reduceLT, Nat.zero_add, Bool.false_eq_true, Bool.true_eq_false, if_false, if_true, decide_eq_true_eq, Bool.not_true, Bool.not_false, ite_true, ite_false, reduceIte, Bool.not_eq_true', decide_eq_false_iff_not, Int.cast_ofNat_Int, Int.reduceEq, Int.reduceLT, Int.reduceLE, Int.reduceNeg, Int.reduceAdd, Int.reduceSub, Int.reduceMul, Int.reduceToNat, decide_true, decide_false, not_true, not_false, not_true_eq_false, not_false_eq_true, true_and, and_true, eq_self, reduceCtorEq, List.isEmpty_nil, List.isEmpty_cons, List.nil_append, List.cons_append]
    refine ite2 (fun _ => ?_) fun h0 => ?_
    · trivial
    · refine rational_ok t_rational trivial h0 ?_
      simp -dsimp -implicitDefEqProofs only [↓cov3, ↓cov2, ↓cov1, ↓E_var, ↓E_int, ↓E_bl, ↓E_non, ↓E_str, ↓E_glo, ↓E_tup, ↓E_lst, ↓E_bin, ↓E_neg, ↓E_cmp, ↓E_chn, ↓E_and, ↓E_or, ↓E_one, ↓E_not, ↓E_ifx, ↓E_idx, ↓E_slc, ↓E_call, ↓E_bi, ↓E_isi, ↓E_mth, ↓E_lc, ↓E_fld, ↓E_mcl, ↓E_mk, ↓Es_nil, ↓Es_cons, ↓O_no, ↓O_some, ↓Q_no, ↓Q_c, ↓C_and, ↓C_or, ↓C_one, ↓C_not, ↓C_cmp, ↓C_chn, ↓C_v, ↓I_seq, ↓I_rng1, ↓I_rng2, ↓I_rng3, ↓I_enu, ↓I_zip, ↓I_rev, ↓S_set, ↓S_asg, ↓S_par2, ↓S_sub, ↓S_expr, ↓S_ret, ↓S_retN, ↓S_ifs, ↓S_for, ↓S_brk, ↓S_cnt, ↓S_pass, ↓S_raise, ↓S_try, ↓S_tryas, ↓E_isx, ↓E_isxs, kW_nx, kW_rt, kW_bk, kW_ct, kW_ex, gx_sub, gx_cs, gx_PY, ↓S_never, ↓S_setf, ex_t, ex_f, ↓S_nil, ↓S_cons, ↓kN_nx, ↓kN_rt, ↓kN_bk, ↓kN_ct, ↓kN_ex, ↓kL_nx, ↓kL_rt, ↓kL_bk, ↓kL_ct, ↓kL_ex, ↓kX_nx, ↓kX_rt, ↓kX_bk, ↓kX_ct, ↓kX_ex, ↓kend_nx, ↓kend_rt, ↓kend_bk, ↓kend_ct, ↓kend_ex, vr_some, gt_0, gt_s, stn_0, stn_s, wip_0, wip_s, wips_0, wips_s, neg_i, isi_s, o_i, tru_non, tru_bl, tru_int, tru_tup, tru_rol, c_Eq, c_NotEq, c_Lt, c_LtE, c_Gt, c_GtE, cs_Eq, cs_NotEq, cb_Eq, cb_NotEq, c2_Eq, c2_NotEq, is_non, isnot_non, is_bl, isnot_bl, is_int, isnot_int, is_str, isnot_str, is_tup, isnot_tup, is_rol, isnot_rol, is_ref, isnot_ref, is_b, isnot_b, in_s, notin_s, b_add, b_sub, b_mul, b_fdiv, b_mod, b_pow, b_addt, b_adds, atI0, atI1, atI2, atI3, slc_t, slc_r, len_s, abs_i, int_i, int_b, min_i, max_i, lcm_i, gcd_i, seq_t, seq_r, r1_i, r2_i, r3_i, a_nm, a_nil, a_cons, vrl_some, vrn_some, put_lget, Option.isSome_some, tru_ref, b_addl, idx_t, idx_r, idx_l, slc_l, len_t, len_r, len_l, tuple_t, tuple_r, tuple_l, list_t, list_r, list_l, app_l, rev_l, pop_l, popat_l, mT_l, seq_l, enu_l, enu_t, fld_i, mcl_i, setf_i, vri_some, vrk_some, mk_0, mk_1, b_mull, zip_l, rev_i, rev_t, in_t, notin_t, fl_s, fl_i, fl_b, fl_n, inL_nil, inL_ss, inL_ii, List.all_cons, List.all_nil, Bool.and_self, Bool.and_true, Bool.true_and, zip_t, zip_m, a_t, a_l, sub_l, isTs, isT, Option.map_some, List.length_cons, List.length_nil, List.lookup_nil, Nat.reduceAdd, Nat.reduceSub, Nat.reduceLT, Nat.zero_add, Bool.false_eq_true, Bool.true_eq_false, if_false, if_true, decide_eq_true_eq, Bool.not_true, Bool.not_false, ite_true, ite_false, reduceIte, Bool.not_eq_true', decide_eq_false_iff_not, Int.cast_ofNat_Int, Int.reduceEq, Int.reduceLT, Int.reduceLE, Int.reduceNeg, Int.reduceAdd, Int.reduceSub, Int.reduceMul, Int.reduceToNat, decide_true, decide_false, not_true, not_false, not_true_eq_false, not_false_eq_true, true_and, and_true, eq_self, reduceCtorEq, List.isEmpty_nil, List.isEmpty_cons, List.nil_append, List.cons_append, idx_Q0, idx_Q1]
      refine is_rat_ok _ ?_
      simp -dsimp -implicitDefEqProofs only [↓cov3, ↓cov2, ↓cov1, ↓E_var, ↓E_int, ↓E_bl, ↓E_non, ↓E_str, ↓E_glo, ↓E_tup, ↓E_lst, ↓E_bin, ↓E_neg, ↓E_cmp, ↓E_chn, ↓E_and, ↓E_or, ↓E_one, ↓E_not, ↓E_ifx, ↓E_idx, ↓E_slc, ↓E_call, ↓E_bi, ↓E_isi, ↓E_mth, ↓E_lc, ↓E_fld, ↓E_mcl, ↓E_mk, ↓Es_nil, ↓Es_cons, ↓O_no, ↓O_some, ↓Q_no, ↓Q_c, ↓C_and, ↓C_or, ↓C_one, ↓C_not, ↓C_cmp, ↓C_chn, ↓C_v, ↓I_seq, ↓I_rng1, ↓I_rng2, ↓I_rng3, ↓I_enu, ↓I_zip, ↓I_rev, ↓S_set, ↓S_asg, ↓S_par2, ↓S_sub, ↓S_expr, ↓S_ret, ↓S_retN, ↓S_ifs, ↓S_for, ↓S_brk, ↓S_cnt, ↓S_pass, ↓S_raise, ↓S_try, ↓S_tryas, ↓E_isx, ↓E_isxs, kW_nx, kW_rt, kW_bk, kW_ct, kW_ex, gx_sub, gx_cs, gx_PY, ↓S_never, ↓S_setf, ex_t, ex_f, ↓S_nil, ↓S_cons, ↓kN_nx, ↓kN_rt, ↓kN_bk, ↓kN_ct, ↓kN_ex, ↓kL_nx, ↓kL_rt, ↓kL_bk, ↓kL_ct, ↓kL_ex, ↓kX_nx, ↓kX_rt, ↓kX_bk, ↓kX_ct, ↓kX_ex, ↓kend_nx, ↓kend_rt, ↓kend_bk, ↓kend_ct, ↓kend_ex, vr_some, gt_0, gt_s, stn_0, stn_s, wip_0, wip_s, wips_0, wips_s, neg_i, isi_s, o_i, tru_non, tru_bl, tru_int, tru_tup, tru_rol, c_Eq, c_NotEq, c_Lt, c_LtE, c_Gt, c_GtE, cs_Eq, cs_NotEq, cb_Eq, cb_NotEq, c2_Eq, c2_NotEq, is_non, isnot_non, is_bl, isnot_bl, is_int, isnot_int, is_str, isnot_str, is_tup, isnot_tup, is_rol, isnot_rol, is_ref, isnot_ref, is_b, isnot_b, in_s, notin_s, b_add, b_sub, b_mul, b_fdiv, b_mod, b_pow, b_addt, b_adds, atI0, atI1, atI2, atI3, slc_t, slc_r, len_s, abs_i, int_i, int_b, min_i, max_i, lcm_i, gcd_i, seq_t, seq_r, r1_i, r2_i, r3_i, a_nm, a_nil, a_cons, vrl_some, vrn_some, put_lget, Option.isSome_some, tru_ref, b_addl, idx_t, idx_r, idx_l, slc_l, len_t, len_r, len_l, tuple_t, tuple_r, tuple_l, list_t, list_r, list_l, app_l, rev_l, pop_l, popat_l, mT_l, seq_l, enu_l, enu_t, fld_i, mcl_i, setf_i, vri_some, vrk_some, mk_0, mk_1, b_mull, zip_l, rev_i, rev_t, in_t, notin_t, fl_s, fl_i, fl_b, fl_n, inL_nil, inL_ss, inL_ii, List.all_cons, List.all_nil, Bool.and_self, Bool.and_true, Bool.true_and, zip_t, zip_m, a_t, a_l, sub_l, isTs, isT, Option.map_some, List.length_cons, List.length_nil, List.lookup_nil, Nat.reduceAdd, Nat.reduceSub, Nat.reduceLT, Nat.zero_add, Bool.false_eq_true, Bool.true_eq_false, if_false, if_true, decide_eq_true_eq, Bool.not_true, Bool.not_false, ite_true, ite_false, reduceIte, Bool.not_eq_true', decide_eq_false_iff_not, Int.cast_ofNat_Int, Int.reduceEq, Int.reduceLT, Int.reduceLE, Int.reduceNeg, Int.reduceAdd, Int.reduceSub, Int.reduceMul, Int.reduceToNat, decide_true, decide_false, not_true, not_false, not_true_eq_false, not_false_eq_true, true_and, and_true, eq_self, reduceCtorEq, List.isEmpty_nil, List.isEmpty_cons, List.nil_append, List.cons_append, idx_Q0, idx_Q1]
      refine rational_ok t_rational trivial h0 ?_
      simp -dsimp -implicitDefEqProofs only [↓cov3, ↓cov2, ↓cov1, ↓E_var, ↓E_int, ↓E_bl, ↓E_non, ↓E_str, ↓E_glo, ↓E_tup, ↓E_lst, ↓E_bin, ↓E_neg, ↓E_cmp, ↓E_chn, ↓E_and, ↓E_or, ↓E_one, ↓E_not, ↓E_ifx, ↓E_idx, ↓E_slc, ↓E_call, ↓E_bi, ↓E_isi, ↓E_mth, ↓E_lc, ↓E_fld, ↓E_mcl, ↓E_mk, ↓Es_nil, ↓Es_cons, ↓O_no, ↓O_some, ↓Q_no, ↓Q_c, ↓C_and, ↓C_or, ↓C_one, ↓C_not, ↓C_cmp, ↓C_chn, ↓C_v, ↓I_seq, ↓I_rng1, ↓I_rng2, ↓I_rng3, ↓I_enu, ↓I_zip, ↓I_rev, ↓S_set, ↓S_asg, ↓S_par2, ↓S_sub, ↓S_expr, ↓S_ret, ↓S_retN, ↓S_ifs, ↓S_for, ↓S_brk, ↓S_cnt, ↓S_pass, ↓S_raise, ↓S_try, ↓S_tryas, ↓E_isx, ↓E_isxs, kW_nx, kW_rt, kW_bk, kW_ct, kW_ex, gx_sub, gx_cs, gx_PY, ↓S_never, ↓S_setf, ex_t, ex_f, ↓S_nil, ↓S_cons, ↓kN_nx, ↓kN_rt, ↓kN_bk, ↓kN_ct, ↓kN_ex, ↓kL_nx, ↓kL_rt, ↓kL_bk, ↓kL_ct, ↓kL_ex, ↓kX_nx, ↓kX_rt, ↓kX_bk, ↓kX_ct, ↓kX_ex, ↓kend_nx, ↓kend_rt, ↓kend_bk, ↓kend_ct, ↓kend_ex, vr_some, gt_0, gt_s, stn_0, stn_s, wip_0, wip_s, wips_0, wips_s, neg_i, isi_s, o_i, tru_non, tru_bl, tru_int, tru_tup, tru_rol, c_Eq, c_NotEq, c_Lt, c_LtE, c_Gt, c_GtE, cs_Eq, cs_NotEq, cb_Eq, cb_NotEq, c2_Eq, c2_NotEq, is_non, isnot_non, is_bl, isnot_bl, is_int, isnot_int, is_str, isnot_str, is_tup, isnot_tup, is_rol, isnot_rol, is_ref, isnot_ref, is_b, isnot_b, in_s, notin_s, b_add, b_sub, b_mul, b_fdiv, b_mod, b_pow, b_addt, b_adds, atI0, atI1, atI2, atI3, slc_t, slc_r, len_s, abs_i, int_i, int_b, min_i, max_i, lcm_i, gcd_i, seq_t, seq_r, r1_i, r2_i, r3_i, a_nm, a_nil, a_cons, vrl_some, vrn_some, put_lget, Option.isSome_some, tru_ref, b_addl, idx_t, idx_r, idx_l, slc_l, len_t, len_r, len_l, tuple_t, tuple_r, tuple_l, list_t, list_r, list_l, app_l, rev_l, pop_l, popat_l, mT_l, seq_l, enu_l, enu_t, fld_i, mcl_i, setf_i, vri_some, vrk_some, mk_0, mk_1, b_mull, zip_l, rev_i, rev_t, in_t, notin_t, fl_s, fl_i, fl_b, fl_n, inL_nil, inL_ss, inL_ii, List.all_cons, List.all_nil, Bool.and_self, Bool.and_true, Bool.true_and, zip_t, zip_m, a_t, a_l, sub_l, isTs, isT, Option.map_some, List.length_cons, List.length_nil, List.lookup_nil, Nat.reduceAdd, Nat.reduceSub, Nat.reduceLT, Nat.zero_add, Bool.false_eq_true, Bool.true_eq_false, if_false, if_true, decide_eq_true_eq, Bool.not_true, Bool.not_false, ite_true, ite_false, reduceIte, Bool.not_eq_true', decide_eq_false_iff_not, Int.cast_ofNat_Int, Int.reduceEq, Int.reduceLT, Int.reduceLE, Int.reduceNeg, Int.reduceAdd, Int.reduceSub, Int.reduceMul, Int.reduceToNat, decide_true, decide_false, not_true, not_false, not_true_eq_false, not_false_eq_true, true_and, and_true, eq_self, reduceCtorEq, List.isEmpty_nil, List.isEmpty_cons, List.nil_append, List.cons_append, idx_Q0, idx_Q1]
      have hq := QB.of hn hd0 h0
      have e1 : (Rat.divInt n d0).num * d0 = n * ((Rat.divInt n d0).den : Int) := (Rat.divInt_eq_divInt_iff (Int.ne_of_gt (den_pos _)) h0).mp (Rat.num_divInt_den _)
      refine ⟨hq.num.mulOk hd0 (by decide), hn.mulOk hq.den (by decide), ?_⟩
      rw [if_pos e1, Rat.zero_divInt]
      refine is_rat_ok _ ?_
      simp -dsimp -implicitDefEqProofs only [↓cov3, ↓cov2, ↓cov1, ↓E_var, ↓E_int, ↓E_bl, ↓E_non, ↓E_str, ↓E_glo, ↓E_tup, ↓E_lst, ↓E_bin, ↓E_neg, ↓E_cmp, ↓E_chn, ↓E_and, ↓E_or, ↓E_one, ↓E_not, ↓E_ifx, ↓E_idx, ↓E_slc, ↓E_call, ↓E_bi, ↓E_isi, ↓E_mth, ↓E_lc, ↓E_fld, ↓E_mcl, ↓E_mk, ↓Es_nil, ↓Es_cons, ↓O_no, ↓O_some, ↓Q_no, ↓Q_c, ↓C_and, ↓C_or, ↓C_one, ↓C_not, ↓C_cmp, ↓C_chn, ↓C_v, ↓I_seq, ↓I_rng1, ↓I_rng2, ↓I_rng3, ↓I_enu, ↓I_zip, ↓I_rev, ↓S_set, ↓S_asg, ↓S_par2, ↓S_sub, ↓S_expr, ↓S_ret, ↓S_retN, ↓S_ifs, ↓S_for, ↓S_brk, ↓S_cnt, ↓S_pass, ↓S_raise, ↓S_try, ↓S_tryas, ↓E_isx, ↓E_isxs, kW_nx, kW_rt, kW_bk, kW_ct, kW_ex, gx_sub, gx_cs, gx_PY, ↓S_never, ↓S_setf, ex_t, ex_f, ↓S_nil, ↓S_cons, ↓kN_nx, ↓kN_rt, ↓kN_bk, ↓kN_ct, ↓kN_ex, ↓kL_nx, ↓kL_rt, ↓kL_bk, ↓kL_ct, ↓kL_ex, ↓kX_nx, ↓kX_rt, ↓kX_bk, ↓kX_ct, ↓kX_ex, ↓kend_nx, ↓kend_rt, ↓kend_bk, ↓kend_ct, ↓kend_ex, vr_some, gt_0, gt_s, stn_0, stn_s, wip_0, wip_s, wips_0, wips_s, neg_i, isi_s, o_i, tru_non, tru_bl, tru_int, tru_tup, tru_rol, c_Eq, c_NotEq, c_Lt, c_LtE, c_Gt, c_GtE, cs_Eq, cs_NotEq, cb_Eq, cb_NotEq, c2_Eq, c2_NotEq, is_non, isnot_non, is_bl, isnot_bl, is_int, isnot_int, is_str, isnot_str, is_tup, isnot_tup, is_rol, isnot_rol, is_ref, isnot_ref, is_b, isnot_b, in_s, notin_s, b_add, b_sub, b_mul, b_fdiv, b_mod, b_pow, b_addt, b_adds, atI0, atI1, atI2, atI3, slc_t, slc_r, len_s, abs_i, int_i, int_b, min_i, max_i, lcm_i, gcd_i, seq_t, seq_r, r1_i, r2_i, r3_i, a_nm, a_nil, a_cons, vrl_some, vrn_some, put_lget, Option.isSome_some, tru_ref, b_addl, idx_t, idx_r, idx_l, slc_l, len_t, len_r, len_l, tuple_t, tuple_r, tuple_l, list_t, list_r, list_l, app_l, rev_l, pop_l, popat_l, mT_l, seq_l, enu_l, enu_t, fld_i, mcl_i, setf_i, vri_some, vrk_some, mk_0, mk_1, b_mull, zip_l, rev_i, rev_t, in_t, notin_t, fl_s, fl_i, fl_b, fl_n, inL_nil, inL_ss, inL_ii, List.all_cons, List.all_nil, Bool.and_self, Bool.and_true, Bool.true_and, zip_t, zip_m, a_t, a_l, sub_l, isTs, isT, Option.map_some, List.length_cons, List.length_nil, List.lookup_nil, Nat.reduceAdd, Nat.reduceSub, Nat.reduceLT, Nat.zero_add, Bool.false_eq_true, Bool.true_eq_false, if_false, if_true, decide_eq_true_eq, Bool.not_true, Bool.not_false, ite_true, ite_false, reduceIte, Bool.not_eq_true', decide_eq_false_iff_not, Int.cast_ofNat_Int, Int.reduceEq, Int.reduceLT, Int.reduceLE, Int.reduceNeg, Int.reduceAdd, Int.reduceSub, Int.reduceMul, Int.reduceToNat, decide_true, decide_false, not_true, not_false, not_true_eq_false, not_false_eq_true, true_and, and_true, eq_self, reduceCtorEq, List.isEmpty_nil, List.isEmpty_cons, List.nil_append, List.cons_append, show (D.tup [.int 0, .int 1]) = QD 0 from rfl, cQ_Eq]

end Lw
open PySem PySem.W PyProof.Rows
set_option maxHeartbeats 0 in
theorem PySem.Challenge.cw_integraph_k00_lowest_terms_holds : PySem.Challenge.rw_integraph_k00_lowest_terms.Holds := by
  w_on; o_law; k_head; (case hw => w_witness2)
  k_fill
  refine Ev.law_by (l := PySem.Challenge.rw_integraph_k00_lowest_terms) (k := 30) (M := Lw.M) (G := Lw.G) (T := Lw.T) rfl rfl rfl ⟨rfl, by decide, by decide⟩ (by decide +kernel) (by decide +kernel) (fun w h Y => PySem.W.kIn_of Y) Lw.t_law rfl ?B Lw.main
  case B =>
    intro w mg h KX Gn base hse
    refine' Lw.mok_mk KX Gn hse rfl ?a0 ?l0 ?c0 ?k0 ?a1 ?l1 ?c1 ?k1 ?a2 ?l2 ?c2 ?k2 ?a3 ?l3 ?c3 ?k3 ?a4 ?l4 ?c4 ?k4 ?a5 ?l5 ?c5 ?k5 ?a6 ?l6 ?c6 ?k6 ?a7 ?l7 ?c7 ?k7 ?a8 ?l8 ?c8 ?k8 ?z0 ?z1 ?z2 ?z3 ?z4 ?z5 ?z6 ?z7 ?zg ?ea0 ?ek0 ?eb0 ?et0 ?ed0 ?ea1 ?ek1 ?eb1 ?et1 ?ed1 ?ea2 ?ek2 ?eb2 ?et2 ?ed2 ?ea3 ?ek3 ?eb3 ?et3 ?ed3 ?ea4 ?ek4 ?eb4 ?et4 ?ed4 ?ea5 ?ek5 ?eb5 ?et5 ?ex5 ?ed5 ?es5_0 ?en5_0 ?es5_1 ?en5_1 ?es5_2 ?en5_2 ?es5_3 ?en5_3 ?es5_4 ?en5_4 ?es5_5 ?xn ?xt ?xg5 ?xk5 ?xa5 ?xm5 ?xb5_0
    (case a0 => k_is); (case l0 => k_is); (case c0 => k_is); (case k0 => k_is); (case a1 => k_is); (case l1 => k_is); (case c1 => k_is); (case k1 => k_is); (case a2 => k_is); (case l2 => k_is); (case c2 => k_is); (case k2 => k_is); (case a3 => k_is); (case l3 => k_is); (case c3 => k_is); (case k3 => k_is); (case a4 => k_is); (case l4 => k_is); (case c4 => k_is); (case k4 => k_is); (case a5 => k_is); (case l5 => k_is); (case c5 => k_is); (case k5 => k_is); (case a6 => k_is); (case l6 => k_is); (case c6 => k_is); (case k6 => k_is); (case a7 => k_is); (case l7 => k_is); (case c7 => k_is); (case k7 => k_is); (case a8 => k_is); (case l8 => k_is); (case c8 => k_is); (case k8 => k_is); (case z0 => k_is); (case z1 => k_is); (case z2 => k_is); (case z3 => k_is); (case z4 => k_is); (case z5 => k_is); (case z6 => k_is); (case z7 => k_is); (case zg => k_is); (case ea0 => k_is); (case ek0 => k_is); (case eb0 => k_is); (case et0 => k_is); (case ed0 => k_is); (case ea1 => k_is); (case ek1 => k_is); (case eb1 => k_is); (case et1 => k_is); (case ed1 => k_is); (case ea2 => k_is); (case ek2 => k_is); (case eb2 => k_is); (case et2 => k_is); (case ed2 => k_is); (case ea3 => k_is); (case ek3 => k_is); (case eb3 => k_is); (case et3 => k_is); (case ed3 => k_is); (case ea4 => k_is); (case ek4 => k_is); (case eb4 => k_is); (case et4 => k_is); (case ed4 => k_is); (case ea5 => k_is); (case ek5 => k_is); (case eb5 => k_is); (case et5 => k_is); (case ex5 => k_exc); (case ed5 => k_is); (case es5_0 => k_is); (case en5_0 => first | rfl | decide +kernel); (case es5_1 => k_is); (case en5_1 => first | rfl | decide +kernel); (case es5_2 => k_is); (case en5_2 => first | rfl | decide +kernel); (case es5_3 => k_is); (case en5_3 => first | rfl | decide +kernel); (case es5_4 => k_is); (case en5_4 => first | rfl | decide +kernel); (case es5_5 => k_is); (case xn => k_is); (case xt => k_is); (case xg5 => k_is); (case xk5 => k_is); (case xa5 => k_is); (case xm5 => k_is); (case xb5_0 => k_is)
