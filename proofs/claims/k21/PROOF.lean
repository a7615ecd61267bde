import PyProof.Rows.All
import Wide.All
import OpenK.AllK
import Wide.FinOn
import HandS.ForExc
import HandS.Wide
import HandS.Gcd
import HandS.Flow
import HandS.Style
import HandS.TupAny
import HandS.IsInst
import HandS.Iter
import HandS.Rev
import HandS.Zip
import HandS.Comp
import HandS.Text
import HandS.CallSlots
import HandS.EndBits
import HandS.Small
import HandS.TryOnly
import HandS.ExcIs
import PySem.Challenge.RW_integraph_k21_derivative_of_an_expressio
set_option Elab.async false
set_option linter.all false
set_option maxRecDepth 100000
set_option maxHeartbeats 4000000
/-! A small evaluator over plain data, and what it says of the text: the forms. -/
namespace Ev
open PySem PySem.Spec PyProof.Rows L2

/-- plain data: tuples by value (and a list that is only read, rol), lists and other objects by place -/
inductive D where
  | non | bl (b : Bool) | int (i : Int) | str (x : Str) | tup (xs : List D) | rol (xs : List D) | ref (a : Addr)
inductive Ob where
  | lst (xs : List D)
abbrev Sto := Addr → Option Ob
def put (S : Sto) (a : Addr) (o : Ob) : Sto := fun b => if b = a then some o else S b
theorem put_same {S : Sto} {a : Addr} {o : Ob} : put S a o a = some o := if_pos rfl
theorem put_ne {S : Sto} {a b : Addr} {o : Ob} (h : b ≠ a) : put S a o b = S b := if_neg h
/-- an exception: its class's name, the fields of its own __init__ -/
structure Exn where
  cls : Str
  fs : List (Str × D)
abbrev DK := D → Sto → Prop
abbrev XS := Exn → Sto → Prop
abbrev CallS := Str → List D → Sto → DK → XS → Prop
abbrev En := List (Option D)
def gt : En → Nat → Option D
  | [], _ => none
  | x :: _, 0 => x
  | _ :: r, n + 1 => gt r n
def stn : En → Nat → D → En
  | [], _, _ => []
  | _ :: r, 0, d => some d :: r
  | x :: r, n + 1, d => x :: stn r n d
def wip1 : En → Nat → En
  | [], _ => []
  | _ :: r, 0 => none :: r
  | x :: r, n + 1 => x :: wip1 r n
def wips : En → List Nat → En
  | σ, [] => σ
  | σ, i :: r => wips (wip1 σ i) r

inductive Bi where
  | len | abs | int | min2 | max2 | tuple | list | gcd
  deriving DecidableEq
inductive Ty where
  | int | bool | str | tuple | list | own (x : Str)
  deriving DecidableEq
inductive Me where
  | append | pop | popat | reverse
  deriving DecidableEq

mutual
inductive IE where
  | var (i : Nat)
  | int (i : Int) | bl (b : Bool) | non | str (x : Str)
  | glo (x : Str)
  | tup (es : IEs) | lst (es : IEs)
  | bin (op : Operator) (a b : IE)
  | neg (a : IE)
  | cmp (op : CmpOp) (a b : IE)
  | chn (op op2 : CmpOp) (a b c : IE)
  | and (a b : IE) | or (a b : IE) | one (a : IE) | not (a : IE)
  | ifx (c : IC) (a b : IE)
  | idx (a i : IE)
  | slc (a : IE) (lo hi : IO)
  | call (f : Str) (es : IEs)
  | bi (b : Bi) (es : IEs)
  | isi (e : IE) (ts : List Ty)
  | mth (m : Me) (o : IE) (es : IEs)
  | lc (elt : IE) (tg : IG) (it : II) (ifs : IQ) (own : List Nat)
inductive IEs where
  | nil | cons (e : IE) (r : IEs)
inductive IO where
  | no | some (e : IE)
inductive IC where
  | and (a b : IC) | or (a b : IC) | one (a : IC) | not (a : IC)
  | cmp (op : CmpOp) (a b : IE)
  | chn (op op2 : CmpOp) (a b c : IE)
  | v (e : IE)
inductive IQ where
  | no | c (c : IC)
inductive II where
  | seq (e : IE) | rng1 (a : IE) | rng2 (a b : IE) | rng3 (a b c : IE) | enu (e : IE) | zip (a b : IE) | rev (e : IE)
inductive IG where
  | nm (i : Nat) | tup (gs : IGs)
inductive IGs where
  | nil | cons (g : IG) (r : IGs)
end
mutual
inductive IS where
  | set (i : Nat) (e : IE)
  | asg (g : IG) (e : IE)
  | par2 (i j : Nat) (a b : IE)
  | sub (o i e : IE)
  | expr (e : IE)
  | ret (e : IE) | retN
  | ifs (c : IC) (a b : ISs)
  | whl (c : IC) (b : ISs)
  | for_ (g : IG) (it : II) (b : ISs)
  | brk | cnt | pass
  | raise (x : Str) (es : IEs)
  | tryx (b : ISs) (x : Str) (s : ISs)
  | never
inductive ISs where
  | nil | cons (s : IS) (r : ISs)
end

/-! ### operations on data -/
def lget (S : Sto) (a : Addr) : Option (List D) := match S a with
  | some (.lst xs) => some xs
  | none => none
/-- what has items: a tuple, a list -/
def sget (S : Sto) : D → Option (List D)
  | .tup xs => some xs
  | .rol xs => some xs
  | .ref a => lget S a
  | _ => none
def truS (x : D) (S : Sto) (Q : Bool → Prop) : Prop := match x with
  | .non => Q false
  | .bl b => Q b
  | .int i => Q (i != 0)
  | .str y => y.length ≤ sizeLine ∧ Q ((y.length : Int) != 0)
  | .tup xs => Q (!xs.isEmpty)
  | .rol xs => Q (!xs.isEmpty)
  | .ref a => match lget S a with
    | some xs => Q (!xs.isEmpty)
    | none => False
mutual
/-- data as the library's comparison reads it -/
inductive Pd (S : Sto) : D → PyData → Prop
  | non : Pd S .non .none
  | bl (b : Bool) : Pd S (.bl b) (.bool b)
  | int (i : Int) : Pd S (.int i) (.int i)
  | str (x : Str) : Pd S (.str x) (.str x)
  | tup {xs : List D} {ps : List PyData} (h : Pds S xs ps) : Pd S (.tup xs) (.tuple ps)
  | rol {xs : List D} {ps : List PyData} (h : Pds S xs ps) : Pd S (.rol xs) (.list ps)
  | ref {a : Addr} {xs : List D} {ps : List PyData} (l : lget S a = some xs) (h : Pds S xs ps) : Pd S (.ref a) (.list ps)
inductive Pds (S : Sto) : List D → List PyData → Prop
  | nil : Pds S [] []
  | cons {d : D} {ds : List D} {p : PyData} {ps : List PyData} (h : Pd S d p) (t : Pds S ds ps) : Pds S (d :: ds) (p :: ps)
end
def eqG (x y : D) (S : Sto) (Q : Bool → Prop) : Prop := ∃ p q, Pd S x p ∧ Pd S y q ∧ SeqAt.shaped p = true ∧ SeqAt.shaped q = true ∧ Q (PyData.eqv p q)
def eqS (x y : D) (S : Sto) (Q : Bool → Prop) : Prop := match x with
  | .int i => (match y with
    | .int j => Q (decide (i = j))
    | _ => eqG x y S Q)
  | .str a => (match y with
    | .str b => Q (decide (a = b))
    | _ => eqG x y S Q)
  | _ => eqG x y S Q
/-- flat data: what `in` compares at once -/
def flD : D → Bool
  | .non => true
  | .bl _ => true
  | .int _ => true
  | .str _ => true
  | _ => false
def toV : D → V
  | .bl b => .bl b
  | .int i => .int i
  | .str x => .str x
  | _ => .non
def inL (x : D) (xs : List D) : Bool := xs.any fun y => eqV (toV y) (toV x)
def inS (x y : D) (S : Sto) (Q : Bool → Prop) : Prop := match y with
  | .str j => (match x with | .str i => Q (!(Builtin.Str.occurrences j i 0 j.length 1).isEmpty) | _ => False)
  | _ => (match sget S y with
    | some xs => flD x = true ∧ xs.all flD = true ∧ Q (inL x xs)
    | none => False)
def cmpS (op : CmpOp) (x y : D) (S : Sto) (Q : Bool → Prop) : Prop := match op with
  | .Eq => eqS x y S Q
  | .NotEq => eqS x y S fun k => Q (!k)
  | .Lt => (match x, y with | .int i, .int j => Q (decide (i < j)) | _, _ => False)
  | .LtE => (match x, y with | .int i, .int j => Q (decide (i ≤ j)) | _, _ => False)
  | .Gt => (match x, y with | .int i, .int j => Q (decide (j < i)) | _, _ => False)
  | .GtE => (match x, y with | .int i, .int j => Q (decide (j ≤ i)) | _, _ => False)
  | .Is => (match y with
    | .non => (match x with | .non => Q true | _ => Q false)
    | .bl b => (match x with | .bl c => Q (decide (c = b)) | _ => False)
    | _ => False)
  | .IsNot => (match y with
    | .non => (match x with | .non => Q false | _ => Q true)
    | .bl b => (match x with | .bl c => Q (!decide (c = b)) | _ => False)
    | _ => False)
  | .In => inS x y S Q
  | .NotIn => inS x y S fun k => Q (!k)
/-- the condition on // : the divisor is not 0, and the library's big division is not asked (or is allowed: PY) -/
def FdOk (PY : Prop) (i j : Int) : Prop := j ≠ 0 ∧ (Builtin.divisionGoesByPylong i j = false ∨ PY)
def binS (PY : Prop) (op : Operator) (x y : D) (S : Sto) (Q : DK) : Prop := match op with
  | .Add => (match x, y with
    | .int i, .int j => Q (.int (i + j)) S
    | .tup xs, .tup ys => xs.length + ys.length ≤ sizeLine ∧ Q (.tup (xs ++ ys)) S
    | .str a, .str b => a.length + b.length ≤ sizeLine ∧ Q (.str (a ++ b)) S
    | .ref a, .ref b => (match S a, S b with
      | some (.lst xs), some (.lst ys) => xs.length + ys.length ≤ sizeLine ∧ ∀ c, S c = none → Q (.ref c) (put S c (.lst (xs ++ ys)))
      | _, _ => False)
    | _, _ => False)
  | .Sub => (match x, y with | .int i, .int j => Q (.int (i - j)) S | _, _ => False)
  | .Mult => (match x, y with | .int i, .int j => IntMulOk i j ∧ Q (.int (i * j)) S | _, _ => False)
  | .FloorDiv => (match x, y with | .int i, .int j => FdOk PY i j ∧ Q (.int (i.fdiv j)) S | _, _ => False)
  | .Mod => (match x, y with | .int i, .int j => j ≠ 0 ∧ Q (.int (i.fmod j)) S | _, _ => False)
  | .Pow => (match x, y with | .int i, .int j => CPow i j ∧ Q (.int (i ^ j.toNat)) S | _, _ => False)
  | _ => False
def idxS (x i : D) (S : Sto) (Q : DK) : Prop := match i with
  | .int n => (match x with
    | .str z => z.length ≤ sizeLine ∧ (match atI z.cps.toList n with | some c => Q (.str ⟨#[c]⟩) S | none => False)
    | _ => (match sget S x with
      | some xs => (match atI xs n with | some d => Q d S | none => False)
      | none => False))
  | _ => False
def cutD (xs : List D) (lo hi : Option Int) : List D := (xs.drop (HT.sIx xs.length 0 lo)).take (HT.sIx xs.length xs.length hi - HT.sIx xs.length 0 lo)
def slcS (x : D) (lo hi : Option Int) (S : Sto) (Q : DK) : Prop := match x with
  | .tup xs => Q (.tup (cutD xs lo hi)) S
  | .rol xs => ∀ c, S c = none → Q (.ref c) (put S c (.lst (cutD xs lo hi)))
  | .ref a => (match lget S a with
    | some xs => ∀ c, S c = none → Q (.ref c) (put S c (.lst (cutD xs lo hi)))
    | none => False)
  | _ => False
def biS (b : Bi) (ds : List D) (S : Sto) (Q : DK) : Prop := match b with
  | .len => (match ds with
    | [.str z] => z.length ≤ sizeLine ∧ Q (.int z.length) S
    | [x] => (match sget S x with | some xs => Q (.int xs.length) S | none => False)
    | _ => False)
  | .abs => (match ds with | [.int i] => Q (.int (if i < 0 then -i else i)) S | _ => False)
  | .int => (match ds with | [.int i] => Q (.int i) S | [.bl k] => Q (.int (if k then 1 else 0)) S | _ => False)
  | .min2 => (match ds with | [.int i, .int j] => Q (.int (if j < i then j else i)) S | _ => False)
  | .max2 => (match ds with | [.int i, .int j] => Q (.int (if j > i then j else i)) S | _ => False)
  | .tuple => (match ds with
    | [x] => (match sget S x with | some xs => Q (.tup xs) S | none => False)
    | _ => False)
  | .list => (match ds with
    | [x] => (match sget S x with | some xs => ∀ c, S c = none → Q (.ref c) (put S c (.lst xs)) | none => False)
    | _ => False)
  | .gcd => (match ds with | [.int i, .int j] => Q (.int ((Nat.gcd i.natAbs j.natAbs : Nat) : Int)) S | _ => False)
/-- is a value of this type -/
def isT (S : Sto) (x : D) : Ty → Option Bool
  | .int => (match x with | .int _ => some true | .bl _ => some true | .ref a => (lget S a).map fun _ => false | _ => some false)
  | .bool => (match x with | .bl _ => some true | .ref a => (lget S a).map fun _ => false | _ => some false)
  | .str => (match x with | .str _ => some true | .ref a => (lget S a).map fun _ => false | _ => some false)
  | .tuple => (match x with | .tup _ => some true | .ref a => (lget S a).map fun _ => false | _ => some false)
  | .list => (match x with | .rol _ => some true | .ref a => (lget S a).map fun _ => true | _ => some false)
  | .own _ => none
def isTs (S : Sto) (x : D) : List Ty → Option Bool
  | [] => some false
  | t :: r => match isT S x t with
    | some true => some true
    | some false => isTs S x r
    | none => none
/-- the receiver's kind, ahead of the arguments -/
def mthT (m : Me) (o : D) (S : Sto) : Prop := match o with
  | .ref a => ∃ xs, lget S a = some xs
  | _ => False
def mthS (m : Me) (o : D) (ds : List D) (S : Sto) (Q : DK) : Prop := match o with
  | .ref a => (match S a with
    | some (.lst xs) => (match m with
      | .append => (match ds with | [y] => xs.length < sizeLine ∧ Q .non (put S a (.lst (xs ++ [y]))) | _ => False)
      | .pop => (match ds with | [] => (match xs[xs.length - 1]? with | some y => Q y (put S a (.lst xs.dropLast)) | none => False) | _ => False)
      | .popat => (match ds with
        | [.int i] => -(2 ^ 63) ≤ i ∧ i < 2 ^ 63 ∧ (match seqIndex? i xs.length with
          | some k => (match xs[k]? with | some y => Q y (put S a (.lst (xs.eraseIdx k))) | none => False)
          | none => False)
        | _ => False)
      | .reverse => (match ds with | [] => Q .non (put S a (.lst xs.reverse)) | _ => False))
    | _ => False)
  | _ => False

/-! ### what is walked -/
inductive Itr where
  | tup (xs : List D)
  | rol (xs : List D)
  | lst (a : Addr)
  | rng (lo : Int) (n : Nat)
  | rngc (lo c : Int) (n : Nat)
  | enu (a : Addr)
  | zip (a b : Addr)
  | rev (a : Addr) (n : Nat)
def nxt (j : Itr) (i : Nat) (S : Sto) (stop : Prop) (go : D → Prop) : Prop := match j with
  | .tup xs => (match xs[i]? with | some d => go d | none => stop)
  | .rol xs => (match xs[i]? with | some d => go d | none => stop)
  | .lst a => (match lget S a with
    | some xs => (match xs[i]? with | some d => go d | none => stop)
    | none => False)
  | .rng lo n => if i < n then go (.int (lo + i)) else stop
  | .rngc lo c n => if i < n then go (.int (lo + (i : Nat) * c)) else stop
  | .enu a => (match lget S a with
    | some xs => (match xs[i]? with | some d => go (.tup [.int i, d]) | none => stop)
    | none => False)
  | .zip a b => (match lget S a, lget S b with
    | some xs, some ys => (match xs[i]? with
      | some d => (match ys[i]? with | some e => go (.tup [d, e]) | none => stop)
      | none => stop)
    | _, _ => False)
  | .rev a n => (match lget S a with
    | some xs => if i < n then (match xs[n - 1 - i]? with | some d => xs.length = n ∧ go d | none => False) else stop
    | none => False)

/-- the pairs of a walk over two tuples -/
def zipD (xs ys : List D) : List D := List.zipWith (fun a b => .tup [a, b]) xs ys

/-! ### targets -/
mutual
def asgS : IG → D → En → Sto → (En → Prop) → Prop
  | .nm i, d, σ, _, Q => Q (stn σ i d)
  | .tup gs, d, σ, S, Q => match sget S d with
    | some xs => asgsS gs xs σ S Q
    | none => False
def asgsS : IGs → List D → En → Sto → (En → Prop) → Prop
  | .nil, ds, σ, _, Q => (match ds with | [] => Q σ | _ => False)
  | .cons g r, ds, σ, S, Q => (match ds with
    | d :: t => asgS g d σ S fun σ1 => asgsS r t σ1 S Q
    | [] => False)
end

/-! ### expressions -/
/-- what the text's module has: defs, constants -/
structure Fn where
  ps : Nat
  sl : Nat
  body : ISs
structure Gl0 where
  cs : Str → Option D
  PY : Prop
  /-- is an exception of the class of that name one of the other class? -/
  sub : Str → Str → Option Bool := fun _ _ => none
section
variable (G : Gl0) (C : CallS)
mutual
def semE (X : XS) : IE → En → Sto → DK → Prop
  | .var i, σ, S, Q => (match gt σ i with | some d => Q d S | none => False)
  | .int i, _, S, Q => Q (.int i) S
  | .bl b, _, S, Q => Q (.bl b) S
  | .non, _, S, Q => Q .non S
  | .str x, _, S, Q => Q (.str x) S
  | .glo x, _, S, Q => (match G.cs x with | some d => Q d S | none => False)
  | .tup es, σ, S, Q => semEs X es σ S fun ds S1 => Q (.tup ds) S1
  | .lst es, σ, S, Q => semEs X es σ S fun ds S1 => ∀ a, S1 a = none → Q (.ref a) (put S1 a (.lst ds))
  | .bin op a b, σ, S, Q => semE X a σ S fun x S1 => semE X b σ S1 fun y S2 => binS G.PY op x y S2 Q
  | .neg a, σ, S, Q => semE X a σ S fun x S1 => (match x with | .int i => Q (.int (-i)) S1 | _ => False)
  | .cmp op a b, σ, S, Q => semE X a σ S fun x S1 => semE X b σ S1 fun y S2 => cmpS op x y S2 fun k => Q (.bl k) S2
  | .chn op op2 a b c, σ, S, Q => semE X a σ S fun x S1 => semE X b σ S1 fun y S2 => cmpS op x y S2 fun k =>
      if k = true then semE X c σ S2 fun z S3 => cmpS op2 y z S3 fun k2 => Q (.bl k2) S3 else Q (.bl false) S2
  | .and a b, σ, S, Q => semE X a σ S fun x S1 => truS x S1 fun k => if k = true then semE X b σ S1 Q else Q x S1
  | .or a b, σ, S, Q => semE X a σ S fun x S1 => truS x S1 fun k => if k = true then Q x S1 else semE X b σ S1 Q
  | .one a, σ, S, Q => semE X a σ S Q
  | .not a, σ, S, Q => semE X a σ S fun x S1 => truS x S1 fun k => Q (.bl (!k)) S1
  | .ifx c a b, σ, S, Q => semC X c σ S fun k S1 => if k = true then semE X a σ S1 Q else semE X b σ S1 Q
  | .idx a i, σ, S, Q => semE X a σ S fun x S1 => semE X i σ S1 fun y S2 => idxS x y S2 Q
  | .slc a lo hi, σ, S, Q => semE X a σ S fun x S1 => semO X lo σ S1 fun l S2 => semO X hi σ S2 fun u S3 => slcS x l u S3 Q
  | .call f es, σ, S, Q => semEs X es σ S fun ds S1 => C f ds S1 Q X
  | .bi b es, σ, S, Q => semEs X es σ S fun ds S1 => biS b ds S1 Q
  | .isi e ts, σ, S, Q => semE X e σ S fun x S1 => (match isTs S1 x ts with | some k => Q (.bl k) S1 | none => False)
  | .mth m o es, σ, S, Q => semE X o σ S fun x S1 => mthT m x S1 ∧ semEs X es σ S1 fun ds S2 => mthS m x ds S2 Q
  | .lc elt tg it ifs own, σ, S, Q => semI X it σ S fun J S1 => ∀ a, S1 a = none →
      ∃ W : Nat → Nat → Sto → Prop, (∃ m, W 0 m (put S1 a (.lst []))) ∧ ∀ i m S, W i m S →
        nxt J i S (Q (.ref a) S) fun d => asgS tg d (wips σ own) S fun σ2 =>
          semQ (fun _ _ => False) ifs σ2 S fun k S3 => if k = true
              then semE (fun _ _ => False) elt σ2 S3 fun y S4 => ∃ acc, S4 a = some (.lst acc) ∧ acc.length < sizeLine ∧ ∃ m', m' < m ∧ W (i + 1) m' (put S4 a (.lst (acc ++ [y])))
              else ∃ m', m' < m ∧ W (i + 1) m' S3
def semEs (X : XS) : IEs → En → Sto → (List D → Sto → Prop) → Prop
  | .nil, _, S, Q => Q [] S
  | .cons e r, σ, S, Q => semE X e σ S fun d S1 => semEs X r σ S1 fun ds S2 => Q (d :: ds) S2
def semO (X : XS) : IO → En → Sto → (Option Int → Sto → Prop) → Prop
  | .no, _, S, Q => Q none S
  | .some e, σ, S, Q => semE X e σ S fun x S1 => (match x with | .int i => Q (some i) S1 | _ => False)
def semQ (X : XS) : IQ → En → Sto → (Bool → Sto → Prop) → Prop
  | .no, _, S, Q => Q true S
  | .c c, σ, S, Q => semC X c σ S Q
def semC (X : XS) : IC → En → Sto → (Bool → Sto → Prop) → Prop
  | .and a b, σ, S, Q => semC X a σ S fun k S1 => if k = true then semC X b σ S1 Q else Q false S1
  | .or a b, σ, S, Q => semC X a σ S fun k S1 => if k = true then Q true S1 else semC X b σ S1 Q
  | .one a, σ, S, Q => semC X a σ S Q
  | .not a, σ, S, Q => semC X a σ S fun k S1 => Q (!k) S1
  | .cmp op a b, σ, S, Q => semE X a σ S fun x S1 => semE X b σ S1 fun y S2 => cmpS op x y S2 fun k => Q k S2
  | .chn op op2 a b c, σ, S, Q => semE X a σ S fun x S1 => semE X b σ S1 fun y S2 => cmpS op x y S2 fun k =>
      if k = true then semE X c σ S2 fun z S3 => cmpS op2 y z S3 fun k2 => Q k2 S3 else Q false S2
  | .v e, σ, S, Q => semE X e σ S fun x S1 => truS x S1 fun k => Q k S1
def semI (X : XS) : II → En → Sto → (Itr → Sto → Prop) → Prop
  | .seq e, σ, S, R => semE X e σ S fun x S1 => (match x with
      | .tup xs => R (.tup xs) S1
      | .rol xs => R (.rol xs) S1
      | .ref a => (match lget S1 a with | some _ => R (.lst a) S1 | none => False)
      | _ => False)
  | .rng1 a, σ, S, R => semE X a σ S fun x S1 => (match x with | .int j => -(2 ^ 62) ≤ j ∧ j < 2 ^ 62 ∧ R (.rng 0 j.toNat) S1 | _ => False)
  | .rng2 a b, σ, S, R => semE X a σ S fun x S1 => semE X b σ S1 fun y S2 => (match x, y with
      | .int i, .int j => (-(2 ^ 62) ≤ i ∧ i < 2 ^ 62 ∧ -(2 ^ 62) ≤ j ∧ j < 2 ^ 62) ∧ R (.rng i (j - i).toNat) S2
      | _, _ => False)
  | .rng3 a b c, σ, S, R => semE X a σ S fun x S1 => semE X b σ S1 fun y S2 => semE X c σ S2 fun z S3 => (match x, y, z with
      | .int i, .int j, .int k => ∃ n, RgC i j k n ∧ R (.rngc i k n) S3
      | _, _, _ => False)
  | .enu e, σ, S, R => semE X e σ S fun x S1 => (match x with
      | .ref a => (match lget S1 a with | some _ => R (.enu a) S1 | none => False)
      | _ => False)
  | .zip e e2, σ, S, R => semE X e σ S fun x S1 => semE X e2 σ S1 fun y S2 => (match x, y with
      | .ref a, .ref b => (match lget S2 a, lget S2 b with | some _, some _ => R (.zip a b) S2 | _, _ => False)
      | .tup xs, .tup ys => R (.tup (zipD xs ys)) S2
      | _, _ => False)
  | .rev e, σ, S, R => semE X e σ S fun x S1 => (match x with
      | .ref a => (match lget S1 a with | some xs => R (.rev a xs.length) S1 | none => False)
      | .tup xs => R (.tup xs.reverse) S1
      | _ => False)
end

/-! ### statements -/
structure Kt where
  nx : En → Sto → Prop
  rt : DK
  bk : En → Sto → Prop
  ct : En → Sto → Prop
  ex : Exn → En → Sto → Prop
mutual
def semS : IS → Kt → En → Sto → Prop
  | .set i e, k, σ, S => semE G C (fun x S => k.ex x σ S) e σ S fun d S1 => k.nx (stn σ i d) S1
  | .asg g e, k, σ, S => semE G C (fun x S => k.ex x σ S) e σ S fun d S1 => asgS g d σ S1 fun σ1 => k.nx σ1 S1
  | .par2 i j a b, k, σ, S => semE G C (fun x S => k.ex x σ S) a σ S fun x S1 => semE G C (fun x S => k.ex x σ S) b σ S1 fun y S2 => k.nx (stn (stn σ i x) j y) S2
  | .sub o i e, k, σ, S => semE G C (fun x S => k.ex x σ S) e σ S fun d S1 => semE G C (fun x S => k.ex x σ S) o σ S1 fun ov S2 => semE G C (fun x S => k.ex x σ S) i σ S2 fun iv S3 =>
      (match ov, iv with
      | .ref a, .int n => (match S3 a with
        | some (.lst xs) => (match ixN xs.length n with | some j => k.nx σ (put S3 a (.lst (xs.set j d))) | none => False)
        | _ => False)
      | _, _ => False)
  | .expr e, k, σ, S => semE G C (fun x S => k.ex x σ S) e σ S fun _ S1 => k.nx σ S1
  | .ret e, k, σ, S => semE G C (fun x S => k.ex x σ S) e σ S k.rt
  | .retN, k, _, S => k.rt .non S
  | .ifs c a b, k, σ, S => semC G C (fun x S => k.ex x σ S) c σ S fun h S1 => if h = true then semSs a k σ S1 else semSs b k σ S1
  | .whl c b, k, σ, S => ∃ W : Nat → En → Sto → Prop, (∃ m, W m σ S) ∧ ∀ m σ S, W m σ S →
      semC G C (fun x S => k.ex x σ S) c σ S fun h S1 => if h = true
        then semSs b { nx := fun σ' S' => ∃ m', m' < m ∧ W m' σ' S', rt := k.rt, bk := k.nx, ct := fun σ' S' => ∃ m', m' < m ∧ W m' σ' S', ex := k.ex } σ S1
        else k.nx σ S1
  | .for_ g it b, k, σ, S => semI G C (fun x S => k.ex x σ S) it σ S fun J S1 => ∃ W : Nat → Nat → En → Sto → Prop, (∃ m, W 0 m σ S1) ∧ ∀ i m σ S, W i m σ S →
      nxt J i S (k.nx σ S) fun d => asgS g d σ S fun σ2 =>
        semSs b { nx := fun σ' S' => ∃ m', m' < m ∧ W (i + 1) m' σ' S', rt := k.rt, bk := k.nx, ct := fun σ' S' => ∃ m', m' < m ∧ W (i + 1) m' σ' S', ex := k.ex } σ2 S
  | .brk, k, σ, S => k.bk σ S
  | .cnt, k, σ, S => k.ct σ S
  | .pass, k, σ, S => k.nx σ S
  | .raise x es, k, σ, S => semEs G C (fun x S => k.ex x σ S) es σ S fun ds S1 => ds.length ≤ sizeLine ∧ k.ex ⟨x, []⟩ σ S1
  | .tryx b x s, k, σ, S => semSs b { k with ex := fun e σ' S' => match G.sub e.cls x with
      | some true => semSs s { k with ex := fun _ _ _ => False } σ' S'
      | some false => k.ex e σ' S'
      | none => False } σ S
  | .never, _, _, _ => False
def semSs : ISs → Kt → En → Sto → Prop
  | .nil, k, σ, S => k.nx σ S
  | .cons s r, k, σ, S => semS s { k with nx := fun σ1 S1 => semSs r k σ1 S1 } σ S
end
end
def kend (Q : DK) (E : XS) : Kt := { nx := fun _ S => Q .non S, rt := Q, bk := fun _ _ => False, ct := fun _ _ => False, ex := fun x _ S => E x S }
def ent (n : Nat) (ds : List D) : En := ds.map some ++ List.replicate (n - ds.length) none
/-- a def called at depth k -/
def semF (G : Gl0) (T : Str → Option Fn) : Nat → CallS
  | 0 => fun _ _ _ _ _ => False
  | k + 1 => fun f ds S Q E => match T f with
    | some F => ds.length = F.ps ∧ semSs G (semF G T k) F.body (kend Q E) (ent F.sl ds) S
    | none => False
end Ev

/-! The evaluator's data on the layer's heap; the operations keep what they say. -/
namespace Ev
open PySem PySem.Spec PyProof.Rows L2

/-- a list that is never written -/
def SqF (K : PySem.W.Frag) (H : Hp) (a : Addr) (xs : List V) : Prop :=
  (∃ o, H a = some (.frz o (.lst xs))) ∨
    ∃ (o : Obj) (its : Array Value) (n : Nat), K.lookup a = some o ∧ o.cls = .type "list" ∧ o.dict = none ∧ o.data = .seq its n ∧ its.size ≤ sizeLine ∧ Vals xs its.toList
theorem SqF.l {K : PySem.W.Frag} {H : Hp} {a : Addr} {xs : List V} (h : SqF K H a xs) : SqL K H a xs := by
  rcases h with ⟨o, h⟩ | h
  · exact .inl (.inr ⟨o, h⟩)
  · exact .inr h
mutual
inductive Rv (K : PySem.W.Frag) (H : Hp) : D → V → Prop
  | non : Rv K H .non .non
  | bl (b : Bool) : Rv K H (.bl b) (.bl b)
  | int (i : Int) : Rv K H (.int i) (.int i)
  | str (x : Str) : Rv K H (.str x) (.str x)
  | ref (a : Addr) : Rv K H (.ref a) (.ref a)
  | tup {a : Addr} {xs : List V} {ds : List D} (h : SqT K H a xs) (t : Rvs K H ds xs) : Rv K H (.tup ds) (.ref a)
  | rol {a : Addr} {xs : List V} {ds : List D} (h : SqF K H a xs) (t : Rvs K H ds xs) : Rv K H (.rol ds) (.ref a)
inductive Rvs (K : PySem.W.Frag) (H : Hp) : List D → List V → Prop
  | nil : Rvs K H [] []
  | cons {d : D} {ds : List D} {v : V} {vs : List V} (h : Rv K H d v) (t : Rvs K H ds vs) : Rvs K H (d :: ds) (v :: vs)
end
def RO (K : PySem.W.Frag) (H : Hp) (a : Addr) : Ob → Prop
  | .lst ds => ∃ xs, H a = some (.lst xs) ∧ Rvs K H ds xs
def RS (K : PySem.W.Frag) (H : Hp) (S : Sto) : Prop := ∀ a o, S a = some o → RO K H a o
def Ro (K : PySem.W.Frag) (H : Hp) : Option D → Option V → Prop
  | none, _ => True
  | some d, some v => Rv K H d v
  | some _, none => False
inductive Rn (K : PySem.W.Frag) (H : Hp) : En → L2.St → Prop
  | nil : Rn K H [] []
  | cons {d : Option D} {ds : En} {v : Option V} {vs : L2.St} (h : Ro K H d v) (t : Rn K H ds vs) : Rn K H (d :: ds) (v :: vs)
/-- tuples stay, and what is known -/
structure Ext (H H' : Hp) : Prop where
  tup : ∀ a xs, H a = some (.tup xs) → H' a = some (.tup xs)
  frz : ∀ a o u, H a = some (.frz o u) → H' a = some (.frz o u)
section
variable {K : PySem.W.Frag} {H H1 H2 H' : Hp} {S : Sto} {a p : Addr}
theorem Ext.refl (H : Hp) : Ext H H := ⟨fun _ _ h => h, fun _ _ _ h => h⟩
theorem Ext.trans (x : Ext H H1) (y : Ext H1 H2) : Ext H H2 := ⟨fun a xs h => y.tup _ _ (x.tup _ _ h), fun a o u h => y.frz _ _ _ (x.frz _ _ _ h)⟩
theorem Ext.new {o : HO} (h : H p = none) : Ext H (upd H p o) := ⟨fun a xs e => by rw [upd_ne (ne_of_none e h)]; exact e, fun a o u e => by rw [upd_ne (ne_of_none e h)]; exact e⟩
theorem Ext.lst {xs : List V} {o : HO} (h : H p = some (.lst xs)) : Ext H (upd H p o) :=
  ⟨fun a ys e => by rw [upd_ne (ne_of e h (by intro z; cases z))]; exact e, fun a o u e => by rw [upd_ne (ne_of e h (by intro z; cases z))]; exact e⟩
theorem Ext.sqT {xs : List V} (x : Ext H H') (h : SqT K H a xs) : SqT K H' a xs := by
  rcases h with (h | ⟨o, h⟩) | h
  · exact .inl (.inl (x.tup _ _ h))
  · exact .inl (.inr ⟨o, x.frz _ _ _ h⟩)
  · exact .inr h
theorem Ext.sqF {xs : List V} (x : Ext H H') (h : SqF K H a xs) : SqF K H' a xs := by
  rcases h with ⟨o, h⟩ | h
  · exact .inl ⟨o, x.frz _ _ _ h⟩
  · exact .inr h
mutual
theorem Rv.ext (x : Ext H H') : ∀ {d : D} {v : V}, Rv K H d v → Rv K H' d v
  | _, _, .non => .non
  | _, _, .bl b => .bl b
  | _, _, .int i => .int i
  | _, _, .str y => .str y
  | _, _, .ref a => .ref a
  | _, _, .tup h t => .tup (x.sqT h) (Rvs.ext x t)
  | _, _, .rol h t => .rol (x.sqF h) (Rvs.ext x t)
theorem Rvs.ext (x : Ext H H') : ∀ {d : List D} {v : List V}, Rvs K H d v → Rvs K H' d v
  | _, _, .nil => .nil
  | _, _, .cons h t => .cons (Rv.ext x h) (Rvs.ext x t)
end
theorem Ro.ext (x : Ext H H') {d : Option D} {v : Option V} (h : Ro K H d v) : Ro K H' d v := by
  cases d with
  | none => trivial
  | some d =>
    cases v with
    | none => exact h
    | some v => exact Rv.ext x h
theorem Rn.ext (x : Ext H H') {σd : En} {σ : L2.St} (h : Rn K H σd σ) : Rn K H' σd σ := by
  induction h with
  | nil => exact .nil
  | cons h t ih => exact .cons (h.ext x) ih
theorem Rn.gt {σd : En} {σ : L2.St} (h : Rn K H σd σ) : ∀ {i : Nat} {d : D}, gt σd i = some d → ∃ v, σ[i]? = some (some v) ∧ Rv K H d v := by
  induction h with
  | nil => intro i d e; cases e
  | @cons d0 ds v0 vs h t ih =>
    intro i d e
    cases i with
    | zero =>
      have e' : d0 = some d := e
      subst e'
      cases v0 with
      | none => exact False.elim h
      | some v => exact ⟨v, rfl, h⟩
    | succ n =>
      obtain ⟨v, h1, h2⟩ := ih (i := n) (d := d) e
      exact ⟨v, by simpa using h1, h2⟩
theorem Rn.set {σd : En} {σ : L2.St} (h : Rn K H σd σ) {d : D} {v : V} (r : Rv K H d v) : ∀ i : Nat, Rn K H (stn σd i d) (σ.set i (some v)) := by
  induction h with
  | nil => intro i; exact .nil
  | cons h t ih =>
    intro i
    cases i with
    | zero => exact .cons r t
    | succ n => exact .cons h (ih n)
theorem Rn.wip {σd : En} {σ : L2.St} (h : Rn K H σd σ) : ∀ i : Nat, Rn K H (wip1 σd i) (σ.set i none) := by
  induction h with
  | nil => intro i; exact .nil
  | cons h t ih =>
    intro i
    cases i with
    | zero => exact .cons trivial t
    | succ n => exact .cons h (ih n)
theorem wip1_comm (σ : En) : ∀ i j : Nat, wip1 (wip1 σ i) j = wip1 (wip1 σ j) i := by
  induction σ with
  | nil => intro i j; rfl
  | cons x r ih =>
    intro i j
    cases i <;> cases j <;> first | rfl | (show _ :: _ = _ :: _; rw [ih])
theorem wips_out (l : List Nat) : ∀ (σ : En) (i : Nat), wips (wip1 σ i) l = wip1 (wips σ l) i := by
  induction l with
  | nil => intro σ i; rfl
  | cons j r ih =>
    intro σ i
    show wips (wip1 (wip1 σ i) j) r = wip1 (wips (wip1 σ j) r) i
    rw [wip1_comm, ih]
theorem Rn.wips {σd : En} {σ : L2.St} (h : Rn K H σd σ) : ∀ l : List Nat, Rn K H (Ev.wips σd l) (wipe σ l)
  | [] => h
  | i :: r => by
    show Rn K H (Ev.wips (wip1 σd i) r) ((wipe σ r).set i none)
    rw [wips_out]
    exact (Rn.wips h r).wip i
theorem Rvs.length {ds : List D} {vs : List V} (h : Rvs K H ds vs) : ds.length = vs.length := by
  induction ds generalizing vs with
  | nil => cases h; rfl
  | cons d r ih =>
    cases h with
    | cons h t => show r.length + 1 = _ + 1; rw [ih t]
theorem Rvs.get {ds : List D} : ∀ {vs : List V} {i : Nat} {d : D}, Rvs K H ds vs → ds[i]? = some d → ∃ v, vs[i]? = some v ∧ Rv K H d v := by
  induction ds with
  | nil => intro vs i d _ e; simp at e
  | cons x r ih =>
    intro vs i d h e
    cases h with
    | cons h t =>
      cases i with
      | zero => simp at e; subst e; exact ⟨_, rfl, h⟩
      | succ n =>
        obtain ⟨v, h1, h2⟩ := ih (i := n) t (by simpa using e)
        exact ⟨v, by simpa using h1, h2⟩
theorem Rvs.append {ds es : List D} : ∀ {vs ws : List V}, Rvs K H ds vs → Rvs K H es ws → Rvs K H (ds ++ es) (vs ++ ws) := by
  induction ds with
  | nil => intro vs ws h q; cases h; exact q
  | cons x r ih => intro vs ws h q; cases h with | cons h t => exact .cons h (ih t q)
theorem Rvs.take {ds : List D} : ∀ {vs : List V} (n : Nat), Rvs K H ds vs → Rvs K H (ds.take n) (vs.take n) := by
  induction ds with
  | nil => intro vs n h; cases h; cases n <;> exact .nil
  | cons x r ih => intro vs n h; cases h with | cons h t => cases n with | zero => exact .nil | succ n => exact .cons h (ih n t)
theorem Rvs.drop {ds : List D} : ∀ {vs : List V} (n : Nat), Rvs K H ds vs → Rvs K H (ds.drop n) (vs.drop n) := by
  induction ds with
  | nil => intro vs n h; cases h; cases n <;> exact .nil
  | cons x r ih => intro vs n h; cases h with | cons h t => cases n with | zero => exact .cons h t | succ n => exact ih n t
theorem Rvs.set {ds : List D} : ∀ {vs : List V} {d : D} {v : V} (n : Nat), Rvs K H ds vs → Rv K H d v → Rvs K H (ds.set n d) (vs.set n v) := by
  induction ds with
  | nil => intro vs d v n h _; cases h; exact .nil
  | cons x r ih => intro vs d v n h q; cases h with | cons h t => cases n with | zero => exact .cons q t | succ n => exact .cons h (ih n t q)
theorem Rvs.eraseIdx {ds : List D} : ∀ {vs : List V} (n : Nat), Rvs K H ds vs → Rvs K H (ds.eraseIdx n) (vs.eraseIdx n) := by
  induction ds with
  | nil => intro vs n h; cases h; exact .nil
  | cons x r ih => intro vs n h; cases h with | cons h t => cases n with | zero => exact t | succ n => exact .cons h (ih n t)
theorem Rvs.reverse {ds : List D} : ∀ {vs : List V}, Rvs K H ds vs → Rvs K H ds.reverse vs.reverse := by
  induction ds with
  | nil => intro vs h; cases h; exact .nil
  | cons x r ih =>
    intro vs h
    cases h with
    | cons h t =>
      rw [List.reverse_cons, List.reverse_cons]
      exact (ih t).append (.cons h .nil)
theorem Rvs.dropLast {ds : List D} {vs : List V} (h : Rvs K H ds vs) : Rvs K H ds.dropLast vs.dropLast := by
  rw [List.dropLast_eq_take, List.dropLast_eq_take, h.length]
  exact h.take _
theorem Rvs.nil_iff {ds : List D} {vs : List V} (h : Rvs K H ds vs) : ds.isEmpty = vs.isEmpty := by
  cases h <;> rfl

theorem RO.ext {o : Ob} (x : Ext H H') (hl : ∀ xs, H a = some (.lst xs) → H' a = some (.lst xs)) (h : RO K H a o) : RO K H' a o := by
  cases o with
  | lst ds =>
    obtain ⟨xs, h1, h2⟩ := h
    exact ⟨xs, hl _ h1, Rvs.ext x h2⟩
theorem RS.none (r : RS K H S) (h : H p = Option.none) : S p = Option.none := by
  cases e : S p with
  | none => rfl
  | some o =>
    cases o with
    | lst ds =>
      obtain ⟨ys, h1, _⟩ := r p _ e
      rw [h] at h1; cases h1
/-- any new object -/
theorem RS.new {o : HO} (r : RS K H S) (h : H p = Option.none) : RS K (upd H p o) S := fun a ob e =>
  (r a ob e).ext (Ext.new h) fun xs q => by rw [upd_ne (ne_of_none q h)]; exact q
/-- a new list -/
theorem RS.newL {xs : List V} {ds : List D} (r : RS K H S) (h : H p = Option.none) (q : Rvs K H ds xs) : RS K (upd H p (.lst xs)) (put S p (.lst ds)) := fun a ob e => by
  by_cases ha : a = p
  · subst ha
    rw [put_same] at e; cases e
    exact ⟨xs, upd_same, Rvs.ext (Ext.new h) q⟩
  · rw [put_ne ha] at e
    exact r.new h a ob e
/-- a list is written -/
theorem RS.write {xs ys : List V} {ds es : List D} (r : RS K H S) (h : H p = some (.lst ys)) (hs : S p = some (.lst es)) (q : Rvs K H ds xs) : RS K (upd H p (.lst xs)) (put S p (.lst ds)) := fun a ob e => by
  by_cases ha : a = p
  · subst ha
    rw [put_same] at e; cases e
    exact ⟨xs, upd_same, Rvs.ext (Ext.lst h) q⟩
  · rw [put_ne ha] at e
    exact (r a ob e).ext (Ext.lst h) fun xs q => by rw [upd_ne ha]; exact q
theorem RS.lget (r : RS K H S) {xs : List D} (h : lget S a = some xs) : ∃ vs, SqL K H a vs ∧ Rvs K H xs vs := by
  unfold Ev.lget at h
  cases e : S a with
  | none => rw [e] at h; cases h
  | some o =>
    rw [e] at h
    cases o with
    | lst ds =>
      cases h
      obtain ⟨vs, h1, h2⟩ := r a _ e
      exact ⟨vs, .of h1, h2⟩
theorem RS.sget (r : RS K H S) {x : D} {v : V} {xs : List D} (rv : Rv K H x v) (h : sget S x = some xs) : ∃ a vs, v = .ref a ∧ (SqL K H a vs ∨ SqT K H a vs) ∧ Rvs K H xs vs := by
  cases rv with
  | ref a =>
    obtain ⟨vs, h1, h2⟩ := r.lget h
    exact ⟨a, vs, rfl, .inl h1, h2⟩
  | tup h1 h2 =>
    cases h
    exact ⟨_, _, rfl, .inr h1, h2⟩
  | rol h1 h2 =>
    cases h
    exact ⟨_, _, rfl, .inl h1.l, h2⟩
  | _ => cases h
end

/-! ### the wish about exceptions -/
def RX (K : PySem.W.Frag) (mg : Str → Option Value) (H : Hp) (x : Exn) (c : Value) (d : Option Addr) : Prop :=
  mg x.cls = some c ∧ match d with
    | none => x.fs = []
    | some p => ∃ fv, H p = some (.xd fv) ∧ Paired (fun (a : Str × D) (b : Str × V) => a.1 = b.1 ∧ Rv K H a.2 b.2) x.fs fv
def XP (X : Cx) (W : WX) (E : XS) (σ : L2.St) (H : Hp) : Prop := ∀ c d H' x S', Ext H H' → RX X.K X.mg H' x c d → RS X.K H' S' → E x S' → W c d σ H'
theorem XP.ext {X : Cx} {W : WX} {E : XS} {σ : L2.St} {H H' : Hp} (x : Ext H H') (h : XP X W E σ H) : XP X W E σ H' := fun c d H2 y S' e => h c d H2 y S' (x.trans e)

/-! ### lifted transformers -/
abbrev FE := XS → En → Sto → DK → Prop
def LE (X : Cx) (W : WX) (f : FE) : TE := fun σ H Q => ∃ (σd : En) (S : Sto) (Qd : DK) (E : XS), Rn X.K H σd σ ∧ RS X.K H S ∧ f E σd S Qd ∧
  (∀ v H' d S', Ext H H' → Rv X.K H' d v → RS X.K H' S' → Qd d S' → Q v H') ∧ XP X W E σ H
def LT (X : Cx) (W : WX) (f : XS → En → Sto → (Bool → Sto → Prop) → Prop) : TT := fun σ H Q => ∃ (σd : En) (S : Sto) (Qd : Bool → Sto → Prop) (E : XS), Rn X.K H σd σ ∧ RS X.K H S ∧ f E σd S Qd ∧
  (∀ b H' S', Ext H H' → RS X.K H' S' → Qd b S' → Q b H') ∧ XP X W E σ H
def LA (X : Cx) (W : WX) (n : Nat) (f : XS → En → Sto → (List D → Sto → Prop) → Prop) : TA := fun σ H Q => ∃ (σd : En) (S : Sto) (Qd : List D → Sto → Prop) (E : XS), Rn X.K H σd σ ∧ RS X.K H S ∧ f E σd S Qd ∧
  (∀ vs H' ds S', Ext H H' → vs.length = n → Rvs X.K H' ds vs → RS X.K H' S' → Qd ds S' → Q vs H') ∧ XP X W E σ H
def LO (X : Cx) (W : WX) (f : XS → En → Sto → (Option Int → Sto → Prop) → Prop) : TO := fun σ H Q => ∃ (σd : En) (S : Sto) (Qd : Option Int → Sto → Prop) (E : XS), Rn X.K H σd σ ∧ RS X.K H S ∧ f E σd S Qd ∧
  (∀ o H' S', Ext H H' → RS X.K H' S' → Qd o S' → Q o H') ∧ XP X W E σ H
/-- weaker readings -/
theorem _root_.L2.PE.imp {X : Cx} {e : Expr} {t t' : TE} (h : PE X e t) (i : ∀ σ H Q, t' σ H Q → t σ H Q) : PE X e t' := ⟨fun pins s σ H Q I q => h.run pins s σ H Q I (i _ _ _ q)⟩
theorem _root_.L2.PT.imp {X : Cx} {e : Expr} {t t' : TT} (h : PT X e t) (i : ∀ σ H Q, t' σ H Q → t σ H Q) : PT X e t' := ⟨fun pins s σ H Q I q => h.run pins s σ H Q I (i _ _ _ q)⟩
theorem _root_.L2.PW.imp {X : Cx} {e : Expr} {t t' : TT} (h : PW X e t) (i : ∀ σ H Q, t' σ H Q → t σ H Q) : PW X e t' := ⟨fun wh pins s σ H Q I q => h.run wh pins s σ H Q I (i _ _ _ q)⟩
theorem _root_.L2.PA.imp {X : Cx} {e : List Expr} {t t' : TA} (h : PA X e t) (i : ∀ σ H Q, t' σ H Q → t σ H Q) : PA X e t' := ⟨fun pos pins s σ H Q I q => h.run pos pins s σ H Q I (i _ _ _ q)⟩
theorem _root_.L2.PO.imp {X : Cx} {e : Option Expr} {t t' : TO} (h : PO X e t) (i : ∀ σ H Q, t' σ H Q → t σ H Q) : PO X e t' := ⟨fun pins s σ H Q I q => h.run pins s σ H Q I (i _ _ _ q)⟩
theorem _root_.L2.PS.imp {X : Cx} {e : Stmt} {t t' : TS} (h : PS X e t) (i : ∀ D σ H, t' D σ H → t D σ H) : PS X e t' := ⟨fun pins s σ H D I q => h.run pins s σ H D I (i _ _ _ q)⟩
theorem _root_.L2.PSs.imp {X : Cx} {e : List Stmt} {t t' : TS} (h : PSs X e t) (i : ∀ D σ H, t' D σ H → t D σ H) : PSs X e t' := ⟨fun pins s σ H D I q => h.run pins s σ H D I (i _ _ _ q)⟩

/-! ### operations -/
section
variable {K : PySem.W.Frag} {H : Hp} {S : Sto}
theorem tru_rel (r : RS K H S) {x : D} {v : V} (rv : Rv K H x v) {Q : Bool → Prop} (h : truS x S Q) : ∃ k, TruV K v H k ∧ Q k := by
  cases rv with
  | non => exact ⟨false, rfl, h⟩
  | bl b => exact ⟨b, rfl, h⟩
  | int i => exact ⟨_, rfl, h⟩
  | str y => exact ⟨_, ⟨h.1, rfl⟩, h.2⟩
  | tup h1 h2 =>
    have h : Q _ := h
    rw [h2.nil_iff] at h
    exact ⟨_, .inr (.inl ⟨_, h1, rfl⟩), h⟩
  | rol h1 h2 =>
    have h : Q _ := h
    rw [h2.nil_iff] at h
    exact ⟨_, .inl ⟨_, h1.l, rfl⟩, h⟩
  | ref a =>
    have h : (match lget S a with | some xs => Q (!xs.isEmpty) | none => False) := h
    split at h
    · rename_i xs e
      obtain ⟨vs, h1, h2⟩ := r.lget e
      rw [h2.nil_iff] at h
      exact ⟨_, .inl ⟨vs, h1, rfl⟩, h⟩
    · exact h.elim
mutual
theorem pd_rel (r : RS K H S) : ∀ {x : D} {v : V} {p : PyData}, Pd S x p → Rv K H x v → Dp K H v p
  | _, _, _, .non, rv => by cases rv; exact .non
  | _, _, _, .bl b, rv => by cases rv; exact .bl b
  | _, _, _, .int b, rv => by cases rv; exact .int b
  | _, _, _, .str b, rv => by cases rv; exact .str b
  | _, _, _, .tup h, rv => by cases rv with | tup h1 h2 => exact .tup h1 (pds_rel r h h2)
  | _, _, _, .rol h, rv => by cases rv with | rol h1 h2 => exact .lst h1.l (pds_rel r h h2)
  | _, _, _, .ref l h, rv => by
    cases rv with
    | ref a =>
      obtain ⟨vs, h1, h2⟩ := r.lget l
      exact .lst h1 (pds_rel r h h2)
theorem pds_rel (r : RS K H S) : ∀ {x : List D} {v : List V} {p : List PyData}, Pds S x p → Rvs K H x v → DpAll K H v p
  | _, _, _, .nil, rv => by cases rv; exact .nil
  | _, _, _, .cons h t, rv => by cases rv with | cons h1 h2 => exact .cons (pd_rel r h h1) (pds_rel r t h2)
end
end

section
variable {X : Cx} {pins : List (Addr × Obj)} {σ : L2.St} {H : Hp} {s : Shared} {S : Sto} {v w : V} {vv ww : Value} {x y : D}
/-- a comparison by values -/
def CmpOk (X : Cx) (op : CmpOp) : Prop := ∀ (pins : List (Addr × Obj)) (s : Shared) (σ : L2.St) (H : Hp) (S : Sto) (x y : D) (v w : V) (vv ww : Value) (Qd : Bool → Prop) (Q : VK),
  Inv X pins σ H s → RS X.K H S → Rv X.K H x v → Rv X.K H y w → RelV v vv → RelV w ww → cmpS op x y S Qd → (∀ k, Qd k → Q (.bl k) H) → wpAny (model X.prog X.w) X.A (compareOp op vv ww) (EP X pins σ Q) X.xe s
theorem eqG_ok (hu : X.A.units + 64 < cLine) (neg : Bool) {Qd : Bool → Prop} {Q : VK} (I : Inv X pins σ H s) (r : RS X.K H S) (rx : Rv X.K H x v) (ry : Rv X.K H y w) (rv : RelV v vv) (rw_ : RelV w ww)
    (h : eqG x y S Qd) (q : ∀ k, Qd k → Q (.bl (if neg then !k else k)) H) : wpAny (model X.prog X.w) X.A (compareOp (if neg then .NotEq else .Eq) vv ww) (EP X pins σ Q) X.xe s := by
  obtain ⟨d, e, hd, he, sd, se, hq⟩ := h
  cases neg with
  | false => exact op_eqD hu pins s σ H v w vv ww Q I rv rw_ ⟨d, e, pd_rel r hd rx, pd_rel r he ry, sd, se, q _ hq⟩
  | true => exact op_neD hu pins s σ H v w vv ww Q I rv rw_ ⟨d, e, pd_rel r hd rx, pd_rel r he ry, sd, se, q _ hq⟩
theorem cmp_eq (hu : X.A.units + 64 < cLine) : CmpOk X .Eq := by
  intro pins s σ H S x y v w vv ww Qd Q I r rx ry rv rw_ h q
  have gen : eqG x y S Qd → wpAny (model X.prog X.w) X.A (compareOp .Eq vv ww) (EP X pins σ Q) X.xe s := fun g => eqG_ok hu false I r rx ry rv rw_ g q
  have h : eqS x y S Qd := h
  cases x with
  | int i =>
    cases y with
    | int j =>
      cases rx; cases ry
      exact op_eq pins s σ H _ _ vv ww Q I rv rw_ ⟨rfl, by rw [dec_int, Bool.beq_eq_decide_eq]; exact q _ h⟩
    | _ => exact gen h
  | str i =>
    cases y with
    | str j =>
      cases rx; cases ry
      exact op_eq pins s σ H _ _ vv ww Q I rv rw_ ⟨rfl, by rw [dec_str, Bool.beq_eq_decide_eq]; exact q _ h⟩
    | _ => exact gen h
  | _ => exact gen h
theorem cmp_ne (hu : X.A.units + 64 < cLine) : CmpOk X .NotEq := by
  intro pins s σ H S x y v w vv ww Qd Q I r rx ry rv rw_ h q
  have gen : eqG x y S (fun k => Qd (!k)) → wpAny (model X.prog X.w) X.A (compareOp .NotEq vv ww) (EP X pins σ Q) X.xe s := fun g => eqG_ok hu true I r rx ry rv rw_ g fun k hk => q _ hk
  have h : eqS x y S (fun k => Qd (!k)) := h
  cases x with
  | int i =>
    cases y with
    | int j =>
      cases rx; cases ry
      exact op_ne pins s σ H _ _ vv ww Q I rv rw_ ⟨rfl, by rw [dec_int, Bool.beq_eq_decide_eq]; exact q _ h⟩
    | _ => exact gen h
  | str i =>
    cases y with
    | str j =>
      cases rx; cases ry
      exact op_ne pins s σ H _ _ vv ww Q I rv rw_ ⟨rfl, by rw [dec_str, Bool.beq_eq_decide_eq]; exact q _ h⟩
    | _ => exact gen h
  | _ => exact gen h
theorem fl_rel {K : PySem.W.Frag} {H : Hp} {d : D} {v : V} (r : Rv K H d v) (h : flD d = true) : v = toV d ∧ flatV v = true := by
  cases r <;> first | exact ⟨rfl, rfl⟩ | cases h
theorem fls_rel {K : PySem.W.Frag} {H : Hp} : ∀ {ds : List D} {vs : List V}, Rvs K H ds vs → ds.all flD = true → vs = ds.map toV ∧ vs.all flatV = true
  | _, _, .nil, _ => ⟨rfl, rfl⟩
  | d :: ds, v :: vs, .cons r t, h => by
    rw [List.all_cons, Bool.and_eq_true] at h
    obtain ⟨e1, f1⟩ := fl_rel r h.1
    obtain ⟨e2, f2⟩ := fls_rel t h.2
    refine ⟨by rw [e1, e2, List.map_cons], ?_⟩
    rw [List.all_cons, f1, f2]
    rfl
theorem inL_rel {x : D} {xs : List D} : inV (toV x) (xs.map toV) = inL x xs := by
  unfold inV inL
  rw [List.any_map]
  rfl
theorem in_rel {K : PySem.W.Frag} {H : Hp} {S : Sto} {x y : D} {v w : V} {Q : Bool → Prop} (r : RS K H S) (rx : Rv K H x v) (ry : Rv K H y w) (h : inS x y S Q) :
    (∃ i j, x = .str i ∧ y = .str j ∧ Q (!(Builtin.Str.occurrences j i 0 j.length 1).isEmpty)) ∨ ∃ p xs ds, w = .ref p ∧ (SqL K H p xs ∨ SqT K H p xs) ∧ flatV v = true ∧ xs.all flatV = true ∧ inV v xs = inL x ds ∧ Q (inL x ds) := by
  have seq : ∀ ds, sget S y = some ds → flD x = true → ds.all flD = true → Q (inL x ds) → ∃ p xs ds, w = .ref p ∧ (SqL K H p xs ∨ SqT K H p xs) ∧ flatV v = true ∧ xs.all flatV = true ∧ inV v xs = inL x ds ∧ Q (inL x ds) := by
    intro ds e h1 h2 h3
    obtain ⟨e1, f1⟩ := fl_rel rx h1
    obtain ⟨p, xs, ew, hq, rv⟩ := r.sget ry e
    obtain ⟨e2, f2⟩ := fls_rel rv h2
    exact ⟨p, xs, ds, ew, hq, f1, f2, by rw [e1, e2, inL_rel], h3⟩
  unfold inS at h
  split at h
  · split at h
    · exact .inl ⟨_, _, rfl, rfl, h⟩
    · exact h.elim
  · split at h
    · rename_i e
      exact .inr (seq _ e h.1 h.2.1 h.2.2)
    · exact h.elim
theorem cmp_ok (hu : X.A.units + 64 < cLine) : ∀ op, CmpOk X op
  | .Eq => cmp_eq hu
  | .NotEq => cmp_ne hu
  | .Lt => by
    intro pins s σ H S x y v w vv ww Qd Q I r rx ry rv rw_ h q
    simp only [cmpS] at h
    split at h
    · cases rx; cases ry
      exact op_lt pins s σ H _ _ vv ww Q I rv rw_ ⟨_, _, rfl, rfl, q _ h⟩
    · exact h.elim
  | .LtE => by
    intro pins s σ H S x y v w vv ww Qd Q I r rx ry rv rw_ h q
    simp only [cmpS] at h
    split at h
    · cases rx; cases ry
      exact op_le pins s σ H _ _ vv ww Q I rv rw_ ⟨_, _, rfl, rfl, q _ h⟩
    · exact h.elim
  | .Gt => by
    intro pins s σ H S x y v w vv ww Qd Q I r rx ry rv rw_ h q
    simp only [cmpS] at h
    split at h
    · cases rx; cases ry
      exact op_gt pins s σ H _ _ vv ww Q I rv rw_ ⟨_, _, rfl, rfl, q _ h⟩
    · exact h.elim
  | .GtE => by
    intro pins s σ H S x y v w vv ww Qd Q I r rx ry rv rw_ h q
    simp only [cmpS] at h
    split at h
    · cases rx; cases ry
      exact op_ge pins s σ H _ _ vv ww Q I rv rw_ ⟨_, _, rfl, rfl, q _ h⟩
    · exact h.elim
  | .Is => by
    intro pins s σ H S x y v w vv ww Qd Q I r rx ry rv rw_ h q
    cases y with
    | non =>
      cases ry
      refine op_isN pins s σ H _ _ vv ww Q I rv rw_ ⟨rfl, ?_⟩
      cases rx <;> exact q _ h
    | bl b =>
      cases ry
      simp only [cmpS] at h
      split at h
      · cases rx
        exact op_isBl pins s σ H _ _ vv ww Q I rv rw_ ⟨_, _, rfl, rfl, q _ h⟩
      · exact h.elim
    | _ => exact False.elim h
  | .IsNot => by
    intro pins s σ H S x y v w vv ww Qd Q I r rx ry rv rw_ h q
    cases y with
    | non =>
      cases ry
      refine op_notN pins s σ H _ _ vv ww Q I rv rw_ ⟨rfl, ?_⟩
      cases rx <;> exact q _ h
    | bl b =>
      cases ry
      simp only [cmpS] at h
      split at h
      · cases rx
        exact op_notBl pins s σ H _ _ vv ww Q I rv rw_ ⟨_, _, rfl, rfl, q _ h⟩
      · exact h.elim
    | _ => exact False.elim h
  | .In => by
    intro pins s σ H S x y v w vv ww Qd Q I r rx ry rv rw_ h q
    have h : inS x y S Qd := h
    rcases in_rel r rx ry h with ⟨i, j, rfl, rfl, h⟩ | ⟨p, xs, ds, ew, hq, f1, f2, e, h⟩
    · cases rx; cases ry
      exact op_in_str pins s σ H _ _ vv ww Q I rv rw_ ⟨_, _, rfl, rfl, q _ h⟩
    · exact op_in_seq pins s σ H _ _ vv ww Q I rv rw_ ⟨p, xs, ew, hq, f1, f2, by rw [e]; exact q _ h⟩
  | .NotIn => by
    intro pins s σ H S x y v w vv ww Qd Q I r rx ry rv rw_ h q
    have h : inS x y S (fun k => Qd (!k)) := h
    rcases in_rel r rx ry h with ⟨i, j, rfl, rfl, h⟩ | ⟨p, xs, ds, ew, hq, f1, f2, e, h⟩
    · cases rx; cases ry
      exact op_notin_str pins s σ H _ _ vv ww Q I rv rw_ ⟨_, _, rfl, rfl, q _ h⟩
    · exact op_notIn_seq pins s σ H _ _ vv ww Q I rv rw_ ⟨p, xs, ew, hq, f1, f2, by rw [e]; exact q _ h⟩
end
end Ev

/-! The operations of the evaluator are the machine's. -/
namespace Ev
open PySem PySem.Spec PyProof.Rows L2
/-- what is wanted of a value -/
def Post (K : PySem.W.Frag) (H : Hp) (Qd : DK) (Q : VK) : Prop := ∀ v H' d S', Ext H H' → Rv K H' d v → RS K H' S' → Qd d S' → Q v H'
theorem Post.now {K : PySem.W.Frag} {H : Hp} {Qd : DK} {Q : VK} {S : Sto} {d : D} {v : V} (p : Post K H Qd Q) (r : RS K H S) (rv : Rv K H d v) (h : Qd d S) : Q v H := p v H d S (Ext.refl H) rv r h
/-- a fresh tuple -/
theorem Post.tup {K : PySem.W.Frag} {H : Hp} {Qd : DK} {Q : VK} {S : Sto} {ds : List D} {xs : List V} (p : Post K H Qd Q) (r : RS K H S) (q : Rvs K H ds xs) (h : Qd (.tup ds) S) : ∀ a, H a = none → Q (.ref a) (upd H a (.tup xs)) := fun a na =>
  p _ _ (.tup ds) S (Ext.new na) (.tup (.of upd_same) (Rvs.ext (Ext.new na) q)) (r.new na) h
/-- a fresh list -/
theorem Post.lst {K : PySem.W.Frag} {H : Hp} {Qd : DK} {Q : VK} {S : Sto} {ds : List D} {xs : List V} (p : Post K H Qd Q) (r : RS K H S) (q : Rvs K H ds xs) (h : ∀ c, S c = none → Qd (.ref c) (put S c (.lst ds))) : ∀ a, H a = none → Q (.ref a) (upd H a (.lst xs)) := fun a na =>
  p _ _ (.ref a) (put S a (.lst ds)) (Ext.new na) (.ref a) (r.newL na q) (h a (r.none na))
theorem cut_rel {K : PySem.W.Frag} {H : Hp} {ds : List D} {xs : List V} (h : Rvs K H ds xs) (lo hi : Option Int) : Rvs K H (cutD ds lo hi) (cutV xs lo hi) := by
  unfold cutD cutV
  rw [h.length]
  exact (h.drop _).take _
theorem cut_all {xs : List V} {lo hi : Option Int} (h : HT.sIx xs.length 0 lo = 0 ∧ HT.sIx xs.length xs.length hi = xs.length) : cutV xs lo hi = xs := by
  unfold cutV
  rw [h.1, h.2]
  show List.take (xs.length - 0) (xs.drop 0) = xs
  rw [List.drop_zero, Nat.sub_zero, List.take_length]
section
variable {X : Cx}

/-! ### operators -/
def RB (K : PySem.W.Frag) (PY : Prop) (op : Operator) : R2 := fun v w H Q => ∃ x y S Qd, RS K H S ∧ Rv K H x v ∧ Rv K H y w ∧ binS PY op x y S Qd ∧ Post K H Qd Q
theorem bin_ok {PY : Prop} (py : PY → ∀ pins σ H s, Inv X pins σ H s → PylongRoom (model X.prog X.w) X.A s) : ∀ op, OpR X (binaryOp op) (RB X.K PY op)
  | .Add => by
    intro pins s σ H v w vv ww Q I rv rw_ h
    obtain ⟨x, y, S, Qd, rs, rx, ry, h, p⟩ := h
    simp only [binS] at h
    split at h
    · cases rx; cases ry
      exact op_add pins s σ H _ _ vv ww Q I rv rw_ ⟨_, _, rfl, rfl, p.now rs (.int _) h⟩
    · cases rx with
      | tup h1 q1 =>
        cases ry with
        | tup h2 q2 =>
          obtain ⟨hz, h⟩ := h
          refine op_catA pins s σ H _ _ vv ww Q I rv rw_ ⟨_, _, _, _, rfl, rfl, h1, h2, by rw [← q1.length, ← q2.length]; exact hz, fun e => ?_, fun _ e => ?_, fun _ _ => p.tup rs (q1.append q2) h⟩
          · subst e
            cases q1
            exact p.now rs (.tup h2 q2) h
          · subst e
            cases q2
            rw [List.append_nil] at h
            exact p.now rs (.tup h1 q1) h
    · cases rx; cases ry
      exact op_add_str pins s σ H _ _ vv ww Q I rv rw_ ⟨_, _, rfl, rfl, h.1, p.now rs (.str _) h.2⟩
    · cases rx; cases ry
      split at h
      · rename_i e1 e2
        obtain ⟨us, u1, u2⟩ := rs _ _ e1
        obtain ⟨ws, w1, w2⟩ := rs _ _ e2
        exact op_cat pins s σ H _ _ vv ww Q I rv rw_ ⟨_, _, _, _, rfl, rfl, u1, w1, by rw [← u2.length, ← w2.length]; exact h.1, p.lst rs (u2.append w2) h.2⟩
      · exact h.elim
    · exact h.elim
  | .Sub => by
    intro pins s σ H v w vv ww Q I rv rw_ h
    obtain ⟨x, y, S, Qd, rs, rx, ry, h, p⟩ := h
    simp only [binS] at h
    split at h
    · cases rx; cases ry
      exact op_sub pins s σ H _ _ vv ww Q I rv rw_ ⟨_, _, rfl, rfl, p.now rs (.int _) h⟩
    · exact h.elim
  | .Mult => by
    intro pins s σ H v w vv ww Q I rv rw_ h
    obtain ⟨x, y, S, Qd, rs, rx, ry, h, p⟩ := h
    simp only [binS] at h
    split at h
    · cases rx; cases ry
      obtain ⟨t, rfl⟩ := rv
      obtain ⟨u, rfl⟩ := rw_
      exact mul_int ⟨.int _, H, I.tok _, ⟨_, rfl⟩, p.now rs (.int _) h.2⟩ h.1
    · exact h.elim
  | .FloorDiv => by
    intro pins s σ H v w vv ww Q I rv rw_ h
    obtain ⟨x, y, S, Qd, rs, rx, ry, h, p⟩ := h
    simp only [binS] at h
    split at h
    · cases rx; cases ry
      obtain ⟨t, rfl⟩ := rv
      obtain ⟨u, rfl⟩ := rw_
      obtain ⟨⟨h0, hp⟩, h⟩ := h
      exact floordiv_int h0 ⟨.int _, H, I.tok _, ⟨_, rfl⟩, p.now rs (.int _) h⟩ (hp.imp id fun z => py z pins σ H s I)
    · exact h.elim
  | .Mod => by
    intro pins s σ H v w vv ww Q I rv rw_ h
    obtain ⟨x, y, S, Qd, rs, rx, ry, h, p⟩ := h
    simp only [binS] at h
    split at h
    · cases rx; cases ry
      exact op_modN pins s σ H _ _ vv ww Q I rv rw_ ⟨_, _, rfl, rfl, h.1, p.now rs (.int _) h.2⟩
    · exact h.elim
  | .Pow => by
    intro pins s σ H v w vv ww Q I rv rw_ h
    obtain ⟨x, y, S, Qd, rs, rx, ry, h, p⟩ := h
    simp only [binS] at h
    split at h
    · cases rx; cases ry
      exact op_pow pins s σ H _ _ vv ww Q I rv rw_ ⟨_, _, rfl, rfl, h.1, p.now rs (.int _) h.2⟩
    · exact h.elim
  | .MatMult => fun _ _ _ _ _ _ _ _ _ _ _ _ ⟨_, _, _, _, _, _, _, h, _⟩ => h.elim
  | .Div => fun _ _ _ _ _ _ _ _ _ _ _ _ ⟨_, _, _, _, _, _, _, h, _⟩ => h.elim
  | .LShift => fun _ _ _ _ _ _ _ _ _ _ _ _ ⟨_, _, _, _, _, _, _, h, _⟩ => h.elim
  | .RShift => fun _ _ _ _ _ _ _ _ _ _ _ _ ⟨_, _, _, _, _, _, _, h, _⟩ => h.elim
  | .BitOr => fun _ _ _ _ _ _ _ _ _ _ _ _ ⟨_, _, _, _, _, _, _, h, _⟩ => h.elim
  | .BitXor => fun _ _ _ _ _ _ _ _ _ _ _ _ ⟨_, _, _, _, _, _, _, h, _⟩ => h.elim
  | .BitAnd => fun _ _ _ _ _ _ _ _ _ _ _ _ ⟨_, _, _, _, _, _, _, h, _⟩ => h.elim
/-- a comparison -/
def RC (K : PySem.W.Frag) (op : CmpOp) : R2 := fun v w H Q => ∃ x y S Qd, RS K H S ∧ Rv K H x v ∧ Rv K H y w ∧ cmpS op x y S Qd ∧ ∀ k, Qd k → Q (.bl k) H
theorem cmpR_ok (hu : X.A.units + 64 < cLine) (op : CmpOp) : OpR X (compareOp op) (RC X.K op) := by
  intro pins s σ H v w vv ww Q I rv rw_ h
  obtain ⟨x, y, S, Qd, rs, rx, ry, h, p⟩ := h
  exact cmp_ok hu op pins s σ H S x y v w vv ww Qd Q I rs rx ry rv rw_ h p

/-! ### items, slices -/
theorem atI_rel {K : PySem.W.Frag} {H : Hp} {ds : List D} {xs : List V} (r : Rvs K H ds xs) {n : Int} {d : D} (h : atI ds n = some d) : ∃ v, atI xs n = some v ∧ Rv K H d v := by
  unfold atI at h ⊢
  rw [r.length] at h
  cases e : ixN xs.length n with
  | none => rw [e] at h; cases h
  | some j =>
    rw [e] at h
    exact r.get h
def RI (K : PySem.W.Frag) : R2 := fun v w H Q => ∃ x y S Qd, RS K H S ∧ Rv K H x v ∧ Rv K H y w ∧ idxS x y S Qd ∧ Post K H Qd Q
theorem idx_ok : IxR X (RI X.K) := by
  intro value slice pins s σ H v w vv ww Q I rv rw_ h hs
  obtain ⟨x, y, S, Qd, rs, rx, ry, h, p⟩ := h
  refine ix_seq value slice pins s σ H v w vv ww Q I rv rw_ ?_ hs
  unfold idxS at h
  split at h
  · cases ry
    split at h
    · obtain ⟨hz, h⟩ := h
      split at h
      · rename_i e
        cases rx
        exact .inr (.inr ⟨_, _, _, rfl, rfl, hz, e, p.now rs (.str _) h⟩)
      · exact h.elim
    · split at h
      · rename_i e
        split at h
        · rename_i e2
          obtain ⟨a, vs, rfl, hq, q⟩ := rs.sget rx e
          obtain ⟨u, hu, ru⟩ := atI_rel q e2
          rcases hq with hq | hq
          · exact .inl ⟨_, _, _, _, rfl, rfl, hq, hu, p.now rs ru h⟩
          · exact .inr (.inl ⟨_, _, _, _, rfl, rfl, hq, hu, p.now rs ru h⟩)
        · exact h.elim
      · exact h.elim
  · exact h.elim
def RL (K : PySem.W.Frag) : V → Option Int → Option Int → Hp → VK → Prop := fun v lo hi H Q => ∃ x S Qd, RS K H S ∧ Rv K H x v ∧ slcS x lo hi S Qd ∧ Post K H Qd Q
theorem slc_ok : SlR X (RL X.K) := by
  intro pins s σ H v vv vl vu lo hi sl Q I rv hsl pl pu h
  obtain ⟨x, S, Qd, rs, rx, h, p⟩ := h
  unfold slcS at h
  split at h
  · cases rx with
    | tup h1 q1 =>
      refine sl_tupA pins s σ H _ vv vl vu lo hi sl Q I rv hsl pl pu ⟨_, _, rfl, h1, fun e => ?_, fun _ => p.tup rs (cut_rel q1 lo hi) h⟩
      have z := cut_rel q1 lo hi
      rw [cut_all e] at z
      exact p.now rs (.tup h1 z) h
  · cases rx with
    | rol h1 q1 => exact sl_list pins s σ H _ vv vl vu lo hi sl Q I rv hsl pl pu ⟨_, _, rfl, h1.l, p.lst rs (cut_rel q1 lo hi) h⟩
  · split at h
    · rename_i e
      cases rx
      obtain ⟨vs, h1, h2⟩ := rs.lget e
      exact sl_list pins s σ H _ vv vl vu lo hi sl Q I rv hsl pl pu ⟨_, _, rfl, h1, p.lst rs (cut_rel h2 lo hi) h⟩
    · exact h.elim
  · exact h.elim

/-! ### built-in functions -/
def RBi (K : PySem.W.Frag) (b : Bi) : List V → Hp → VK → Prop := fun vs H Q => ∃ ds S Qd, RS K H S ∧ Rvs K H ds vs ∧ biS b ds S Qd ∧ Post K H Qd Q
def biV : Bi → Value
  | .len => .builtin "len"
  | .abs => .builtin "abs"
  | .int => .type "int"
  | .min2 => .builtin "min"
  | .max2 => .builtin "max"
  | .tuple => .type "tuple"
  | .list => .type "list"
  | .gcd => .builtin "math.gcd"
theorem Rvs.one {K : PySem.W.Frag} {H : Hp} {d : D} {vs : List V} (h : Rvs K H [d] vs) : ∃ v, vs = [v] ∧ Rv K H d v := by
  cases h with | cons h t => cases t; exact ⟨_, rfl, h⟩
theorem Rvs.two {K : PySem.W.Frag} {H : Hp} {d e : D} {vs : List V} (h : Rvs K H [d, e] vs) : ∃ v w, vs = [v, w] ∧ Rv K H d v ∧ Rv K H e w := by
  cases h with | cons h t => cases t with | cons h2 t2 => cases t2; exact ⟨_, _, rfl, h, h2⟩
theorem bi_ok (hc : X.calm = true) : ∀ b, CallR X (biV b) (RBi X.K b)
  | .len => by
    intro pins s σ H vs us Q I ru h
    obtain ⟨ds, S, Qd, rs, rd, h, p⟩ := h
    simp only [biS] at h
    split at h
    · obtain ⟨v, rfl, rv⟩ := rd.one
      cases rv
      exact call_len_str pins s σ H _ us Q I ru ⟨_, rfl, h.1, p.now rs (.int _) h.2⟩
    · obtain ⟨v, rfl, rv⟩ := rd.one
      split at h
      · rename_i e
        obtain ⟨a, ws, rfl, hq, q⟩ := rs.sget rv e
        exact call_len_seq pins s σ H _ us Q I ru ⟨_, _, rfl, hq, by rw [← q.length]; exact p.now rs (.int _) h⟩
      · exact h.elim
    · exact h.elim
  | .abs => by
    intro pins s σ H vs us Q I ru h
    obtain ⟨ds, S, Qd, rs, rd, h, p⟩ := h
    simp only [biS] at h
    split at h
    · obtain ⟨v, rfl, rv⟩ := rd.one
      cases rv
      exact call_abs pins s σ H _ us Q I ru ⟨_, rfl, p.now rs (.int _) h⟩
    · exact h.elim
  | .int => by
    intro pins s σ H vs us Q I ru h
    obtain ⟨ds, S, Qd, rs, rd, h, p⟩ := h
    simp only [biS] at h
    split at h
    · obtain ⟨v, rfl, rv⟩ := rd.one
      cases rv
      exact call_int1 pins s σ H _ us Q I ru (.inl ⟨_, rfl, p.now rs (.int _) h⟩)
    · obtain ⟨v, rfl, rv⟩ := rd.one
      cases rv
      exact call_int1 pins s σ H _ us Q I ru (.inr ⟨_, rfl, p.now rs (.int _) h⟩)
    · exact h.elim
  | .min2 => by
    intro pins s σ H vs us Q I ru h
    obtain ⟨ds, S, Qd, rs, rd, h, p⟩ := h
    simp only [biS] at h
    split at h
    · obtain ⟨v, w, rfl, rv, rw_⟩ := rd.two
      cases rv; cases rw_
      exact call_min2 hc pins s σ H _ us Q I ru ⟨_, _, rfl, p.now rs (.int _) h⟩
    · exact h.elim
  | .max2 => by
    intro pins s σ H vs us Q I ru h
    obtain ⟨ds, S, Qd, rs, rd, h, p⟩ := h
    simp only [biS] at h
    split at h
    · obtain ⟨v, w, rfl, rv, rw_⟩ := rd.two
      cases rv; cases rw_
      exact call_max2 hc pins s σ H _ us Q I ru ⟨_, _, rfl, p.now rs (.int _) h⟩
    · exact h.elim
  | .tuple => by
    intro pins s σ H vs us Q I ru h
    obtain ⟨ds, S, Qd, rs, rd, h, p⟩ := h
    simp only [biS] at h
    split at h
    · obtain ⟨v, rfl, rv⟩ := rd.one
      split at h
      · rename_i e
        obtain ⟨a, ws, rfl, hq, q⟩ := rs.sget rv e
        refine call_tuple_of pins s σ H _ us Q I ru ⟨_, ws, rfl, ?_⟩
        rcases hq with hq | hq
        · exact .inl ⟨hq, p.tup rs q h⟩
        · exact .inr ⟨hq, p.now rs (.tup hq q) h⟩
      · exact h.elim
    · exact h.elim
  | .list => by
    intro pins s σ H vs us Q I ru h
    obtain ⟨ds, S, Qd, rs, rd, h, p⟩ := h
    simp only [biS] at h
    split at h
    · obtain ⟨v, rfl, rv⟩ := rd.one
      split at h
      · rename_i e
        obtain ⟨a, ws, rfl, hq, q⟩ := rs.sget rv e
        exact call_list_of pins s σ H _ us Q I ru ⟨_, _, rfl, hq, p.lst rs q h⟩
      · exact h.elim
    · exact h.elim
  | .gcd => by
    intro pins s σ H vs us Q I ru h
    obtain ⟨ds, S, Qd, rs, rd, h, p⟩ := h
    simp only [biS] at h
    split at h
    · obtain ⟨v, w, rfl, rv, rw_⟩ := rd.two
      cases rv; cases rw_
      exact cr_gcd pins s σ H _ us Q I ru ⟨_, _, rfl, p.now rs (.int _) h⟩
    · exact h.elim

/-! ### isinstance -/
def tyV1 : Ty → Value
  | .int => .type "int"
  | .bool => .type "bool"
  | .str => .type "str"
  | .tuple => .type "tuple"
  | .list => .type "list"
  | .own _ => .none
theorem sqT_ty {K : PySem.W.Frag} {H : Hp} {a : Addr} {xs : List V} (h : SqT K H a xs) : TyX K H (.ref a) (.type "tuple") := by
  rcases h with (h | ⟨o, h⟩) | ⟨o, its, n, h1, h2, _⟩
  · exact .base (.tup h)
  · exact .fTuple h
  · exact .kTuple h1 h2
theorem sqF_ty {K : PySem.W.Frag} {H : Hp} {a : Addr} {xs : List V} (h : SqF K H a xs) : TyX K H (.ref a) (.type "list") := by
  rcases h with ⟨o, h⟩ | ⟨o, its, n, h1, h2, _⟩
  · exact .base (.frz h)
  · exact .kList h1 h2
/-- the name of data's type -/
def tyD : D → String
  | .non => "NoneType"
  | .bl _ => "bool"
  | .int _ => "int"
  | .str _ => "str"
  | .tup _ => "tuple"
  | .rol _ => "list"
  | .ref _ => "list"
theorem tyD_ok {K : PySem.W.Frag} {H : Hp} {S : Sto} {x : D} {v : V} (rs : RS K H S) (rv : Rv K H x v) (hr : ∀ a, x = .ref a → ∃ xs, lget S a = some xs) : TyX K H v (.type (tyD x)) := by
  cases rv with
  | non => exact .base .non
  | bl b => exact .base (.bl b)
  | int i => exact .base (.int i)
  | str i => exact .base (.str i)
  | tup h t => exact sqT_ty h
  | rol h t => exact sqF_ty h
  | ref a =>
    obtain ⟨xs, e⟩ := hr a rfl
    unfold lget at e
    split at e
    · rename_i e1
      obtain ⟨vs, h1, _⟩ := rs a _ e1
      exact .base (.lst h1)
    · cases e
theorem isT_kit {K : PySem.W.Frag} {S : Sto} {x : D} {t : Ty} {k : Bool} (h : isT S x t = some k) : PySem.W.kitOne K (.type (tyD x)) (tyV1 t) = some k ∧ (∀ a, x = .ref a → ∃ xs, lget S a = some xs) ∧ ∃ n, tyV1 t = .type n := by
  have hr : ∀ {b : Bool} {a : Addr}, (lget S a).map (fun _ => b) = some k → b = k ∧ ∃ xs, lget S a = some xs := fun {b a} e => by
    cases q : lget S a with
    | none => rw [q] at e; cases e
    | some xs => rw [q] at e; exact ⟨Option.some.inj e, xs, rfl⟩
  cases t <;> cases x <;> first
    | (cases h; exact ⟨kit_ty (by dsimp only [tyD]; decide +kernel), (fun _ z => nomatch z), _, rfl⟩)
    | (obtain ⟨e, q⟩ := hr h; subst e; exact ⟨kit_ty (by dsimp only [tyD]; decide +kernel), fun _ z => by cases z; exact q, _, rfl⟩)
    | (cases h; done)
theorem isTs_kit {K : PySem.W.Frag} {S : Sto} {x : D} : ∀ {ts : List Ty} {k : Bool}, isTs S x ts = some k → PySem.W.kitAny K (.type (tyD x)) (ts.map tyV1) = some k ∧ (ts ≠ [] → ∀ a, x = .ref a → ∃ xs, lget S a = some xs)
  | [], k, h => by
    cases h
    exact ⟨kitAny_nil, fun z => absurd rfl z⟩
  | t :: r, k, h => by
    unfold isTs at h
    split at h
    · rename_i e
      cases h
      obtain ⟨e1, e2, _⟩ := isT_kit (K := K) e
      exact ⟨kitAny_cons e1 (fun z => nomatch z) fun _ => rfl, fun _ => e2⟩
    · rename_i e
      obtain ⟨e1, e2, _⟩ := isT_kit (K := K) e
      obtain ⟨q1, q2⟩ := isTs_kit (K := K) h
      exact ⟨kitAny_cons e1 (fun _ => q1) (fun z => nomatch z), fun _ => e2⟩
    · cases h

/-! ### methods of lists -/
def meId : Me → String
  | .append => "list.append"
  | .pop => "list.pop"
  | .popat => "list.pop"
  | .reverse => "list.reverse"
def RM (K : PySem.W.Frag) (m : Me) : V → List V → Hp → VK → Prop := fun v ws H Q => ∃ x ds S Qd, RS K H S ∧ Rv K H x v ∧ Rvs K H ds ws ∧ mthS m x ds S Qd ∧ Post K H Qd Q
theorem Post.write {K : PySem.W.Frag} {H : Hp} {Qd : DK} {Q : VK} {S : Sto} {ds es : List D} {xs ys : List V} {a : Addr} {d : D} {v : V} (p : Post K H Qd Q) (r : RS K H S) (h : H a = some (.lst ys)) (hs : S a = some (.lst es)) (q : Rvs K H ds xs) (rv : Rv K H d v)
    (hq : Qd d (put S a (.lst ds))) : Q v (upd H a (.lst xs)) := p _ _ d _ (Ext.lst h) (Rv.ext (Ext.lst h) rv) (r.write h hs q) hq
theorem mth_ok : ∀ m, MtR X (meId m) (RM X.K m) := by
  intro m pins s σ H v ws vv us Q I rv ru h
  obtain ⟨x, ds, S, Qd, rs, rx, rd, h, p⟩ := h
  unfold mthS at h
  split at h
  · split at h
    · rename_i a xs e
      cases rx
      obtain ⟨vs, h1, h2⟩ := rs _ _ e
      cases m with
      | append =>
        simp only at h
        split at h
        · obtain ⟨u, rfl, ru1⟩ := rd.one
          exact mt_append pins s σ H _ _ vv us Q I rv ru ⟨_, _, _, rfl, rfl, h1, by rw [← h2.length]; exact h.1, p.write rs h1 e (h2.append (.cons ru1 .nil)) .non h.2⟩
        · exact h.elim
      | pop =>
        simp only at h
        split at h
        · cases rd
          split at h
          · rename_i e2
            rw [h2.length] at e2
            obtain ⟨u, hu, ru1⟩ := h2.get e2
            exact mt_pop pins s σ H _ _ vv us Q I rv ru ⟨_, _, _, rfl, rfl, h1, hu, p.write rs h1 e h2.dropLast ru1 h⟩
          · exact h.elim
        · exact h.elim
      | popat =>
        simp only at h
        split at h
        · obtain ⟨u, rfl, ru1⟩ := rd.one
          cases ru1
          obtain ⟨b1, b2, h⟩ := h
          split at h
          · rename_i e2
            split at h
            · rename_i e3
              rw [h2.length] at e2
              obtain ⟨u, hu, ru1⟩ := h2.get e3
              exact mt_popAt pins s σ H _ _ vv us Q I rv ru ⟨_, _, _, _, _, rfl, rfl, h1, b1, b2, e2, hu, p.write rs h1 e (h2.eraseIdx _) ru1 h⟩
            · exact h.elim
          · exact h.elim
        · exact h.elim
      | reverse =>
        simp only at h
        split at h
        · cases rd
          exact mt_reverse pins s σ H _ _ vv us Q I rv ru ⟨_, _, rfl, rfl, h1, p.write rs h1 e h2.reverse .non h⟩
        · exact h.elim
    · exact h.elim
  · exact h.elim
end
end Ev

/-! The check that a form is the form of a piece of the text. -/
namespace Ev
open PySem PySem.Spec PyProof.Rows L2

/-- what is known of a block's names -/
structure Sc where
  N : List Str
  sc : Scope
  stl : List (Str × NameKind)
  fns : List (Str × Nat)
  blt : List Str
  cst : List Str
  gcd : Bool
  cm : Bool
  tp : Bool
  exc : List Str
  exn : List Str
def Sc.vis (A : Sc) (i : Nat) (x : Str) : Bool := decide (A.N[i]? = some x) && (match A.sc.names.lookup x with | some .local => true | some .cell => true | some .free => true | _ => false) && !(x == ("__debug__" : Str)) && !(x == ("__classdict__" : Str))
def Sc.loc (A : Sc) (i : Nat) (x : Str) : Bool := decide (A.N[i]? = some x) && (match A.stl.lookup x with | some .local => true | some .cell => true | _ => false)
def Sc.lcl (A : Sc) (i : Nat) (x : Str) : Bool := decide (A.N[i]? = some x) && (match A.sc.names.lookup x with | some .local => true | _ => false)
def Sc.glb (A : Sc) (x : Str) : Bool := (match A.sc.names.lookup x with | some .globalImplicit => true | _ => false) && !(x == ("__debug__" : Str))
def Sc.bn (A : Sc) (x : Str) : Bool := A.glb x && A.blt.contains x && !(x == ("__name__" : Str))
/-- within a comprehension's block -/
def Sc.inn (A : Sc) (scope : Scope) : Sc := { A with sc := relS scope A.sc, stl := scope.names, tp := false }
def nst : Expr → Bool
  | .Starred .. => false
  | _ => true
def nsl : Expr → Bool
  | .Slice .. => false
  | _ => true
def ncl : Expr → Bool
  | .Call .. => false
  | _ => true
def nset : Expr → Bool
  | .Set .. => false
  | _ => true
/-- an expression whose test is its value's truth -/
def plt : Expr → Bool
  | .UnaryOp .Not .. => false
  | .BoolOp .. => false
  | .IfExp .. => false
  | .Compare .. => false
  | _ => true
def ncomp : Expr → Bool
  | .ListComp .. => false
  | .SetComp .. => false
  | .DictComp .. => false
  | _ => true
def ntup : Expr → Bool
  | .Tuple .. => false
  | .List .. => false
  | _ => true
def biNm : Bi → Str
  | .len => "len"
  | .abs => "abs"
  | .int => "int"
  | .min2 => "min"
  | .max2 => "max"
  | .tuple => "tuple"
  | .list => "list"
  | .gcd => "gcd"
def tyNm : Ty → Str
  | .int => "int"
  | .bool => "bool"
  | .str => "str"
  | .tuple => "tuple"
  | .list => "list"
  | .own x => x
def meNm : Me → Str
  | .append => "append"
  | .pop => "pop"
  | .popat => "pop"
  | .reverse => "reverse"
def Sc.ty1 (A : Sc) (t : Ty) : Expr → Bool
  | .Name x _ => decide (x = tyNm t) && A.bn x && (match t with | .own _ => false | _ => true)
  | _ => false
def Sc.tys (A : Sc) : List Ty → List Expr → Bool
  | [], [] => true
  | t :: r, e :: es => A.ty1 t e && A.tys r es
  | _, _ => false
def ownOf (N : List Str) (l : List Nat) : List (Str × Nat) := l.map fun i => (N.getD i "", i)

mutual
def chkE (A : Sc) : IE → Expr → Bool
  | .var i, e => (match e with | .Name x _ => A.vis i x | _ => false)
  | .int i, e => (match e with | .Constant (.int j) _ _ => decide (i = j) | _ => false)
  | .bl b, e => (match e with | .Constant (.bool c) _ _ => decide (b = c) | _ => false)
  | .non, e => (match e with | .Constant .none _ _ => true | _ => false)
  | .str x, e => (match e with | .Constant (.str y) _ _ => decide (x = y) | _ => false)
  | .glo x, e => (match e with | .Name y _ => decide (x = y) && A.glb y && A.cst.contains y | _ => false)
  | .tup es, e => (match e with | .Tuple xs _ _ => chkEs A es xs && decide (xs.length ≤ 1000) | _ => false)
  | .lst es, e => (match e with | .List xs _ => chkEs A es xs && decide (xs.length ≤ 1000) | _ => false)
  | .bin op a b, e => (match e with | .BinOp l o r _ => decide (op = o) && chkE A a l && chkE A b r | _ => false)
  | .neg a, e => (match e with | .UnaryOp .USub x _ => chkE A a x | _ => false)
  | .cmp op a b, e => (match e with | .Compare l [o] [r] _ => decide (op = o) && chkE A a l && chkE A b r | _ => false)
  | .chn op op2 a b c, e => (match e with | .Compare l [o, o2] [r, r2] _ => decide (op = o) && decide (op2 = o2) && chkE A a l && chkE A b r && chkE A c r2 | _ => false)
  | .and a b, e => (match e with | .BoolOp .And (x :: y :: r) p => chkE A a x && chkE A b (.BoolOp .And (y :: r) p) | _ => false)
  | .or a b, e => (match e with | .BoolOp .Or (x :: y :: r) p => chkE A a x && chkE A b (.BoolOp .Or (y :: r) p) | _ => false)
  | .one a, e => (match e with | .BoolOp _ [x] _ => chkE A a x | _ => false)
  | .not a, e => (match e with | .UnaryOp .Not x _ => chkE A a x | _ => false)
  | .ifx c a b, e => (match e with | .IfExp t x y _ => chkC A c t && chkE A a x && chkE A b y | _ => false)
  | .idx a i, e => (match e with | .Subscript x s _ => chkE A a x && chkE A i s | _ => false)
  | .slc a lo hi, e => (match e with | .Subscript x (.Slice l h none _) _ => chkE A a x && chkO A lo l && chkO A hi h | _ => false)
  | .call f es, e => (match e with | .Call (.Name x _) args [] _ => decide (x = f) && A.glb x && decide (A.fns.lookup x = some args.length) && A.cm && chkEs A es args && !args.isEmpty | _ => false)
  | .bi b es, e => (match e with | .Call (.Name x _) args [] _ => decide (x = biNm b) && (match b with | .gcd => A.glb x && A.gcd | _ => A.bn x) && A.cm && chkEs A es args && !args.isEmpty | _ => false)
  | .isi a ts, e => (match e with
    | .Call (.Name x _) [y, t] [] _ => decide (x = "isinstance") && A.bn x && chkE A a y && (match t with
      | .Tuple xs _ _ => A.tys ts xs && !xs.isEmpty && decide (xs.length ≤ 1000)
      | t => (match ts with | [t1] => A.ty1 t1 t | _ => false))
    | _ => false)
  | .mth m o es, e => (match e with | .Call (.Attribute x nm ap) args [] cp => decide (nm = meNm m) && chkE A o x && ncl x && chkEs A es args && decide (args.length < 29) && (ap.endLine == cp.line) | _ => false)
  | .lc elt tg it ifs own, e => (match e with
    | .ListComp el [⟨t, i, cs, 0⟩] scope _ => A.cm && blkC A.N A.sc scope (ownOf A.N own) && chkI A it t i && chkG (A.inn scope) own tg t && chkE (A.inn scope) elt el && chkQ (A.inn scope) ifs cs
    | _ => false)
def chkEs (A : Sc) : IEs → List Expr → Bool
  | .nil, l => (match l with | [] => true | _ => false)
  | .cons e r, l => (match l with | x :: t => chkE A e x && chkEs A r t | _ => false)
def chkQ (A : Sc) : IQ → List Expr → Bool
  | .no, l => (match l with | [] => true | _ => false)
  | .c c, l => (match l with | [x] => chkC A c x | _ => false)
def chkO (A : Sc) : IO → Option Expr → Bool
  | .no, o => (match o with | none => true | _ => false)
  | .some e, o => (match o with | some x => chkE A e x | _ => false)
def chkC (A : Sc) : IC → Expr → Bool
  | .and a b, e => (match e with | .BoolOp .And (x :: y :: r) p => chkC A a x && chkC A b (.BoolOp .And (y :: r) p) | _ => false)
  | .or a b, e => (match e with | .BoolOp .Or (x :: y :: r) p => chkC A a x && chkC A b (.BoolOp .Or (y :: r) p) | _ => false)
  | .one a, e => (match e with | .BoolOp _ [x] _ => chkC A a x | _ => false)
  | .not a, e => (match e with | .UnaryOp .Not x _ => chkC A a x | _ => false)
  | .cmp op a b, e => (match e with | .Compare l [o] [r] _ => decide (op = o) && chkE A a l && chkE A b r | _ => false)
  | .chn op op2 a b c, e => (match e with | .Compare l [o, o2] [r, r2] _ => decide (op = o) && decide (op2 = o2) && chkE A a l && chkE A b r && chkE A c r2 | _ => false)
  | .v a, e => chkE A a e && plt e
def chkI (A : Sc) : II → Expr → Expr → Bool
  | .seq e, _, x => chkE A e x && nset x
  | .rng1 a, _, x => (match x with | .Call (.Name n _) [y] [] _ => decide (n = "range") && A.bn n && chkE A a y | _ => false)
  | .rng2 a b, _, x => (match x with | .Call (.Name n _) [y, z] [] _ => decide (n = "range") && A.bn n && chkE A a y && chkE A b z | _ => false)
  | .rng3 a b c, _, x => (match x with | .Call (.Name n _) [y, z, u] [] _ => decide (n = "range") && A.bn n && chkE A a y && chkE A b z && chkE A c u | _ => false)
  | .enu e, t, x => (match t with
    | .Tuple .. => (match x with | .Call (.Name n _) [y] [] _ => decide (n = "enumerate") && A.bn n && chkE A e y | _ => false)
    | _ => false)
  | .zip a b, t, x => (match t with
    | .Tuple .. => (match x with | .Call (.Name n _) [y, z] [] _ => decide (n = "zip") && A.bn n && chkE A a y && chkE A b z | _ => false)
    | _ => false)
  | .rev e, _, x => (match x with | .Call (.Name n _) [y] [] _ => decide (n = "reversed") && A.bn n && chkE A e y | _ => false)
/-- a target; its slots lie in own -/
def chkG (A : Sc) (own : List Nat) : IG → Expr → Bool
  | .nm i, e => (match e with | .Name x _ => A.loc i x && own.contains i | _ => false)
  | .tup gs, e => (match e with | .Tuple xs _ _ => A.cm && chkGs A own gs xs | _ => false)
def chkGs (A : Sc) (own : List Nat) : IGs → List Expr → Bool
  | .nil, l => (match l with | [] => true | _ => false)
  | .cons g r, l => (match l with | x :: t => chkG A own g x && nst x && chkGs A own r t | _ => false)
end
/-- the swap of a comprehension with its one-line name -/
def swB (A : Sc) (x : Str) (py : Pos) : Expr → Bool
  | .ListComp _ _ scope pos => decide (A.sc.names.lookup x = some .local) && (py.line == pos.line) && !(scope.names.any fun (n, k) => n == x && (k == .local || k == .cell))
  | _ => false
mutual
def chkS (A : Sc) : IS → Stmt → Bool
  | .set i e, s => (match s with | .Assign [.Name x py] v _ => A.loc i x && chkE A e v && (ncomp v || (swB A x py v && decide (A.sc.names.lookup x = some .local)) || !swB A x py v) | _ => false)
  | .asg g e, s => (match s with | .Assign [.Tuple xs k p] v _ => chkG A (List.range A.N.length) g (.Tuple xs k p) && chkE A e v && ntup v && ncomp v | _ => false)
  | .par2 i j a b, s => (match s with
    | .Assign [.Tuple [.Name x px, .Name y py] _ tp] (.Tuple [u, v] _ _) _ => A.cm && A.lcl i x && A.lcl j y && chkE A a u && chkE A b v && decide (i ≠ j) && (px.line == py.line) && !(constantsAlone 8 u && constantsAlone 8 v) && !(foldedForSure 8 u && foldedForSure 8 v) && !(x == y)
    | _ => false)
  | .sub o i e, s => (match s with | .Assign [.Subscript x y _] v _ => chkE A o x && chkE A i y && nsl y && chkE A e v && ncomp v | _ => false)
  | .expr e, s => (match s with | .Expr v _ => chkE A e v && ncomp v | _ => false)
  | .ret e, s => (match s with | .Return (some v) _ => chkE A e v | _ => false)
  | .retN, s => (match s with | .Return none _ => true | _ => false)
  | .ifs c a b, s => (match s with | .If t x y _ => chkC A c t && chkSs A a x && chkSs A b y | _ => false)
  | .whl c b, s => (match s with | .While t x [] _ => chkC A c t && chkSs A b x | _ => false)
  | .for_ g it b, s => (match s with | .For t i x [] _ => A.cm && chkG A (List.range A.N.length) g t && chkI A it t i && nset i && chkSs A b x | _ => false)
  | .brk, s => (match s with | .Break _ => true | _ => false)
  | .cnt, s => (match s with | .Continue _ => true | _ => false)
  | .pass, s => (match s with | .Pass _ => true | _ => false)
  | .raise x es, s => (match s with
    | .Raise (some (.Call (.Name y _) (a :: r) [] _)) none _ => decide (x = y) && A.cm && A.exc.contains x && A.glb x && chkEs A es (a :: r)
    | _ => false)
  | .tryx b x t, s => (match s with
    | .Try u [.ExceptHandler (some (.Name y _)) none (v :: w) _] [] [] _ => decide (x = y) && A.tp && A.exn.contains x && A.glb x && chkSs A b u && chkSs { A with cm := false } t (v :: w)
    | _ => false)
  | .never, _ => true
def chkSs (A : Sc) : ISs → List Stmt → Bool
  | .nil, l => (match l with | [] => true | _ => false)
  | .cons s r, l => (match l with | x :: t => chkS A s x && chkSs A r t | _ => false)
end
end Ev

/-! A form that passes the check says what the text does: expressions. -/
namespace Ev
open PySem PySem.Spec PyProof.Rows L2

/-- a def's promise by the evaluator -/
def LF (K : PySem.W.Frag) (mg : Str → Option Value) (C : CallS) (f : Str) : Sp := fun vs H Q E => ∃ ds S Qd Ed, Rvs K H ds vs ∧ RS K H S ∧ C f ds S Qd Ed ∧ Post K H Qd Q ∧
  ∀ c d H' x S', Ext H H' → RX K mg H' x c d → RS K H' S' → Ed x S' → E c d H'
/-- what the library's big division asks -/
structure PyOk (X : Cx) : Prop where
  seer : X.base.NoSeer
  tree : X.prog.given.tree = none
  fr : ∃ env l, X.stack = env :: l ∧ env.scope.isGenerator = false ∧ env.scope.isCoroutine = false ∧ env.builtins = builtinsNs ∧ env.globals = mainGlobals
  dp : X.A.depth + Builtin.pylongFrames < recursionLimit
theorem PyOk.room {X : Cx} (p : PyOk X) {pins : List (Addr × Obj)} {σ : L2.St} {H : Hp} {s : Shared} (I : Inv X pins σ H s) : PylongRoom (model X.prog X.w) X.A s := by
  obtain ⟨env, l, h1, h2, h3, h4, h5⟩ := p.fr
  exact PylongRoom.of I.nolimit p.dp (SeerAt.of (p.seer.keeps I.bk) p.tree (by rw [I.ok.frames, h1]) h2 h3 h4 h5)
/-- the class of a name that is raised -/
def ExcW (K : PySem.W.Frag) (mg : Str → Option Value) (x : Str) : Prop := ∃ a : Addr, mg x = some (.ref a) ∧ PySem.W.keepIn K (.ref a) = true ∧
  PySem.W.excIn K a [.type "ValueError", .type "Exception", .type "BaseException", .type "object"] "ValueError.__new__" = true ∧ PySem.W.subIn K (.ref a) (.type "BaseException") = some true ∧ PySem.W.typeIn K (.ref a) = some (.type "type")
/-- the class of a name that a clause catches -/
def ExnW (G : Gl0) (K : PySem.W.Frag) (mg : Str → Option Value) (x : Str) : Prop := ∃ v : Value, (mg x = some v ∨ (mg x = none ∧ bootBuiltins x = some v ∧ x ≠ "__name__")) ∧
  ∀ c b, G.sub c x = some b → ∃ u, mg c = some u ∧ PySem.W.exmOne K u v = some b
structure Good (G : Gl0) (C : CallS) (X : Cx) (W : WX) (A : Sc) : Prop where
  hN : X.N = A.N
  nd : X.N.Nodup
  sc : X.env.scope = A.sc
  fnc : ∀ x, A.stl.lookup x = some .cell → X.fn x = true
  stl : ∀ x k, k ≠ .free → A.stl.lookup x = some k → A.sc.names.lookup x = some k
  calm : A.cm = true → X.calm = true
  tk : Takes X W
  po : PassesOwn (model X.prog X.w) X.A X.env X.xe
  hu : X.A.units + 65 < cLine
  blt : ∀ x, A.blt.contains x = true → X.mg x = none
  gcd : A.gcd = true → X.mg "gcd" = some (.builtin "math.gcd")
  cst : ∀ x, A.cst.contains x = true → ∃ d u v, G.cs x = some d ∧ X.mg x = some u ∧ RelV v u ∧ ∀ H, Rv X.K H d v
  fns : A.cm = true → ∀ f n, A.fns.lookup f = some n → ∃ (a : Addr) (fd : FuncData) (ps : List Str) (k : Nat), X.mg f = some (.ref a) ∧ PySem.W.keepIn X.K (.ref a) = true ∧ Binds X.K fd ps [] ∧ Room k X.A ∧
    FnOk X.prog X.w X.K X.mg X.base (CX X.prog X.w) k a fd ps (LF X.K X.mg C f)
  py : G.PY → PyOk X
  stk : A.tp = true → X.stack = X.env :: X.outer ∧ X.env.frame = some X.env.locals
  exc : ∀ x, A.exc.contains x = true → ExcW X.K X.mg x
  exn : ∀ x, A.exn.contains x = true → ExnW G X.K X.mg x

/-! ### what stands written -/
theorem kind_of {X : Cx} {A : Sc} (h : X.env.scope = A.sc) (x : Str) : X.env.kindOf x = A.sc.names.lookup x := by
  show X.env.scope.names.lookup x = _
  rw [h]
theorem vis_of {X : Cx} {A : Sc} {i : Nat} {x : Str} (hN : X.N = A.N) (hs : X.env.scope = A.sc) (h : A.vis i x = true) :
    X.N[i]? = some x ∧ Vis X.env.scope x ∧ (x == ("__debug__" : Str)) = false ∧ (x == ("__classdict__" : Str)) = false := by
  unfold Sc.vis at h
  simp only [Bool.and_eq_true, decide_eq_true_eq, Bool.not_eq_true'] at h
  obtain ⟨⟨⟨h1, h2⟩, h3⟩, h4⟩ := h
  refine ⟨by rw [hN]; exact h1, ?_, h3, h4⟩
  unfold Vis
  rw [hs]
  split at h2 <;> first | exact .inl ‹_› | exact .inr (.inl ‹_›) | exact .inr (.inr ‹_›) | cases h2
theorem loc_of {X : Cx} {A : Sc} {i : Nat} {x : Str} (hN : X.N = A.N) (hs : X.env.scope = A.sc) (stl : ∀ x k, k ≠ .free → A.stl.lookup x = some k → A.sc.names.lookup x = some k) (fnc : ∀ x, A.stl.lookup x = some .cell → X.fn x = true) (h : A.loc i x = true) :
    X.N[i]? = some x ∧ L2.Loc X.env.scope x ∧ (X.fn x = true ∨ X.env.scope.names.lookup x = some .local) := by
  unfold Sc.loc at h
  simp only [Bool.and_eq_true, decide_eq_true_eq] at h
  obtain ⟨h1, h2⟩ := h
  refine ⟨by rw [hN]; exact h1, ?_⟩
  unfold L2.Loc
  rw [hs]
  split at h2
  · rename_i e; exact ⟨.inl (stl _ _ (by decide) e), .inr (stl _ _ (by decide) e)⟩
  · rename_i e; exact ⟨.inr (stl _ _ (by decide) e), .inl (fnc x e)⟩
  · cases h2
theorem lcl_of {X : Cx} {A : Sc} {i : Nat} {x : Str} (hN : X.N = A.N) (hs : X.env.scope = A.sc) (h : A.lcl i x = true) : X.N[i]? = some x ∧ X.env.scope.names.lookup x = some .local := by
  unfold Sc.lcl at h
  simp only [Bool.and_eq_true, decide_eq_true_eq] at h
  obtain ⟨h1, h2⟩ := h
  refine ⟨by rw [hN]; exact h1, ?_⟩
  rw [hs]
  split at h2
  · assumption
  · cases h2
theorem glb_of {X : Cx} {A : Sc} {x : Str} (hs : X.env.scope = A.sc) (h : A.glb x = true) : Gl X x ∧ (x == ("__debug__" : Str)) = false := by
  unfold Sc.glb at h
  simp only [Bool.and_eq_true, Bool.not_eq_true'] at h
  obtain ⟨h1, h2⟩ := h
  refine ⟨?_, h2⟩
  unfold Gl
  rw [kind_of hs]
  split at h1
  · assumption
  · cases h1
theorem bn_of {G : Gl0} {C : CallS} {X : Cx} {W : WX} {A : Sc} {x : Str} (g : Good G C X W A) (h : A.bn x = true) : Gl X x ∧ (x == ("__debug__" : Str)) = false ∧ X.mg x = none ∧ x ≠ "__name__" := by
  unfold Sc.bn at h
  simp only [Bool.and_eq_true, Bool.not_eq_true'] at h
  obtain ⟨⟨h1, h2⟩, h3⟩ := h
  obtain ⟨q1, q2⟩ := glb_of g.sc h1
  exact ⟨q1, q2, g.blt x h2, fun e => by rw [e] at h3; exact absurd h3 (by decide)⟩
theorem star_cons {e : Expr} {es : List Expr} {env : Env} (h : nst e = true) : starEach (e :: es) env = (false, eval e env) :: starEach es env := by
  cases e <;> first | rfl | cases h
theorem chkE_nst {A : Sc} {ie : IE} {e : Expr} (h : chkE A ie e = true) : nst e = true := by
  cases e <;> first | rfl | (cases ie <;> cases h)
theorem chkE_nsl {A : Sc} {ie : IE} {e : Expr} (h : chkE A ie e = true) : nsl e = true := by
  cases e <;> first | rfl | (cases ie <;> cases h)
theorem chkE_nset {A : Sc} {ie : IE} {e : Expr} (h : chkE A ie e = true) : nset e = true := by
  cases e <;> first | rfl | (cases ie <;> cases h)
theorem chkEs_star {A : Sc} {env : Env} : ∀ {ies : IEs} {es : List Expr}, chkEs A ies es = true → (starEach es env).all (fun x => !x.1) = true ∧ (starEach es env).length = es.length
  | .nil, [], _ => ⟨rfl, rfl⟩
  | .nil, _ :: _, h => by cases h
  | .cons _ _, [], h => by cases h
  | .cons e r, x :: t, h => by
    simp only [chkEs, Bool.and_eq_true] at h
    obtain ⟨q1, q2⟩ := chkEs_star (env := env) h.2
    rw [star_cons (chkE_nst h.1)]
    exact ⟨by rw [List.all_cons, q1]; rfl, by rw [List.length_cons, q2, List.length_cons]⟩
theorem back_all {pos : Pos} {l : List (Bool × Sem Value)} (h : l.all (fun x => !x.1) = true) : (backTo pos l).all (fun x => !x.1) = true := by
  unfold backTo
  rw [List.all_map]
  exact h
theorem back_any {pos : Pos} {l : List (Bool × Sem Value)} (h : l.all (fun x => !x.1) = true) : (backTo pos l).any (·.1) = false := by
  unfold backTo
  rw [List.any_map]
  induction l with
  | nil => rfl
  | cons x r ih =>
    simp only [List.all_cons, Bool.and_eq_true, Bool.not_eq_true'] at h
    rw [List.any_cons, ih h.2]
    simp [h.1]
theorem base_ok {o : Expr} {f : Str} {env : Env} (h : ncl o = true) : attributeBase o f env (eval o env) = eval o env := by
  cases o <;> first | rfl | cases h
theorem mark_ok {A : Sc} {ie : IE} {e : Expr} {op : CmpOp} (h : chkE A ie e = true) : behindInMarks op e = false := by
  have h := chkE_nset h
  cases e <;> first | rfl | cases h
theorem marks_ok {A : Sc} {ib : IE} {a b : Expr} {o1 o2 : CmpOp} (h : chkE A ib b = true) : lastMarks [o1, o2] [a, b] = false := mark_ok (op := o2) h
theorem fold_ok {env : Env} {e : Expr} (h : nset e = true) : ∀ x, foldedSetIterable e env x = pure x := by
  intro x
  cases e <;> first | rfl | cases h
theorem ix_ok {b : Expr} (h : nsl b = true) : PlainIx b := by
  intro o i
  cases b <;> first | rfl | cases h
theorem plt_ok {e : Expr} {env : Env} (h : plt e = true) : ∀ whole, isTrue e env whole = (do let v ← whole; standAt e.pos; holding [v] (truthy v)) := by
  intro whole
  cases e with
  | UnaryOp op x p => cases op <;> first | rfl | cases h
  | BoolOp => cases h
  | IfExp => cases h
  | Compare => cases h
  | _ => rfl

/-! ### lifting -/
section
variable {X : Cx} {W : WX}
/-- one part, then what is done with its value -/
theorem LE.then1 {fa : FE} {f : FE} {r : V → Hp → VK → Prop} (hf : ∀ E σ S Q, f E σ S Q → ∃ R : DK, fa E σ S R ∧ ∀ σ0 v H x S1 Qv, RS X.K H S1 → Rv X.K H x v → R x S1 → Post X.K H Q Qv → XP X W E σ0 H → r v H Qv) :
    ∀ σ H Q, LE X W f σ H Q → LE X W fa σ H fun v H1 => r v H1 Q := by
  rintro σ H Q ⟨σd, S, Qd, E, rn, rs, h, p, xp⟩
  obtain ⟨R, ha, hr⟩ := hf _ _ _ _ h
  exact ⟨σd, S, R, E, rn, rs, ha, fun v H1 x S1 e1 rx rs1 h1 => hr σ v H1 x S1 Q rs1 rx h1 (fun v' H' d S' e => p v' H' d S' (e1.trans e)) (xp.ext e1), xp⟩
theorem LE.bin {fa fb : FE} {R : D → D → Sto → DK → Prop} {r : R2} (hr : ∀ v w H Q, (∃ x y S Qd, RS X.K H S ∧ Rv X.K H x v ∧ Rv X.K H y w ∧ R x y S Qd ∧ Post X.K H Qd Q) → r v w H Q) :
    ∀ σ H Q, LE X W (fun E σ S Q => fa E σ S fun x S1 => fb E σ S1 fun y S2 => R x y S2 Q) σ H Q → tOp r (LE X W fa) (LE X W fb) σ H Q := by
  rintro σ H Q ⟨σd, S, Qd, E, rn, rs, h, p, xp⟩
  refine ⟨σd, S, _, E, rn, rs, h, fun v H1 x S1 e1 rx rs1 h1 => ⟨σd, S1, _, E, rn.ext e1, rs1, h1, fun w H2 y S2 e2 ry rs2 h2 => ?_, xp.ext e1⟩, xp⟩
  exact hr _ _ _ _ ⟨x, y, S2, Qd, rs2, rx.ext e2, ry, h2, fun v' H' d S' e => p v' H' d S' ((e1.trans e2).trans e)⟩
theorem LE.cmp {fa fb : FE} {op : CmpOp} : ∀ σ H Q, LE X W (fun E σ S Q => fa E σ S fun x S1 => fb E σ S1 fun y S2 => cmpS op x y S2 fun k => Q (.bl k) S2) σ H Q → tOp (RC X.K op) (LE X W fa) (LE X W fb) σ H Q := by
  refine LE.bin (R := fun x y S2 Q => cmpS op x y S2 fun k => Q (.bl k) S2) ?_
  rintro v w H Q ⟨x, y, S, Qd, rs, rx, ry, h, p⟩
  exact ⟨x, y, S, fun k => Qd (.bl k) S, rs, rx, ry, h, fun k hk => p.now rs (.bl k) hk⟩
theorem LT.cmp {fa fb : FE} {op : CmpOp} : ∀ σ H Q, LT X W (fun E σ S Q => fa E σ S fun x S1 => fb E σ S1 fun y S2 => cmpS op x y S2 fun k => Q k S2) σ H Q → tTest (tOp (RC X.K op) (LE X W fa) (LE X W fb)) σ H Q := by
  rintro σ H Q ⟨σd, S, Qd, E, rn, rs, h, p, xp⟩
  refine ⟨σd, S, _, E, rn, rs, h, fun v H1 x S1 e1 rx rs1 h1 => ⟨σd, S1, _, E, rn.ext e1, rs1, h1, fun w H2 y S2 e2 ry rs2 h2 => ?_, xp.ext e1⟩, xp⟩
  exact ⟨x, y, S2, fun k => Qd k S2, rs2, rx.ext e2, ry, h2, fun k hk => ⟨k, rfl, p k H2 S2 (e1.trans e2) rs2 hk⟩⟩
theorem LA.nil : ∀ σ H Q, LA X W 0 (fun E σ S Q => Q [] S) σ H Q → tNil σ H Q := by
  rintro σ H Q ⟨σd, S, Qd, E, rn, rs, h, p, xp⟩
  exact p [] H [] S (Ext.refl H) rfl .nil rs h
theorem LA.cons {n : Nat} {fa : FE} {fr : XS → En → Sto → (List D → Sto → Prop) → Prop} :
    ∀ σ H Q, LA X W (n + 1) (fun E σ S Q => fa E σ S fun d S1 => fr E σ S1 fun ds S2 => Q (d :: ds) S2) σ H Q → tCons (LE X W fa) (LA X W n fr) σ H Q := by
  rintro σ H Q ⟨σd, S, Qd, E, rn, rs, h, p, xp⟩
  refine ⟨σd, S, _, E, rn, rs, h, fun v H1 x S1 e1 rx rs1 h1 => ⟨σd, S1, _, E, rn.ext e1, rs1, h1, fun vs H2 ds S2 e2 hl rd rs2 h2 => ?_, xp.ext e1⟩, xp⟩
  exact p (v :: vs) H2 (x :: ds) S2 (e1.trans e2) (by rw [List.length_cons, hl]) (.cons (rx.ext e2) rd) rs2 h2
/-- a list of parts, then what is done with their values -/
theorem LE.args {n : Nat} {fs : XS → En → Sto → (List D → Sto → Prop) → Prop} {R : XS → List D → Sto → DK → Prop} {r : L2.St → List V → Hp → VK → Prop}
    (hr : ∀ σ vs H Q, (∃ ds S Qd E, RS X.K H S ∧ vs.length = n ∧ Rvs X.K H ds vs ∧ R E ds S Qd ∧ Post X.K H Qd Q ∧ XP X W E σ H) → r σ vs H Q) :
    ∀ σ H Q, LE X W (fun E σ S Q => fs E σ S fun ds S1 => R E ds S1 Q) σ H Q → LA X W n fs σ H fun vs H1 => r σ vs H1 Q := by
  rintro σ H Q ⟨σd, S, Qd, E, rn, rs, h, p, xp⟩
  refine ⟨σd, S, _, E, rn, rs, h, fun vs H1 ds S1 e1 hl rd rs1 h1 => ?_, xp⟩
  exact hr σ _ _ _ ⟨ds, S1, Qd, E, rs1, hl, rd, h1, fun v' H' d S' e => p v' H' d S' (e1.trans e), xp.ext e1⟩
end
end Ev

/-! A form that passes the check says what the text does: expressions. -/
namespace Ev
open PySem PySem.Spec PyProof.Rows L2
section
variable (G : Gl0) (C : CallS)
def OkE (ie : IE) : Prop := ∀ (X : Cx) (W : WX) (A : Sc), Good G C X W A → ∀ e, chkE A ie e = true → PE X e (LE X W fun E => semE G C E ie)
def OkEs (ies : IEs) : Prop := ∀ (X : Cx) (W : WX) (A : Sc), Good G C X W A → ∀ es, chkEs A ies es = true → PA X es (LA X W es.length fun E => semEs G C E ies)
def OkO (io : IO) : Prop := ∀ (X : Cx) (W : WX) (A : Sc), Good G C X W A → ∀ o, chkO A io o = true → PO X o (LO X W fun E => semO G C E io)
def OkC (ic : IC) : Prop := ∀ (X : Cx) (W : WX) (A : Sc), Good G C X W A → ∀ e, chkC A ic e = true → PT X e (LT X W fun E => semC G C E ic)
end
section
variable {G : Gl0} {C : CallS}
theorem ok_var (i : Nat) : OkE G C (.var i) := by
  intro X W A g e h
  unfold chkE at h
  split at h
  · obtain ⟨h1, h2, h3, h4⟩ := vis_of g.hN g.sc h
    refine (pe_var h1 h2 h3 h4).imp ?_
    rintro σ H Q ⟨σd, S, Qd, E, rn, rs, h, p, xp⟩
    simp only [semE] at h
    split at h
    · rename_i d e
      obtain ⟨v, q1, q2⟩ := rn.gt e
      exact ⟨v, q1, p v H d S (Ext.refl H) q2 rs h⟩
    · exact h.elim
  · cases h
theorem ok_int (i : Int) : OkE G C (.int i) := by
  intro X W A g e h
  unfold chkE at h
  split at h
  · have e := of_decide_eq_true h
    subst e
    refine pe_int.imp ?_
    rintro σ H Q ⟨σd, S, Qd, E, rn, rs, h, p, xp⟩
    exact p _ H _ S (Ext.refl H) (.int _) rs h
  · cases h
theorem ok_bl (i : Bool) : OkE G C (.bl i) := by
  intro X W A g e h
  unfold chkE at h
  split at h
  · have e := of_decide_eq_true h
    subst e
    refine pe_bl.imp ?_
    rintro σ H Q ⟨σd, S, Qd, E, rn, rs, h, p, xp⟩
    exact p _ H _ S (Ext.refl H) (.bl _) rs h
  · cases h
theorem ok_non : OkE G C .non := by
  intro X W A g e h
  unfold chkE at h
  split at h
  · refine pe_non.imp ?_
    rintro σ H Q ⟨σd, S, Qd, E, rn, rs, h, p, xp⟩
    exact p _ H _ S (Ext.refl H) .non rs h
  · cases h
theorem ok_str (i : Str) : OkE G C (.str i) := by
  intro X W A g e h
  unfold chkE at h
  split at h
  · have e := of_decide_eq_true h
    subst e
    refine pe_str.imp ?_
    rintro σ H Q ⟨σd, S, Qd, E, rn, rs, h, p, xp⟩
    exact p _ H _ S (Ext.refl H) (.str _) rs h
  · cases h
theorem ok_glo (i : Str) : OkE G C (.glo i) := by
  intro X W A g e h
  unfold chkE at h
  split at h
  · simp only [Bool.and_eq_true, decide_eq_true_eq] at h
    obtain ⟨⟨h1, h2⟩, h3⟩ := h
    subst h1
    obtain ⟨q1, q2⟩ := glb_of g.sc h2
    obtain ⟨d, u, v, c1, c2, c3, c4⟩ := g.cst _ h3
    refine (pe_glob q1 c2 c3 q2).imp ?_
    rintro σ H Q ⟨σd, S, Qd, E, rn, rs, h, p, xp⟩
    simp only [semE, c1] at h
    exact p _ H _ S (Ext.refl H) (c4 H) rs h
  · cases h
theorem ok_tup {es : IEs} (ih : OkEs G C es) : OkE G C (.tup es) := by
  intro X W A g e h
  unfold chkE at h
  split at h
  · simp only [Bool.and_eq_true, decide_eq_true_eq] at h
    refine (pe_tup (ih X W A g _ h.1)).imp ?_
    refine LE.args (R := fun E ds S Q => Q (.tup ds) S) (r := fun σ vs H Q => vs.length ≤ sizeLine ∧ ∀ p, H p = none → Q (.ref p) (upd H p (.tup vs))) ?_
    rintro σ vs H Q ⟨ds, S, Qd, E, rs, hl, rd, h1, p, xp⟩
    exact ⟨Nat.le_of_lt (small1000 (by rw [hl]; exact h.2)), p.tup rs rd h1⟩
  · cases h
theorem ok_lst {es : IEs} (ih : OkEs G C es) : OkE G C (.lst es) := by
  intro X W A g e h
  unfold chkE at h
  split at h
  · simp only [Bool.and_eq_true, decide_eq_true_eq] at h
    refine (pe_lst (ih X W A g _ h.1)).imp ?_
    refine LE.args (R := fun E ds S Q => ∀ a, S a = none → Q (.ref a) (put S a (.lst ds))) (r := fun σ vs H Q => vs.length ≤ sizeLine ∧ ∀ p, H p = none → Q (.ref p) (upd H p (.lst vs))) ?_
    rintro σ vs H Q ⟨ds, S, Qd, E, rs, hl, rd, h1, p, xp⟩
    exact ⟨Nat.le_of_lt (small1000 (by rw [hl]; exact h.2)), p.lst rs rd h1⟩
  · cases h
theorem ok_bin {op : Operator} {a b : IE} (iha : OkE G C a) (ihb : OkE G C b) : OkE G C (.bin op a b) := by
  intro X W A g e h
  unfold chkE at h
  split at h
  · simp only [Bool.and_eq_true, decide_eq_true_eq] at h
    obtain ⟨⟨h1, h2⟩, h3⟩ := h
    subst h1
    exact (pe_op (bin_ok (fun z pins σ H s I => (g.py z).room I) op) (iha X W A g _ h2) (ihb X W A g _ h3)).imp (LE.bin fun v w H Q z => z)
  · cases h
theorem ok_neg {a : IE} (iha : OkE G C a) : OkE G C (.neg a) := by
  intro X W A g e h
  unfold chkE at h
  split at h
  · refine (pe_un un_neg (iha X W A g _ h)).imp ?_
    rintro σ H Q ⟨σd, S, Qd, E, rn, rs, h, p, xp⟩
    refine ⟨σd, S, _, E, rn, rs, h, fun v H1 x S1 e1 rx rs1 h1 => ?_, xp⟩
    split at h1
    · cases rx
      exact ⟨_, rfl, p _ H1 _ S1 e1 (.int _) rs1 h1⟩
    · exact h1.elim
  · cases h
theorem ok_cmp {op : CmpOp} {a b : IE} (iha : OkE G C a) (ihb : OkE G C b) : OkE G C (.cmp op a b) := by
  intro X W A g e h
  unfold chkE at h
  split at h
  · simp only [Bool.and_eq_true, decide_eq_true_eq] at h
    obtain ⟨⟨h1, h2⟩, h3⟩ := h
    subst h1
    exact (pe_cmpR (cmpR_ok (Nat.lt_of_succ_lt g.hu) op) (iha X W A g _ h2) (ihb X W A g _ h3) (mark_ok h3)).imp LE.cmp
  · cases h
theorem LE.chain {X : Cx} {W : WX} {fa fb fc : FE} {op op2 : CmpOp} : ∀ σ H Q, LE X W (fun E σ S Q => fa E σ S fun x S1 => fb E σ S1 fun y S2 => cmpS op x y S2 fun k =>
      if k = true then fc E σ S2 fun z S3 => cmpS op2 y z S3 fun k2 => Q (.bl k2) S3 else Q (.bl false) S2) σ H Q → tChain (RC X.K op) (RC X.K op2) (LE X W fa) (LE X W fb) (LE X W fc) σ H Q := by
  rintro σ H Q ⟨σd, S, Qd, E, rn, rs, h, p, xp⟩
  refine ⟨σd, S, _, E, rn, rs, h, fun v H1 x S1 e1 rx rs1 h1 => ⟨σd, S1, _, E, rn.ext e1, rs1, h1, fun w H2 y S2 e2 ry rs2 h2 => ?_, xp.ext e1⟩, xp⟩
  refine ⟨x, y, S2, _, rs2, rx.ext e2, ry, h2, fun k hk => ⟨k, rfl, ?_⟩⟩
  cases k with
  | true =>
    have hk : fc E σd S2 _ := hk
    refine ⟨σd, S2, _, E, rn.ext (e1.trans e2), rs2, hk, fun u H3 z S3 e3 rz rs3 h3 => ?_, xp.ext (e1.trans e2)⟩
    exact ⟨y, z, S3, _, rs3, ry.ext e3, rz, h3, fun k hk => p _ H3 _ S3 ((e1.trans e2).trans e3) (.bl k) rs3 hk⟩
  | false =>
    have hk : Qd (.bl false) S2 := hk
    exact p _ H2 _ S2 (e1.trans e2) (.bl false) rs2 hk
theorem ok_chn {op op2 : CmpOp} {a b c : IE} (iha : OkE G C a) (ihb : OkE G C b) (ihc : OkE G C c) : OkE G C (.chn op op2 a b c) := by
  intro X W A g e h
  unfold chkE at h
  split at h
  · simp only [Bool.and_eq_true, decide_eq_true_eq] at h
    obtain ⟨⟨⟨⟨h1, h2⟩, h3⟩, h4⟩, h5⟩ := h
    subst h1
    subst h2
    have hu := Nat.lt_of_succ_lt g.hu
    exact (pe_chain (cmpR_ok hu op) (cmpR_ok hu op2) (iha X W A g _ h3) (ihb X W A g _ h4) (ihc X W A g _ h5) (marks_ok h5)).imp LE.chain
  · cases h
theorem ok_and {a b : IE} (iha : OkE G C a) (ihb : OkE G C b) : OkE G C (.and a b) := by
  intro X W A g e h
  unfold chkE at h
  split at h
  · simp only [Bool.and_eq_true] at h
    refine (pe_andT (iha X W A g _ h.1) (ihb X W A g _ h.2)).imp ?_
    rintro σ H Q ⟨σd, S, Qd, E, rn, rs, h, p, xp⟩
    refine ⟨σd, S, _, E, rn, rs, h, fun v H1 x S1 e1 rx rs1 h1 => ?_, xp⟩
    obtain ⟨k, k1, k2⟩ := tru_rel rs1 rx h1
    refine ⟨k, k1, ?_⟩
    cases k with
    | true => exact ⟨σd, S1, Qd, E, rn.ext e1, rs1, k2, fun v H' d S' e => p v H' d S' (e1.trans e), xp.ext e1⟩
    | false => exact p v H1 x S1 e1 rx rs1 k2
  · cases h
theorem ok_or {a b : IE} (iha : OkE G C a) (ihb : OkE G C b) : OkE G C (.or a b) := by
  intro X W A g e h
  unfold chkE at h
  split at h
  · simp only [Bool.and_eq_true] at h
    refine (pe_orT (iha X W A g _ h.1) (ihb X W A g _ h.2)).imp ?_
    rintro σ H Q ⟨σd, S, Qd, E, rn, rs, h, p, xp⟩
    refine ⟨σd, S, _, E, rn, rs, h, fun v H1 x S1 e1 rx rs1 h1 => ?_, xp⟩
    obtain ⟨k, k1, k2⟩ := tru_rel rs1 rx h1
    refine ⟨k, k1, ?_⟩
    cases k with
    | false => exact ⟨σd, S1, Qd, E, rn.ext e1, rs1, k2, fun v H' d S' e => p v H' d S' (e1.trans e), xp.ext e1⟩
    | true => exact p v H1 x S1 e1 rx rs1 k2
  · cases h
theorem ok_one {a : IE} (iha : OkE G C a) : OkE G C (.one a) := by
  intro X W A g e h
  unfold chkE at h
  split at h
  · exact (pe_one (iha X W A g _ h)).imp fun σ H Q z => z
  · cases h
theorem ok_not {a : IE} (iha : OkE G C a) : OkE G C (.not a) := by
  intro X W A g e h
  unfold chkE at h
  split at h
  · refine (pe_notT (iha X W A g _ h)).imp ?_
    rintro σ H Q ⟨σd, S, Qd, E, rn, rs, h, p, xp⟩
    refine ⟨σd, S, _, E, rn, rs, h, fun v H1 x S1 e1 rx rs1 h1 => ?_, xp⟩
    obtain ⟨k, k1, k2⟩ := tru_rel rs1 rx h1
    exact ⟨k, k1, p _ H1 _ S1 e1 (.bl _) rs1 k2⟩
  · cases h
theorem ok_ifx {c : IC} {a b : IE} (ihc : OkC G C c) (iha : OkE G C a) (ihb : OkE G C b) : OkE G C (.ifx c a b) := by
  intro X W A g e h
  unfold chkE at h
  split at h
  · simp only [Bool.and_eq_true] at h
    refine (pe_ifExp (ihc X W A g _ h.1.1) (iha X W A g _ h.1.2) (ihb X W A g _ h.2)).imp ?_
    rintro σ H Q ⟨σd, S, Qd, E, rn, rs, h, p, xp⟩
    refine ⟨σd, S, _, E, rn, rs, h, fun k H1 S1 e1 rs1 h1 => ?_, xp⟩
    cases k with
    | true => exact ⟨σd, S1, Qd, E, rn.ext e1, rs1, h1, fun v H' d S' e => p v H' d S' (e1.trans e), xp.ext e1⟩
    | false => exact ⟨σd, S1, Qd, E, rn.ext e1, rs1, h1, fun v H' d S' e => p v H' d S' (e1.trans e), xp.ext e1⟩
  · cases h
theorem ok_idx {a i : IE} (iha : OkE G C a) (ihi : OkE G C i) : OkE G C (.idx a i) := by
  intro X W A g e h
  unfold chkE at h
  split at h
  · simp only [Bool.and_eq_true] at h
    exact (pe_ix idx_ok (iha X W A g _ h.1) (ihi X W A g _ h.2) (ix_ok (chkE_nsl h.2))).imp (LE.bin fun v w H Q z => z)
  · cases h
theorem ok_slc {a : IE} {lo hi : IO} (iha : OkE G C a) (ihl : OkO G C lo) (ihh : OkO G C hi) : OkE G C (.slc a lo hi) := by
  intro X W A g e h
  unfold chkE at h
  split at h
  · simp only [Bool.and_eq_true] at h
    refine (pe_slice slc_ok (iha X W A g _ h.1.1) (ihl X W A g _ h.1.2) (ihh X W A g _ h.2)).imp ?_
    rintro σ H Q ⟨σd, S, Qd, E, rn, rs, h, p, xp⟩
    refine ⟨σd, S, _, E, rn, rs, h, fun v H1 x S1 e1 rx rs1 h1 => ⟨σd, S1, _, E, rn.ext e1, rs1, h1, fun l H2 S2 e2 rs2 h2 => ⟨σd, S2, _, E, rn.ext (e1.trans e2), rs2, h2, fun u H3 S3 e3 rs3 h3 => ?_, xp.ext (e1.trans e2)⟩, xp.ext e1⟩, xp⟩
    exact ⟨x, S3, Qd, rs3, rx.ext (e2.trans e3), h3, fun v' H' d S' e => p v' H' d S' (((e1.trans e2).trans e3).trans e)⟩
  · cases h
theorem ok_call {f : Str} {es : IEs} (ih : OkEs G C es) : OkE G C (.call f es) := by
  intro X W A g e h
  unfold chkE at h
  split at h
  · rename_i x p1 args p2
    simp only [Bool.and_eq_true, decide_eq_true_eq, Bool.not_eq_true'] at h
    obtain ⟨⟨⟨⟨⟨h1, h2⟩, h3⟩, h4⟩, h5⟩, h6⟩ := h
    subst h1
    obtain ⟨q1, q2⟩ := glb_of g.sc h2
    obtain ⟨a, fd, ps, k, m1, m2, m3, m4, m5⟩ := g.fns h4 _ _ h3
    cases args with
    | nil => cases h6
    | cons e0 er =>
      have hp := ih X W A g _ h5
      have hst := chkEs_star (env := X.env) h5
      cases es with
      | nil => cases h5
      | cons ie0 ier =>
      simp only [chkEs, Bool.and_eq_true] at h5
      have hs := star_cons (es := er) (env := X.env) (chkE_nst h5.1)
      have ht := (chkEs_star (env := X.env) h5.2).1
      refine (pe_callSD (E := WE W) m5 m4 q1 m1 m2 m3 .nil (fun σ => passAt g.tk σ) hp q2 hs (back_any ht)).imp ?_
      refine LE.args (R := fun E ds S Q => C x ds S Q E) (r := fun σ vs H Q => LF X.K X.mg C x (vs ++ []) H Q (WE W σ)) ?_
      rintro σ vs H Q ⟨ds, S, Qd, E, rs, hl, rd, h1, p, xp⟩
      rw [List.append_nil]
      exact ⟨ds, S, Qd, E, rd, rs, h1, p, xp⟩
  · cases h
theorem boot_bi : ∀ b : Bi, b ≠ .gcd → bootBuiltins (biNm b) = some (biV b)
  | .len, _ => by decide +kernel
  | .abs, _ => by decide +kernel
  | .int, _ => by decide +kernel
  | .min2, _ => by decide +kernel
  | .max2, _ => by decide +kernel
  | .tuple, _ => by decide +kernel
  | .list, _ => by decide +kernel
  | .gcd, h => absurd rfl h
theorem boot_ty : ∀ t : Ty, (match t with | .own _ => false | _ => true) = true → bootBuiltins (tyNm t) = some (tyV1 t)
  | .int, _ => by decide +kernel
  | .bool, _ => by decide +kernel
  | .str, _ => by decide +kernel
  | .tuple, _ => by decide +kernel
  | .list, _ => by decide +kernel
  | .own _, h => by cases h
theorem ok_bi {b : Bi} {es : IEs} (ih : OkEs G C es) : OkE G C (.bi b es) := by
  intro X W A g e h
  unfold chkE at h
  split at h
  · rename_i x p1 args p2
    simp only [Bool.and_eq_true, decide_eq_true_eq, Bool.not_eq_true'] at h
    obtain ⟨⟨⟨⟨h1, h2⟩, h4⟩, h5⟩, h6⟩ := h
    cases args with
    | nil => cases h6
    | cons e0 er =>
    have hp := ih X W A g _ h5
    cases es with
    | nil => cases h5
    | cons ie0 ier =>
    simp only [chkEs, Bool.and_eq_true] at h5
    have hs := star_cons (es := er) (env := X.env) (chkE_nst h5.1)
    have ht := back_any (pos := p2) (chkEs_star (env := X.env) h5.2).1
    have go : ∀ σ H Q, LE X W (fun E => semE G C E (.bi b (.cons ie0 ier))) σ H Q → tCB (RBi X.K b) (LA X W (e0 :: er).length fun E => semEs G C E (.cons ie0 ier)) σ H Q := by
      refine LE.args (R := fun E ds S Q => biS b ds S Q) (r := fun σ vs H Q => RBi X.K b vs H Q) ?_
      rintro σ vs H Q ⟨ds, S, Qd, E, rs, hl, rd, h1, p, xp⟩
      exact ⟨ds, S, Qd, rs, rd, h1, p⟩
    have hb := bi_ok (X := X) (g.calm h4) b
    have blt : b ≠ .gcd → A.bn x = true := fun z => by cases b <;> first | exact h2 | exact absurd rfl z
    cases b with
    | gcd =>
      simp only [Bool.and_eq_true] at h2
      obtain ⟨q1, q2⟩ := glb_of g.sc h2.1
      subst h1
      exact (pe_callBfun hb q1 (g.gcd h2.2) hp q2 hs ht).imp go
    | len =>
      obtain ⟨q1, q2, q3, q4⟩ := bn_of g (blt (by decide))
      exact (pe_callB hb q1 q3 (by rw [h1]; exact boot_bi _ (by decide)) hp q4 q2 hs ht).imp go
    | abs =>
      obtain ⟨q1, q2, q3, q4⟩ := bn_of g (blt (by decide))
      exact (pe_callB hb q1 q3 (by rw [h1]; exact boot_bi _ (by decide)) hp q4 q2 hs ht).imp go
    | min2 =>
      obtain ⟨q1, q2, q3, q4⟩ := bn_of g (blt (by decide))
      exact (pe_callB hb q1 q3 (by rw [h1]; exact boot_bi _ (by decide)) hp q4 q2 hs ht).imp go
    | max2 =>
      obtain ⟨q1, q2, q3, q4⟩ := bn_of g (blt (by decide))
      exact (pe_callB hb q1 q3 (by rw [h1]; exact boot_bi _ (by decide)) hp q4 q2 hs ht).imp go
    | int =>
      obtain ⟨q1, q2, q3, q4⟩ := bn_of g (blt (by decide))
      exact (pe_callTy hb q1 q3 (by rw [h1]; exact boot_bi _ (by decide)) hp q4 q2 hs ht).imp go
    | tuple =>
      obtain ⟨q1, q2, q3, q4⟩ := bn_of g (blt (by decide))
      exact (pe_callTy hb q1 q3 (by rw [h1]; exact boot_bi _ (by decide)) hp q4 q2 hs ht).imp go
    | list =>
      obtain ⟨q1, q2, q3, q4⟩ := bn_of g (blt (by decide))
      exact (pe_callTy hb q1 q3 (by rw [h1]; exact boot_bi _ (by decide)) hp q4 q2 hs ht).imp go
  · cases h
end
end Ev

/-! A form that passes the check says what the text does: isinstance, methods, what is walked, comprehensions. -/
namespace Ev
open PySem PySem.Spec PyProof.Rows L2
def tyS : Ty → String
  | .int => "int"
  | .bool => "bool"
  | .str => "str"
  | .tuple => "tuple"
  | .list => "list"
  | .own _ => ""
theorem tyV1_S {t : Ty} (h : (match t with | .own _ => false | _ => true) = true) : tyV1 t = .type (tyS t) := by
  cases t <;> first | rfl | cases h
theorem boot_isi : bootBuiltins "isinstance" = some (.builtin "isinstance") := by decide +kernel
section
variable {G : Gl0} {C : CallS} {X : Cx} {W : WX} {A : Sc}
theorem ty1_pe (g : Good G C X W A) {t : Ty} {e : Expr} (h : A.ty1 t e = true) : PE X e (tC (.ty (tyS t))) ∧ nst e = true ∧ tyV1 t = .type (tyS t) := by
  unfold Sc.ty1 at h
  split at h
  · simp only [Bool.and_eq_true, decide_eq_true_eq] at h
    obtain ⟨⟨h1, h2⟩, h3⟩ := h
    obtain ⟨q1, q2, q3, q4⟩ := bn_of g h2
    have q5 := tyV1_S h3
    exact ⟨pe_bltn q1 q3 (by rw [h1, boot_ty t h3, q5]) rfl q4 q2, rfl, q5⟩
  · cases h
theorem tys_pa (g : Good G C X W A) : ∀ {ts : List Ty} {es : List Expr}, A.tys ts es = true → PA X es (fun _ H Q => Q (ts.map fun t => V.ty (tyS t)) H) ∧ (ts.map tyV1 = ts.map fun t => Value.type (tyS t)) ∧ es.length = ts.length
  | [], [], _ => ⟨pa_nil, rfl, rfl⟩
  | [], _ :: _, h => by cases h
  | _ :: _, [], h => by cases h
  | t :: r, e :: es, h => by
    unfold Sc.tys at h
    simp only [Bool.and_eq_true] at h
    obtain ⟨p1, p2, p3⟩ := ty1_pe g h.1
    obtain ⟨q1, q2, q3⟩ := tys_pa g h.2
    exact ⟨(pa_cons p1 q1 (star_cons p2)), by rw [List.map_cons, List.map_cons, p3, q2], by rw [List.length_cons, List.length_cons, q3]⟩
theorem cls_all : ∀ ts : List Ty, Paired ClsV (ts.map fun t => V.ty (tyS t)) (ts.map fun t => Value.type (tyS t))
  | [] => .nil
  | _ :: r => .cons (.ty _) (cls_all r)
theorem isTs_one {S : Sto} {x : D} {t : Ty} {k : Bool} (h : isTs S x [t] = some k) : isT S x t = some k := by
  unfold isTs at h
  split at h
  · rename_i e; cases h; exact e
  · rename_i e; cases h; exact e
  · cases h
theorem ok_isi {a : IE} {ts : List Ty} (iha : OkE G C a) : OkE G C (.isi a ts) := by
  intro X W A g e h
  unfold chkE at h
  split at h
  · rename_i x p1 y t p2
    simp only [Bool.and_eq_true, decide_eq_true_eq] at h
    obtain ⟨⟨⟨h1, h2⟩, h3⟩, h4⟩ := h
    obtain ⟨q1, q2, q3, q4⟩ := bn_of g h2
    have hy := iha X W A g _ h3
    have hs : ∀ l, starEach (y :: l) X.env = (false, eval y X.env) :: starEach l X.env := fun l => star_cons (chkE_nst h3)
    split at h4
    · rename_i xs kk pp
      simp only [Bool.and_eq_true, decide_eq_true_eq, Bool.not_eq_true'] at h4
      obtain ⟨⟨h5, h6⟩, h7⟩ := h4
      obtain ⟨r1, r2, r3⟩ := tys_pa g h5
      refine (pe_callB call_isiT q1 q3 (by rw [h1]; exact boot_isi) (pa_cons hy (pa_cons (pe_tup r1) pa_nil rfl) (hs _)) q4 q2 (hs _) rfl).imp ?_
      rintro σ H Q ⟨σd, S, Qd, E, rn, rs, h, p, xp⟩
      refine ⟨σd, S, _, E, rn, rs, h, fun v H1 x' S1 e1 rx rs1 h1' => ?_, xp⟩
      have h1' : (match isTs S1 x' ts with | some k => Qd (.bl k) S1 | none => False) := h1'
      split at h1'
      · rename_i k ek
        obtain ⟨k1, k2⟩ := isTs_kit (K := X.K) ek
        have tn : ts ≠ [] := fun z => by
          rw [z] at r3
          cases xs with
          | nil => cases h6
          | cons _ _ => cases r3
        refine ⟨Nat.le_of_lt (small1000 (by rw [List.length_map, ← r3]; exact h7)), fun tp np => ?_⟩
        refine ⟨v, tp, _, .type (tyD x'), ts.map fun t => Value.type (tyS t), k, rfl, upd_same, ?_, ?_, by rw [← r2]; exact k1, ?_⟩
        · exact cls_all ts
        · exact tyD_ok (rs1.new np) (Rv.ext (Ext.new np) rx) (k2 tn)
        · exact p _ _ (.bl k) S1 (e1.trans (Ext.new np)) (.bl k) (rs1.new np) h1'
      · exact h1'.elim
    · split at h4
      · rename_i t1
        obtain ⟨r1, r2, r3⟩ := ty1_pe g h4
        refine (pe_callB call_isi q1 q3 (by rw [h1]; exact boot_isi) (pa_cons hy (pa_cons r1 pa_nil (star_cons r2)) (hs _)) q4 q2 (hs _) (by rw [star_cons r2] <;> rfl)).imp ?_
        rintro σ H Q ⟨σd, S, Qd, E, rn, rs, h, p, xp⟩
        refine ⟨σd, S, _, E, rn, rs, h, fun v H1 x' S1 e1 rx rs1 h1' => ?_, xp⟩
        have h1' : (match isTs S1 x' [t1] with | some k => Qd (.bl k) S1 | none => False) := h1'
        split at h1'
        · rename_i k ek
          obtain ⟨k1, k2, k3⟩ := isT_kit (K := X.K) (isTs_one ek)
          exact ⟨v, _, .type (tyD x'), .type (tyS t1), k, rfl, .ty _, tyD_ok rs1 rx k2, by rw [← r3]; exact k1, p _ H1 (.bl k) S1 e1 (.bl k) rs1 h1'⟩
        · exact h1'.elim
      · cases h4
  · cases h

/-! ### methods -/
theorem slot_me : ∀ m : Me, Slot "list" (meNm m) (meId m) ∧ typeOf (.builtin (meId m)) = pure (.type "method_descriptor")
  | .append => ⟨PySem.F.slot_list_append, PySem.F.type_list_append⟩
  | .pop => ⟨PySem.F.slot_list_pop, PySem.F.type_list_pop⟩
  | .popat => ⟨PySem.F.slot_list_pop, PySem.F.type_list_pop⟩
  | .reverse => ⟨PySem.F.slot_list_reverse, PySem.F.type_list_reverse⟩
theorem ok_mth {m : Me} {o : IE} {es : IEs} (iho : OkE G C o) (ih : OkEs G C es) : OkE G C (.mth m o es) := by
  intro X W A g e h
  unfold chkE at h
  split at h
  · rename_i x nm ap args cp
    simp only [Bool.and_eq_true, decide_eq_true_eq] at h
    obtain ⟨⟨⟨⟨⟨h1, h2⟩, h3⟩, h4⟩, h5⟩, h6⟩ := h
    subst h1
    have ho := iho X W A g _ h2
    have hp := ih X W A g _ h4
    obtain ⟨s1, s2⟩ := slot_me m
    have ty : ∀ {H : Hp} {S : Sto} {x : D} {v : V}, RS X.K H S → Rv X.K H x v → mthT m x S → tyV X.K "list" v H := fun {H S x v} rs rx q => by
      unfold mthT at q
      split at q
      · obtain ⟨xs, e⟩ := q
        cases rx
        obtain ⟨vs, h1, _⟩ := rs.lget e
        exact .inl ⟨rfl, vs, h1⟩
      · exact q.elim
    cases args with
    | nil =>
      cases es with
      | cons _ _ => cases h4
      | nil =>
        refine (pe_bm0 PySem.F.plainAttrs_list s1 s2 (mth_ok m) ho (base_ok h3) h6).imp ?_
        rintro σ H Q ⟨σd, S, Qd, E, rn, rs, h, p, xp⟩
        refine ⟨σd, S, _, E, rn, rs, h, fun v H1 x' S1 e1 rx rs1 h1' => ?_, xp⟩
        obtain ⟨t1, h1'⟩ := h1'
        exact ⟨ty rs1 rx t1, x', [], S1, Qd, rs1, rx, .nil, h1', fun v' H' d S' e => p v' H' d S' (e1.trans e)⟩
    | cons e0 er =>
      cases es with
      | nil => cases h4
      | cons ie0 ier =>
      have hst := (chkEs_star (env := X.env) h4)
      have h4' := h4
      simp only [chkEs, Bool.and_eq_true] at h4'
      have hs := star_cons (es := er) (env := X.env) (chkE_nst h4'.1)
      have ht := back_any (pos := cp) (chkEs_star (env := X.env) h4'.2).1
      refine (pe_bm PySem.F.plainAttrs_list s1 s2 (mth_ok m) ho hp (base_ok h3) ?_ h6 hs ht).imp ?_
      · rw [back_all hst.1]
        simp only [Bool.true_and, Bool.and_eq_true, decide_eq_true_eq]
        refine ⟨rfl, ?_⟩
        simp only [List.length_cons, List.length_nil, List.isEmpty_nil, if_true] at h5 ⊢
        omega
      · rintro σ H Q ⟨σd, S, Qd, E, rn, rs, h, p, xp⟩
        refine ⟨σd, S, _, E, rn, rs, h, fun v H1 x' S1 e1 rx rs1 h1' => ?_, xp⟩
        obtain ⟨t1, h1'⟩ := h1'
        refine ⟨ty rs1 rx t1, σd, S1, _, E, rn.ext e1, rs1, h1', fun vs H2 ds S2 e2 hl rd rs2 h2 => ?_, xp.ext e1⟩
        exact ⟨x', ds, S2, Qd, rs2, rx.ext e2, rd, h2, fun v' H' d S' e => p v' H' d S' ((e1.trans e2).trans e)⟩
  · cases h
theorem ok_nil : OkEs G C .nil := by
  intro X W A g es h
  cases es with
  | nil => exact pa_nil.imp LA.nil
  | cons _ _ => cases h
theorem ok_cons {e : IE} {r : IEs} (ihe : OkE G C e) (ihr : OkEs G C r) : OkEs G C (.cons e r) := by
  intro X W A g es h
  cases es with
  | nil => cases h
  | cons x t =>
    simp only [chkEs, Bool.and_eq_true] at h
    exact (pa_cons (ihe X W A g _ h.1) (ihr X W A g _ h.2) (star_cons (chkE_nst h.1))).imp LA.cons
theorem ok_ono : OkO G C .no := by
  intro X W A g o h
  cases o with
  | none =>
    refine po_none.imp ?_
    rintro σ H Q ⟨σd, S, Qd, E, rn, rs, h, p, xp⟩
    exact p none H S (Ext.refl H) rs h
  | some _ => cases h
theorem ok_osome {e : IE} (ihe : OkE G C e) : OkO G C (.some e) := by
  intro X W A g o h
  cases o with
  | none => cases h
  | some x =>
    refine (po_some (ihe X W A g _ h)).imp ?_
    rintro σ H Q ⟨σd, S, Qd, E, rn, rs, h, p, xp⟩
    refine ⟨σd, S, _, E, rn, rs, h, fun v H1 x S1 e1 rx rs1 h1 => ?_, xp⟩
    split at h1
    · cases rx
      exact ⟨_, rfl, p _ H1 S1 e1 rs1 h1⟩
    · exact h1.elim

/-! ### tests -/
theorem pw_bool {op : BoolOp} {vs : List Expr} {p : Pos} {t : TT} (h : PT X (.BoolOp op vs p) t) : PW X (.BoolOp op vs p) t := ⟨fun wh pins s σ H Q I q => h.run pins s σ H Q I q⟩
theorem ok_cand {a b : IC} (iha : OkC G C a) (ihb : OkC G C b) : OkC G C (.and a b) := by
  intro X W A g e h
  unfold chkC at h
  split at h
  · simp only [Bool.and_eq_true] at h
    refine (pw_and (iha X W A g _ h.1) (pw_bool (ihb X W A g _ h.2))).pt.imp ?_
    rintro σ H Q ⟨σd, S, Qd, E, rn, rs, h, p, xp⟩
    refine ⟨σd, S, _, E, rn, rs, h, fun k H1 S1 e1 rs1 h1 => ?_, xp⟩
    cases k with
    | true => exact ⟨σd, S1, Qd, E, rn.ext e1, rs1, h1, fun v H' S' e => p v H' S' (e1.trans e), xp.ext e1⟩
    | false => exact p false H1 S1 e1 rs1 h1
  · cases h
theorem ok_cor {a b : IC} (iha : OkC G C a) (ihb : OkC G C b) : OkC G C (.or a b) := by
  intro X W A g e h
  unfold chkC at h
  split at h
  · simp only [Bool.and_eq_true] at h
    refine (pw_or (iha X W A g _ h.1) (pw_bool (ihb X W A g _ h.2))).pt.imp ?_
    rintro σ H Q ⟨σd, S, Qd, E, rn, rs, h, p, xp⟩
    refine ⟨σd, S, _, E, rn, rs, h, fun k H1 S1 e1 rs1 h1 => ?_, xp⟩
    cases k with
    | false => exact ⟨σd, S1, Qd, E, rn.ext e1, rs1, h1, fun v H' S' e => p v H' S' (e1.trans e), xp.ext e1⟩
    | true => exact p true H1 S1 e1 rs1 h1
  · cases h
theorem ok_cone {a : IC} (iha : OkC G C a) : OkC G C (.one a) := by
  intro X W A g e h
  unfold chkC at h
  split at h
  · rename_i op x p
    cases op with
    | And => exact (pw_and1 (iha X W A g _ h)).pt.imp fun σ H Q z => z
    | Or => exact (pw_or1 (iha X W A g _ h)).pt.imp fun σ H Q z => z
  · cases h
theorem ok_cnot {a : IC} (iha : OkC G C a) : OkC G C (.not a) := by
  intro X W A g e h
  unfold chkC at h
  split at h
  · refine (pt_not (iha X W A g _ h)).imp ?_
    rintro σ H Q ⟨σd, S, Qd, E, rn, rs, h, p, xp⟩
    exact ⟨σd, S, _, E, rn, rs, h, fun k H1 S1 e1 rs1 h1 => p _ H1 S1 e1 rs1 h1, xp⟩
  · cases h
theorem ok_ccmp {op : CmpOp} {a b : IE} (iha : OkE G C a) (ihb : OkE G C b) : OkC G C (.cmp op a b) := by
  intro X W A g e h
  unfold chkC at h
  split at h
  · simp only [Bool.and_eq_true, decide_eq_true_eq] at h
    obtain ⟨⟨h1, h2⟩, h3⟩ := h
    subst h1
    exact (pt_cmpR (cmpR_ok (Nat.lt_of_succ_lt g.hu) op) (iha X W A g _ h2) (ihb X W A g _ h3) (mark_ok h3)).imp LT.cmp
  · cases h
theorem LT.chain {fa fb fc : FE} {op op2 : CmpOp} : ∀ σ H Q, LT X W (fun E σ S Q => fa E σ S fun x S1 => fb E σ S1 fun y S2 => cmpS op x y S2 fun k =>
      if k = true then fc E σ S2 fun z S3 => cmpS op2 y z S3 fun k2 => Q k2 S3 else Q false S2) σ H Q → tTest (tChain (RC X.K op) (RC X.K op2) (LE X W fa) (LE X W fb) (LE X W fc)) σ H Q := by
  rintro σ H Q ⟨σd, S, Qd, E, rn, rs, h, p, xp⟩
  refine ⟨σd, S, _, E, rn, rs, h, fun v H1 x S1 e1 rx rs1 h1 => ⟨σd, S1, _, E, rn.ext e1, rs1, h1, fun w H2 y S2 e2 ry rs2 h2 => ?_, xp.ext e1⟩, xp⟩
  refine ⟨x, y, S2, _, rs2, rx.ext e2, ry, h2, fun k hk => ⟨k, rfl, ?_⟩⟩
  cases k with
  | true =>
    have hk : fc E σd S2 _ := hk
    refine ⟨σd, S2, _, E, rn.ext (e1.trans e2), rs2, hk, fun u H3 z S3 e3 rz rs3 h3 => ?_, xp.ext (e1.trans e2)⟩
    exact ⟨y, z, S3, _, rs3, ry.ext e3, rz, h3, fun k hk => ⟨k, rfl, p _ H3 S3 ((e1.trans e2).trans e3) rs3 hk⟩⟩
  | false =>
    have hk : Qd false S2 := hk
    exact ⟨false, rfl, p _ H2 S2 (e1.trans e2) rs2 hk⟩
theorem ok_cchn {op op2 : CmpOp} {a b c : IE} (iha : OkE G C a) (ihb : OkE G C b) (ihc : OkE G C c) : OkC G C (.chn op op2 a b c) := by
  intro X W A g e h
  unfold chkC at h
  split at h
  · simp only [Bool.and_eq_true, decide_eq_true_eq] at h
    obtain ⟨⟨⟨⟨h1, h2⟩, h3⟩, h4⟩, h5⟩ := h
    subst h1
    subst h2
    have hu := Nat.lt_of_succ_lt g.hu
    exact (pt_chain (cmpR_ok hu op) (cmpR_ok hu op2) (iha X W A g _ h3) (ihb X W A g _ h4) (ihc X W A g _ h5) (marks_ok h5)).imp LT.chain
  · cases h
theorem ok_cv {a : IE} (iha : OkE G C a) : OkC G C (.v a) := by
  intro X W A g e h
  unfold chkC at h
  simp only [Bool.and_eq_true] at h
  refine (pt_truth (iha X W A g _ h.1) (plt_ok h.2)).imp ?_
  rintro σ H Q ⟨σd, S, Qd, E, rn, rs, h, p, xp⟩
  refine ⟨σd, S, _, E, rn, rs, h, fun v H1 x S1 e1 rx rs1 h1 => ?_, xp⟩
  obtain ⟨k, k1, k2⟩ := tru_rel rs1 rx h1
  exact ⟨k, k1, p k H1 S1 e1 rs1 k2⟩
end
end Ev

/-! A form that passes the check says what the text does: what is walked, targets, comprehensions. -/
namespace Ev
open PySem PySem.Spec PyProof.Rows L2
/-- the iterator of the layer and that of the evaluator -/
def RelIt (K : PySem.W.Frag) (J' : Ev.Itr) (J : L2.It) (H0 : Hp) : Prop := ∀ H S i, Ext H0 H → RS K H S → ∀ (stop : Prop) (go : D → Prop), nxt J' i S stop go →
  (J.stop i H ∧ stop) ∨ (J.go i H ∧ ∀ v H', J.yld i H v H' → Ext H H' ∧ RS K H' S ∧ ∃ d, Rv K H' d v ∧ go d)
section
variable {K : PySem.W.Frag} {H0 : Hp}
theorem Rvs.getN {H : Hp} {ds : List D} {vs : List V} (r : Rvs K H ds vs) {i : Nat} (h : ds[i]? = none) : vs.length ≤ i := by
  rw [← r.length]
  exact List.getElem?_eq_none_iff.mp h
theorem rel_tup {a : Addr} {ds : List D} {vs : List V} (h : SqT K H0 a vs) (r : Rvs K H0 ds vs) : RelIt K (.tup ds) (L2.Itt K a) H0 := by
  intro H S i e rs stop go q
  have r' := Rvs.ext e r
  simp only [nxt] at q
  split at q
  · rename_i d ed
    obtain ⟨v, hv, rv⟩ := r'.get ed
    refine .inr ⟨⟨vs, v, e.sqT h, hv⟩, fun w H' y => ?_⟩
    obtain ⟨y1, y2⟩ := y
    subst y1
    have := y2 vs (e.sqT h)
    rw [hv] at this
    cases this
    exact ⟨Ext.refl _, rs, d, rv, q⟩
  · rename_i ed
    exact .inl ⟨⟨vs, e.sqT h, r'.getN ed⟩, q⟩
theorem rel_rol {a : Addr} {ds : List D} {vs : List V} (h : SqF K H0 a vs) (r : Rvs K H0 ds vs) : RelIt K (.rol ds) (L2.Itl K a) H0 := by
  intro H S i e rs stop go q
  have r' := Rvs.ext e r
  simp only [nxt] at q
  split at q
  · rename_i d ed
    obtain ⟨v, hv, rv⟩ := r'.get ed
    refine .inr ⟨⟨vs, v, (e.sqF h).l, hv⟩, fun w H' y => ?_⟩
    obtain ⟨y1, y2⟩ := y
    subst y1
    have := y2 vs (e.sqF h).l
    rw [hv] at this
    cases this
    exact ⟨Ext.refl _, rs, d, rv, q⟩
  · rename_i ed
    exact .inl ⟨⟨vs, (e.sqF h).l, r'.getN ed⟩, q⟩
theorem rel_lst {a : Addr} : RelIt K (.lst a) (L2.Itl K a) H0 := by
  intro H S i e rs stop go q
  simp only [nxt] at q
  split at q
  · rename_i ds el
    obtain ⟨vs, h, r'⟩ := rs.lget el
    split at q
    · rename_i d ed
      obtain ⟨v, hv, rv⟩ := r'.get ed
      refine .inr ⟨⟨vs, v, h, hv⟩, fun w H' y => ?_⟩
      obtain ⟨y1, y2⟩ := y
      subst y1
      have := y2 vs h
      rw [hv] at this
      cases this
      exact ⟨Ext.refl _, rs, d, rv, q⟩
    · rename_i ed
      exact .inl ⟨⟨vs, h, r'.getN ed⟩, q⟩
  · exact q.elim
theorem rel_rng {lo : Int} {n : Nat} : RelIt K (.rng lo n) (L2.Itr lo n) H0 := by
  intro H S i e rs stop go q
  simp only [nxt] at q
  split at q
  · rename_i hi
    refine .inr ⟨hi, fun w H' y => ?_⟩
    obtain ⟨y1, y2⟩ := y
    subst y1 y2
    exact ⟨Ext.refl _, rs, _, .int _, q⟩
  · rename_i hi
    exact .inl ⟨Nat.le_of_not_lt hi, q⟩
theorem rel_rngc {lo c : Int} {n : Nat} : RelIt K (.rngc lo c n) (L2.Itc lo c n) H0 := by
  intro H S i e rs stop go q
  simp only [nxt] at q
  split at q
  · rename_i hi
    refine .inr ⟨hi, fun w H' y => ?_⟩
    obtain ⟨y1, y2⟩ := y
    subst y1 y2
    exact ⟨Ext.refl _, rs, _, .int _, q⟩
  · rename_i hi
    exact .inl ⟨Nat.le_of_not_lt hi, q⟩
theorem rel_enu {a : Addr} : RelIt K (.enu a) (L2.Ite K a) H0 := by
  intro H S i e rs stop go q
  simp only [nxt] at q
  split at q
  · rename_i ds el
    obtain ⟨vs, h, r'⟩ := rs.lget el
    split at q
    · rename_i d ed
      obtain ⟨v, hv, rv⟩ := r'.get ed
      refine .inr ⟨⟨vs, v, h, hv⟩, fun w H' y => ?_⟩
      obtain ⟨T, x, rfl, nT, rfl, y2⟩ := y
      have := y2 vs h
      rw [hv] at this
      cases this
      refine ⟨Ext.new nT, rs.new nT, _, .tup (.of upd_same) (.cons (.int _) (.cons (Rv.ext (Ext.new nT) rv) .nil)), q⟩
    · rename_i ed
      exact .inl ⟨⟨vs, h, r'.getN ed⟩, q⟩
  · exact q.elim
theorem rel_zip {a b : Addr} : RelIt K (.zip a b) (L2.Itz K a b) H0 := by
  intro H S i e rs stop go q
  simp only [nxt] at q
  split at q
  · rename_i ds es el el2
    obtain ⟨vs, h, r'⟩ := rs.lget el
    obtain ⟨ws, h2, r2'⟩ := rs.lget el2
    split at q
    · rename_i d ed
      obtain ⟨v, hv, rv⟩ := r'.get ed
      split at q
      · rename_i d2 ed2
        obtain ⟨v2, hv2, rv2⟩ := r2'.get ed2
        refine .inr ⟨⟨vs, ws, v, v2, h, h2, hv, hv2⟩, fun w H' y => ?_⟩
        obtain ⟨T, x, y0, rfl, nT, rfl, y2, y3⟩ := y
        have t1 := y2 vs h
        rw [hv] at t1
        cases t1
        have t2 := y3 ws h2
        rw [hv2] at t2
        cases t2
        exact ⟨Ext.new nT, rs.new nT, _, .tup (.of upd_same) (.cons (Rv.ext (Ext.new nT) rv) (.cons (Rv.ext (Ext.new nT) rv2) .nil)), q⟩
      · rename_i ed2
        exact .inl ⟨⟨vs, ws, h, h2, .inr (r2'.getN ed2)⟩, q⟩
    · rename_i ed
      exact .inl ⟨⟨vs, ws, h, h2, .inl (r'.getN ed)⟩, q⟩
  · exact q.elim
theorem rel_zipt {a b : Addr} {ds es : List D} {vs ws : List V} (h : SqT K H0 a vs) (r : Rvs K H0 ds vs) (h2 : SqT K H0 b ws) (r2 : Rvs K H0 es ws) : RelIt K (.tup (zipD ds es)) (RZ.ItzT K a b) H0 := by
  intro H S i e rs stop go q
  have r' := Rvs.ext e r
  have r2' := Rvs.ext e r2
  simp only [nxt, zipD, List.getElem?_zipWith] at q
  cases ed : ds[i]? with
  | none =>
    rw [ed] at q
    exact .inl ⟨⟨vs, ws, e.sqT h, e.sqT h2, .inl (r'.getN ed)⟩, q⟩
  | some d =>
    cases ed2 : es[i]? with
    | none =>
      rw [ed, ed2] at q
      exact .inl ⟨⟨vs, ws, e.sqT h, e.sqT h2, .inr (r2'.getN ed2)⟩, q⟩
    | some d2 =>
      rw [ed, ed2] at q
      have q : go (.tup [d, d2]) := q
      obtain ⟨v, hv, rv⟩ := r'.get ed
      obtain ⟨v2, hv2, rv2⟩ := r2'.get ed2
      refine .inr ⟨⟨vs, ws, v, v2, e.sqT h, e.sqT h2, hv, hv2⟩, fun w H' y => ?_⟩
      obtain ⟨T, x, y0, rfl, nT, rfl, y2, y3⟩ := y
      have t1 := y2 vs (e.sqT h)
      rw [hv] at t1
      cases t1
      have t2 := y3 ws (e.sqT h2)
      rw [hv2] at t2
      cases t2
      exact ⟨Ext.new nT, rs.new nT, _, .tup (.of upd_same) (.cons (Rv.ext (Ext.new nT) rv) (.cons (Rv.ext (Ext.new nT) rv2) .nil)), q⟩
theorem rel_revt {a : Addr} {ds : List D} {vs : List V} (h : SqT K H0 a vs) (r : Rvs K H0 ds vs) : RelIt K (.tup ds.reverse) (RT.ItvT K a vs.length) H0 := by
  intro H S i e rs stop go q
  have r' := Rvs.ext e r
  have hl := r.length
  simp only [nxt] at q
  split at q
  · rename_i d ed
    have hi : i < ds.length := by
      have := (List.getElem?_eq_some_iff.mp ed).1
      rwa [List.length_reverse] at this
    rw [List.getElem?_reverse hi] at ed
    obtain ⟨v, hv, rv⟩ := r'.get ed
    rw [hl] at hv
    refine .inr ⟨⟨by rw [← hl]; exact hi, vs, v, e.sqT h, hv⟩, fun w H' y => ?_⟩
    obtain ⟨y1, y2⟩ := y
    subst y1
    have := y2 vs (e.sqT h)
    rw [hv] at this
    cases this
    exact ⟨Ext.refl _, rs, d, rv, q⟩
  · rename_i ed
    have := List.getElem?_eq_none_iff.mp ed
    rw [List.length_reverse, hl] at this
    exact .inl ⟨this, q⟩
theorem rel_rev {a : Addr} {n : Nat} : RelIt K (.rev a n) (L2.Itv K a n) H0 := by
  intro H S i e rs stop go q
  simp only [nxt] at q
  split at q
  · rename_i ds el
    obtain ⟨vs, h, r'⟩ := rs.lget el
    split at q
    · rename_i hi
      split at q
      · rename_i d ed
        obtain ⟨v, hv, rv⟩ := r'.get ed
        refine .inr ⟨⟨hi, vs, v, h, hv⟩, fun w H' y => ?_⟩
        obtain ⟨y1, y2⟩ := y
        subst y1
        have := y2 vs h
        rw [hv] at this
        cases this
        exact ⟨Ext.refl _, rs, d, rv, q.2⟩
      · exact q.elim
    · rename_i hi
      exact .inl ⟨Nat.le_of_not_lt hi, q⟩
  · exact q.elim
end

def LI (X : Cx) (W : WX) (f : XS → En → Sto → (Ev.Itr → Sto → Prop) → Prop) : TI := fun σ H R => ∃ (σd : En) (S : Sto) (R' : Ev.Itr → Sto → Prop) (E : XS), Rn X.K H σd σ ∧ RS X.K H S ∧ f E σd S R' ∧
  (∀ J J' H' S', Ext H H' → RS X.K H' S' → RelIt X.K J' J H' → R' J' S' → R J H') ∧ XP X W E σ H
theorem _root_.L2.PI.imp {X : Cx} {tg it : Expr} {t t' : TI} (h : PI X tg it t) (i : ∀ σ H Q, t' σ H Q → t σ H Q) : PI X tg it t' := ⟨fun pins s σ H Q I q => h.run pins s σ H Q I (i _ _ _ q)⟩
/-- a list or a tuple, walked -/
def iSeq (K : PySem.W.Frag) (tl : TE) : TI := fun σ H R => tl σ H fun x H1 => ∃ a, x = .ref a ∧ (((∃ xs, SqL K H1 a xs) ∧ R (L2.Itl K a) H1) ∨ ((∃ xs, SqT K H1 a xs) ∧ R (L2.Itt K a) H1))
theorem pi_seq {X : Cx} {tg l : Expr} {tl : TE} (hl : PE X l tl) : PI X tg l (iSeq X.K tl) := by
  refine ⟨fun pins s σ H R I h => ?_⟩
  refine thn (hl.run pins s σ H _ I h) fun v s1 ⟨x, H1, I1, r1, q1⟩ => ?_
  obtain ⟨a, e, q⟩ := q1
  subst e
  cases r1
  rcases q with ⟨⟨xs, hq⟩, q⟩ | ⟨⟨xs, hq⟩, q⟩
  · obtain ⟨its, rv, p, hz⟩ := I1.list hq
    refine wpAny_pyIter_list p.isList ?_
    refine ⟨s1.heap.objs.size, [s1.heap.objs.size], _, _, H1, rfl, I1.kept (t' := s1.toks) fun b o e => Heap.get?_push_of_some _ e, turn_list a _, ⟨_, Heap.get?_push_size _ rfl, rfl, rfl⟩, fun b hb => ?_, q⟩
    have e : b = s1.heap.objs.size := by simpa using hb
    subst e
    exact I1.fpOk (Nat.le_refl _) (I1.hok.fresh (Nat.le_refl _))
  · obtain ⟨its, rv, p, hz⟩ := I1.tuple hq
    refine wpAny_pyIter_tuple (show s1.heap.IsTuple a its.toArray from p) ?_
    refine ⟨s1.heap.objs.size, [s1.heap.objs.size], _, _, H1, rfl, I1.kept (t' := s1.toks) fun b o e => Heap.get?_push_of_some _ e, turn_tuple a _, ⟨_, Heap.get?_push_size _ rfl, rfl, rfl⟩, fun b hb => ?_, q⟩
    have e : b = s1.heap.objs.size := by simpa using hb
    subst e
    exact I1.fpOk (Nat.le_refl _) (I1.hok.fresh (Nat.le_refl _))
section
variable {G : Gl0} {C : CallS}
def OkI (G : Gl0) (C : CallS) (ii : II) : Prop := ∀ (X : Cx) (W : WX) (A : Sc), Good G C X W A → ∀ tg e, chkI A ii tg e = true → PI X tg e (LI X W fun E => semI G C E ii) ∧ nset e = true
theorem bnm {G : Gl0} {C : CallS} {X : Cx} {W : WX} {A : Sc} (g : Good G C X W A) {n m : Str} (e : n = m) (h : A.bn n = true) : Gl X m ∧ X.mg m = none := by
  subst e
  obtain ⟨q1, q2, q3, q4⟩ := bn_of g h
  exact ⟨q1, q3⟩
theorem ok_iseq {e : IE} (ih : OkE G C e) : OkI G C (.seq e) := by
  intro X W A g tg x h
  simp only [chkI, Bool.and_eq_true] at h
  refine ⟨(pi_seq (ih X W A g _ h.1)).imp ?_, h.2⟩
  rintro σ H R ⟨σd, S, R', E, rn, rs, h, p, xp⟩
  refine ⟨σd, S, _, E, rn, rs, h, fun v H1 x S1 e1 rx rs1 h1 => ?_, xp⟩
  split at h1
  · cases rx with
    | tup q1 q2 => exact ⟨_, rfl, .inr ⟨⟨_, q1⟩, p _ _ H1 S1 e1 rs1 (rel_tup q1 q2) h1⟩⟩
  · cases rx with
    | rol q1 q2 => exact ⟨_, rfl, .inl ⟨⟨_, q1.l⟩, p _ _ H1 S1 e1 rs1 (rel_rol q1 q2) h1⟩⟩
  · split at h1
    · rename_i el
      cases rx
      obtain ⟨vs, h2, _⟩ := rs1.lget el
      exact ⟨_, rfl, .inl ⟨⟨_, h2⟩, p _ _ H1 S1 e1 rs1 rel_lst h1⟩⟩
    · exact h1.elim
  · exact h1.elim
theorem ok_irng1 {a : IE} (iha : OkE G C a) : OkI G C (.rng1 a) := by
  intro X W A g tg x h
  unfold chkI at h
  split at h
  · rename_i n p1 y p2
    simp only [Bool.and_eq_true, decide_eq_true_eq] at h
    obtain ⟨⟨h1, h2⟩, h3⟩ := h
    obtain ⟨b1, b2⟩ := bnm g h1 h2
    subst h1
    refine ⟨(pi_range1 b1 b2 (pa_cons (iha X W A g _ h3) pa_nil (star_cons (chkE_nst h3))) (star_cons (chkE_nst h3))).imp ?_, rfl⟩
    rintro σ H R ⟨σd, S, R', E, rn, rs, h, p, xp⟩
    refine ⟨σd, S, _, E, rn, rs, h, fun v H1 x S1 e1 rx rs1 h1 => ?_, xp⟩
    split at h1
    · cases rx
      exact ⟨_, rfl, h1.1, h1.2.1, p _ _ H1 S1 e1 rs1 rel_rng h1.2.2⟩
    · exact h1.elim
  · cases h
theorem ok_irng2 {a b : IE} (iha : OkE G C a) (ihb : OkE G C b) : OkI G C (.rng2 a b) := by
  intro X W A g tg x h
  unfold chkI at h
  split at h
  · rename_i n p1 y z p2
    simp only [Bool.and_eq_true, decide_eq_true_eq] at h
    obtain ⟨⟨⟨h1, h2⟩, h3⟩, h4⟩ := h
    obtain ⟨b1, b2⟩ := bnm g h1 h2
    subst h1
    refine ⟨(pi_range2 b1 b2 (pa_cons (iha X W A g _ h3) (pa_cons (ihb X W A g _ h4) pa_nil (star_cons (chkE_nst h4))) (star_cons (chkE_nst h3))) (by rw [star_cons (chkE_nst h3), star_cons (chkE_nst h4)]; rfl) (star_cons (chkE_nst h4))).imp ?_, rfl⟩
    rintro σ H R ⟨σd, S, R', E, rn, rs, h, p, xp⟩
    refine ⟨σd, S, _, E, rn, rs, h, fun v H1 x S1 e1 rx rs1 h1 => ⟨σd, S1, _, E, rn.ext e1, rs1, h1, fun w H2 y S2 e2 ry rs2 h2 => ?_, xp.ext e1⟩, xp⟩
    split at h2
    · cases rx; cases ry
      exact ⟨_, _, rfl, h2.1, p _ _ H2 S2 (e1.trans e2) rs2 rel_rng h2.2⟩
    · exact h2.elim
  · cases h
theorem ok_irng3 {a b c : IE} (iha : OkE G C a) (ihb : OkE G C b) (ihc : OkE G C c) : OkI G C (.rng3 a b c) := by
  intro X W A g tg x h
  unfold chkI at h
  split at h
  · rename_i n p1 y z u p2
    simp only [Bool.and_eq_true, decide_eq_true_eq] at h
    obtain ⟨⟨⟨⟨h1, h2⟩, h3⟩, h4⟩, h5⟩ := h
    obtain ⟨b1, b2⟩ := bnm g h1 h2
    subst h1
    have s3 := fun l => star_cons (es := l) (env := X.env) (chkE_nst h3)
    have s4 := fun l => star_cons (es := l) (env := X.env) (chkE_nst h4)
    have s5 := fun l => star_cons (es := l) (env := X.env) (chkE_nst h5)
    refine ⟨(pi_range3 b1 b2 (pa_cons (iha X W A g _ h3) (pa_cons (ihb X W A g _ h4) (pa_cons (ihc X W A g _ h5) pa_nil (s5 _)) (s4 _)) (s3 _)) (s3 _) (by rw [s4, s5]; rfl)).imp ?_, rfl⟩
    rintro σ H R ⟨σd, S, R', E, rn, rs, h, p, xp⟩
    refine ⟨σd, S, _, E, rn, rs, h, fun v H1 x S1 e1 rx rs1 h1 => ⟨σd, S1, _, E, rn.ext e1, rs1, h1, fun w H2 y S2 e2 ry rs2 h2 => ⟨σd, S2, _, E, rn.ext (e1.trans e2), rs2, h2, fun w3 H3 z S3 e3 rz rs3 h3 => ?_, xp.ext (e1.trans e2)⟩, xp.ext e1⟩, xp⟩
    split at h3
    · cases rx; cases ry; cases rz
      obtain ⟨n, h3, h4⟩ := h3
      exact ⟨_, _, _, n, rfl, h3, p _ _ H3 S3 ((e1.trans e2).trans e3) rs3 rel_rngc h4⟩
    · exact h3.elim
  · cases h
theorem ok_ienu {a : IE} (iha : OkE G C a) : OkI G C (.enu a) := by
  intro X W A g tg x h
  unfold chkI at h
  split at h
  · split at h
    · rename_i n p1 y p2
      simp only [Bool.and_eq_true, decide_eq_true_eq] at h
      obtain ⟨⟨h1, h2⟩, h3⟩ := h
      obtain ⟨b1, b2⟩ := bnm g h1 h2
      subst h1
      refine ⟨(pi_enum b1 b2 (pa_cons (iha X W A g _ h3) pa_nil (star_cons (chkE_nst h3))) (star_cons (chkE_nst h3))).imp ?_, rfl⟩
      rintro σ H R ⟨σd, S, R', E, rn, rs, h, p, xp⟩
      refine ⟨σd, S, _, E, rn, rs, h, fun v H1 x S1 e1 rx rs1 h1 => ?_, xp⟩
      split at h1
      · split at h1
        · rename_i el
          cases rx
          obtain ⟨vs, h2, _⟩ := rs1.lget el
          exact ⟨_, vs, rfl, h2, p _ _ H1 S1 e1 rs1 rel_enu h1⟩
        · exact h1.elim
      · exact h1.elim
    · cases h
  · cases h
theorem ok_izip {a b : IE} (iha : OkE G C a) (ihb : OkE G C b) : OkI G C (.zip a b) := by
  intro X W A g tg x h
  unfold chkI at h
  split at h
  · split at h
    · rename_i n p1 y z p2
      simp only [Bool.and_eq_true, decide_eq_true_eq] at h
      obtain ⟨⟨⟨h1, h2⟩, h3⟩, h4⟩ := h
      obtain ⟨b1, b2⟩ := bnm g h1 h2
      subst h1
      refine ⟨(RZ.pi_zipA b1 b2 (pa_cons (iha X W A g _ h3) (pa_cons (ihb X W A g _ h4) pa_nil (star_cons (chkE_nst h4))) (star_cons (chkE_nst h3))) (star_cons (chkE_nst h3)) (by rw [star_cons (chkE_nst h4)]; rfl)).imp ?_, rfl⟩
      rintro σ H R ⟨σd, S, R', E, rn, rs, h, p, xp⟩
      refine ⟨σd, S, _, E, rn, rs, h, fun v H1 x S1 e1 rx rs1 h1 => ⟨σd, S1, _, E, rn.ext e1, rs1, h1, fun w H2 y S2 e2 ry rs2 h2 => ?_, xp.ext e1⟩, xp⟩
      split at h2
      · split at h2
        · rename_i el el2
          cases rx; cases ry
          obtain ⟨vs, q2, _⟩ := rs2.lget el
          obtain ⟨ws, q3, _⟩ := rs2.lget el2
          exact ⟨_, _, vs, ws, rfl, .inl ⟨q2, q3, p _ _ H2 S2 (e1.trans e2) rs2 rel_zip h2⟩⟩
        · exact h2.elim
      · cases ry with
        | tup ht hr =>
          cases rx with
          | tup gt gr => exact ⟨_, _, _, _, rfl, .inr ⟨e2.sqT gt, ht, p _ _ H2 S2 (e1.trans e2) rs2 (rel_zipt (e2.sqT gt) (Rvs.ext e2 gr) ht hr) h2⟩⟩
      · exact h2.elim
    · cases h
  · cases h
theorem ok_irev {a : IE} (iha : OkE G C a) : OkI G C (.rev a) := by
  intro X W A g tg x h
  unfold chkI at h
  split at h
  · rename_i n p1 y p2
    simp only [Bool.and_eq_true, decide_eq_true_eq] at h
    obtain ⟨⟨h1, h2⟩, h3⟩ := h
    obtain ⟨b1, b2⟩ := bnm g h1 h2
    subst h1
    refine ⟨(RT.pi_revA b1 b2 (iha X W A g _ h3) (star_cons (chkE_nst h3))).imp ?_, rfl⟩
    rintro σ H R ⟨σd, S, R', E, rn, rs, h, p, xp⟩
    refine ⟨σd, S, _, E, rn, rs, h, fun v H1 x S1 e1 rx rs1 h1 => ?_, xp⟩
    split at h1
    · split at h1
      · rename_i xs el
        cases rx
        obtain ⟨vs, h2, h3⟩ := rs1.lget el
        refine ⟨_, vs, rfl, .inl ⟨h2, p _ _ H1 S1 e1 rs1 ?_ h1⟩⟩
        rw [h3.length]
        exact rel_rev
      · exact h1.elim
    · cases rx with
      | tup ht hr => exact ⟨_, _, rfl, .inr ⟨ht, p _ _ H1 S1 e1 rs1 (rel_revt ht hr) h1⟩⟩
    · exact h1.elim
  · cases h

/-! ### targets -/
theorem wipe_at {σ : L2.St} {i : Nat} {x : Option V} : ∀ {l : List Nat}, i ∉ l → wipe (σ.set i x) l = (wipe σ l).set i x
  | [], _ => rfl
  | j :: r, h => by
    show (wipe (σ.set i x) r).set j none = ((wipe σ r).set j none).set i x
    rw [wipe_at fun q => h (List.mem_cons_of_mem _ q), List.set_comm _ _ (fun e => h (by rw [e]; exact List.mem_cons_self))]
theorem wipe_in {σ : L2.St} {i : Nat} {x : Option V} : ∀ {l : List Nat}, i ∈ l → wipe (σ.set i x) l = wipe σ l
  | [], h => by cases h
  | j :: r, h => by
    show (wipe (σ.set i x) r).set j none = (wipe σ r).set j none
    by_cases hr : i ∈ r
    · rw [wipe_in hr]
    · have e : i = j := by
        rcases List.mem_cons.mp h with e | e
        · exact e
        · exact absurd e hr
      rw [wipe_at hr, e, List.set_set]
def LG (X : Cx) (own : List Nat) (ig : IG) : TG := fun v σ H Q => ∃ (d : D) (σd : En) (S : Sto) (Qd : En → Prop), Rv X.K H d v ∧ Rn X.K H σd σ ∧ RS X.K H S ∧ asgS ig d σd S Qd ∧
  ∀ σ' σd', Rn X.K H σd' σ' → wipe σ' own = wipe σ own → Qd σd' → Q σ' H
def LGs (X : Cx) (own : List Nat) (ig : IGs) : TGs := fun vs σ H Q => ∃ (ds : List D) (σd : En) (S : Sto) (Qd : En → Prop), Rvs X.K H ds vs ∧ Rn X.K H σd σ ∧ RS X.K H S ∧ asgsS ig ds σd S Qd ∧
  ∀ σ' σd', Rn X.K H σd' σ' → wipe σ' own = wipe σ own → Qd σd' → Q σ' H
theorem _root_.L2.PG.imp {X : Cx} {tg : Expr} {t t' : TG} (h : PG X tg t) (i : ∀ v σ H Q, t' v σ H Q → t v σ H Q) : PG X tg t' := ⟨fun pins s σ H v u Q I r q => h.run pins s σ H v u Q I r (i _ _ _ _ q)⟩
theorem _root_.L2.PGs.imp {X : Cx} {tg : List Expr} {t t' : TGs} (h : PGs X tg t) (i : ∀ v σ H Q, t' v σ H Q → t v σ H Q) : PGs X tg t' := ⟨fun pins s σ H v u Q I r q => h.run pins s σ H v u Q I r (i _ _ _ _ q)⟩
/-- (a, b, ..) = a tuple or a list of that length -/
def gSeq (K : PySem.W.Frag) (n : Nat) (t : TGs) : TG := fun v σ H Q => ∃ a xs, v = .ref a ∧ (SqL K H a xs ∨ SqT K H a xs) ∧ xs.length = n ∧ t xs σ H Q
theorem pg_seq {X : Cx} {es : List Expr} {k : Nat} {t : TGs} {n : Nat} {pos : Pos} (hc : X.calm = true) (h : PGs X es t) (hn : (assignEach es X.env).length = n) (hst : (assignEach es X.env).findIdx? (·.1) = none) : PG X (.Tuple es k pos) (gSeq X.K n t) := by
  refine ⟨fun pins s σ H v u Q I r hw => ?_⟩
  obtain ⟨a, xs, e1, hq, hl, hw⟩ := hw
  rcases hq with hq | hq
  · exact (pg_lst hc h hn hst).run pins s σ H v u Q I r ⟨a, xs, e1, hq, hl, hw⟩
  · exact (pg_tup hc h hn hst).run pins s σ H v u Q I r ⟨a, xs, e1, hq, hl, hw⟩
theorem asg_cons {e : Expr} {es : List Expr} {env : Env} (h : nst e = true) : assignEach (e :: es) env = (false, assign e env) :: assignEach es env := by
  cases e <;> first | rfl | cases h
def gsl : IGs → Nat
  | .nil => 0
  | .cons _ r => gsl r + 1
mutual
theorem asgS_ex : ∀ (g : IG) {d : D} {σ : En} {S : Sto} {Q : En → Prop}, asgS g d σ S Q → ∃ σ', Q σ'
  | .nm i, d, σ, S, Q, h => ⟨_, h⟩
  | .tup gs, d, σ, S, Q, h => by
    simp only [asgS] at h
    split at h
    · exact (asgsS_ex gs h).2
    · exact h.elim
theorem asgsS_ex : ∀ (gs : IGs) {ds : List D} {σ : En} {S : Sto} {Q : En → Prop}, asgsS gs ds σ S Q → ds.length = gsl gs ∧ ∃ σ', Q σ'
  | .nil, ds, σ, S, Q, h => by
    cases ds with
    | nil => exact ⟨rfl, _, h⟩
    | cons _ _ => exact h.elim
  | .cons g r, ds, σ, S, Q, h => by
    cases ds with
    | nil => exact h.elim
    | cons d t =>
      obtain ⟨σ', h'⟩ := asgS_ex g h
      obtain ⟨h1, h2⟩ := asgsS_ex r h'
      exact ⟨by show t.length + 1 = gsl r + 1; rw [h1], h2⟩
end
theorem chkGs_asg {A : Sc} {own : List Nat} {env : Env} : ∀ {gs : IGs} {es : List Expr}, chkGs A own gs es = true → (assignEach es env).length = gsl gs ∧ (assignEach es env).findIdx? (·.1) = none
  | .nil, [], _ => ⟨rfl, rfl⟩
  | .nil, _ :: _, h => by cases h
  | .cons _ _, [], h => by cases h
  | .cons g r, x :: t, h => by
    simp only [chkGs, Bool.and_eq_true] at h
    obtain ⟨q1, q2⟩ := chkGs_asg (env := env) h.2
    rw [asg_cons h.1.2]
    refine ⟨by rw [List.length_cons, q1]; rfl, ?_⟩
    rw [List.findIdx?_cons, q2]
    rfl
mutual
theorem ok_g (own : List Nat) : ∀ (ig : IG) (X : Cx) (W : WX) (A : Sc), Good G C X W A → ∀ e, chkG A own ig e = true → PG X e (LG X own ig)
  | .nm i, X, W, A, g, e, h => by
    unfold chkG at h
    split at h
    · simp only [Bool.and_eq_true] at h
      obtain ⟨h1, h2, h3⟩ := loc_of g.hN g.sc g.stl g.fnc h.1
      refine (pg_name g.nd h1 h2 h3).imp ?_
      rintro v σ H Q ⟨d, σd, S, Qd, rv, rn, rs, h4, p⟩
      exact p _ _ (rn.set rv i) (wipe_in (by simpa using h.2)) h4
    · cases h
  | .tup gs, X, W, A, g, e, h => by
    unfold chkG at h
    split at h
    · simp only [Bool.and_eq_true] at h
      obtain ⟨q1, q2⟩ := chkGs_asg (env := X.env) h.2
      refine (pg_seq (g.calm h.1) (ok_gs own gs X W A g _ h.2) q1 q2).imp ?_
      rintro v σ H Q ⟨d, σd, S, Qd, rv, rn, rs, h4, p⟩
      simp only [asgS] at h4
      split at h4
      · rename_i xs ex
        obtain ⟨a, vs, rfl, hq, hr⟩ := rs.sget rv ex
        exact ⟨a, vs, rfl, hq, by rw [← hr.length]; exact (asgsS_ex gs h4).1, xs, σd, S, Qd, hr, rn, rs, h4, p⟩
      · exact h4.elim
    · cases h
theorem ok_gs (own : List Nat) : ∀ (igs : IGs) (X : Cx) (W : WX) (A : Sc), Good G C X W A → ∀ es, chkGs A own igs es = true → PGs X es (LGs X own igs)
  | .nil, X, W, A, g, es, h => by
    cases es with
    | cons _ _ => cases h
    | nil =>
      refine pgs_nil.imp ?_
      rintro vs σ H Q ⟨ds, σd, S, Qd, rv, rn, rs, h4, p⟩
      cases ds with
      | cons _ _ => exact h4.elim
      | nil =>
        cases rv
        exact ⟨rfl, p σ σd rn rfl h4⟩
  | .cons ig r, X, W, A, g, es, h => by
    cases es with
    | nil => cases h
    | cons x t =>
      simp only [chkGs, Bool.and_eq_true] at h
      refine (pgs_cons (ok_g own ig X W A g _ h.1.1) (ok_gs own r X W A g _ h.2) (by rw [asg_cons h.1.2]; rfl)).imp ?_
      rintro vs σ H Q ⟨ds, σd, S, Qd, rv, rn, rs, h4, p⟩
      cases ds with
      | nil => exact h4.elim
      | cons d ds =>
        cases rv with
        | @cons _ _ v vs rv1 rv2 =>
          exact ⟨v, vs, rfl, d, σd, S, _, rv1, rn, rs, h4, fun σ1 σd1 rn1 w1 h5 => ⟨ds, σd1, S, Qd, rv2, rn1, rs, h5, fun σ2 σd2 rn2 w2 h6 => p σ2 σd2 rn2 (w2.trans w1) h6⟩⟩
end

/-! ### comprehensions -/
theorem Good.blk {X : Cx} {W : WX} {A : Sc} (g : Good G C X W A) (s : Shared) (H : Hp) (scope : Scope) (Ca : Addr) (cl : List (Str × Addr)) (fp : List Addr) :
    Good G C (X.blk s H scope (compEnvC scope cl Ca X.env) fp) (fun _ _ _ _ => False) (A.inn scope) where
  hN := g.hN
  nd := g.nd
  sc := by
    show relabel scope X.env = relS scope A.sc
    rw [← g.sc]
    rfl
  fnc := fun x h => by
    show (scope.names.lookup x == some NameKind.cell) = true
    have h : scope.names.lookup x = some .cell := h
    rw [h]; rfl
  stl := fun x k hk h => lookup_relS_keep hk h
  calm := g.calm
  tk := fun u s' ⟨_, _, _, _, _, _, _, _, _, _, _, _, _, _, _, _, h⟩ => h
  po := PassesOwn.never
  hu := g.hu
  blt := g.blt
  gcd := g.gcd
  cst := g.cst
  fns := g.fns
  py := fun hp => ⟨(g.py hp).seer, (g.py hp).tree, (g.py hp).fr, (g.py hp).dp⟩
  stk := fun z => by cases z
  exc := g.exc
  exn := g.exn
theorem wipe_wipe (σ : L2.St) (l : List Nat) : wipe (wipe σ l) l = wipe σ l := by
  have key : ∀ (r : List Nat) (σ : L2.St), (∀ i ∈ r, i ∈ l) → wipe (wipe σ r) l = wipe σ l := by
    intro r
    induction r with
    | nil => intro σ _; rfl
    | cons j r ih =>
      intro σ h
      show wipe ((wipe σ r).set j none) l = wipe σ l
      rw [wipe_in (h j List.mem_cons_self), ih σ fun i hi => h i (List.mem_cons_of_mem _ hi)]
  exact key l σ fun _ h => h
theorem own_snd (N : List Str) (l : List Nat) : (ownOf N l).map (·.2) = l := by
  unfold ownOf
  rw [List.map_map]
  exact List.map_id l
theorem _root_.L2.PTs.imp {X : Cx} {e : List Expr} {t t' : TT} (h : PTs X e t) (i : ∀ σ H Q, t' σ H Q → t σ H Q) : PTs X e t' := ⟨fun pins s σ H Q I q => h.run pins s σ H Q I (i _ _ _ q)⟩
def OkQ (G : Gl0) (C : CallS) (iq : IQ) : Prop := ∀ (X : Cx) (W : WX) (A : Sc), Good G C X W A → ∀ es, chkQ A iq es = true → PTs X es (LT X W fun E => semQ G C E iq)
theorem ok_qno : OkQ G C .no := by
  intro X W A g es h
  cases es with
  | cons _ _ => cases h
  | nil =>
    refine pts_nil.imp ?_
    rintro σ H Q ⟨σd, S, Qd, E, rn, rs, h, p, xp⟩
    exact p true H S (Ext.refl H) rs h
theorem ok_qc {c : IC} (ih : OkC G C c) : OkQ G C (.c c) := by
  intro X W A g es h
  unfold chkQ at h
  split at h
  · exact (pts_one (ih X W A g _ h)).imp fun σ H Q z => z
  · cases h
/-- the wish of a block: nothing is raised -/
abbrev W0 : WX := fun _ _ _ _ => False
abbrev E0' : XS := fun _ _ => False
theorem lc_red {X : Cx} {W : WX} {elt : IE} {tg : IG} {it : II} {ifs : IQ} {own : List Nat} : ∀ σ H Q, LE X W (fun E => semE G C E (.lc elt tg it ifs own)) σ H Q →
    tLc (LI X W fun E => semI G C E it) (LG X own tg) (LT X W0 fun E => semQ G C E ifs) (LE X W0 fun E => semE G C E elt) own σ H Q := by
  rintro σ H Q ⟨σd, S, Qd, E, rn, rs, h, p, xp⟩
  have xp0 : ∀ σ H, XP X W0 E0' σ H := fun σ H c d H' x S' _ _ _ z => z
  refine ⟨σd, S, _, E, rn, rs, h, fun J J' H1 S1 e1 rs1 rel h1 a na => ?_, xp⟩
  obtain ⟨Wd, ⟨m0, w0⟩, turn⟩ := h1 a (rs1.none na)
  refine ⟨fun i m H => ∃ S, Ext H1 H ∧ RS X.K H S ∧ Wd i m S, ⟨m0, _, Ext.new na, rs1.newL na .nil, w0⟩, ?_⟩
  rintro i m H2 ⟨S2, e2, rs2, w2⟩
  rcases rel H2 S2 i e2 rs2 _ _ (turn i m S2 w2) with ⟨st, q⟩ | ⟨go, q⟩
  · exact .inl ⟨st, p (.ref a) H2 (.ref a) S2 (e1.trans e2) (.ref a) rs2 q⟩
  · refine .inr ⟨go, fun H' => ∃ m', m' < m ∧ ∃ S, Ext H1 H' ∧ RS X.K H' S ∧ Wd (i + 1) m' S, fun H' z => z, fun v H3 y => ?_⟩
    obtain ⟨e3, rs3, d, rv, hd⟩ := q v H3 y
    have rnw : Rn X.K H3 (wips σd own) (wipe σ own) := (rn.ext ((e1.trans e2).trans e3)).wips own
    refine ⟨d, wips σd own, S2, _, rv, rnw, rs3, hd, fun σ' σd' rn' w' hq => ⟨?_, ?_⟩⟩
    · rw [w']
      exact wipe_wipe σ own
    · refine ⟨σd', S2, _, E0', rn', rs3, hq, fun b H4 S4 e4 rs4 h4 => ?_, xp0 _ _⟩
      have e14 : Ext H1 H4 := (e2.trans e3).trans e4
      cases b with
      | true =>
        have h4 : semE G C E0' elt σd' S4 _ := h4
        refine ⟨σd', S4, _, E0', rn'.ext e4, rs4, h4, fun v5 H5 d5 S5 e5 rv5 rs5 h5 => ?_, xp0 _ _⟩
        obtain ⟨acc, a1, a2, m', hm, w5⟩ := h5
        obtain ⟨xs, x1, x2⟩ := rs5 _ _ a1
        refine ⟨xs, x1, by rw [← x2.length]; exact a2, m', hm, _, (e14.trans e5).trans (Ext.lst x1), rs5.write x1 a1 (x2.append (.cons rv5 .nil)), w5⟩
      | false =>
        have h4 : ∃ m', m' < m ∧ Wd (i + 1) m' S4 := h4
        obtain ⟨m', hm, w5⟩ := h4
        exact ⟨m', hm, S4, e14, rs4, w5⟩
end
end Ev

/-! A form that passes the check says what the text does: all expressions; statements. -/
namespace Ev
open PySem PySem.Spec PyProof.Rows L2
section
variable {G : Gl0} {C : CallS}
theorem ok_lc {elt : IE} {tg : IG} {it : II} {ifs : IQ} {own : List Nat} (ihe : OkE G C elt) (ihi : OkI G C it) (ihq : OkQ G C ifs) : OkE G C (.lc elt tg it ifs own) := by
  intro X W A g e h
  unfold chkE at h
  split at h
  · rename_i el t i cs scope pos
    simp only [Bool.and_eq_true] at h
    obtain ⟨⟨⟨⟨⟨h1, h2⟩, h3⟩, h4⟩, h5⟩, h6⟩ := h
    obtain ⟨hi, hs⟩ := ihi X W A g t i h3
    have ok : BlkOk X.N X.env.scope scope (ownOf A.N own) := by rw [g.hN, g.sc]; exact blkOk_by h2
    have hp := pe_lc (own := ownOf A.N own) (pos := pos) (g := LG X own tg) (tt := LT X W0 fun E => semQ G C E ifs) (te := LE X W0 fun E => semE G C E elt) (g.calm h1) g.nd hi ok (fun s H Ca cl fp => ok_g own tg _ _ _ (g.blk s H scope Ca cl fp) t h4) (fun s H Ca cl fp => ihq _ _ _ (g.blk s H scope Ca cl fp) cs h6)
      (fun s H Ca cl fp => ihe _ _ _ (g.blk s H scope Ca cl fp) el h5) (fold_ok hs)
    rw [own_snd] at hp
    exact hp.imp lc_red
  · cases h
mutual
theorem okE : ∀ ie, OkE G C ie
  | .var i => ok_var i
  | .int i => ok_int i
  | .bl b => ok_bl b
  | .non => ok_non
  | .str x => ok_str x
  | .glo x => ok_glo x
  | .tup es => ok_tup (okEs es)
  | .lst es => ok_lst (okEs es)
  | .bin op a b => ok_bin (okE a) (okE b)
  | .neg a => ok_neg (okE a)
  | .cmp op a b => ok_cmp (okE a) (okE b)
  | .chn op op2 a b c => ok_chn (okE a) (okE b) (okE c)
  | .and a b => ok_and (okE a) (okE b)
  | .or a b => ok_or (okE a) (okE b)
  | .one a => ok_one (okE a)
  | .not a => ok_not (okE a)
  | .ifx c a b => ok_ifx (okC c) (okE a) (okE b)
  | .idx a i => ok_idx (okE a) (okE i)
  | .slc a lo hi => ok_slc (okE a) (okO lo) (okO hi)
  | .call f es => ok_call (okEs es)
  | .bi b es => ok_bi (okEs es)
  | .isi e ts => ok_isi (okE e)
  | .mth m o es => ok_mth (okE o) (okEs es)
  | .lc elt tg it ifs own => ok_lc (okE elt) (okI it) (okQ ifs)
theorem okEs : ∀ ies, OkEs G C ies
  | .nil => ok_nil
  | .cons e r => ok_cons (okE e) (okEs r)
theorem okO : ∀ io, OkO G C io
  | .no => ok_ono
  | .some e => ok_osome (okE e)
theorem okQ : ∀ iq, OkQ G C iq
  | .no => ok_qno
  | .c c => ok_qc (okC c)
theorem okC : ∀ ic, OkC G C ic
  | .and a b => ok_cand (okC a) (okC b)
  | .or a b => ok_cor (okC a) (okC b)
  | .one a => ok_cone (okC a)
  | .not a => ok_cnot (okC a)
  | .cmp op a b => ok_ccmp (okE a) (okE b)
  | .chn op op2 a b c => ok_cchn (okE a) (okE b) (okE c)
  | .v e => ok_cv (okE e)
theorem okI : ∀ ii, OkI G C ii
  | .seq e => ok_iseq (okE e)
  | .rng1 a => ok_irng1 (okE a)
  | .rng2 a b => ok_irng2 (okE a) (okE b)
  | .rng3 a b c => ok_irng3 (okE a) (okE b) (okE c)
  | .enu e => ok_ienu (okE e)
  | .zip a b => ok_izip (okE a) (okE b)
  | .rev e => ok_irev (okE e)
end

/-! ### statements -/
structure KP (X : Cx) (W : WX) (k : Kt) (D : Ends) (H : Hp) : Prop where
  nx : ∀ σ' H' σd S, Ext H H' → Rn X.K H' σd σ' → RS X.K H' S → k.nx σd S → D.nx σ' H'
  rt : Post X.K H k.rt D.rt
  bk : ∀ σ' H' σd S, Ext H H' → Rn X.K H' σd σ' → RS X.K H' S → k.bk σd S → D.bk σ' H'
  ct : ∀ σ' H' σd S, Ext H H' → Rn X.K H' σd σ' → RS X.K H' S → k.ct σd S → D.ct σ' H'
  ex : ∀ c dd σ' H' x σd S, Ext H H' → Rn X.K H' σd σ' → RX X.K X.mg H' x c dd → RS X.K H' S → k.ex x σd S → W c dd σ' H'
def LS (X : Cx) (W : WX) (f : Kt → En → Sto → Prop) : TS := fun D σ H => ∃ (σd : En) (S : Sto) (k : Kt), Rn X.K H σd σ ∧ RS X.K H S ∧ f k σd S ∧ KP X W k D H
section
variable {X : Cx} {W : WX} {k : Kt} {D : Ends} {H H' : Hp} {σ : L2.St} {σd : En}
theorem KP.ext (e : Ext H H') (p : KP X W k D H) : KP X W k D H' :=
  ⟨fun σ' H2 σd S x => p.nx σ' H2 σd S (e.trans x), fun v H2 d S x => p.rt v H2 d S (e.trans x), fun σ' H2 σd S x => p.bk σ' H2 σd S (e.trans x), fun σ' H2 σd S x => p.ct σ' H2 σd S (e.trans x), fun c dd σ' H2 y σd S x => p.ex c dd σ' H2 y σd S (e.trans x)⟩
theorem KP.xp (p : KP X W k D H) (rn : Rn X.K H σd σ) : XP X W (fun x S => k.ex x σd S) σ H := fun c d H' x S' e rx rs h => p.ex c d σ H' x σd S' e (rn.ext e) rx rs h
end
def OkS (G : Gl0) (C : CallS) (s : IS) : Prop := ∀ (X : Cx) (W : WX) (A : Sc), Good G C X W A → ∀ st, chkS A s st = true → PS X st (LS X W (semS G C s))
def OkSs (G : Gl0) (C : CallS) (s : ISs) : Prop := ∀ (X : Cx) (W : WX) (A : Sc), Good G C X W A → ∀ st, chkSs A s st = true → PSs X st (LS X W (semSs G C s))
theorem sw_nc {v : Expr} {t : Option Expr} {l : Nat} {env : Env} (h : ncomp v = true) : swapsWith v t l env = pure false := by
  cases v <;> first | rfl | cases h
theorem sw_lc {G : Gl0} {C : CallS} {X : Cx} {W : WX} {A : Sc} (g : Good G C X W A) {elt : Expr} {gs : List Comprehension} {scope : Scope} {pos py : Pos} {y : Str} {l : Nat} (hk : X.env.scope.kind = .function) :
    swapsWith (.ListComp elt gs scope pos) (some (.Name y py)) l X.env = pure (swB A y py (.ListComp elt gs scope pos)) := by
  have ky : X.env.kindOf y = A.sc.names.lookup y := kind_of g.sc y
  have hb : X.env.blockKind = .function := by unfold Env.blockKind; rw [hk]; rfl
  unfold swapsWith swB
  simp only [hb, ky, Expr.pos]
  by_cases h : A.sc.names.lookup y = some .local
  · rw [h]; rfl
  · have e : (A.sc.names.lookup y == some NameKind.local) = false := by
      cases q : A.sc.names.lookup y with
      | none => rfl
      | some z => rw [q] at h; cases z <;> first | rfl | exact absurd rfl h
    rw [e, decide_eq_false h]
    rfl
theorem sw_any {v t : Expr} {l : Nat} {env : Env} (h : ncomp v = true) : swapsWithSole [t] v l env = pure false := by
  unfold swapsWithSole
  exact sw_nc h
theorem LS.set {X : Cx} {W : WX} {i : Nat} {e : IE} : ∀ D σ H, LS X W (semS G C (.set i e)) D σ H → tAsg (LE X W fun E => semE G C E e) (gName i) D σ H := by
  rintro D σ H ⟨σd, S, k, rn, rs, h, p⟩
  exact ⟨σd, S, _, _, rn, rs, h, fun v H1 d S1 e1 rv rs1 h1 => p.nx _ H1 _ S1 e1 ((rn.ext e1).set rv i) rs1 h1, p.xp rn⟩
theorem ok_set {i : Nat} {e : IE} : OkS G C (.set i e) := by
  intro X W A g st h
  unfold chkS at h
  split at h
  · rename_i x py v pp
    simp only [Bool.and_eq_true] at h
    obtain ⟨⟨h1, h2⟩, h3⟩ := h
    obtain ⟨q1, q2, q3⟩ := loc_of g.hN g.sc g.stl g.fnc h1
    have hv := okE e X W A g v h2
    by_cases hn : ncomp v = true
    · exact (ps_set g.nd q1 q2 hv (sw_nc hn) q3).imp LS.set
    · have hk : X.env.scope.kind = .function ∨ True := .inr trivial
      refine ⟨fun pins s σ H D I hh => ?_⟩
      have hk : X.env.scope.kind = .function := I.ok.kind
      cases v with
      | ListComp elt gs scope pos =>
        by_cases hb : swB A x py (.ListComp elt gs scope pos) = true
        · have hl : X.env.scope.names.lookup x = some .local := by
            unfold swB at hb
            simp only [Bool.and_eq_true, decide_eq_true_eq] at hb
            rw [g.sc]
            exact hb.1.1
          have hsw : swapsWith (.ListComp elt gs scope pos) (some (.Name x py)) pp.line X.env = pure true := by rw [sw_lc g hk, hb]
          cases e with
          | lc elt' tg it ifs own =>
            unfold chkE at h2
            split at h2
            · rename_i ee el t it' cs sc' ps heq
              cases heq
              simp only [Bool.and_eq_true] at h2
              obtain ⟨⟨⟨⟨⟨c1, c2⟩, c3⟩, c4⟩, c5⟩, c6⟩ := h2
              obtain ⟨hi, hs⟩ := okI it X W A g t it' c3
              have ok : BlkOk X.N X.env.scope scope (ownOf A.N own) := by rw [g.hN, g.sc]; exact blkOk_by c2
              have hp := ps_setLc (own := ownOf A.N own) (g := LG X own tg) (tt := LT X W0 fun E => semQ G C E ifs) (te := LE X W0 fun E => semE G C E elt') (g.calm c1) g.nd q1 hl hsw hi ok (fun s H Ca cl fp => ok_g own tg _ _ _ (g.blk s H scope Ca cl fp) t c4) (fun s H Ca cl fp => okQ ifs _ _ _ (g.blk s H scope Ca cl fp) cs c6)
                (fun s H Ca cl fp => okE elt' _ _ _ (g.blk s H scope Ca cl fp) elt c5) (fold_ok hs)
              rw [own_snd] at hp
              refine hp.run pins s σ H D I ?_
              have z := LS.set D σ H hh
              exact lc_red σ H _ z
            · cases h2
          | _ => cases h2
        · have hsw : swapsWith (.ListComp elt gs scope pos) (some (.Name x py)) pp.line X.env = pure false := by
            rw [sw_lc g hk]
            cases q : swB A x py (.ListComp elt gs scope pos) with
            | false => rfl
            | true => exact absurd q hb
          exact (ps_set g.nd q1 q2 hv hsw q3).run pins s σ H D I (LS.set D σ H hh)
      | SetComp => cases e <;> cases h2
      | DictComp => cases e <;> cases h2
      | _ => exact absurd rfl hn
  · cases h
theorem ok_asg {ig : IG} {e : IE} : OkS G C (.asg ig e) := by
  intro X W A g st h
  unfold chkS at h
  split at h
  · rename_i xs kk pp v ps
    simp only [Bool.and_eq_true] at h
    obtain ⟨⟨⟨h1, h2⟩, h3⟩, h4⟩ := h
    have hv := okE e X W A g v h2
    have hg := ok_g (List.range A.N.length) ig X W A g _ h1
    refine (ps_asg hv hg (sw_any h4) ?_ rfl).imp ?_
    · cases v <;> first | rfl | cases h3
    · rintro D σ H ⟨σd, S, k, rn, rs, h, p⟩
      refine ⟨σd, S, _, _, rn, rs, h, fun v H1 d S1 e1 rv rs1 h1 => ⟨d, σd, S1, _, rv, rn.ext e1, rs1, h1, fun σ' σd' rn' _ h5 => p.nx _ H1 _ S1 e1 rn' rs1 h5⟩, p.xp rn⟩
  · cases h
theorem ok_sub {o i e : IE} : OkS G C (.sub o i e) := by
  intro X W A g st h
  unfold chkS at h
  split at h
  · rename_i x y pp v ps
    simp only [Bool.and_eq_true] at h
    obtain ⟨⟨⟨⟨h1, h2⟩, h3⟩, h4⟩, h5⟩ := h
    refine (ps_asg (okE e X W A g v h4) (pg_sub (okE o X W A g x h1) (okE i X W A g y h2) set_list ?_) (sw_any h5) rfl rfl).imp ?_
    · intro v
      cases y <;> first | rfl | cases h3
    · rintro D σ H ⟨σd, S, k, rn, rs, h, p⟩
      refine ⟨σd, S, _, _, rn, rs, h, fun v H1 d S1 e1 rv rs1 h1 => ⟨σd, S1, _, _, rn.ext e1, rs1, h1, fun ov H2 od S2 e2 ro rs2 h2 => ⟨σd, S2, _, _, rn.ext (e1.trans e2), rs2, h2, fun iv H3 id S3 e3 ri rs3 h3 => ?_, ((p.xp rn).ext (e1.trans e2))⟩, (p.xp rn).ext e1⟩, p.xp rn⟩
      have e123 : Ext H H3 := (e1.trans e2).trans e3
      split at h3
      · split at h3
        · rename_i xs ex
          split at h3
          · rename_i j ej
            cases ro; cases ri
            obtain ⟨vs, v1, v2⟩ := rs3 _ _ ex
            rw [v2.length] at ej
            refine ⟨_, vs, _, j, rfl, rfl, v1, ej, ?_⟩
            exact p.nx σ _ σd _ (e123.trans (Ext.lst v1)) (rn.ext (e123.trans (Ext.lst v1))) (rs3.write v1 ex (v2.set j (Rv.ext (e2.trans e3) rv))) h3
          · exact h3.elim
        · exact h3.elim
      · exact h3.elim
  · cases h
theorem ok_par2 {i j : Nat} {a b : IE} : OkS G C (.par2 i j a b) := by
  intro X W A g st h
  unfold chkS at h
  split at h
  · rename_i x px y py kt tp u v k2 pt2 pos
    simp only [Bool.and_eq_true, decide_eq_true_eq, Bool.not_eq_true', bne_iff_ne] at h
    obtain ⟨⟨⟨⟨⟨⟨⟨⟨⟨h1, h2⟩, h3⟩, h4⟩, h5⟩, h6⟩, h7⟩, h8⟩, hf0⟩, h9⟩ := h
    obtain ⟨q1, q2⟩ := lcl_of g.hN g.sc h2
    obtain ⟨r1, r2⟩ := lcl_of g.hN g.sc h3
    refine ⟨fun pins s σ H D I hh => ?_⟩
    have hk : X.env.scope.kind = .function := I.ok.kind
    have hb : X.env.blockKind = .function := by unfold Env.blockKind; rw [hk]; rfl
    have kx : X.env.kindOf x = some .local := by rw [kind_of g.sc, ← g.sc]; exact q2
    have ky : X.env.kindOf y = some .local := by rw [kind_of g.sc, ← g.sc]; exact r2
    have su := chkE_nst h4
    have sv := chkE_nst h5
    have hf : ([u, v].all (foldedForSure 8)) = false := by
      simp only [List.all_cons, List.all_nil, Bool.and_true]
      exact hf0
    have hc : ([u, v].all (constantsAlone 8)) = false := by
      simp only [List.all_cons, List.all_nil, Bool.and_true]
      exact h8
    have hw : swappedStores [.Tuple [.Name x px, .Name y py] kt tp] (.Tuple [u, v] k2 pt2) X.env = pure (some [x, y]) := by
      have e1 : (px.line == px.line) = true := by simp
      have e2 : (py.line == px.line) = true := by rw [BEq.comm]; exact h7
      have hxy : (y == x) = false := by rw [BEq.comm]; exact h9
      unfold swappedStores
      simp only [hb, kx, ky, List.length_cons, List.length_nil, List.filterMap_cons, List.filterMap_nil, hf, hc, e1, e2, List.head?_cons, Option.map_some, Expr.pos, Option.getD_some, Bool.and_self, beq_self_eq_true, if_true, List.eraseDups_cons, List.eraseDups_nil, List.filter_cons, List.filter_nil, hxy, bne_self_eq_false, Bool.true_or, Bool.not_true, Bool.or_self, Bool.false_eq_true, if_false, Bool.not_false, Bool.false_or]
      cases u <;> cases v <;> first | rfl | (cases su; done) | (cases sv; done)
    refine (ps_par (g.calm h1) g.nd q1 r1 h6 q2 r2 (pa_cons (okE a X W A g u h4) (pa_cons (okE b X W A g v h5) pa_nil (star_cons sv)) (star_cons su)) hw rfl).run pins s σ H D I ?_
    obtain ⟨σd, S, k, rn, rs, h, p⟩ := hh
    refine ⟨σd, S, _, _, rn, rs, h, fun v1 H1 d1 S1 e1 rv1 rs1 h1 => ⟨σd, S1, _, _, rn.ext e1, rs1, h1, fun v2 H2 d2 S2 e2 rv2 rs2 h2 => ⟨v1, v2, rfl, ?_⟩, (p.xp rn).ext e1⟩, p.xp rn⟩
    exact p.nx _ H2 _ S2 (e1.trans e2) (((rn.ext (e1.trans e2)).set (Rv.ext e2 rv1) i).set rv2 j) rs2 h2
  · cases h
theorem ok_expr {e : IE} : OkS G C (.expr e) := by
  intro X W A g st h
  unfold chkS at h
  split at h
  · simp only [Bool.and_eq_true] at h
    refine (ps_expr (okE e X W A g _ h.1) (sw_nc h.2)).imp ?_
    rintro D σ H ⟨σd, S, k, rn, rs, h, p⟩
    exact ⟨σd, S, _, _, rn, rs, h, fun v H1 d S1 e1 rv rs1 h1 => p.nx σ H1 σd S1 e1 (rn.ext e1) rs1 h1, p.xp rn⟩
  · cases h
theorem ok_ret {e : IE} : OkS G C (.ret e) := by
  intro X W A g st h
  unfold chkS at h
  split at h
  · refine (ps_ret (okE e X W A g _ h)).imp ?_
    rintro D σ H ⟨σd, S, k, rn, rs, h, p⟩
    exact ⟨σd, S, _, _, rn, rs, h, p.rt, p.xp rn⟩
  · cases h
theorem ok_retN : OkS G C .retN := by
  intro X W A g st h
  unfold chkS at h
  split at h
  · refine ps_retN.imp ?_
    rintro D σ H ⟨σd, S, k, rn, rs, h, p⟩
    exact p.rt .non H .non S (Ext.refl H) .non rs h
  · cases h
theorem ok_brk : OkS G C .brk := by
  intro X W A g st h
  unfold chkS at h
  split at h
  · refine ps_break.imp ?_
    rintro D σ H ⟨σd, S, k, rn, rs, h, p⟩
    exact p.bk σ H σd S (Ext.refl H) rn rs h
  · cases h
theorem ok_cnt : OkS G C .cnt := by
  intro X W A g st h
  unfold chkS at h
  split at h
  · refine ps_continue.imp ?_
    rintro D σ H ⟨σd, S, k, rn, rs, h, p⟩
    exact p.ct σ H σd S (Ext.refl H) rn rs h
  · cases h
theorem ok_pass : OkS G C .pass := by
  intro X W A g st h
  unfold chkS at h
  split at h
  · refine ps_pass.imp ?_
    rintro D σ H ⟨σd, S, k, rn, rs, h, p⟩
    exact p.nx σ H σd S (Ext.refl H) rn rs h
  · cases h
theorem ok_ifs {c : IC} {a b : ISs} (iha : OkSs G C a) (ihb : OkSs G C b) : OkS G C (.ifs c a b) := by
  intro X W A g st h
  unfold chkS at h
  split at h
  · simp only [Bool.and_eq_true] at h
    refine (ps_if (okC c X W A g _ h.1.1) (iha X W A g _ h.1.2) (ihb X W A g _ h.2)).imp ?_
    rintro D σ H ⟨σd, S, k, rn, rs, h, p⟩
    refine ⟨σd, S, _, _, rn, rs, h, fun b H1 S1 e1 rs1 h1 => ?_, p.xp rn⟩
    cases b with
    | true => exact ⟨σd, S1, k, rn.ext e1, rs1, h1, p.ext e1⟩
    | false => exact ⟨σd, S1, k, rn.ext e1, rs1, h1, p.ext e1⟩
  · cases h
theorem ok_whl {c : IC} {b : ISs} (ihb : OkSs G C b) : OkS G C (.whl c b) := by
  intro X W A g st h
  unfold chkS at h
  split at h
  · simp only [Bool.and_eq_true] at h
    refine (ps_while g.po (okC c X W A g _ h.1) (ihb X W A g _ h.2)).imp ?_
    rintro D σ H ⟨σd, S, k, rn, rs, h, p⟩
    obtain ⟨Wd, ⟨m0, w0⟩, turn⟩ := h
    refine ⟨fun m σ H' => ∃ σd S, Ext H H' ∧ Rn X.K H' σd σ ∧ RS X.K H' S ∧ Wd m σd S, ⟨m0, σd, S, Ext.refl H, rn, rs, w0⟩, ?_⟩
    rintro m σ1 H1 ⟨σd1, S1, e1, rn1, rs1, w1⟩
    refine ⟨σd1, S1, _, _, rn1, rs1, turn m σd1 S1 w1, fun b H2 S2 e2 rs2 h2 => ?_, (p.ext e1).xp rn1⟩
    cases b with
    | true =>
      have h2 : semSs G C _ _ σd1 S2 := h2
      refine ⟨fun σ' H' => ∃ m', m' < m ∧ ∃ σd S, Ext H H' ∧ Rn X.K H' σd σ' ∧ RS X.K H' S ∧ Wd m' σd S, fun σ' H' z => z, σd1, S2, _, rn1.ext e2, rs2, h2, ?_⟩
      refine ⟨?_, (p.ext (e1.trans e2)).rt, (p.ext (e1.trans e2)).nx, ?_, (p.ext (e1.trans e2)).ex⟩
      · rintro σ' H' σd' S' e rn' rs' ⟨m', hm, w'⟩
        exact ⟨m', hm, σd', S', (e1.trans e2).trans e, rn', rs', w'⟩
      · rintro σ' H' σd' S' e rn' rs' ⟨m', hm, w'⟩
        exact ⟨m', hm, σd', S', (e1.trans e2).trans e, rn', rs', w'⟩
    | false => exact p.nx σ1 H2 σd1 S2 (e1.trans e2) (rn1.ext e2) rs2 h2
  · cases h
theorem ok_for {ig : IG} {it : II} {b : ISs} (ihb : OkSs G C b) : OkS G C (.for_ ig it b) := by
  intro X W A g st h
  unfold chkS at h
  split at h
  · rename_i t i x pos
    simp only [Bool.and_eq_true] at h
    obtain ⟨⟨⟨⟨h1, h2⟩, h3⟩, h4⟩, h5⟩ := h
    obtain ⟨hi, hs⟩ := okI it X W A g t i h3
    refine (ps_for g.po (g.calm h1) hi (ok_g (List.range A.N.length) ig X W A g _ h2) (ihb X W A g _ h5) (fold_ok h4)).imp ?_
    rintro D σ H ⟨σd, S, k, rn, rs, h, p⟩
    refine ⟨σd, S, _, _, rn, rs, h, fun J J' H1 S1 e1 rs1 rel h1 => ?_, p.xp rn⟩
    obtain ⟨Wd, ⟨m0, w0⟩, turn⟩ := h1
    refine ⟨fun i m σ H' => ∃ σd S, Ext H1 H' ∧ Rn X.K H' σd σ ∧ RS X.K H' S ∧ Wd i m σd S, ⟨m0, σd, S1, Ext.refl H1, rn.ext e1, rs1, w0⟩, ?_⟩
    rintro i m σ2 H2 ⟨σd2, S2, e2, rn2, rs2, w2⟩
    rcases rel H2 S2 i e2 rs2 _ _ (turn i m σd2 S2 w2) with ⟨st, q⟩ | ⟨go, q⟩
    · exact .inl ⟨st, p.nx σ2 H2 σd2 S2 (e1.trans e2) rn2 rs2 q⟩
    · refine .inr ⟨go, fun σ' H' => ∃ m', m' < m ∧ ∃ σd S, Ext H1 H' ∧ Rn X.K H' σd σ' ∧ RS X.K H' S ∧ Wd (i + 1) m' σd S, fun σ' H' z => z, fun v H3 y => ?_⟩
      obtain ⟨e3, rs3, d, rv, hd⟩ := q v H3 y
      have e13 : Ext H1 H3 := e2.trans e3
      refine ⟨d, σd2, S2, _, rv, rn2.ext e3, rs3, hd, fun σ' σd' rn' w' hq => ⟨σd', S2, _, rn', rs3, hq, ?_⟩⟩
      have p3 := p.ext (e1.trans e13)
      refine ⟨?_, p3.rt, p3.nx, ?_, p3.ex⟩
      · rintro σ5 H5 σd5 S5 e5 rn5 rs5 ⟨m', hm, w5⟩
        exact ⟨m', hm, σd5, S5, e13.trans e5, rn5, rs5, w5⟩
      · rintro σ5 H5 σd5 S5 e5 rn5 rs5 ⟨m', hm, w5⟩
        exact ⟨m', hm, σd5, S5, e13.trans e5, rn5, rs5, w5⟩
  · cases h
theorem ok_snil : OkSs G C .nil := by
  intro X W A g st h
  cases st with
  | cons _ _ => cases h
  | nil =>
    refine pss_nil.imp ?_
    rintro D σ H ⟨σd, S, k, rn, rs, h, p⟩
    exact p.nx σ H σd S (Ext.refl H) rn rs h
theorem ok_scons {s : IS} {r : ISs} (ihs : OkS G C s) (ihr : OkSs G C r) : OkSs G C (.cons s r) := by
  intro X W A g st h
  cases st with
  | nil => cases h
  | cons x t =>
    simp only [chkSs, Bool.and_eq_true] at h
    refine (pss_cons (ihs X W A g _ h.1) (ihr X W A g _ h.2)).imp ?_
    rintro D σ H ⟨σd, S, k, rn, rs, h, p⟩
    refine ⟨σd, S, _, rn, rs, h, ?_, p.rt, p.bk, p.ct, p.ex⟩
    intro σ' H' σd' S' e rn' rs' h'
    exact ⟨σd', S', k, rn', rs', h', p.ext e⟩
theorem ok_never : OkS G C .never := by
  intro X W A g st h
  refine (ps_never (X := X)).imp ?_
  rintro D σ H ⟨σd, S, k, rn, rs, h, p⟩
  exact h.elim
theorem ok_raise {x : Str} {es : IEs} : OkS G C (.raise x es) := by
  intro X W A g st h
  unfold chkS at h
  split at h
  · rename_i y p a r p2 p3
    simp only [Bool.and_eq_true, decide_eq_true_eq] at h
    obtain ⟨⟨⟨⟨rfl, h2⟩, h3⟩, h4⟩, h5⟩ := h
    obtain ⟨q1, q2⟩ := glb_of g.sc h4
    obtain ⟨c, w1, w2, w3, w4, w5⟩ := g.exc _ h3
    cases es with
    | nil => cases h5
    | cons e es =>
      have hz := chkEs_star (env := X.env) h5
      have h6 := h5
      simp only [chkEs, Bool.and_eq_true] at h6
      have h7 := chkEs_star (env := X.env) h6.2
      refine (ps_raise (g.calm h2) g.tk (pmk_ownA PySem.F.excBase_ValueError w3 w1 w2 (raises_own w4 w5) q1 (okEs _ X W A g _ h5) q2 (star_cons (chkE_nst h6.1)) (back_any h7.1))).imp ?_
      rintro D σ H ⟨σd, S, k, rn, rs, h, p⟩
      have h : semEs G C (fun x S => k.ex x σd S) (.cons e es) σd S (fun ds S1 => ds.length ≤ sizeLine ∧ k.ex ⟨x, []⟩ σd S1) := h
      refine ⟨σd, S, _, _, rn, rs, h, fun vs H1 ds S1 e1 hl rv rs1 h1 => ⟨by rw [← rv.length]; exact h1.1, p.ex _ none σ H1 ⟨x, []⟩ σd S1 e1 (rn.ext e1) ⟨w1, rfl⟩ rs1 h1.2⟩, p.xp rn⟩
  · cases h
/-- a try's body, a clause's suite -/
theorem Good.tr {X : Cx} {W W1 : WX} {A : Sc} (g : Good G C X W A) (pn : List (Addr × Obj)) (xe : Value → Shared → Prop) (tk : Takes (X.tr pn xe) W1) (po : PassesOwn (model X.prog X.w) X.A X.env xe) : Good G C (X.tr pn xe) W1 A where
  hN := g.hN
  nd := g.nd
  sc := g.sc
  fnc := g.fnc
  stl := g.stl
  calm := g.calm
  tk := tk
  po := po
  hu := g.hu
  blt := g.blt
  gcd := g.gcd
  cst := g.cst
  fns := g.fns
  py := fun hp => ⟨(g.py hp).seer, (g.py hp).tree, (g.py hp).fr, (g.py hp).dp⟩
  stk := g.stk
  exc := g.exc
  exn := g.exn
theorem Good.su {X : Cx} {W : WX} {A : Sc} (g : Good G C X W A) (a : Addr) (pn : List (Addr × Obj)) : Good G C (X.suite a pn) (fun _ _ _ _ => False) { A with cm := false } where
  hN := g.hN
  nd := g.nd
  sc := g.sc
  fnc := g.fnc
  stl := g.stl
  calm := fun z => by cases z
  tk := fun u s' ⟨_, _, _, _, _, _, _, _, _, _, _, _, _, _, _, _, h⟩ => h
  po := PassesOwn.never
  hu := g.hu
  blt := g.blt
  gcd := g.gcd
  cst := g.cst
  fns := fun z => by cases z
  py := fun hp => ⟨(g.py hp).seer, (g.py hp).tree, (g.py hp).fr, (g.py hp).dp⟩
  stk := g.stk
  exc := g.exc
  exn := g.exn
theorem ok_try {b t : ISs} {x : Str} (ihb : OkSs G C b) (ihs : OkSs G C t) : OkS G C (.tryx b x t) := by
  intro X W A g st h
  unfold chkS at h
  split at h
  · rename_i u y p v w p2 p3
    simp only [Bool.and_eq_true, decide_eq_true_eq] at h
    obtain ⟨⟨⟨⟨⟨rfl, h1⟩, h2⟩, h3⟩, h4⟩, h5⟩ := h
    obtain ⟨q1, q2⟩ := glb_of g.sc h3
    obtain ⟨c, w1, w2⟩ := g.exn _ h2
    have hst := g.stk h1
    refine ⟨fun pins s σ H D I hh => ?_⟩
    refine (ps_try_only (c := c) (Wout := W) (tb := fun W1 => LS X W1 (semSs G C b)) (ts := fun _ _ _ => LS X (fun _ _ _ _ => False) (semSs G C t)) hst.1 hst.2 ⟨q1, q2, w1⟩ g.tk
      (fun W1 pn xe tk po => (ihb _ _ _ (g.tr pn xe tk po) _ h4).imp ?_) (fun a oe cls d pn _ _ => (ihs _ _ _ (g.su a _) _ h5).imp ?_)).run pins s σ H D I ?_
    · rintro D1 σ1 H1 ⟨σd, S, k, rn, rs, h, kp⟩
      exact ⟨σd, S, k, rn, rs, h, ⟨kp.nx, kp.rt, kp.bk, kp.ct, kp.ex⟩⟩
    · rintro D1 σ1 H1 ⟨σd, S, k, rn, rs, h, kp⟩
      exact ⟨σd, S, k, rn, rs, h, ⟨kp.nx, kp.rt, kp.bk, kp.ct, kp.ex⟩⟩
    · obtain ⟨σd, S, k, rn, rs, h, kp⟩ := hh
      refine ⟨σd, S, _, rn, rs, h, kp.nx, kp.rt, kp.bk, kp.ct, ?_⟩
      intro c1 dd σ' H' e σd' S' ex rn' rx rs' he
      have he : (match G.sub e.cls x with
        | some true => semSs G C t { k with ex := fun _ _ _ => False } σd' S'
        | some false => k.ex e σd' S'
        | none => False) := he
      split at he
      · rename_i es
        obtain ⟨u, u1, u2⟩ := w2 _ _ es
        have := rx.1
        rw [u1] at this
        cases this
        refine ⟨true, u2, fun _ a na => ⟨σd', S', _, rn', rs', he, ?_⟩, fun z => by cases z⟩
        have kp' := kp.ext ex
        exact ⟨kp'.nx, kp'.rt, kp'.bk, kp'.ct, fun _ _ _ _ _ _ _ _ _ _ _ z => z⟩
      · rename_i es
        obtain ⟨u, u1, u2⟩ := w2 _ _ es
        have := rx.1
        rw [u1] at this
        cases this
        exact ⟨false, u2, (fun z => Bool.noConfusion z), fun _ => kp.ex _ _ _ _ _ _ _ ex rn' rx rs' he⟩
      · exact he.elim
  · cases h
mutual
theorem okS : ∀ s, OkS G C s
  | .set i e => ok_set
  | .asg g e => ok_asg
  | .par2 i j a b => ok_par2
  | .sub o i e => ok_sub
  | .expr e => ok_expr
  | .ret e => ok_ret
  | .retN => ok_retN
  | .ifs c a b => ok_ifs (okSs a) (okSs b)
  | .whl c b => ok_whl (okSs b)
  | .for_ g it b => ok_for (okSs b)
  | .brk => ok_brk
  | .cnt => ok_cnt
  | .pass => ok_pass
  | .raise x es => ok_raise
  | .tryx b x s => ok_try (okSs b) (okSs s)
  | .never => ok_never
theorem okSs : ∀ s, OkSs G C s
  | .nil => ok_snil
  | .cons s r => ok_scons (okS s) (okSs r)
end
end
end Ev

/-! The defs of a text by their forms; a law's end. -/
namespace Ev
open PySem PySem.Spec PyProof.Rows L2

/-- what is known of the module -/
structure Md where
  fns : List (Str × Nat)
  blt : List Str
  cst : List Str
  gcd : Bool
  exc : List Str := []
  exn : List Str := []
def Md.sc (M : Md) (N : List Str) (scope : Scope) : Sc := { N := N, sc := scope, stl := scope.names, fns := M.fns, blt := M.blt, cst := M.cst, gcd := M.gcd, cm := true, tp := true, exc := M.exc, exn := M.exn }
/-- a def of the text and its form -/
structure FnT (M : Md) (st : Stmt) (F : Fn) (N ps : List Str) : Prop where
  sc : FnScope N ps (defScope st)
  chk : chkSs (M.sc N (defScope st)) F.body (defBody st) = true
  np : F.ps = ps.length
  ns : F.sl = N.length
/-- the module as it stands behind the top -/
structure Mok (M : Md) (G : Gl0) (T : Str → Option Fn) (P : Program) (K : PySem.W.Frag) (mg : Str → Option Value) (base : Heap) : Prop where
  blt : ∀ x, M.blt.contains x = true → mg x = none
  gcd : M.gcd = true → mg "gcd" = some (.builtin "math.gcd")
  cst : ∀ x, M.cst.contains x = true → ∃ d u v, G.cs x = some d ∧ mg x = some u ∧ RelV v u ∧ ∀ H, Rv K H d v
  fns : ∀ f n, M.fns.lookup f = some n → ∃ F, T f = some F ∧ F.ps = n
  fn : ∀ f F, T f = some F → ∃ (a : Addr) (fd : FuncData) (st : Stmt) (N ps : List Str) (qual : Str), mg f = some (.ref a) ∧ L2.Fun K f qual st a fd ∧ FnT M st F N ps ∧ Binds K fd ps []
  py : G.PY → base.NoSeer ∧ P.given.tree = none
  exc : ∀ x, M.exc.contains x = true → ExcW K mg x
  exn : ∀ x, M.exn.contains x = true → ExnW G K mg x
section
variable {M : Md} {G : Gl0} {T : Str → Option Fn} {P : Program} {w : World} {K : PySem.W.Frag} {mg : Str → Option Value} {base : Heap}
theorem Rvs.ent {H : Hp} {ds : List D} {vs : List V} (r : Rvs K H ds vs) (N : List Str) : Rn K H (ent N.length ds) (L2.start N vs) := by
  unfold Ev.ent L2.start
  rw [r.length]
  generalize N.length - vs.length = n
  induction ds generalizing vs with
  | nil =>
    cases r
    induction n with
    | zero => exact .nil
    | succ n ih => exact .cons trivial ih
  | cons d ds ih =>
    cases r with
    | cons h t => exact .cons h (ih t)
theorem fn_all (B : Mok M G T P K mg base) : ∀ (k : Nat) (f : Str) (F : Fn), T f = some F → ∃ (a : Addr) (fd : FuncData) (ps : List Str), mg f = some (.ref a) ∧ PySem.W.keepIn K (.ref a) = true ∧ Binds K fd ps [] ∧ ps.length = F.ps ∧
    FnOk P w K mg base (L2.CX P w) (k + 40) a fd ps (LF K mg (semF G T k) f) := by
  intro k
  induction k with
  | zero =>
    intro f F hF
    obtain ⟨a, fd, st, N, ps, qual, h1, h2, h3, h4⟩ := B.fn f F hF
    refine ⟨a, fd, ps, h1, h2.kp, h4, h3.np.symm, fun vs H Q E h => ?_, fun A outer s H args us vs Q E _ _ _ _ h => ?_⟩
    · obtain ⟨ds, S, Qd, Ed, _, _, h, _⟩ := h
      exact h.elim
    · obtain ⟨ds, S, Qd, Ed, _, _, h, _⟩ := h
      exact h.elim
  | succ k ih =>
    intro f F hF
    obtain ⟨a, fd, st, N, ps, qual, h1, h2, h3, h4⟩ := B.fn f F hF
    refine ⟨a, fd, ps, h1, h2.kp, h4, h3.np.symm, ?_⟩
    obtain ⟨oc, od, kV, doc, pm, an, cdv, ct, osl, rfl, lk, hcd⟩ := h2.ex
    rw [show k + 1 + 40 = (k + 40) + 1 by omega]
    refine fn_of lk hcd h3.sc (fun vs H Q E h => ?_) (fun A outer s H vs Q E hr h => ?_)
    · obtain ⟨ds, S, Qd, Ed, rd, _, h, _⟩ := h
      simp only [semF, hF] at h
      rw [← rd.length, h.1, h3.np]
    · obtain ⟨ds, S, Qd, Ed, rd, rs, h, p, ex⟩ := h
      simp only [semF, hF] at h
      have good : Good G (semF G T k) (cxOf (L2.CX P w) P w K mg base N qual (defScope st) a cdv A outer s H E) (fun c d _ H' => E c d H') (M.sc N (defScope st)) := {
        hN := rfl
        nd := h3.sc.nd
        sc := rfl
        fnc := fun x _ => rfl
        stl := fun x k _ h => h
        calm := fun _ => rfl
        tk := takes_of rfl rfl rfl rfl
        po := passes_of rfl
        hu := by
          have := hr.un
          show (A.deeper _).units + 65 < cLine
          omega
        blt := B.blt
        gcd := B.gcd
        cst := B.cst
        fns := fun _ f' n hn => by
          obtain ⟨F', t1, t2⟩ := B.fns f' n hn
          obtain ⟨a', fd', ps', q1, q2, q3, q4, q5⟩ := ih f' F' t1
          exact ⟨a', fd', ps', k + 40, q1, q2, q3, hr, q5⟩
        py := fun hp => ⟨(B.py hp).1, (B.py hp).2, ⟨_, _, rfl, h3.sc.gen, h3.sc.co, rfl, rfl⟩, by
          have := hr.dp
          show (A.deeper _).depth + 100 < recursionLimit
          omega⟩
        stk := fun _ => ⟨rfl, rfl⟩
        exc := B.exc
        exn := B.exn }
      refine ⟨_, okSs F.body _ _ _ good _ h3.chk, ent F.sl ds, S, kend Qd Ed, ?_, rs, h.2, ?_⟩
      · rw [h3.ns]
        exact rd.ent N
      · exact ⟨fun σ' H' σd S' e rn rs' q => p .non H' .non S' e .non rs' q, p, fun _ _ _ _ _ _ _ q => q.elim, fun _ _ _ _ _ _ _ q => q.elim, fun c dd σ' H' x σd S' e rn rx rs' q => ex c dd H' x S' e rx rs' q⟩
end
/-- the head, with the library's big division -/
theorem law_callP {P : Program} {w : World} {K : PySem.W.Frag} {mg mb : Str → Option Value} {CX : CXT} {k : Nat} {fa a : Addr} {sp : Sp} {s₁ : Shared} {vs : List Value} {ns : List Int}
    (KX : K.In s₁.heap) (hns : s₁.heap.Ns mainGlobals mg) (hb : s₁.heap.Ns builtinsNs mb) (hbb : ∀ x : Str, x ≠ "__name__" → mb x = bootBuiltins x) (hlim : s₁.heap.NoLimit) (hseer : s₁.heap.NoSeer) (hg : s₁.gens = #[])
    (ha : s₁.heap.get? a = some { cls := .type "list", data := .seq vs.toArray }) (hi : IntsAre vs ns) (hl : ns.length ≤ sizeLine) (hr : Room k callerA)
    (F : ∀ base : Heap, K.In base → base.Ns mainGlobals mg → base.NoSeer → ∃ (fd : FuncData) (ps : List Str), Binds K fd ps [] ∧ ps.length = 1 ∧ FnOk P w K mg base CX k fa fd ps sp)
    (hsp : ∀ H : Hp, SqF K H a (ns.map V.int) → sp [.ref a] H (fun v _ => v = .bl true) fun _ _ _ => False)
    (hCX : ∀ H e s', CX [] H s₁ (fun _ _ _ => False) e s' → False) :
    codeAny (model P w) callerA (.call (.ref fa) ⟨[.ref a], []⟩) (fun r s' => r = .ok (.ret (.bool true)) ∧ OldK s₁.heap s'.heap ∧ s'.os = s₁.os ∧ AllBare s'.gens) s₁ := by
  have rv := vals_ints hi
  have lenV := hi.length
  have core : ∀ H : Hp, Only H → SqF K H a (ns.map V.int) → HOk P w H s₁.heap → (∀ b, H b ≠ none → b = a) → (H a ≠ none → K.lookup a = none) →
      codeAny (model P w) callerA (.call (.ref fa) ⟨[.ref a], []⟩) (fun r s' => r = .ok (.ret (.bool true)) ∧ OldK s₁.heap s'.heap ∧ s'.os = s₁.os ∧ AllBare s'.gens) s₁ := by
    intro H hO hS hok hA hK
    have base_of : ∀ {b : Addr} {o : Obj}, s₁.heap.get? b = some o → H b = none → (hidT s₁.heap H).get? b = some o := fun e n => hidT_get e n
    have noA : ∀ {b : Addr} {o : Obj} {es : Array DictEntry} {ep : Nat}, s₁.heap.get? b = some o → o.data = .dict es ep → H b = none := fun {b o es ep} e d => by
      cases q : H b with
      | none => rfl
      | some u =>
        have e' : b = a := hA b (by rw [q]; simp)
        subst e'
        rw [ha] at e; cases e
        have d' : Data.seq vs.toArray _ = Data.dict es ep := d
        cases d'
    have noM : ∀ {b : Addr} {o : Obj}, s₁.heap.get? b = some o → o.cls = .type "module" → H b = none := fun {b o} e d => by
      cases q : H b with
      | none => rfl
      | some u =>
        have e' : b = a := hA b (by rw [q]; simp)
        subst e'
        rw [ha] at e; cases e
        exact absurd (show Value.type "list" = Value.type "module" from d) (by decide)
    have nsK : ∀ {b : Addr} {m : Str → Option Value}, s₁.heap.Ns b m → (hidT s₁.heap H).Ns b m := fun {b m} ⟨o, es, ep, e, d, r⟩ => ⟨o, es, ep, base_of e (noA e d), d, r⟩
    have hKb : K.In (hidT s₁.heap H) := fun b o e => base_of (KX b o e) (by
      cases q : H b with
      | none => rfl
      | some u =>
        have e' : b = a := hA b (by rw [q]; simp)
        subst e'
        rw [hK (by rw [q]; simp)] at e; cases e)
    have hM : Mod K mg (hidT s₁.heap H) := ⟨hKb, nsK hns, ⟨mb, nsK hb, hbb⟩, let ⟨mc, h1, h2⟩ := hlim; ⟨mc, nsK h1, h2⟩⟩
    have hSe : (hidT s₁.heap H).NoSeer := ⟨let ⟨mc, h1, h2⟩ := hseer.statics; ⟨mc, nsK h1, h2⟩, let ⟨mc, h1, h2⟩ := hseer.mods; ⟨mc, nsK h1, h2⟩, let ⟨mc, h1, h2⟩ := hseer.imp; ⟨mc, nsK h1, h2⟩,
      let ⟨mc, bm, ob, h1, h2, h3, h4, h5⟩ := hseer.main; ⟨mc, bm, ob, nsK h1, h2, base_of h3 (noM h3 h4), h4, h5⟩⟩
    have e0 : Env0 P w K mg (hidT s₁.heap H) callerA [] s₁ H := ⟨rfl, hM, fun b o e => of_hidT e, Nat.le_of_eq (hidT_size _ _), trivial, fun b hb => absurd (show b ∈ ([] : List Addr) from hb) (by simp), hok, .of_eq hg⟩
    obtain ⟨fd, ps, b1, b2, F1⟩ := F _ hKb (nsK hns) hSe
    refine codeAny_mono (F1.run callerA [] s₁ H ⟨[.ref a], []⟩ [.ref a] [.ref a] _ _ hr e0 (b1 s₁ [.ref a] KX b2.symm) (.cons rfl .nil) (hsp H hS)) fun r s' h => ?_
    cases r with
    | error e => exact (hCX H e s' h).elim
    | ok fl =>
      cases fl with
      | next => exact False.elim h
      | brk => exact False.elim h
      | cont => exact False.elim h
      | ret u =>
        obtain ⟨v, H', os, bare, un, hok', r', q⟩ := h
        have q' : v = .bl true := q
        subst q'
        obtain rfl : u = Value.bool true := r'
        refine ⟨rfl, OldK.of_keep fun b o e => ?_, os, bare⟩
        cases q : H b with
        | none => exact un.keep b o e q (by intro z; exact absurd (show b ∈ ([] : List Addr) from z) (by simp)) (by simp)
        | some u =>
          rcases hO b with z | ⟨ob, xs, z⟩
          · rw [q] at z; cases z
          · have z2 := un.frzs b ob _ z
            obtain ⟨e1, _⟩ := hok b _ z
            obtain ⟨e2, _⟩ := hok' b _ z2
            rw [e] at e1; cases e1
            exact e2
  cases hk : K.lookup a with
  | some o =>
    have e := KX a o hk
    rw [ha] at e
    cases e
    refine core (fun _ => none) (fun _ => .inl rfl) (.inr ⟨_, vs.toArray, _, hk, rfl, rfl, rfl, by rw [List.size_toArray, lenV]; exact hl, by simpa using rv⟩) (fun b u z => by have z' : (none : Option HO) = some u := z; cases z') (fun b z => absurd rfl z) fun z => absurd rfl z
  | none =>
    refine core (fun b => if b = a then some (.frz { cls := .type "list", data := .seq vs.toArray } (.lst (ns.map V.int))) else none) (fun b => ?_) (.inl ⟨{ cls := .type "list", data := .seq vs.toArray }, if_pos rfl⟩) (fun b u z => ?_) (fun b z => ?_) fun _ => hk
    · by_cases hb : b = a
      · exact .inr ⟨_, _, if_pos hb⟩
      · exact .inl (if_neg hb)
    · by_cases hb : b = a
      · have z' := (if_pos hb).symm.trans z
        cases z'
        subst hb
        exact ⟨ha, by rw [List.length_map]; exact hl, vs, _, rv, ha⟩
      · have z' := (if_neg hb).symm.trans z
        cases z'
    · by_cases hb : b = a
      · exact hb
      · exact absurd (if_neg hb) z
/-- what the law's def is shown to do -/
def spL (G : Gl0) (T : Str → Option Fn) (k : Nat) (K : PySem.W.Frag) : Sp := fun vs H Q _ => ∃ (a : Addr) (ns : List Int), vs = [.ref a] ∧ SqF K H a (ns.map V.int) ∧
  semF G T k "law" [.rol (ns.map D.int)] (fun _ => none) (fun d _ => d = .bl true) (fun _ _ => False) ∧ ∀ H', Q (.bl true) H'
theorem rvs_ints {K : PySem.W.Frag} {H : Hp} : ∀ ns : List Int, Rvs K H (ns.map D.int) (ns.map V.int)
  | [] => .nil
  | _ :: r => .cons (.int _) (rvs_ints r)
theorem spL_ok {G : Gl0} {T : Str → Option Fn} {k : Nat} {K : PySem.W.Frag} {mg : Str → Option Value} (vs : List V) (H : Hp) (Q : VK) (E : XK) (h : spL G T k K vs H Q E) : LF K mg (semF G T k) "law" vs H Q E := by
  obtain ⟨a, ns, rfl, hS, hs, q⟩ := h
  refine ⟨[.rol (ns.map D.int)], fun _ => none, fun d _ => d = .bl true, fun _ _ => False, .cons (.rol hS (rvs_ints ns)) .nil, (fun _ _ e => nomatch e), hs, fun v H' d S' e rv rs hd => ?_, fun _ _ _ _ _ _ _ _ z => z.elim⟩
  subst hd
  cases rv
  exact q H'
/-- THE END: a law by the forms of its text's defs -/
theorem law_by {l : PySem.W.OpenLaw} {q : Program} {loose : List Str} {XP : (Str → Option Value) → Heap → Prop} {YP : World → Heap → Prop} {d : DefRec} {K : Params → PySem.W.Frag} {M : Md} {G : Gl0} {T : Str → Option Fn} {k : Nat} {Fl : Fn}
    (hn : l.most = some 63) (hdf : d.params.defaults = []) (hdn : d.name = "law") (hr : Room (k + 40) callerA) (hq : importsNone q = true)
    (hY : ∀ (w : World) (h : Heap), YP w h → (K w.params).In h)
    (hT : T "law" = some Fl) (hT1 : Fl.ps = 1)
    (B : ∀ (w : World) (mg : Str → Option Value) (h : Heap), (K w.params).In h → h.Ns mainGlobals mg → ∀ base : Heap, base.NoSeer → Mok M G T l.prog (K w.params) mg base)
    (hsp : ∀ ns : List Int, ns.length ≤ 63 → (∀ z ∈ ns, Builtin.Int.intBits z ≤ 1048576) → semF G T k "law" [.rol (ns.map D.int)] (fun _ => none) (fun d _ => d = .bl true) (fun _ _ => False)) :
    PySem.W.WalkO q loose XP YP l.row.toRowW d [] (fun f vs => PySem.call f vs) := by
  refine Att.attach_callB hn hdf fun w s₀ s₁ mg mb fa o pm cd doc a vs ns Gr Y ho hd hcd hmg hobj hints hlen hbits hg => ?_
  have KX := hY w _ Y
  refine law_callP (sp := spL G T k (K w.params)) (CX := L2.CX l.prog w) (k := k + 40) KX Gr.T.g Gr.T.b Gr.T.builtins Gr.T.nolimit (Gr.T.seer hq) hg hobj hints (Nat.le_trans hlen (by decide)) hr (fun base hb hns hse => ?_) (fun H hS => ⟨a, ns, rfl, hS, hsp ns hlen hbits, fun _ => rfl⟩) fun H e s' h => ?_
  · obtain ⟨a', fd, ps, q1, q2, q3, q4, q5⟩ := fn_all (w := w) (B w mg _ KX Gr.T.g base hse) k "law" Fl hT
    rw [hdn] at hmg
    have e := hmg.symm.trans q1
    cases e
    exact ⟨fd, ps, q3, q4.trans hT1, q5.imp spL_ok⟩
  · obtain ⟨_, _, _, _, _, _, _, _, _, _, _, _, z⟩ := h
    exact z
end Ev

/-! Rules over the evaluator alone: calls, loops, comprehensions. -/
namespace Ev
open PySem PySem.Spec PyProof.Rows L2
/-- a continuation record with another next step; a loop's; with other exceptions -/
def kN (k : Kt) (N : En → Sto → Prop) : Kt := { k with nx := N }
def kL (k : Kt) (N : En → Sto → Prop) : Kt := { nx := N, rt := k.rt, bk := k.nx, ct := N, ex := k.ex }
def kX (k : Kt) (X : Exn → En → Sto → Prop) : Kt := { k with ex := X }
section
variable {k : Kt} {N : En → Sto → Prop} {X : Exn → En → Sto → Prop}
theorem kN_nx : (kN k N).nx = N := rfl
theorem kN_rt : (kN k N).rt = k.rt := rfl
theorem kN_bk : (kN k N).bk = k.bk := rfl
theorem kN_ct : (kN k N).ct = k.ct := rfl
theorem kN_ex : (kN k N).ex = k.ex := rfl
theorem kL_nx : (kL k N).nx = N := rfl
theorem kL_rt : (kL k N).rt = k.rt := rfl
theorem kL_bk : (kL k N).bk = k.nx := rfl
theorem kL_ct : (kL k N).ct = N := rfl
theorem kL_ex : (kL k N).ex = k.ex := rfl
theorem kX_nx : (kX k X).nx = k.nx := rfl
theorem kX_rt : (kX k X).rt = k.rt := rfl
theorem kX_bk : (kX k X).bk = k.bk := rfl
theorem kX_ct : (kX k X).ct = k.ct := rfl
theorem kX_ex : (kX k X).ex = X := rfl
end
/-- what stood stands -/
def Sub (S S' : Sto) : Prop := ∀ a o, S a = some o → S' a = some o
theorem Sub.refl (S : Sto) : Sub S S := fun _ _ h => h
theorem Sub.trans {A B C : Sto} (h : Sub A B) (g : Sub B C) : Sub A C := fun a o x => g a o (h a o x)
theorem Sub.new {S : Sto} {a : Addr} {o : Ob} (h : S a = none) : Sub S (put S a o) := fun b u e => by
  have n : b ≠ a := fun z => by rw [z, h] at e; cases e
  rw [put_ne n]; exact e
theorem Sub.none {S S' : Sto} (h : Sub S S') {a : Addr} (e : S' a = Option.none) : S a = Option.none := by
  cases q : S a with
  | none => rfl
  | some o => rw [h a o q] at e; cases e
/-- a write to what is new -/
theorem Sub.write {S S' : Sto} (h : Sub S S') {a : Addr} {o : Ob} (e : S a = Option.none) : Sub S (put S' a o) := fun b u q => by
  have n : b ≠ a := fun z => by rw [z, e] at q; cases q
  rw [put_ne n]; exact h b u q
theorem lget_of {S : Sto} {a : Addr} {xs : List D} (h : S a = some (.lst xs)) : lget S a = some xs := by
  unfold lget; rw [h]
theorem put_lget {S : Sto} {a : Addr} {xs : List D} : lget (put S a (.lst xs)) a = some xs := lget_of put_same
theorem put_put {S : Sto} {a : Addr} {o u : Ob} : put (put S a o) a u = put S a u := by
  funext b; unfold put; split <;> rfl
section
variable {G : Gl0} {T : Str → Option Fn} {C : CallS} {k : Nat} {f : Str} {F : Fn} {ds : List D} {S : Sto} {Q : DK} {E : XS}
theorem call_of (h : T f = some F) (hl : ds.length = F.ps) (hb : semSs G (semF G T k) F.body (kend Q E) (ent F.sl ds) S) : semF G T (k + 1) f ds S Q E := by
  simp only [semF, h]
  exact ⟨hl, hb⟩
/-- while, over a state of one's own -/
theorem whl_by {α : Type} {c : IC} {b : ISs} {kt : Kt} {σ : En} (f : α → En) (I : α → Sto → Prop) (μ : α → Nat) (a0 : α) (h0 : σ = f a0) (hI : I a0 S)
    (step : ∀ a S (N : En → Sto → Prop), I a S → (∀ a' S', I a' S' → μ a' < μ a → N (f a') S') →
      semC G C (fun x S => kt.ex x (f a) S) c (f a) S fun h S1 => if h = true then semSs G C b (kL kt N) (f a) S1 else kt.nx (f a) S1) :
    semS G C (.whl c b) kt σ S := by
  subst h0
  simp only [semS]
  refine ⟨fun m σ S => ∃ a, σ = f a ∧ m = μ a ∧ I a S, ⟨_, a0, rfl, rfl, hI⟩, ?_⟩
  rintro m σ S ⟨a, rfl, rfl, hI⟩
  exact step a S _ hI fun a' S' h1 h2 => ⟨μ a', h2, a', rfl, rfl, h1⟩
/-- a loop over n items -/
theorem turn_by {J : Ev.Itr} {body : (En → Sto → Prop) → D → En → Sto → Prop} {nx : En → Sto → Prop} {σ : En} (n : Nat) (item : Nat → D) (I : Nat → En → Sto → Prop)
    (hJ : ∀ i σ S stop go, i ≤ n → I i σ S → (i < n → go (item i)) → (i = n → stop) → nxt J i S stop go)
    (h0 : I 0 σ S) (step : ∀ i σ S N, i < n → I i σ S → (∀ σ' S', I (i + 1) σ' S' → N σ' S') → body N (item i) σ S) (done : ∀ σ S, I n σ S → nx σ S) :
    ∃ W : Nat → Nat → En → Sto → Prop, (∃ m, W 0 m σ S) ∧ ∀ i m σ S, W i m σ S → nxt J i S (nx σ S) fun d => body (fun σ' S' => ∃ m', m' < m ∧ W (i + 1) m' σ' S') d σ S := by
  refine ⟨fun i m σ S => m = n - i ∧ i ≤ n ∧ I i σ S, ⟨n, rfl, Nat.zero_le _, h0⟩, ?_⟩
  rintro i m σ S ⟨rfl, hi, hI⟩
  refine hJ i σ S _ _ hi hI (fun hlt => ?_) fun e => ?_
  · exact step i σ S _ hlt hI fun σ' S' h => ⟨n - (i + 1), by omega, rfl, hlt, h⟩
  · subst e
    exact done σ S hI
theorem nxt_rng {lo : Int} {n i : Nat} {stop : Prop} {go : D → Prop} (hi : i ≤ n) (h1 : i < n → go (.int (lo + i))) (h2 : i = n → stop) : nxt (.rng lo n) i S stop go := by
  simp only [nxt]
  split
  · exact h1 ‹_›
  · exact h2 (by omega)
theorem nxt_list {xs : List D} {i : Nat} {stop : Prop} {go : D → Prop} (hi : i ≤ xs.length) (h1 : i < xs.length → go (xs.getD i .non)) (h2 : i = xs.length → stop) : (match xs[i]? with | some d => go d | none => stop) := by
  split
  · rename_i d e
    obtain ⟨h, e⟩ := List.getElem?_eq_some_iff.mp e
    have := h1 h
    rw [List.getD_eq_getElem?_getD, List.getElem?_eq_getElem h, e] at this
    exact this
  · rename_i e
    have := List.getElem?_eq_none_iff.mp e
    exact h2 (by omega)
section
variable {g : IG} {b : ISs} {kt : Kt} {σ : En}
def FOR (G : Gl0) (C : CallS) (J : Ev.Itr) (g : IG) (b : ISs) (kt : Kt) (σ : En) (S : Sto) : Prop := ∃ W : Nat → Nat → En → Sto → Prop, (∃ m, W 0 m σ S) ∧ ∀ i m σ S, W i m σ S →
      nxt J i S (kt.nx σ S) fun d => asgS g d σ S fun σ2 =>
        semSs G C b { nx := fun σ' S' => ∃ m', m' < m ∧ W (i + 1) m' σ' S', rt := kt.rt, bk := kt.nx, ct := fun σ' S' => ∃ m', m' < m ∧ W (i + 1) m' σ' S', ex := kt.ex } σ2 S
theorem for_rng {lo : Int} {n : Nat} (I : Nat → En → Sto → Prop) (h0 : I 0 σ S)
    (step : ∀ i σ S N, i < n → I i σ S → (∀ σ' S', I (i + 1) σ' S' → N σ' S') → asgS g (.int (lo + i)) σ S fun σ2 => semSs G C b (kL kt N) σ2 S)
    (done : ∀ σ S, I n σ S → kt.nx σ S) : FOR G C (.rng lo n) g b kt σ S :=
  turn_by (body := fun N d σ S => asgS g d σ S fun σ2 => semSs G C b (kL kt N) σ2 S) n (fun i => .int (lo + i)) I (fun i σ S stop go hi _ h1 h2 => nxt_rng hi h1 h2) h0 step done
theorem for_tup {xs : List D} (I : Nat → En → Sto → Prop) (h0 : I 0 σ S)
    (step : ∀ i σ S N, i < xs.length → I i σ S → (∀ σ' S', I (i + 1) σ' S' → N σ' S') → asgS g (xs.getD i .non) σ S fun σ2 => semSs G C b (kL kt N) σ2 S)
    (done : ∀ σ S, I xs.length σ S → kt.nx σ S) : FOR G C (.tup xs) g b kt σ S :=
  turn_by (body := fun N d σ S => asgS g d σ S fun σ2 => semSs G C b (kL kt N) σ2 S) xs.length (fun i => xs.getD i .non) I (fun i σ S stop go hi _ h1 h2 => nxt_list hi h1 h2) h0 step done
theorem for_lst {a : Addr} {xs : List D} (I : Nat → En → Sto → Prop) (hl : ∀ i σ S, I i σ S → S a = some (.lst xs)) (h0 : I 0 σ S)
    (step : ∀ i σ S N, i < xs.length → I i σ S → (∀ σ' S', I (i + 1) σ' S' → N σ' S') → asgS g (xs.getD i .non) σ S fun σ2 => semSs G C b (kL kt N) σ2 S)
    (done : ∀ σ S, I xs.length σ S → kt.nx σ S) : FOR G C (.lst a) g b kt σ S :=
  turn_by (body := fun N d σ S => asgS g d σ S fun σ2 => semSs G C b (kL kt N) σ2 S) xs.length (fun i => xs.getD i .non) I (fun i σ S stop go hi hI h1 h2 => by
    simp only [nxt, lget_of (hl i σ S hI)]
    exact nxt_list hi h1 h2) h0 step done
end
end
/-! items of written tuples -/
section
variable {a b c d : D} {r : List D} {S : Sto} {Q : DK}
theorem atI0 {α : Type} {a : α} {r : List α} : atI (a :: r) 0 = some a := by simp [atI, ixN]
theorem atI1 {α : Type} {a b : α} {r : List α} : atI (a :: b :: r) 1 = some b := by
  have : (1 : Int) < ((r.length : Int) + 1 + 1) := by omega
  simp [atI, ixN, this]
theorem atI2 {α : Type} {a b c : α} {r : List α} : atI (a :: b :: c :: r) 2 = some c := by
  have : (2 : Int) < ((r.length : Int) + 1 + 1 + 1) := by omega
  simp [atI, ixN, this]
theorem atI3 {α : Type} {a b c d : α} {r : List α} : atI (a :: b :: c :: d :: r) 3 = some d := by
  have : (3 : Int) < ((r.length : Int) + 1 + 1 + 1 + 1) := by omega
  simp [atI, ixN, this]
end
/-! == of plain data without lists: the data as the comparison reads them -/
mutual
def pd : D → PyData
  | .non => .none
  | .bl b => .bool b
  | .int i => .int i
  | .str x => .str x
  | .tup xs => .tuple (pds xs)
  | .rol xs => .list (pds xs)
  | .ref _ => .none
def pds : List D → List PyData
  | [] => []
  | d :: r => pd d :: pds r
end
mutual
def pure_ : D → Bool
  | .tup xs => pures xs
  | .rol xs => pures xs
  | .ref _ => false
  | _ => true
def pures : List D → Bool
  | [] => true
  | d :: r => pure_ d && pures r
end
mutual
theorem pd_ok (S : Sto) : ∀ d : D, pure_ d = true → Pd S d (pd d)
  | .non, _ => .non
  | .bl b, _ => .bl b
  | .int b, _ => .int b
  | .str b, _ => .str b
  | .tup xs, h => .tup (pds_ok S xs h)
  | .rol xs, h => .rol (pds_ok S xs h)
  | .ref _, h => by cases h
theorem pds_ok (S : Sto) : ∀ ds : List D, pures ds = true → Pds S ds (pds ds)
  | [], _ => .nil
  | d :: r, h => by
    simp only [pures, Bool.and_eq_true] at h
    exact .cons (pd_ok S d h.1) (pds_ok S r h.2)
end
end Ev

/-! Equations for symbolic runs: one step each; what comes behind is not looked at before its turn. -/
namespace Ev
open PySem PySem.Spec PyProof.Rows L2
/-- what comes behind is not looked at before its turn: a covered function -/
inductive Tag {α : Type} (f : α) : Type where
  | mk
def cov {α : Type} (f : α) (_ : Tag f) : α := f
theorem cov1 {α β : Type} (f : α → β) (u : Tag f) (a : α) : cov f u a = f a := rfl
theorem cov2 {α β γ : Type} (f : α → β → γ) (u : Tag f) (a : α) (b : β) : cov f u a b = f a b := rfl
theorem cov3 {α β γ δ : Type} (f : α → β → γ → δ) (u : Tag f) (a : α) (b : β) (c : γ) : cov f u a b c = f a b c := rfl
def exS (o : Option Bool) (f g : Unit → Prop) : Prop := match o with | some true => f () | some false => g () | none => False
def vr (o : Option D) (f : D → Prop) : Prop := match o with | some d => f d | none => False
def vrl (o : Option (List D)) (f : List D → Prop) : Prop := match o with | some d => f d | none => False
def vrn (o : Option Nat) (f : Nat → Prop) : Prop := match o with | some d => f d | none => False
def nxR (o : Option D) (f : D → Prop) (g : Prop) : Prop := match o with | some d => f d | none => g
def LCOMP (G : Gl0) (C : CallS) (J : Ev.Itr) (tg : IG) (ifs : IQ) (elt : IE) (own : List Nat) (σ : En) (S1 : Sto) (Q : DK) : Prop := ∀ a, S1 a = none →
      ∃ W : Nat → Nat → Sto → Prop, (∃ m, W 0 m (put S1 a (.lst []))) ∧ ∀ i m S, W i m S →
        nxt J i S (Q (.ref a) S) fun d => asgS tg d (wips σ own) S fun σ2 =>
          semQ G C (fun _ _ => False) ifs σ2 S fun k S3 => if k = true
              then semE G C (fun _ _ => False) elt σ2 S3 fun y S4 => ∃ acc, S4 a = some (.lst acc) ∧ acc.length < sizeLine ∧ ∃ m', m' < m ∧ W (i + 1) m' (put S4 a (.lst (acc ++ [y])))
              else ∃ m', m' < m ∧ W (i + 1) m' S3
def negS (x : D) (S : Sto) (Q : DK) : Prop := match x with | .int i => Q (.int (-i)) S | _ => False
def isiS (o : Option Bool) (S : Sto) (Q : DK) : Prop := match o with | some k => Q (.bl k) S | none => False
def oS (x : D) (S : Sto) (R : Option Int → Sto → Prop) : Prop := match x with | .int i => R (some i) S | _ => False
def seqS (x : D) (S1 : Sto) (R : Ev.Itr → Sto → Prop) : Prop := match x with
      | .tup xs => R (.tup xs) S1
      | .rol xs => R (.rol xs) S1
      | .ref a => (match lget S1 a with | some _ => R (.lst a) S1 | none => False)
      | _ => False
def rng1S (x : D) (S1 : Sto) (R : Ev.Itr → Sto → Prop) : Prop := match x with | .int j => -(2 ^ 62) ≤ j ∧ j < 2 ^ 62 ∧ R (.rng 0 j.toNat) S1 | _ => False
def rng2S (x y : D) (S2 : Sto) (R : Ev.Itr → Sto → Prop) : Prop := match x, y with
      | .int i, .int j => (-(2 ^ 62) ≤ i ∧ i < 2 ^ 62 ∧ -(2 ^ 62) ≤ j ∧ j < 2 ^ 62) ∧ R (.rng i (j - i).toNat) S2
      | _, _ => False
def rng3S (x y z : D) (S3 : Sto) (R : Ev.Itr → Sto → Prop) : Prop := match x, y, z with
      | .int i, .int j, .int k => ∃ n, RgC i j k n ∧ R (.rngc i k n) S3
      | _, _, _ => False
def enuS (x : D) (S1 : Sto) (R : Ev.Itr → Sto → Prop) : Prop := match x with
      | .ref a => (match lget S1 a with | some _ => R (.enu a) S1 | none => False)
      | _ => False
def zipS (x y : D) (S2 : Sto) (R : Ev.Itr → Sto → Prop) : Prop := match x, y with
      | .ref a, .ref b => (match lget S2 a, lget S2 b with | some _, some _ => R (.zip a b) S2 | _, _ => False)
      | .tup xs, .tup ys => R (.tup (zipD xs ys)) S2
      | _, _ => False
def revS (x : D) (S1 : Sto) (R : Ev.Itr → Sto → Prop) : Prop := match x with
      | .ref a => (match lget S1 a with | some xs => R (.rev a xs.length) S1 | none => False)
      | .tup xs => R (.tup xs.reverse) S1
      | _ => False
def subS (ov iv d : D) (S3 : Sto) (R : Sto → Prop) : Prop := match ov, iv with
      | .ref a, .int n => (match S3 a with
        | some (.lst xs) => (match ixN xs.length n with | some j => R (put S3 a (.lst (xs.set j d))) | none => False)
        | _ => False)
      | _, _ => False
section
variable {G : Gl0} {C : CallS} {X : XS} {σ : En} {S : Sto} {Q : DK} {k : Kt}
theorem E_var (i : Nat) : semE G C X (.var i) σ S Q = (vr (gt σ i) (cov (fun d => Q d S) .mk)) := rfl
theorem E_int (i : Int) : semE G C X (.int i) σ S Q = (Q (.int i) S) := rfl
theorem E_bl (i : Bool) : semE G C X (.bl i) σ S Q = (Q (.bl i) S) := rfl
theorem E_non  : semE G C X .non σ S Q = (Q .non S) := rfl
theorem E_str (i : Str) : semE G C X (.str i) σ S Q = (Q (.str i) S) := rfl
theorem E_glo (x : Str) : semE G C X (.glo x) σ S Q = (vr (G.cs x) (cov (fun d => Q d S) .mk)) := rfl
theorem E_tup (es : IEs) : semE G C X (.tup es) σ S Q = (semEs G C X es σ S (cov (fun ds S1 => Q (.tup ds) S1) .mk)) := rfl
theorem E_lst (es : IEs) : semE G C X (.lst es) σ S Q = (semEs G C X es σ S (cov (fun ds S1 => ∀ a, S1 a = none → Q (.ref a) (put S1 a (.lst ds))) .mk)) := rfl
theorem E_bin (op : Operator) (a b : IE) : semE G C X (.bin op a b) σ S Q = (semE G C X a σ S (cov (fun x S1 => semE G C X b σ S1 (cov (fun y S2 => binS G.PY op x y S2 Q) .mk)) .mk)) := rfl
theorem E_neg (a : IE) : semE G C X (.neg a) σ S Q = (semE G C X a σ S (cov (fun x S1 => negS x S1 Q) .mk)) := rfl
theorem E_cmp (op : CmpOp) (a b : IE) : semE G C X (.cmp op a b) σ S Q = (semE G C X a σ S (cov (fun x S1 => semE G C X b σ S1 (cov (fun y S2 => cmpS op x y S2 (cov (fun k => Q (.bl k) S2) .mk)) .mk)) .mk)) := rfl
theorem E_chn (op op2 : CmpOp) (a b c : IE) : semE G C X (.chn op op2 a b c) σ S Q = (semE G C X a σ S (cov (fun x S1 => semE G C X b σ S1 (cov (fun y S2 => cmpS op x y S2 (cov (fun k =>
      if k = true then semE G C X c σ S2 (cov (fun z S3 => cmpS op2 y z S3 (cov (fun k2 => Q (.bl k2) S3) .mk)) .mk) else Q (.bl false) S2) .mk)) .mk)) .mk)) := rfl
theorem E_and (a b : IE) : semE G C X (.and a b) σ S Q = (semE G C X a σ S (cov (fun x S1 => truS x S1 (cov (fun k => if k = true then semE G C X b σ S1 Q else Q x S1) .mk)) .mk)) := rfl
theorem E_or (a b : IE) : semE G C X (.or a b) σ S Q = (semE G C X a σ S (cov (fun x S1 => truS x S1 (cov (fun k => if k = true then Q x S1 else semE G C X b σ S1 Q) .mk)) .mk)) := rfl
theorem E_one (a : IE) : semE G C X (.one a) σ S Q = (semE G C X a σ S Q) := rfl
theorem E_not (a : IE) : semE G C X (.not a) σ S Q = (semE G C X a σ S (cov (fun x S1 => truS x S1 (cov (fun k => Q (.bl (!k)) S1) .mk)) .mk)) := rfl
theorem E_ifx (c : IC) (a b : IE) : semE G C X (.ifx c a b) σ S Q = (semC G C X c σ S (cov (fun k S1 => if k = true then semE G C X a σ S1 Q else semE G C X b σ S1 Q) .mk)) := rfl
theorem E_idx (a i : IE) : semE G C X (.idx a i) σ S Q = (semE G C X a σ S (cov (fun x S1 => semE G C X i σ S1 (cov (fun y S2 => idxS x y S2 Q) .mk)) .mk)) := rfl
theorem E_slc (a : IE) (lo hi : IO) : semE G C X (.slc a lo hi) σ S Q = (semE G C X a σ S (cov (fun x S1 => semO G C X lo σ S1 (cov (fun l S2 => semO G C X hi σ S2 (cov (fun u S3 => slcS x l u S3 Q) .mk)) .mk)) .mk)) := rfl
theorem E_call (f : Str) (es : IEs) : semE G C X (.call f es) σ S Q = (semEs G C X es σ S (cov (fun ds S1 => C f ds S1 Q X) .mk)) := rfl
theorem E_bi (b : Bi) (es : IEs) : semE G C X (.bi b es) σ S Q = (semEs G C X es σ S (cov (fun ds S1 => biS b ds S1 Q) .mk)) := rfl
theorem E_isi (e : IE) (ts : List Ty) : semE G C X (.isi e ts) σ S Q = (semE G C X e σ S (cov (fun x S1 => isiS (isTs S1 x ts) S1 Q) .mk)) := rfl
theorem E_mth (m : Me) (o : IE) (es : IEs) : semE G C X (.mth m o es) σ S Q = (semE G C X o σ S (cov (fun x S1 => mthT m x S1 ∧ semEs G C X es σ S1 (cov (fun ds S2 => mthS m x ds S2 Q) .mk)) .mk)) := rfl
theorem E_lc (elt : IE) (tg : IG) (it : II) (ifs : IQ) (own : List Nat) : semE G C X (.lc elt tg it ifs own) σ S Q = (semI G C X it σ S (cov (fun J S1 => LCOMP G C J tg ifs elt own σ S1 Q) .mk)) := rfl
theorem Es_nil  {R : List D → Sto → Prop} : semEs G C X .nil σ S R = (R [] S) := rfl
theorem Es_cons (e : IE) (r : IEs) {R : List D → Sto → Prop} : semEs G C X (.cons e r) σ S R = (semE G C X e σ S (cov (fun d S1 => semEs G C X r σ S1 (cov (fun ds S2 => R (d :: ds) S2) .mk)) .mk)) := rfl
theorem O_no  {R : Option Int → Sto → Prop} : semO G C X .no σ S R = (R none S) := rfl
theorem O_some (e : IE) {R : Option Int → Sto → Prop} : semO G C X (.some e) σ S R = (semE G C X e σ S (cov (fun x S1 => oS x S1 R) .mk)) := rfl
theorem Q_no  {R : Bool → Sto → Prop} : semQ G C X .no σ S R = (R true S) := rfl
theorem Q_c (c : IC) {R : Bool → Sto → Prop} : semQ G C X (.c c) σ S R = (semC G C X c σ S R) := rfl
theorem C_and (a b : IC) {R : Bool → Sto → Prop} : semC G C X (.and a b) σ S R = (semC G C X a σ S (cov (fun k S1 => if k = true then semC G C X b σ S1 R else R false S1) .mk)) := rfl
theorem C_or (a b : IC) {R : Bool → Sto → Prop} : semC G C X (.or a b) σ S R = (semC G C X a σ S (cov (fun k S1 => if k = true then R true S1 else semC G C X b σ S1 R) .mk)) := rfl
theorem C_one (a : IC) {R : Bool → Sto → Prop} : semC G C X (.one a) σ S R = (semC G C X a σ S R) := rfl
theorem C_not (a : IC) {R : Bool → Sto → Prop} : semC G C X (.not a) σ S R = (semC G C X a σ S (cov (fun k S1 => R (!k) S1) .mk)) := rfl
theorem C_cmp (op : CmpOp) (a b : IE) {R : Bool → Sto → Prop} : semC G C X (.cmp op a b) σ S R = (semE G C X a σ S (cov (fun x S1 => semE G C X b σ S1 (cov (fun y S2 => cmpS op x y S2 (cov (fun k => R k S2) .mk)) .mk)) .mk)) := rfl
theorem C_chn (op op2 : CmpOp) (a b c : IE) {R : Bool → Sto → Prop} : semC G C X (.chn op op2 a b c) σ S R = (semE G C X a σ S (cov (fun x S1 => semE G C X b σ S1 (cov (fun y S2 => cmpS op x y S2 (cov (fun k =>
      if k = true then semE G C X c σ S2 (cov (fun z S3 => cmpS op2 y z S3 (cov (fun k2 => R k2 S3) .mk)) .mk) else R false S2) .mk)) .mk)) .mk)) := rfl
theorem C_v (e : IE) {R : Bool → Sto → Prop} : semC G C X (.v e) σ S R = (semE G C X e σ S (cov (fun x S1 => truS x S1 (cov (fun k => R k S1) .mk)) .mk)) := rfl
theorem I_seq (e : IE) {R : Ev.Itr → Sto → Prop} : semI G C X (.seq e) σ S R = (semE G C X e σ S (cov (fun x S1 => seqS x S1 R) .mk)) := rfl
theorem I_rng1 (a : IE) {R : Ev.Itr → Sto → Prop} : semI G C X (.rng1 a) σ S R = (semE G C X a σ S (cov (fun x S1 => rng1S x S1 R) .mk)) := rfl
theorem I_rng2 (a b : IE) {R : Ev.Itr → Sto → Prop} : semI G C X (.rng2 a b) σ S R = (semE G C X a σ S (cov (fun x S1 => semE G C X b σ S1 (cov (fun y S2 => rng2S x y S2 R) .mk)) .mk)) := rfl
theorem I_rng3 (a b c : IE) {R : Ev.Itr → Sto → Prop} : semI G C X (.rng3 a b c) σ S R = (semE G C X a σ S (cov (fun x S1 => semE G C X b σ S1 (cov (fun y S2 => semE G C X c σ S2 (cov (fun z S3 => rng3S x y z S3 R) .mk)) .mk)) .mk)) := rfl
theorem I_enu (a : IE) {R : Ev.Itr → Sto → Prop} : semI G C X (.enu a) σ S R = (semE G C X a σ S (cov (fun x S1 => enuS x S1 R) .mk)) := rfl
theorem I_zip (a b : IE) {R : Ev.Itr → Sto → Prop} : semI G C X (.zip a b) σ S R = (semE G C X a σ S (cov (fun x S1 => semE G C X b σ S1 (cov (fun y S2 => zipS x y S2 R) .mk)) .mk)) := rfl
theorem I_rev (a : IE) {R : Ev.Itr → Sto → Prop} : semI G C X (.rev a) σ S R = (semE G C X a σ S (cov (fun x S1 => revS x S1 R) .mk)) := rfl
theorem S_set (i : Nat) (e : IE) : semS G C (.set i e) k σ S = (semE G C ((cov (fun x S => k.ex x σ S) .mk)) e σ S (cov (fun d S1 => k.nx (stn σ i d) S1) .mk)) := rfl
theorem S_asg (g : IG) (e : IE) : semS G C (.asg g e) k σ S = (semE G C ((cov (fun x S => k.ex x σ S) .mk)) e σ S (cov (fun d S1 => asgS g d σ S1 (cov (fun σ1 => k.nx σ1 S1) .mk)) .mk)) := rfl
theorem S_par2 (i j : Nat) (a b : IE) : semS G C (.par2 i j a b) k σ S = (semE G C ((cov (fun x S => k.ex x σ S) .mk)) a σ S (cov (fun x S1 => semE G C ((cov (fun x S => k.ex x σ S) .mk)) b σ S1 (cov (fun y S2 => k.nx (stn (stn σ i x) j y) S2) .mk)) .mk)) := rfl
theorem S_sub (o i e : IE) : semS G C (.sub o i e) k σ S = (semE G C ((cov (fun x S => k.ex x σ S) .mk)) e σ S (cov (fun d S1 => semE G C ((cov (fun x S => k.ex x σ S) .mk)) o σ S1 (cov (fun ov S2 => semE G C ((cov (fun x S => k.ex x σ S) .mk)) i σ S2 (cov (fun iv S3 => subS ov iv d S3 (cov (fun S4 => k.nx σ S4) .mk)) .mk)) .mk)) .mk)) := rfl
theorem S_expr (e : IE) : semS G C (.expr e) k σ S = (semE G C ((cov (fun x S => k.ex x σ S) .mk)) e σ S (cov (fun _ S1 => k.nx σ S1) .mk)) := rfl
theorem S_ret (e : IE) : semS G C (.ret e) k σ S = (semE G C ((cov (fun x S => k.ex x σ S) .mk)) e σ S k.rt) := rfl
theorem S_retN  : semS G C .retN k σ S = (k.rt .non S) := rfl
theorem S_ifs (c : IC) (a b : ISs) : semS G C (.ifs c a b) k σ S = (semC G C ((cov (fun x S => k.ex x σ S) .mk)) c σ S (cov (fun h S1 => if h = true then semSs G C a k σ S1 else semSs G C b k σ S1) .mk)) := rfl
theorem S_for (g : IG) (it : II) (b : ISs) : semS G C (.for_ g it b) k σ S = (semI G C ((cov (fun x S => k.ex x σ S) .mk)) it σ S (cov (fun J S1 => FOR G C J g b k σ S1) .mk)) := rfl
theorem S_brk  : semS G C .brk k σ S = (k.bk σ S) := rfl
theorem S_cnt  : semS G C .cnt k σ S = (k.ct σ S) := rfl
theorem S_pass  : semS G C .pass k σ S = (k.nx σ S) := rfl
theorem S_nil  : semSs G C .nil k σ S = (k.nx σ S) := rfl
theorem S_cons (s : IS) (r : ISs) : semSs G C (.cons s r) k σ S = (semS G C s (kN k (cov (fun σ1 S1 => semSs G C r k σ1 S1 ) .mk)) σ S) := rfl
theorem S_raise (x : Str) (es : IEs) : semS G C (.raise x es) k σ S = (semEs G C ((cov (fun x S => k.ex x σ S) .mk)) es σ S (cov (fun ds S1 => ds.length ≤ sizeLine ∧ k.ex ⟨x, []⟩ σ S1) .mk)) := rfl
theorem S_try (b : ISs) (x : Str) (t : ISs) : semS G C (.tryx b x t) k σ S = (semSs G C b (kX k (cov (fun e σ' S' => exS (G.sub e.cls x) (cov (fun _ => semSs G C t (kX k fun _ _ _ => False) σ' S') .mk) (cov (fun _ => k.ex e σ' S') .mk)) .mk)) σ S) := rfl
theorem S_never : semS G C .never k σ S = False := rfl
theorem ex_t {f g : Unit → Prop} : exS (some true) f g = f () := rfl
theorem ex_f {f g : Unit → Prop} : exS (some false) f g = g () := rfl
theorem kend_nx {E : XS} : (kend Q E).nx = (fun _ S => Q .non S) := rfl
theorem kend_rt {E : XS} : (kend Q E).rt = (Q) := rfl
theorem kend_bk {E : XS} : (kend Q E).bk = (fun _ _ => False) := rfl
theorem kend_ct {E : XS} : (kend Q E).ct = (fun _ _ => False) := rfl
theorem kend_ex {E : XS} : (kend Q E).ex = (fun x _ S => E x S) := rfl
theorem vr_some {f : D → Prop} (d : D) : vr (some d) f = (f d) := rfl
theorem gt_0 (x : Option D) (r : En) : gt (x :: r) 0 = (x) := rfl
theorem gt_s (x : Option D) (r : En) (n : Nat) : gt (x :: r) (n + 1) = (gt r n) := rfl
theorem stn_0 (x : Option D) (r : En) (d : D) : stn (x :: r) 0 d = (some d :: r) := rfl
theorem stn_s (x : Option D) (r : En) (d : D) (n : Nat) : stn (x :: r) (n + 1) d = (x :: stn r n d) := rfl
theorem wip_0 (x : Option D) (r : En) : wip1 (x :: r) 0 = (none :: r) := rfl
theorem wip_s (x : Option D) (r : En) (n : Nat) : wip1 (x :: r) (n + 1) = (x :: wip1 r n) := rfl
theorem wips_0  : wips σ [] = (σ) := rfl
theorem wips_s (i : Nat) (r : List Nat) : wips σ (i :: r) = (wips (wip1 σ i) r) := rfl
theorem neg_i (i : Int) : negS (.int i) S Q = (Q (.int (-i)) S) := rfl
theorem isi_s (b : Bool) : isiS (some b) S Q = (Q (.bl b) S) := rfl
theorem o_i {R : Option Int → Sto → Prop} (i : Int) : oS (.int i) S R = (R (some i) S) := rfl
theorem tru_non {R : Bool → Prop}  : truS .non S R = (R (false)) := rfl
theorem tru_bl {R : Bool → Prop} (b : Bool) : truS (.bl b) S R = (R (b)) := rfl
theorem tru_int {R : Bool → Prop} (i : Int) : truS (.int i) S R = (R (i != 0)) := rfl
theorem tru_tup {R : Bool → Prop} (xs : List D) : truS (.tup xs) S R = (R (!xs.isEmpty)) := rfl
theorem tru_rol {R : Bool → Prop} (xs : List D) : truS (.rol xs) S R = (R (!xs.isEmpty)) := rfl
theorem c_Eq {R : Bool → Prop} (i j : Int) : cmpS .Eq (.int i) (.int j) S R = (R (decide (i = j))) := rfl
theorem c_NotEq {R : Bool → Prop} (i j : Int) : cmpS .NotEq (.int i) (.int j) S R = (R (!decide (i = j))) := rfl
theorem c_Lt {R : Bool → Prop} (i j : Int) : cmpS .Lt (.int i) (.int j) S R = (R (decide (i < j))) := rfl
theorem c_LtE {R : Bool → Prop} (i j : Int) : cmpS .LtE (.int i) (.int j) S R = (R (decide (i ≤ j))) := rfl
theorem c_Gt {R : Bool → Prop} (i j : Int) : cmpS .Gt (.int i) (.int j) S R = (R (decide (j < i))) := rfl
theorem c_GtE {R : Bool → Prop} (i j : Int) : cmpS .GtE (.int i) (.int j) S R = (R (decide (j ≤ i))) := rfl
theorem cs_Eq {R : Bool → Prop} (i j : Str) : cmpS .Eq (.str i) (.str j) S R = (R (decide (i = j))) := rfl
theorem cs_NotEq {R : Bool → Prop} (i j : Str) : cmpS .NotEq (.str i) (.str j) S R = (R (!decide (i = j))) := rfl
theorem is_non {R : Bool → Prop}  : cmpS .Is .non .non S R = (R true) := rfl
theorem isnot_non {R : Bool → Prop}  : cmpS .IsNot .non .non S R = (R false) := rfl
theorem is_bl {R : Bool → Prop} (b : Bool) : cmpS .Is (.bl b) .non S R = (R false) := rfl
theorem isnot_bl {R : Bool → Prop} (b : Bool) : cmpS .IsNot (.bl b) .non S R = (R true) := rfl
theorem is_int {R : Bool → Prop} (i : Int) : cmpS .Is (.int i) .non S R = (R false) := rfl
theorem isnot_int {R : Bool → Prop} (i : Int) : cmpS .IsNot (.int i) .non S R = (R true) := rfl
theorem is_str {R : Bool → Prop} (x : Str) : cmpS .Is (.str x) .non S R = (R false) := rfl
theorem isnot_str {R : Bool → Prop} (x : Str) : cmpS .IsNot (.str x) .non S R = (R true) := rfl
theorem is_tup {R : Bool → Prop} (xs : List D) : cmpS .Is (.tup xs) .non S R = (R false) := rfl
theorem isnot_tup {R : Bool → Prop} (xs : List D) : cmpS .IsNot (.tup xs) .non S R = (R true) := rfl
theorem is_rol {R : Bool → Prop} (xs : List D) : cmpS .Is (.rol xs) .non S R = (R false) := rfl
theorem isnot_rol {R : Bool → Prop} (xs : List D) : cmpS .IsNot (.rol xs) .non S R = (R true) := rfl
theorem is_ref {R : Bool → Prop} (a : Addr) : cmpS .Is (.ref a) .non S R = (R false) := rfl
theorem isnot_ref {R : Bool → Prop} (a : Addr) : cmpS .IsNot (.ref a) .non S R = (R true) := rfl
theorem is_b {R : Bool → Prop} (b c : Bool) : cmpS .Is (.bl c) (.bl b) S R = (R (decide (c = b))) := rfl
theorem isnot_b {R : Bool → Prop} (b c : Bool) : cmpS .IsNot (.bl c) (.bl b) S R = (R (!decide (c = b))) := rfl
theorem in_s {R : Bool → Prop} (i j : Str) : cmpS .In (.str i) (.str j) S R = (R (!(Builtin.Str.occurrences j i 0 j.length 1).isEmpty)) := rfl
theorem notin_s {R : Bool → Prop} (i j : Str) : cmpS .NotIn (.str i) (.str j) S R = (R (!(!(Builtin.Str.occurrences j i 0 j.length 1).isEmpty))) := rfl
theorem b_add {PY : Prop} (i j : Int) : binS PY .Add (.int i) (.int j) S Q = (Q (.int (i + j)) S) := rfl
theorem b_sub {PY : Prop} (i j : Int) : binS PY .Sub (.int i) (.int j) S Q = (Q (.int (i - j)) S) := rfl
theorem b_mul {PY : Prop} (i j : Int) : binS PY .Mult (.int i) (.int j) S Q = (IntMulOk i j ∧ Q (.int (i * j)) S) := rfl
theorem b_fdiv {PY : Prop} (i j : Int) : binS PY .FloorDiv (.int i) (.int j) S Q = (FdOk PY i j ∧ Q (.int (i.fdiv j)) S) := rfl
theorem b_mod {PY : Prop} (i j : Int) : binS PY .Mod (.int i) (.int j) S Q = (j ≠ 0 ∧ Q (.int (i.fmod j)) S) := rfl
theorem b_pow {PY : Prop} (i j : Int) : binS PY .Pow (.int i) (.int j) S Q = (CPow i j ∧ Q (.int (i ^ j.toNat)) S) := rfl
theorem b_addt {PY : Prop} (xs ys : List D) : binS PY .Add (.tup xs) (.tup ys) S Q = (xs.length + ys.length ≤ sizeLine ∧ Q (.tup (xs ++ ys)) S) := rfl
theorem b_adds {PY : Prop} (a b : Str) : binS PY .Add (.str a) (.str b) S Q = (a.length + b.length ≤ sizeLine ∧ Q (.str (a ++ b)) S) := rfl
theorem slc_t (xs : List D) (lo hi : Option Int) : slcS (.tup xs) lo hi S Q = (Q (.tup (cutD xs lo hi)) S) := rfl
theorem slc_r (xs : List D) (lo hi : Option Int) : slcS (.rol xs) lo hi S Q = (∀ c, S c = none → Q (.ref c) (put S c (.lst (cutD xs lo hi)))) := rfl
theorem len_s (z : Str) : biS .len [.str z] S Q = (z.length ≤ sizeLine ∧ Q (.int z.length) S) := rfl
theorem abs_i (i : Int) : biS .abs [.int i] S Q = (Q (.int (if i < 0 then -i else i)) S) := rfl
theorem int_i (i : Int) : biS .int [.int i] S Q = (Q (.int i) S) := rfl
theorem int_b (b : Bool) : biS .int [.bl b] S Q = (Q (.int (if b then 1 else 0)) S) := rfl
theorem min_i (i j : Int) : biS .min2 [.int i, .int j] S Q = (Q (.int (if j < i then j else i)) S) := rfl
theorem max_i (i j : Int) : biS .max2 [.int i, .int j] S Q = (Q (.int (if j > i then j else i)) S) := rfl
theorem gcd_i (i j : Int) : biS .gcd [.int i, .int j] S Q = (Q (.int ((Nat.gcd i.natAbs j.natAbs : Nat) : Int)) S) := rfl
theorem seq_t {R : Ev.Itr → Sto → Prop} (xs : List D) : seqS (.tup xs) S R = (R (.tup xs) S) := rfl
theorem seq_r {R : Ev.Itr → Sto → Prop} (xs : List D) : seqS (.rol xs) S R = (R (.rol xs) S) := rfl
theorem r1_i {R : Ev.Itr → Sto → Prop} (j : Int) : rng1S (.int j) S R = (-(2 ^ 62) ≤ j ∧ j < 2 ^ 62 ∧ R (.rng 0 j.toNat) S) := rfl
theorem r2_i {R : Ev.Itr → Sto → Prop} (i j : Int) : rng2S (.int i) (.int j) S R = ((-(2 ^ 62) ≤ i ∧ i < 2 ^ 62 ∧ -(2 ^ 62) ≤ j ∧ j < 2 ^ 62) ∧ R (.rng i (j - i).toNat) S) := rfl
theorem r3_i {R : Ev.Itr → Sto → Prop} (i j k : Int) : rng3S (.int i) (.int j) (.int k) S R = (∃ n, RgC i j k n ∧ R (.rngc i k n) S) := rfl
theorem a_nm {R : En → Prop} (i : Nat) (d : D) : asgS (.nm i) d σ S R = (R (stn σ i d)) := rfl
theorem a_nil {R : En → Prop} : asgsS .nil [] σ S R = (R σ) := rfl
theorem a_cons {R : En → Prop} (g : IG) (r : IGs) (d : D) (t : List D) : asgsS (.cons g r) (d :: t) σ S R = (asgS g d σ S fun σ1 => asgsS r t σ1 S R) := rfl
theorem vrl_some {f : List D → Prop} (d : List D) : vrl (some d) f = f d := rfl
theorem vrn_some {f : Nat → Prop} (d : Nat) : vrn (some d) f = f d := rfl
theorem lget_iff {a : Addr} : lget S a = (S a).map fun o => match o with | .lst xs => xs := by
  unfold lget
  cases S a with
  | none => rfl
  | some o => cases o; rfl
theorem tru_ref {R : Bool → Prop} (a : Addr) : truS (.ref a) S R = vrl (lget S a) (cov (fun xs => R (!xs.isEmpty)) .mk) := rfl
theorem b_addl {PY : Prop} (a b : Addr) : binS PY .Add (.ref a) (.ref b) S Q = vrl (lget S a) (cov (fun xs => vrl (lget S b) (cov (fun ys => xs.length + ys.length ≤ sizeLine ∧ ∀ c, S c = none → Q (.ref c) (put S c (.lst (xs ++ ys)))) .mk)) .mk) := by
  rcases e : S a with _ | ⟨xs⟩
  · simp only [binS, lget, vrl, e]
  · rcases e2 : S b with _ | ⟨ys⟩
    · simp only [binS, lget, vrl, e, e2, cov]
    · simp only [binS, lget, vrl, e, e2, cov]
theorem idx_t (xs : List D) (n : Int) : idxS (.tup xs) (.int n) S Q = vr (atI xs n) (cov (fun d => Q d S) .mk) := rfl
theorem idx_r (xs : List D) (n : Int) : idxS (.rol xs) (.int n) S Q = vr (atI xs n) (cov (fun d => Q d S) .mk) := rfl
theorem idx_l (a : Addr) (n : Int) : idxS (.ref a) (.int n) S Q = vrl (lget S a) (cov (fun xs => vr (atI xs n) (cov (fun d => Q d S) .mk)) .mk) := rfl
theorem slc_l (a : Addr) (lo hi : Option Int) : slcS (.ref a) lo hi S Q = vrl (lget S a) (cov (fun xs => ∀ c, S c = none → Q (.ref c) (put S c (.lst (cutD xs lo hi)))) .mk) := rfl
theorem len_t (xs : List D) : biS .len [.tup xs] S Q = Q (.int xs.length) S := rfl
theorem len_r (xs : List D) : biS .len [.rol xs] S Q = Q (.int xs.length) S := rfl
theorem len_l (a : Addr) : biS .len [.ref a] S Q = vrl (lget S a) (cov (fun xs => Q (.int xs.length) S) .mk) := rfl
theorem tuple_t (xs : List D) : biS .tuple [.tup xs] S Q = Q (.tup xs) S := rfl
theorem tuple_r (xs : List D) : biS .tuple [.rol xs] S Q = Q (.tup xs) S := rfl
theorem tuple_l (a : Addr) : biS .tuple [.ref a] S Q = vrl (lget S a) (cov (fun xs => Q (.tup xs) S) .mk) := rfl
theorem list_t (xs : List D) : biS .list [.tup xs] S Q = (∀ c, S c = none → Q (.ref c) (put S c (.lst xs))) := rfl
theorem list_r (xs : List D) : biS .list [.rol xs] S Q = (∀ c, S c = none → Q (.ref c) (put S c (.lst xs))) := rfl
theorem list_l (a : Addr) : biS .list [.ref a] S Q = vrl (lget S a) (cov (fun xs => ∀ c, S c = none → Q (.ref c) (put S c (.lst xs))) .mk) := rfl
theorem app_l (a : Addr) (y : D) : mthS .append (.ref a) [y] S Q = vrl (lget S a) (cov (fun xs => xs.length < sizeLine ∧ Q .non (put S a (.lst (xs ++ [y])))) .mk) := by
  rcases e : S a with _ | ⟨xs⟩
  · simp only [mthS, lget, vrl, e]
  · simp only [mthS, lget, vrl, e, cov] <;> rfl
theorem rev_l (a : Addr) : mthS .reverse (.ref a) [] S Q = vrl (lget S a) (cov (fun xs => Q .non (put S a (.lst xs.reverse))) .mk) := by
  rcases e : S a with _ | ⟨xs⟩
  · simp only [mthS, lget, vrl, e]
  · simp only [mthS, lget, vrl, e, cov] <;> rfl
theorem pop_l (a : Addr) : mthS .pop (.ref a) [] S Q = vrl (lget S a) (cov (fun xs => vr xs[xs.length - 1]? (cov (fun y => Q y (put S a (.lst xs.dropLast))) .mk)) .mk) := by
  rcases e : S a with _ | ⟨xs⟩
  · simp only [mthS, lget, vrl, e]
  · simp only [mthS, lget, vrl, e, cov] <;> rfl
theorem popat_l (a : Addr) (i : Int) : mthS .popat (.ref a) [.int i] S Q = vrl (lget S a) (cov (fun xs => -(2 ^ 63) ≤ i ∧ i < 2 ^ 63 ∧ vrn (seqIndex? i xs.length) (cov (fun k => vr xs[k]? (cov (fun y => Q y (put S a (.lst (xs.eraseIdx k)))) .mk)) .mk)) .mk) := by
  rcases e : S a with _ | ⟨xs⟩
  · simp only [mthS, lget, vrl, e]
  · simp only [mthS, lget, vrl, e, cov] <;> rfl
theorem mT_l (m : Me) (a : Addr) : mthT m (.ref a) S = ((lget S a).isSome = true) := by
  unfold mthT
  apply propext
  exact Option.isSome_iff_exists.symm
theorem seq_l {R : Ev.Itr → Sto → Prop} (a : Addr) : seqS (.ref a) S R = vrl (lget S a) (cov (fun _ => R (.lst a) S) .mk) := rfl
theorem enu_l {R : Ev.Itr → Sto → Prop} (a : Addr) : enuS (.ref a) S R = vrl (lget S a) (cov (fun _ => R (.enu a) S) .mk) := rfl
theorem zip_l {R : Ev.Itr → Sto → Prop} (a b : Addr) : zipS (.ref a) (.ref b) S R = vrl (lget S a) (cov (fun _ => vrl (lget S b) (cov (fun _ => R (.zip a b) S) .mk)) .mk) := by
  rcases e : lget S a with _ | ⟨x, xs⟩ <;> rcases e2 : lget S b with _ | ⟨y, ys⟩ <;> simp only [zipS, vrl, e, e2, cov]
theorem in_t {R : Bool → Prop} (x : D) (ys : List D) : cmpS .In x (.tup ys) S R = (flD x = true ∧ ys.all flD = true ∧ R (inL x ys)) := rfl
theorem notin_t {R : Bool → Prop} (x : D) (ys : List D) : cmpS .NotIn x (.tup ys) S R = (flD x = true ∧ ys.all flD = true ∧ R (!inL x ys)) := rfl
theorem fl_s (a : Str) : flD (.str a) = true := rfl
theorem fl_i (a : Int) : flD (.int a) = true := rfl
theorem fl_b (a : Bool) : flD (.bl a) = true := rfl
theorem fl_n : flD .non = true := rfl
theorem inL_nil (x : D) : inL x [] = false := rfl
theorem inL_ss (a b : Str) (r : List D) : inL (.str a) (.str b :: r) = (decide (b = a) || inL (.str a) r) := by
  unfold inL
  rw [List.any_cons]
  show ((b == a) || _) = _
  congr 1
theorem inL_ii (a b : Int) (r : List D) : inL (.int a) (.int b :: r) = (decide (b = a) || inL (.int a) r) := by
  unfold inL
  rw [List.any_cons]
  rfl
theorem rev_t {R : Ev.Itr → Sto → Prop} (xs : List D) : revS (.tup xs) S R = R (.tup xs.reverse) S := rfl
theorem zip_t {R : Ev.Itr → Sto → Prop} (xs ys : List D) : zipS (.tup xs) (.tup ys) S R = R (.tup (zipD xs ys)) S := rfl
theorem rev_i {R : Ev.Itr → Sto → Prop} (a : Addr) : revS (.ref a) S R = vrl (lget S a) (cov (fun xs => R (.rev a xs.length) S) .mk) := rfl
theorem a_t {R : En → Prop} (gs : IGs) (xs : List D) : asgS (.tup gs) (.tup xs) σ S R = asgsS gs xs σ S R := by simp only [asgS, sget]
theorem a_l {R : En → Prop} (gs : IGs) (a : Addr) : asgS (.tup gs) (.ref a) σ S R = vrl (lget S a) (cov (fun xs => asgsS gs xs σ S R) .mk) := by simp only [asgS, sget]; rfl
theorem sub_l {R : Sto → Prop} (a : Addr) (n : Int) (d : D) : subS (.ref a) (.int n) d S R = vrl (lget S a) (cov (fun xs => vrn (ixN xs.length n) (cov (fun j => R (put S a (.lst (xs.set j d)))) .mk)) .mk) := by
  rcases e : S a with _ | ⟨xs⟩
  · simp only [subS, lget, vrl, e]
  · simp only [subS, lget, vrl, e, cov] <;> rfl
end
end Ev

/-! == of plain data -/
namespace Ev
open PySem PySem.Spec PyProof.Rows L2
mutual
theorem pd_eq {S : Sto} : ∀ (d : D) (p : PyData), pure_ d = true → Pd S d p → p = pd d
  | .non, p, _, h => by cases h; rfl
  | .bl b, p, _, h => by cases h; rfl
  | .int b, p, _, h => by cases h; rfl
  | .str b, p, _, h => by cases h; rfl
  | .tup xs, p, hp, h => by
    cases h with
    | tup g => rw [pd, pds_eq xs _ hp g]
  | .rol xs, p, hp, h => by
    cases h with
    | rol g => rw [pd, pds_eq xs _ hp g]
  | .ref _, p, hp, h => by cases hp
theorem pds_eq {S : Sto} : ∀ (ds : List D) (ps : List PyData), pures ds = true → Pds S ds ps → ps = pds ds
  | [], ps, _, h => by cases h; rfl
  | d :: r, ps, hp, h => by
    simp only [pures, Bool.and_eq_true] at hp
    cases h with
    | cons g1 g2 => rw [pds, pd_eq d _ hp.1 g1, pds_eq r _ hp.2 g2]
end
theorem eqG_pure {S : Sto} {x y : D} {Q : Bool → Prop} (hx : pure_ x = true) (hy : pure_ y = true) (sx : SeqAt.shaped (pd x) = true) (sy : SeqAt.shaped (pd y) = true) : eqG x y S Q = Q (PyData.eqv (pd x) (pd y)) := by
  apply propext
  constructor
  · rintro ⟨p, q, h1, h2, _, _, h⟩
    rw [pd_eq x p hx h1, pd_eq y q hy h2] at h
    exact h
  · intro h
    exact ⟨_, _, pd_ok S x hx, pd_ok S y hy, sx, sy, h⟩
theorem getD_mem {α : Type} {xs : List α} {i : Nat} {d : α} (h : i < xs.length) : xs.getD i d ∈ xs := by
  rw [List.getD_eq_getElem?_getD, List.getElem?_eq_getElem h]
  exact List.getElem_mem h
section
variable {S : Sto} {R : Bool → Prop}
theorem cb_Eq (i j : Bool) : cmpS .Eq (.bl i) (.bl j) S R = (R (i == j)) := eqG_pure rfl rfl rfl rfl
theorem cb_NotEq (i j : Bool) : cmpS .NotEq (.bl i) (.bl j) S R = (R (!(i == j))) := cb_Eq i j (R := fun k => R (!k))
def eqR (x y : List D) (S : Sto) (R : Bool → Prop) : Prop := eqG (.tup x) (.tup y) S R
theorem c2_Eq (a b c d : Int) : cmpS .Eq (.tup [.int a, .int b]) (.tup [.int c, .int d]) S R = (R (decide (a = c ∧ b = d))) := by
  show eqG _ _ S R = _
  rw [eqG_pure rfl rfl rfl rfl]
  congr 1
  simp [pd, pds, PyData.eqv, PyData.eqvAll]
  rfl
theorem c2_NotEq (a b c d : Int) : cmpS .NotEq (.tup [.int a, .int b]) (.tup [.int c, .int d]) S R = (R (!decide (a = c ∧ b = d))) := c2_Eq a b c d (R := fun k => R (!k))
end
theorem lget_ne {S : Sto} {a b : Addr} {o : Ob} (h : b ≠ a) : lget (put S a o) b = lget S b := by unfold lget; rw [put_ne h]
/-- what comes behind a statement, once for all its ways -/
theorem join {G : Gl0} {C : CallS} {s : IS} {k : Kt} {σ : En} {S : Sto} (P : En → Sto → Prop) (hP : ∀ σ' S', P σ' S' → k.nx σ' S') (h : ∀ N : En → Sto → Prop, (∀ σ' S', P σ' S' → N σ' S') → semS G C s (kN k N) σ S) : semS G C s k σ S := h k.nx hP
section
variable {G : Gl0} {C : CallS} {tg : IG} {elt : IE} {own : List Nat} {σ : En} {S1 : Sto} {Q : DK}
theorem comp_by {J : Ev.Itr} (n : Nat) (item : Nat → D) (I : Addr → Nat → List D → Sto → Prop) (hx : ∀ a i acc S (stop : Prop) (go : D → Prop), i ≤ n → I a i acc S → (i < n → go (item i)) → (i = n → stop) → nxt J i S stop go)
    (h0 : ∀ a, S1 a = none → I a 0 [] (put S1 a (.lst [])))
    (step : ∀ a i acc S (N : DK), i < n → I a i acc S → (∀ y S4, S4 a = some (.lst acc) → acc.length < sizeLine → I a (i + 1) (acc ++ [y]) (put S4 a (.lst (acc ++ [y]))) → N y S4) → asgS tg (item i) (wips σ own) S fun σ2 => semE G C (fun _ _ => False) elt σ2 S N)
    (done : ∀ a acc S, I a n acc S → Q (.ref a) S) : LCOMP G C J tg .no elt own σ S1 Q := by
  intro a na
  refine ⟨fun i m S => m + i = n ∧ ∃ acc, I a i acc S, ⟨n, rfl, [], h0 a na⟩, ?_⟩
  rintro i m S ⟨hm, acc, hI⟩
  refine hx a i acc S _ _ (by omega) hI (fun hi => ?_) fun hi => done a acc S (hi ▸ hI)
  exact step a i acc S _ hi hI fun y S4 h1 h2 h3 => ⟨acc, h1, h2, m - 1, by omega, by omega, _, h3⟩
theorem comp_rng {lo : Int} {n : Nat} (I : Addr → Nat → List D → Sto → Prop) (h0 : ∀ a, S1 a = none → I a 0 [] (put S1 a (.lst [])))
    (step : ∀ a i acc S (N : DK), i < n → I a i acc S → (∀ y S4, S4 a = some (.lst acc) → acc.length < sizeLine → I a (i + 1) (acc ++ [y]) (put S4 a (.lst (acc ++ [y]))) → N y S4) → asgS tg (.int (lo + i)) (wips σ own) S fun σ2 => semE G C (fun _ _ => False) elt σ2 S N)
    (done : ∀ a acc S, I a n acc S → Q (.ref a) S) : LCOMP G C (.rng lo n) tg .no elt own σ S1 Q :=
  comp_by n (fun i => .int (lo + i)) I (fun a i acc S stop go hi _ h1 h2 => nxt_rng hi h1 h2) h0 step done
theorem comp_lst {b : Addr} {xs : List D} (I : Addr → Nat → List D → Sto → Prop) (hb : ∀ a i acc S, I a i acc S → S b = some (.lst xs)) (h0 : ∀ a, S1 a = none → I a 0 [] (put S1 a (.lst [])))
    (step : ∀ a i acc S (N : DK), i < xs.length → I a i acc S → (∀ y S4, S4 a = some (.lst acc) → acc.length < sizeLine → I a (i + 1) (acc ++ [y]) (put S4 a (.lst (acc ++ [y]))) → N y S4) → asgS tg (xs.getD i .non) (wips σ own) S fun σ2 => semE G C (fun _ _ => False) elt σ2 S N)
    (done : ∀ a acc S, I a xs.length acc S → Q (.ref a) S) : LCOMP G C (.lst b) tg .no elt own σ S1 Q :=
  comp_by xs.length (fun i => xs.getD i .non) I (fun a i acc S stop go hi hI h1 h2 => by
    simp only [nxt, lget_of (hb a i acc S hI)]
    exact nxt_list hi h1 h2) h0 step done
end
/-- written words: equal as texts exactly if equal as literals -/
theorem lit_inj (a b : String) : (Str.ofString a = Str.ofString b) = (a = b) := by
  apply propext
  constructor
  · intro h
    rw [Str.ofString_eq_toList, Str.ofString_eq_toList] at h
    have h1 : a.toList.map Char.toNat = b.toList.map Char.toNat := by
      have := congrArg (fun z : Str => z.cps.toList) h
      simpa using this
    have h2 : a.toList = b.toList := by
      have inj : ∀ l m : List Char, l.map Char.toNat = m.map Char.toNat → l = m := by
        intro l
        induction l with
        | nil => intro m h; cases m with
          | nil => rfl
          | cons _ _ => cases h
        | cons c l ih =>
          intro m h
          cases m with
          | nil => cases h
          | cons d m =>
            rw [List.map_cons, List.map_cons] at h
            injection h with h3 h4
            rw [ih m h4, show c = d from Char.ext (UInt32.toNat_inj.mp h3)]
      exact inj _ _ h1
    exact String.toList_inj.mp h2
  · intro h
    rw [h]
end Ev

/-! The laws' small helpers: cells, draws, gcd. -/
namespace LA
open PySem PySem.Spec PyProof.Rows L2 Ev
def F_law_cell : Fn := ⟨2, 2,
  (.cons (.ifs (.cmp .Lt (.var 1) (.bi .len (.cons (.var 0) .nil))) (.cons (.ret (.idx (.var 0) (.var 1))) .nil) .nil) (.cons (.ret (.int 0)) .nil))⟩
def F_law_draws : Fn := ⟨4, 9,
  (.cons (.set 4 (.call "_law_cell" (.cons (.var 0) (.cons (.var 1) .nil)))) (.cons (.set 5 (.lst .nil)) (.cons (.ifs (.cmp .GtE (.var 4) (.bin .Pow (.int 10) (.int 18))) (.cons (.for_ (.nm 7) (.rng1 (.var 2)) (.cons (.expr (.mth .append (.var 5) (.cons (.bin .Mod (.bi .int (.cons (.var 4) .nil)) (.var 3)) .nil))) (.cons (.set 4 (.bin .FloorDiv (.bi .int (.cons (.var 4) .nil)) (.var 3))) .nil))) (.cons (.ret (.var 5)) .nil)) .nil) (.cons (.set 6 (.bin .Add (.bin .Add (.bin .Mod (.bi .int (.cons (.var 4) .nil)) (.int 2147483647)) (.bin .Mult (.int 3) (.var 1))) (.int 1))) (.cons (.for_ (.nm 7) (.rng1 (.var 2)) (.cons (.set 6 (.bin .Mod (.bi .int (.cons (.bin .Add (.bin .Add (.bin .Mult (.var 6) (.int 48271)) (.bin .Mult (.int 11) (.var 7))) (.var 1)) .nil)) (.int 2147483647))) (.cons (.set 8 (.bin .Mod (.bi .int (.cons (.bin .Add (.bin .Add (.bin .Mult (.var 6) (.int 69621)) (.bin .Mult (.int 5) (.var 7))) (.int 7)) .nil)) (.int 2147483629))) (.cons (.expr (.mth .append (.var 5) (.cons (.bin .Mod (.bi .int (.cons (.var 8) .nil)) (.var 3)) .nil))) .nil)))) (.cons (.ret (.var 5)) .nil))))))⟩
def F_law_gcd : Fn := ⟨2, 5,
  (.cons (.set 2 (.bi .abs (.cons (.var 0) .nil))) (.cons (.set 3 (.bi .abs (.cons (.var 1) .nil))) (.cons (.whl (.cmp .NotEq (.var 3) (.int 0)) (.cons (.set 4 (.bin .Mod (.bi .int (.cons (.var 2) .nil)) (.var 3))) (.cons (.set 2 (.var 3)) (.cons (.set 3 (.var 4)) .nil)))) (.cons (.ret (.var 2)) .nil))))⟩
theorem mulL {i j : Int} (h1 : -(2 ^ 64) < i) (h2 : i < 2 ^ 64) : IntMulOk i j := .of_left (intBits_le_64 h1 h2)
theorem mulR {i j : Int} (h1 : -(2 ^ 64) < j) (h2 : j < 2 ^ 64) : IntMulOk i j := .of_right (intBits_le_64 h1 h2)
theorem fdS {PY : Prop} {i j : Int} (h0 : 0 < j) (h1 : j < 1073741824) : FdOk PY i j := ⟨by omega, .inl (PyProof.noPylong_small (by omega))⟩
theorem szl' {n : Nat} (h : n ≤ 100000) : n < sizeLine := by
  rw [sizeLine_eq]
  omega
/-- a script's item -/
def cellOf (ns : List Int) (i : Nat) : Int := ns.getD i 0
theorem cell_bits {ns : List Int} (h : ∀ z ∈ ns, Builtin.Int.intBits z ≤ 1048576) (i : Nat) : Builtin.Int.intBits (cellOf ns i) ≤ 1048576 := by
  unfold cellOf
  by_cases hi : i < ns.length
  · rw [List.getD_eq_getElem?_getD, List.getElem?_eq_getElem hi]
    exact h _ (List.getElem_mem hi)
  · rw [List.getD_eq_getElem?_getD, List.getElem?_eq_none (by omega)]
    decide
theorem atI_map {ns : List Int} {i : Nat} (hi : i < ns.length) : atI (ns.map D.int) (i : Int) = some (.int (cellOf ns i)) := by
  refine atI_nat ?_
  unfold cellOf
  rw [List.getElem?_map, List.getElem?_eq_getElem hi, List.getD_eq_getElem?_getD, List.getElem?_eq_getElem hi]
  rfl
section
variable {G : Gl0} {T : Str → Option Fn} {k : Nat} {S : Sto} {Q : DK} {E : XS}
theorem cell_ok (hT : T "_law_cell" = some F_law_cell) (ns : List Int) (i : Nat) (h : Q (.int (cellOf ns i)) S) : semF G T (k + 1) "_law_cell" [.rol (ns.map D.int), .int i] S Q E := by
  refine call_of hT rfl ?_
  simp -dsimp -implicitDefEqProofs only [ent, List.map_cons, List.map_nil, List.length_cons, List.length_nil, Nat.reduceAdd, Nat.reduceSub, Nat.zero_add, List.replicate, List.cons_append, List.nil_append, F_law_cell]
  simp -dsimp -implicitDefEqProofs only [↓cov3, ↓cov2, ↓cov1, ↓E_var, ↓E_int, ↓E_bl, ↓E_non, ↓E_str, ↓E_glo, ↓E_tup, ↓E_lst, ↓E_bin, ↓E_neg, ↓E_cmp, ↓E_chn, ↓E_and, ↓E_or, ↓E_one, ↓E_not, ↓E_ifx, ↓E_idx, ↓E_slc, ↓E_call, ↓E_bi, ↓E_isi, ↓E_mth, ↓E_lc, ↓Es_nil, ↓Es_cons, ↓O_no, ↓O_some, ↓Q_no, ↓Q_c, ↓C_and, ↓C_or, ↓C_one, ↓C_not, ↓C_cmp, ↓C_chn, ↓C_v, ↓I_seq, ↓I_rng1, ↓I_rng2, ↓I_rng3, ↓I_enu, ↓I_zip, ↓I_rev, ↓S_set, ↓S_asg, ↓S_par2, ↓S_sub, ↓S_expr, ↓S_ret, ↓S_retN, ↓S_ifs, ↓S_for, ↓S_brk, ↓S_cnt, ↓S_pass, ↓S_raise, ↓S_try, ↓S_never, ex_t, ex_f, ↓S_nil, ↓S_cons, ↓kN_nx, ↓kN_rt, ↓kN_bk, ↓kN_ct, ↓kN_ex, ↓kL_nx, ↓kL_rt, ↓kL_bk, ↓kL_ct, ↓kL_ex, ↓kX_nx, ↓kX_rt, ↓kX_bk, ↓kX_ct, ↓kX_ex, ↓kend_nx, ↓kend_rt, ↓kend_bk, ↓kend_ct, ↓kend_ex, vr_some, gt_0, gt_s, stn_0, stn_s, wip_0, wip_s, wips_0, wips_s, neg_i, isi_s, o_i, tru_non, tru_bl, tru_int, tru_tup, tru_rol, c_Eq, c_NotEq, c_Lt, c_LtE, c_Gt, c_GtE, cs_Eq, cs_NotEq, cb_Eq, cb_NotEq, c2_Eq, c2_NotEq, is_non, isnot_non, is_bl, isnot_bl, is_int, isnot_int, is_str, isnot_str, is_tup, isnot_tup, is_rol, isnot_rol, is_ref, isnot_ref, is_b, isnot_b, in_s, notin_s, b_add, b_sub, b_mul, b_fdiv, b_mod, b_pow, b_addt, b_adds, atI0, atI1, atI2, atI3, slc_t, slc_r, len_s, abs_i, int_i, int_b, min_i, max_i, gcd_i, seq_t, seq_r, r1_i, r2_i, r3_i, a_nm, a_nil, a_cons, vrl_some, vrn_some, put_lget, Option.isSome_some, tru_ref, b_addl, idx_t, idx_r, idx_l, slc_l, len_t, len_r, len_l, tuple_t, tuple_r, tuple_l, list_t, list_r, list_l, app_l, rev_l, pop_l, popat_l, mT_l, seq_l, enu_l, zip_l, rev_i, rev_t, in_t, notin_t, fl_s, fl_i, fl_b, fl_n, inL_nil, inL_ss, inL_ii, List.all_cons, List.all_nil, Bool.and_self, Bool.and_true, Bool.true_and, zip_t, a_t, a_l, sub_l, isTs, isT, Option.map_some, List.length_cons, List.length_nil, Nat.reduceAdd, Nat.reduceSub, Nat.reduceLT, Nat.zero_add, Bool.false_eq_true, Bool.true_eq_false, if_false, if_true, decide_eq_true_eq, Bool.not_true, Bool.not_false, ite_true, ite_false, reduceIte, Bool.not_eq_true', decide_eq_false_iff_not, Int.cast_ofNat_Int, Int.reduceEq, Int.reduceLT, Int.reduceLE, Int.reduceNeg, Int.reduceAdd, Int.reduceSub, Int.reduceMul, Int.reduceToNat, decide_true, decide_false, not_true, not_false, not_true_eq_false, not_false_eq_true, true_and, and_true, eq_self, reduceCtorEq, List.isEmpty_nil, List.isEmpty_cons, List.nil_append, List.cons_append, List.length_map]
  by_cases hi : i < ns.length
  · rw [if_pos (by omega), atI_map hi]
    exact h
  · rw [if_neg (by omega)]
    unfold cellOf at h
    rw [List.getD_eq_getElem?_getD, List.getElem?_eq_none (by omega)] at h
    exact h
theorem gcd_ok (hT : T "_law_gcd" = some F_law_gcd) (a b : Int) (h : Q (.int ((Nat.gcd a.natAbs b.natAbs : Nat) : Int)) S) : semF G T (k + 1) "_law_gcd" [.int a, .int b] S Q E := by
  refine call_of hT rfl ?_
  simp -dsimp -implicitDefEqProofs only [ent, List.map_cons, List.map_nil, List.length_cons, List.length_nil, Nat.reduceAdd, Nat.reduceSub, Nat.zero_add, List.replicate, List.cons_append, List.nil_append, F_law_gcd]
  simp -dsimp -implicitDefEqProofs only [↓cov3, ↓cov2, ↓cov1, ↓E_var, ↓E_int, ↓E_bl, ↓E_non, ↓E_str, ↓E_glo, ↓E_tup, ↓E_lst, ↓E_bin, ↓E_neg, ↓E_cmp, ↓E_chn, ↓E_and, ↓E_or, ↓E_one, ↓E_not, ↓E_ifx, ↓E_idx, ↓E_slc, ↓E_call, ↓E_bi, ↓E_isi, ↓E_mth, ↓E_lc, ↓Es_nil, ↓Es_cons, ↓O_no, ↓O_some, ↓Q_no, ↓Q_c, ↓C_and, ↓C_or, ↓C_one, ↓C_not, ↓C_cmp, ↓C_chn, ↓C_v, ↓I_seq, ↓I_rng1, ↓I_rng2, ↓I_rng3, ↓I_enu, ↓I_zip, ↓I_rev, ↓S_set, ↓S_asg, ↓S_par2, ↓S_sub, ↓S_expr, ↓S_ret, ↓S_retN, ↓S_ifs, ↓S_for, ↓S_brk, ↓S_cnt, ↓S_pass, ↓S_raise, ↓S_try, ↓S_never, ex_t, ex_f, ↓S_nil, ↓S_cons, ↓kN_nx, ↓kN_rt, ↓kN_bk, ↓kN_ct, ↓kN_ex, ↓kL_nx, ↓kL_rt, ↓kL_bk, ↓kL_ct, ↓kL_ex, ↓kX_nx, ↓kX_rt, ↓kX_bk, ↓kX_ct, ↓kX_ex, ↓kend_nx, ↓kend_rt, ↓kend_bk, ↓kend_ct, ↓kend_ex, vr_some, gt_0, gt_s, stn_0, stn_s, wip_0, wip_s, wips_0, wips_s, neg_i, isi_s, o_i, tru_non, tru_bl, tru_int, tru_tup, tru_rol, c_Eq, c_NotEq, c_Lt, c_LtE, c_Gt, c_GtE, cs_Eq, cs_NotEq, cb_Eq, cb_NotEq, c2_Eq, c2_NotEq, is_non, isnot_non, is_bl, isnot_bl, is_int, isnot_int, is_str, isnot_str, is_tup, isnot_tup, is_rol, isnot_rol, is_ref, isnot_ref, is_b, isnot_b, in_s, notin_s, b_add, b_sub, b_mul, b_fdiv, b_mod, b_pow, b_addt, b_adds, atI0, atI1, atI2, atI3, slc_t, slc_r, len_s, abs_i, int_i, int_b, min_i, max_i, gcd_i, seq_t, seq_r, r1_i, r2_i, r3_i, a_nm, a_nil, a_cons, vrl_some, vrn_some, put_lget, Option.isSome_some, tru_ref, b_addl, idx_t, idx_r, idx_l, slc_l, len_t, len_r, len_l, tuple_t, tuple_r, tuple_l, list_t, list_r, list_l, app_l, rev_l, pop_l, popat_l, mT_l, seq_l, enu_l, zip_l, rev_i, rev_t, in_t, notin_t, fl_s, fl_i, fl_b, fl_n, inL_nil, inL_ss, inL_ii, List.all_cons, List.all_nil, Bool.and_self, Bool.and_true, Bool.true_and, zip_t, a_t, a_l, sub_l, isTs, isT, Option.map_some, List.length_cons, List.length_nil, Nat.reduceAdd, Nat.reduceSub, Nat.reduceLT, Nat.zero_add, Bool.false_eq_true, Bool.true_eq_false, if_false, if_true, decide_eq_true_eq, Bool.not_true, Bool.not_false, ite_true, ite_false, reduceIte, Bool.not_eq_true', decide_eq_false_iff_not, Int.cast_ofNat_Int, Int.reduceEq, Int.reduceLT, Int.reduceLE, Int.reduceNeg, Int.reduceAdd, Int.reduceSub, Int.reduceMul, Int.reduceToNat, decide_true, decide_false, not_true, not_false, not_true_eq_false, not_false_eq_true, true_and, and_true, eq_self, reduceCtorEq, List.isEmpty_nil, List.isEmpty_cons, List.nil_append, List.cons_append]
  refine whl_by (α := Nat × Nat × Option D) (fun x => [some (.int a), some (.int b), some (.int x.1), some (.int x.2.1), x.2.2]) (fun x S' => S' = S ∧ Nat.gcd x.1 x.2.1 = Nat.gcd a.natAbs b.natAbs) (fun x => x.2.1) (a.natAbs, b.natAbs, none) ?_ ⟨rfl, rfl⟩ ?_
  · have e : ∀ z : Int, (if z < 0 then -z else z) = (z.natAbs : Int) := fun z => by split <;> omega
    rw [e, e]
  · rintro ⟨x, y, z⟩ S' N ⟨rfl, hI⟩ hN
    simp -dsimp -implicitDefEqProofs only [↓cov3, ↓cov2, ↓cov1, ↓E_var, ↓E_int, ↓E_bl, ↓E_non, ↓E_str, ↓E_glo, ↓E_tup, ↓E_lst, ↓E_bin, ↓E_neg, ↓E_cmp, ↓E_chn, ↓E_and, ↓E_or, ↓E_one, ↓E_not, ↓E_ifx, ↓E_idx, ↓E_slc, ↓E_call, ↓E_bi, ↓E_isi, ↓E_mth, ↓E_lc, ↓Es_nil, ↓Es_cons, ↓O_no, ↓O_some, ↓Q_no, ↓Q_c, ↓C_and, ↓C_or, ↓C_one, ↓C_not, ↓C_cmp, ↓C_chn, ↓C_v, ↓I_seq, ↓I_rng1, ↓I_rng2, ↓I_rng3, ↓I_enu, ↓I_zip, ↓I_rev, ↓S_set, ↓S_asg, ↓S_par2, ↓S_sub, ↓S_expr, ↓S_ret, ↓S_retN, ↓S_ifs, ↓S_for, ↓S_brk, ↓S_cnt, ↓S_pass, ↓S_raise, ↓S_try, ↓S_never, ex_t, ex_f, ↓S_nil, ↓S_cons, ↓kN_nx, ↓kN_rt, ↓kN_bk, ↓kN_ct, ↓kN_ex, ↓kL_nx, ↓kL_rt, ↓kL_bk, ↓kL_ct, ↓kL_ex, ↓kX_nx, ↓kX_rt, ↓kX_bk, ↓kX_ct, ↓kX_ex, ↓kend_nx, ↓kend_rt, ↓kend_bk, ↓kend_ct, ↓kend_ex, vr_some, gt_0, gt_s, stn_0, stn_s, wip_0, wip_s, wips_0, wips_s, neg_i, isi_s, o_i, tru_non, tru_bl, tru_int, tru_tup, tru_rol, c_Eq, c_NotEq, c_Lt, c_LtE, c_Gt, c_GtE, cs_Eq, cs_NotEq, cb_Eq, cb_NotEq, c2_Eq, c2_NotEq, is_non, isnot_non, is_bl, isnot_bl, is_int, isnot_int, is_str, isnot_str, is_tup, isnot_tup, is_rol, isnot_rol, is_ref, isnot_ref, is_b, isnot_b, in_s, notin_s, b_add, b_sub, b_mul, b_fdiv, b_mod, b_pow, b_addt, b_adds, atI0, atI1, atI2, atI3, slc_t, slc_r, len_s, abs_i, int_i, int_b, min_i, max_i, gcd_i, seq_t, seq_r, r1_i, r2_i, r3_i, a_nm, a_nil, a_cons, vrl_some, vrn_some, put_lget, Option.isSome_some, tru_ref, b_addl, idx_t, idx_r, idx_l, slc_l, len_t, len_r, len_l, tuple_t, tuple_r, tuple_l, list_t, list_r, list_l, app_l, rev_l, pop_l, popat_l, mT_l, seq_l, enu_l, zip_l, rev_i, rev_t, in_t, notin_t, fl_s, fl_i, fl_b, fl_n, inL_nil, inL_ss, inL_ii, List.all_cons, List.all_nil, Bool.and_self, Bool.and_true, Bool.true_and, zip_t, a_t, a_l, sub_l, isTs, isT, Option.map_some, List.length_cons, List.length_nil, Nat.reduceAdd, Nat.reduceSub, Nat.reduceLT, Nat.zero_add, Bool.false_eq_true, Bool.true_eq_false, if_false, if_true, decide_eq_true_eq, Bool.not_true, Bool.not_false, ite_true, ite_false, reduceIte, Bool.not_eq_true', decide_eq_false_iff_not, Int.cast_ofNat_Int, Int.reduceEq, Int.reduceLT, Int.reduceLE, Int.reduceNeg, Int.reduceAdd, Int.reduceSub, Int.reduceMul, Int.reduceToNat, decide_true, decide_false, not_true, not_false, not_true_eq_false, not_false_eq_true, true_and, and_true, eq_self, reduceCtorEq, List.isEmpty_nil, List.isEmpty_cons, List.nil_append, List.cons_append]
    refine ite2 (fun hy => ?_) fun hy => ?_
    · have hy : ¬ y = 0 := by omega
      refine ⟨by omega, ?_⟩
      have e : (x : Int).fmod (y : Int) = ((x % y : Nat) : Int) := by rw [Int.fmod_eq_emod_of_nonneg _ (by omega)]; rfl
      rw [e]
      exact hN (y, x % y, some (.int ((x % y : Nat) : Int))) S' ⟨rfl, by rw [← hI, Nat.gcd_comm x y, Nat.gcd_rec y x, Nat.gcd_comm]⟩ (Nat.mod_lt _ (by omega))
    · have hy : y = 0 := by omega
      subst hy
      rw [← hI, Nat.gcd_zero_right] at h
      exact h
/-- a row of drawn numbers -/
def Row (n : Nat) (b : Int) (row : List Int) : Prop := row.length = n ∧ ∀ z ∈ row, 0 ≤ z ∧ z < b
theorem Row.snoc {n : Nat} {b m : Int} {row : List Int} (h : Row n b row) (h0 : 0 ≤ m ∧ m < b) : Row (n + 1) b (row ++ [m]) := ⟨by rw [List.length_append, h.1]; rfl, fun y hy => by
  rcases List.mem_append.mp hy with hy | hy
  · exact h.2 y hy
  · rw [List.mem_singleton.mp hy]; exact h0⟩
theorem draws_ok (hT : T "_law_draws" = some F_law_draws) (hC : T "_law_cell" = some F_law_cell) (ns : List Int) (i n : Nat) (b : Int) (hi : i ≤ 1000) (hn : n ≤ 1000) (hb : 0 < b) (hb2 : b < 1073741824)
    (h : ∀ row r S', Row n b row → Sub S S' → S' r = some (.lst (row.map D.int)) → Q (.ref r) S') : semF G T (k + 2) "_law_draws" [.rol (ns.map D.int), .int i, .int n, .int b] S Q E := by
  refine call_of hT rfl ?_
  simp -dsimp -implicitDefEqProofs only [ent, List.map_cons, List.map_nil, List.length_cons, List.length_nil, Nat.reduceAdd, Nat.reduceSub, Nat.zero_add, List.replicate, List.cons_append, List.nil_append, F_law_draws]
  simp -dsimp -implicitDefEqProofs only [↓cov3, ↓cov2, ↓cov1, ↓E_var, ↓E_int, ↓E_bl, ↓E_non, ↓E_str, ↓E_glo, ↓E_tup, ↓E_lst, ↓E_bin, ↓E_neg, ↓E_cmp, ↓E_chn, ↓E_and, ↓E_or, ↓E_one, ↓E_not, ↓E_ifx, ↓E_idx, ↓E_slc, ↓E_call, ↓E_bi, ↓E_isi, ↓E_mth, ↓E_lc, ↓Es_nil, ↓Es_cons, ↓O_no, ↓O_some, ↓Q_no, ↓Q_c, ↓C_and, ↓C_or, ↓C_one, ↓C_not, ↓C_cmp, ↓C_chn, ↓C_v, ↓I_seq, ↓I_rng1, ↓I_rng2, ↓I_rng3, ↓I_enu, ↓I_zip, ↓I_rev, ↓S_set, ↓S_asg, ↓S_par2, ↓S_sub, ↓S_expr, ↓S_ret, ↓S_retN, ↓S_ifs, ↓S_for, ↓S_brk, ↓S_cnt, ↓S_pass, ↓S_raise, ↓S_try, ↓S_never, ex_t, ex_f, ↓S_nil, ↓S_cons, ↓kN_nx, ↓kN_rt, ↓kN_bk, ↓kN_ct, ↓kN_ex, ↓kL_nx, ↓kL_rt, ↓kL_bk, ↓kL_ct, ↓kL_ex, ↓kX_nx, ↓kX_rt, ↓kX_bk, ↓kX_ct, ↓kX_ex, ↓kend_nx, ↓kend_rt, ↓kend_bk, ↓kend_ct, ↓kend_ex, vr_some, gt_0, gt_s, stn_0, stn_s, wip_0, wip_s, wips_0, wips_s, neg_i, isi_s, o_i, tru_non, tru_bl, tru_int, tru_tup, tru_rol, c_Eq, c_NotEq, c_Lt, c_LtE, c_Gt, c_GtE, cs_Eq, cs_NotEq, cb_Eq, cb_NotEq, c2_Eq, c2_NotEq, is_non, isnot_non, is_bl, isnot_bl, is_int, isnot_int, is_str, isnot_str, is_tup, isnot_tup, is_rol, isnot_rol, is_ref, isnot_ref, is_b, isnot_b, in_s, notin_s, b_add, b_sub, b_mul, b_fdiv, b_mod, b_pow, b_addt, b_adds, atI0, atI1, atI2, atI3, slc_t, slc_r, len_s, abs_i, int_i, int_b, min_i, max_i, gcd_i, seq_t, seq_r, r1_i, r2_i, r3_i, a_nm, a_nil, a_cons, vrl_some, vrn_some, put_lget, Option.isSome_some, tru_ref, b_addl, idx_t, idx_r, idx_l, slc_l, len_t, len_r, len_l, tuple_t, tuple_r, tuple_l, list_t, list_r, list_l, app_l, rev_l, pop_l, popat_l, mT_l, seq_l, enu_l, zip_l, rev_i, rev_t, in_t, notin_t, fl_s, fl_i, fl_b, fl_n, inL_nil, inL_ss, inL_ii, List.all_cons, List.all_nil, Bool.and_self, Bool.and_true, Bool.true_and, zip_t, a_t, a_l, sub_l, isTs, isT, Option.map_some, List.length_cons, List.length_nil, Nat.reduceAdd, Nat.reduceSub, Nat.reduceLT, Nat.zero_add, Bool.false_eq_true, Bool.true_eq_false, if_false, if_true, decide_eq_true_eq, Bool.not_true, Bool.not_false, ite_true, ite_false, reduceIte, Bool.not_eq_true', decide_eq_false_iff_not, Int.cast_ofNat_Int, Int.reduceEq, Int.reduceLT, Int.reduceLE, Int.reduceNeg, Int.reduceAdd, Int.reduceSub, Int.reduceMul, Int.reduceToNat, decide_true, decide_false, not_true, not_false, not_true_eq_false, not_false_eq_true, true_and, and_true, eq_self, reduceCtorEq, List.isEmpty_nil, List.isEmpty_cons, List.nil_append, List.cons_append]
  refine cell_ok hC ns i ?_
  intro r nr
  have h10 : CPow 10 18 := ⟨by decide, by decide, by decide⟩
  refine ⟨h10, ite2 (fun hbig => ?_) fun _ => ?_⟩
  · refine ⟨by omega, by omega, ?_⟩
    refine for_rng (fun j σ S' => ∃ (c : Int) (row : List Int) (z : Option D), σ = [some (.rol (ns.map D.int)), some (.int i), some (.int n), some (.int b), some (.int c), some (.ref r), none, z, none] ∧ Row j b row ∧ Sub S S' ∧ S' r = some (.lst (row.map D.int)))
      ⟨_, [], none, rfl, ⟨rfl, fun _ h => by cases h⟩, Sub.new nr, put_same⟩ ?_ ?_
    · rintro j σ S' N hj ⟨c, row, z, rfl, hr, hs, hl⟩ hN
      simp -dsimp -implicitDefEqProofs only [↓cov3, ↓cov2, ↓cov1, ↓E_var, ↓E_int, ↓E_bl, ↓E_non, ↓E_str, ↓E_glo, ↓E_tup, ↓E_lst, ↓E_bin, ↓E_neg, ↓E_cmp, ↓E_chn, ↓E_and, ↓E_or, ↓E_one, ↓E_not, ↓E_ifx, ↓E_idx, ↓E_slc, ↓E_call, ↓E_bi, ↓E_isi, ↓E_mth, ↓E_lc, ↓Es_nil, ↓Es_cons, ↓O_no, ↓O_some, ↓Q_no, ↓Q_c, ↓C_and, ↓C_or, ↓C_one, ↓C_not, ↓C_cmp, ↓C_chn, ↓C_v, ↓I_seq, ↓I_rng1, ↓I_rng2, ↓I_rng3, ↓I_enu, ↓I_zip, ↓I_rev, ↓S_set, ↓S_asg, ↓S_par2, ↓S_sub, ↓S_expr, ↓S_ret, ↓S_retN, ↓S_ifs, ↓S_for, ↓S_brk, ↓S_cnt, ↓S_pass, ↓S_raise, ↓S_try, ↓S_never, ex_t, ex_f, ↓S_nil, ↓S_cons, ↓kN_nx, ↓kN_rt, ↓kN_bk, ↓kN_ct, ↓kN_ex, ↓kL_nx, ↓kL_rt, ↓kL_bk, ↓kL_ct, ↓kL_ex, ↓kX_nx, ↓kX_rt, ↓kX_bk, ↓kX_ct, ↓kX_ex, ↓kend_nx, ↓kend_rt, ↓kend_bk, ↓kend_ct, ↓kend_ex, vr_some, gt_0, gt_s, stn_0, stn_s, wip_0, wip_s, wips_0, wips_s, neg_i, isi_s, o_i, tru_non, tru_bl, tru_int, tru_tup, tru_rol, c_Eq, c_NotEq, c_Lt, c_LtE, c_Gt, c_GtE, cs_Eq, cs_NotEq, cb_Eq, cb_NotEq, c2_Eq, c2_NotEq, is_non, isnot_non, is_bl, isnot_bl, is_int, isnot_int, is_str, isnot_str, is_tup, isnot_tup, is_rol, isnot_rol, is_ref, isnot_ref, is_b, isnot_b, in_s, notin_s, b_add, b_sub, b_mul, b_fdiv, b_mod, b_pow, b_addt, b_adds, atI0, atI1, atI2, atI3, slc_t, slc_r, len_s, abs_i, int_i, int_b, min_i, max_i, gcd_i, seq_t, seq_r, r1_i, r2_i, r3_i, a_nm, a_nil, a_cons, vrl_some, vrn_some, put_lget, Option.isSome_some, tru_ref, b_addl, idx_t, idx_r, idx_l, slc_l, len_t, len_r, len_l, tuple_t, tuple_r, tuple_l, list_t, list_r, list_l, app_l, rev_l, pop_l, popat_l, mT_l, seq_l, enu_l, zip_l, rev_i, rev_t, in_t, notin_t, fl_s, fl_i, fl_b, fl_n, inL_nil, inL_ss, inL_ii, List.all_cons, List.all_nil, Bool.and_self, Bool.and_true, Bool.true_and, zip_t, a_t, a_l, sub_l, isTs, isT, Option.map_some, List.length_cons, List.length_nil, Nat.reduceAdd, Nat.reduceSub, Nat.reduceLT, Nat.zero_add, Bool.false_eq_true, Bool.true_eq_false, if_false, if_true, decide_eq_true_eq, Bool.not_true, Bool.not_false, ite_true, ite_false, reduceIte, Bool.not_eq_true', decide_eq_false_iff_not, Int.cast_ofNat_Int, Int.reduceEq, Int.reduceLT, Int.reduceLE, Int.reduceNeg, Int.reduceAdd, Int.reduceSub, Int.reduceMul, Int.reduceToNat, decide_true, decide_false, not_true, not_false, not_true_eq_false, not_false_eq_true, true_and, and_true, eq_self, reduceCtorEq, List.isEmpty_nil, List.isEmpty_cons, List.nil_append, List.cons_append, lget_of hl]
      have hm : 0 ≤ c.fmod b ∧ c.fmod b < b := ⟨Int.fmod_nonneg_of_pos c hb, Int.fmod_lt_of_pos c hb⟩
      refine ⟨by omega, small1000 (by rw [List.length_map, hr.1]; omega), fdS hb hb2, ?_⟩
      exact hN _ _ ⟨c.fdiv b, row ++ [c.fmod b], _, rfl, hr.snoc hm, hs.write nr, by rw [put_same, List.map_append]; rfl⟩
    · rintro σ S' ⟨c, row, z, rfl, hr, hs, hl⟩
      simp -dsimp -implicitDefEqProofs only [↓cov3, ↓cov2, ↓cov1, ↓E_var, ↓E_int, ↓E_bl, ↓E_non, ↓E_str, ↓E_glo, ↓E_tup, ↓E_lst, ↓E_bin, ↓E_neg, ↓E_cmp, ↓E_chn, ↓E_and, ↓E_or, ↓E_one, ↓E_not, ↓E_ifx, ↓E_idx, ↓E_slc, ↓E_call, ↓E_bi, ↓E_isi, ↓E_mth, ↓E_lc, ↓Es_nil, ↓Es_cons, ↓O_no, ↓O_some, ↓Q_no, ↓Q_c, ↓C_and, ↓C_or, ↓C_one, ↓C_not, ↓C_cmp, ↓C_chn, ↓C_v, ↓I_seq, ↓I_rng1, ↓I_rng2, ↓I_rng3, ↓I_enu, ↓I_zip, ↓I_rev, ↓S_set, ↓S_asg, ↓S_par2, ↓S_sub, ↓S_expr, ↓S_ret, ↓S_retN, ↓S_ifs, ↓S_for, ↓S_brk, ↓S_cnt, ↓S_pass, ↓S_raise, ↓S_try, ↓S_never, ex_t, ex_f, ↓S_nil, ↓S_cons, ↓kN_nx, ↓kN_rt, ↓kN_bk, ↓kN_ct, ↓kN_ex, ↓kL_nx, ↓kL_rt, ↓kL_bk, ↓kL_ct, ↓kL_ex, ↓kX_nx, ↓kX_rt, ↓kX_bk, ↓kX_ct, ↓kX_ex, ↓kend_nx, ↓kend_rt, ↓kend_bk, ↓kend_ct, ↓kend_ex, vr_some, gt_0, gt_s, stn_0, stn_s, wip_0, wip_s, wips_0, wips_s, neg_i, isi_s, o_i, tru_non, tru_bl, tru_int, tru_tup, tru_rol, c_Eq, c_NotEq, c_Lt, c_LtE, c_Gt, c_GtE, cs_Eq, cs_NotEq, cb_Eq, cb_NotEq, c2_Eq, c2_NotEq, is_non, isnot_non, is_bl, isnot_bl, is_int, isnot_int, is_str, isnot_str, is_tup, isnot_tup, is_rol, isnot_rol, is_ref, isnot_ref, is_b, isnot_b, in_s, notin_s, b_add, b_sub, b_mul, b_fdiv, b_mod, b_pow, b_addt, b_adds, atI0, atI1, atI2, atI3, slc_t, slc_r, len_s, abs_i, int_i, int_b, min_i, max_i, gcd_i, seq_t, seq_r, r1_i, r2_i, r3_i, a_nm, a_nil, a_cons, vrl_some, vrn_some, put_lget, Option.isSome_some, tru_ref, b_addl, idx_t, idx_r, idx_l, slc_l, len_t, len_r, len_l, tuple_t, tuple_r, tuple_l, list_t, list_r, list_l, app_l, rev_l, pop_l, popat_l, mT_l, seq_l, enu_l, zip_l, rev_i, rev_t, in_t, notin_t, fl_s, fl_i, fl_b, fl_n, inL_nil, inL_ss, inL_ii, List.all_cons, List.all_nil, Bool.and_self, Bool.and_true, Bool.true_and, zip_t, a_t, a_l, sub_l, isTs, isT, Option.map_some, List.length_cons, List.length_nil, Nat.reduceAdd, Nat.reduceSub, Nat.reduceLT, Nat.zero_add, Bool.false_eq_true, Bool.true_eq_false, if_false, if_true, decide_eq_true_eq, Bool.not_true, Bool.not_false, ite_true, ite_false, reduceIte, Bool.not_eq_true', decide_eq_false_iff_not, Int.cast_ofNat_Int, Int.reduceEq, Int.reduceLT, Int.reduceLE, Int.reduceNeg, Int.reduceAdd, Int.reduceSub, Int.reduceMul, Int.reduceToNat, decide_true, decide_false, not_true, not_false, not_true_eq_false, not_false_eq_true, true_and, and_true, eq_self, reduceCtorEq, List.isEmpty_nil, List.isEmpty_cons, List.nil_append, List.cons_append]
      rw [Int.toNat_natCast] at hr
      exact h row r S' hr hs hl
  · simp -dsimp -implicitDefEqProofs only [↓cov3, ↓cov2, ↓cov1, ↓E_var, ↓E_int, ↓E_bl, ↓E_non, ↓E_str, ↓E_glo, ↓E_tup, ↓E_lst, ↓E_bin, ↓E_neg, ↓E_cmp, ↓E_chn, ↓E_and, ↓E_or, ↓E_one, ↓E_not, ↓E_ifx, ↓E_idx, ↓E_slc, ↓E_call, ↓E_bi, ↓E_isi, ↓E_mth, ↓E_lc, ↓Es_nil, ↓Es_cons, ↓O_no, ↓O_some, ↓Q_no, ↓Q_c, ↓C_and, ↓C_or, ↓C_one, ↓C_not, ↓C_cmp, ↓C_chn, ↓C_v, ↓I_seq, ↓I_rng1, ↓I_rng2, ↓I_rng3, ↓I_enu, ↓I_zip, ↓I_rev, ↓S_set, ↓S_asg, ↓S_par2, ↓S_sub, ↓S_expr, ↓S_ret, ↓S_retN, ↓S_ifs, ↓S_for, ↓S_brk, ↓S_cnt, ↓S_pass, ↓S_raise, ↓S_try, ↓S_never, ex_t, ex_f, ↓S_nil, ↓S_cons, ↓kN_nx, ↓kN_rt, ↓kN_bk, ↓kN_ct, ↓kN_ex, ↓kL_nx, ↓kL_rt, ↓kL_bk, ↓kL_ct, ↓kL_ex, ↓kX_nx, ↓kX_rt, ↓kX_bk, ↓kX_ct, ↓kX_ex, ↓kend_nx, ↓kend_rt, ↓kend_bk, ↓kend_ct, ↓kend_ex, vr_some, gt_0, gt_s, stn_0, stn_s, wip_0, wip_s, wips_0, wips_s, neg_i, isi_s, o_i, tru_non, tru_bl, tru_int, tru_tup, tru_rol, c_Eq, c_NotEq, c_Lt, c_LtE, c_Gt, c_GtE, cs_Eq, cs_NotEq, cb_Eq, cb_NotEq, c2_Eq, c2_NotEq, is_non, isnot_non, is_bl, isnot_bl, is_int, isnot_int, is_str, isnot_str, is_tup, isnot_tup, is_rol, isnot_rol, is_ref, isnot_ref, is_b, isnot_b, in_s, notin_s, b_add, b_sub, b_mul, b_fdiv, b_mod, b_pow, b_addt, b_adds, atI0, atI1, atI2, atI3, slc_t, slc_r, len_s, abs_i, int_i, int_b, min_i, max_i, gcd_i, seq_t, seq_r, r1_i, r2_i, r3_i, a_nm, a_nil, a_cons, vrl_some, vrn_some, put_lget, Option.isSome_some, tru_ref, b_addl, idx_t, idx_r, idx_l, slc_l, len_t, len_r, len_l, tuple_t, tuple_r, tuple_l, list_t, list_r, list_l, app_l, rev_l, pop_l, popat_l, mT_l, seq_l, enu_l, zip_l, rev_i, rev_t, in_t, notin_t, fl_s, fl_i, fl_b, fl_n, inL_nil, inL_ss, inL_ii, List.all_cons, List.all_nil, Bool.and_self, Bool.and_true, Bool.true_and, zip_t, a_t, a_l, sub_l, isTs, isT, Option.map_some, List.length_cons, List.length_nil, Nat.reduceAdd, Nat.reduceSub, Nat.reduceLT, Nat.zero_add, Bool.false_eq_true, Bool.true_eq_false, if_false, if_true, decide_eq_true_eq, Bool.not_true, Bool.not_false, ite_true, ite_false, reduceIte, Bool.not_eq_true', decide_eq_false_iff_not, Int.cast_ofNat_Int, Int.reduceEq, Int.reduceLT, Int.reduceLE, Int.reduceNeg, Int.reduceAdd, Int.reduceSub, Int.reduceMul, Int.reduceToNat, decide_true, decide_false, not_true, not_false, not_true_eq_false, not_false_eq_true, true_and, and_true, eq_self, reduceCtorEq, List.isEmpty_nil, List.isEmpty_cons, List.nil_append, List.cons_append]
    refine ⟨by decide, mulL (by decide) (by decide), by omega, by omega, ?_⟩
    refine for_rng (fun j σ S' => ∃ (c : Int) (row : List Int) (z z2 : Option D), σ = [some (.rol (ns.map D.int)), some (.int i), some (.int n), some (.int b), some (.int (cellOf ns i)), some (.ref r), some (.int c), z, z2] ∧ Row j b row ∧ Sub S S' ∧ S' r = some (.lst (row.map D.int)))
      ⟨_, [], none, none, rfl, ⟨rfl, fun _ h => by cases h⟩, Sub.new nr, put_same⟩ ?_ ?_
    · rintro j σ S' N hj ⟨c, row, z, z2, rfl, hr, hs, hl⟩ hN
      simp -dsimp -implicitDefEqProofs only [↓cov3, ↓cov2, ↓cov1, ↓E_var, ↓E_int, ↓E_bl, ↓E_non, ↓E_str, ↓E_glo, ↓E_tup, ↓E_lst, ↓E_bin, ↓E_neg, ↓E_cmp, ↓E_chn, ↓E_and, ↓E_or, ↓E_one, ↓E_not, ↓E_ifx, ↓E_idx, ↓E_slc, ↓E_call, ↓E_bi, ↓E_isi, ↓E_mth, ↓E_lc, ↓Es_nil, ↓Es_cons, ↓O_no, ↓O_some, ↓Q_no, ↓Q_c, ↓C_and, ↓C_or, ↓C_one, ↓C_not, ↓C_cmp, ↓C_chn, ↓C_v, ↓I_seq, ↓I_rng1, ↓I_rng2, ↓I_rng3, ↓I_enu, ↓I_zip, ↓I_rev, ↓S_set, ↓S_asg, ↓S_par2, ↓S_sub, ↓S_expr, ↓S_ret, ↓S_retN, ↓S_ifs, ↓S_for, ↓S_brk, ↓S_cnt, ↓S_pass, ↓S_raise, ↓S_try, ↓S_never, ex_t, ex_f, ↓S_nil, ↓S_cons, ↓kN_nx, ↓kN_rt, ↓kN_bk, ↓kN_ct, ↓kN_ex, ↓kL_nx, ↓kL_rt, ↓kL_bk, ↓kL_ct, ↓kL_ex, ↓kX_nx, ↓kX_rt, ↓kX_bk, ↓kX_ct, ↓kX_ex, ↓kend_nx, ↓kend_rt, ↓kend_bk, ↓kend_ct, ↓kend_ex, vr_some, gt_0, gt_s, stn_0, stn_s, wip_0, wip_s, wips_0, wips_s, neg_i, isi_s, o_i, tru_non, tru_bl, tru_int, tru_tup, tru_rol, c_Eq, c_NotEq, c_Lt, c_LtE, c_Gt, c_GtE, cs_Eq, cs_NotEq, cb_Eq, cb_NotEq, c2_Eq, c2_NotEq, is_non, isnot_non, is_bl, isnot_bl, is_int, isnot_int, is_str, isnot_str, is_tup, isnot_tup, is_rol, isnot_rol, is_ref, isnot_ref, is_b, isnot_b, in_s, notin_s, b_add, b_sub, b_mul, b_fdiv, b_mod, b_pow, b_addt, b_adds, atI0, atI1, atI2, atI3, slc_t, slc_r, len_s, abs_i, int_i, int_b, min_i, max_i, gcd_i, seq_t, seq_r, r1_i, r2_i, r3_i, a_nm, a_nil, a_cons, vrl_some, vrn_some, put_lget, Option.isSome_some, tru_ref, b_addl, idx_t, idx_r, idx_l, slc_l, len_t, len_r, len_l, tuple_t, tuple_r, tuple_l, list_t, list_r, list_l, app_l, rev_l, pop_l, popat_l, mT_l, seq_l, enu_l, zip_l, rev_i, rev_t, in_t, notin_t, fl_s, fl_i, fl_b, fl_n, inL_nil, inL_ss, inL_ii, List.all_cons, List.all_nil, Bool.and_self, Bool.and_true, Bool.true_and, zip_t, a_t, a_l, sub_l, isTs, isT, Option.map_some, List.length_cons, List.length_nil, Nat.reduceAdd, Nat.reduceSub, Nat.reduceLT, Nat.zero_add, Bool.false_eq_true, Bool.true_eq_false, if_false, if_true, decide_eq_true_eq, Bool.not_true, Bool.not_false, ite_true, ite_false, reduceIte, Bool.not_eq_true', decide_eq_false_iff_not, Int.cast_ofNat_Int, Int.reduceEq, Int.reduceLT, Int.reduceLE, Int.reduceNeg, Int.reduceAdd, Int.reduceSub, Int.reduceMul, Int.reduceToNat, decide_true, decide_false, not_true, not_false, not_true_eq_false, not_false_eq_true, true_and, and_true, eq_self, reduceCtorEq, List.isEmpty_nil, List.isEmpty_cons, List.nil_append, List.cons_append, lget_of hl]
      refine ⟨mulR (by decide) (by decide), mulL (by decide) (by decide), by decide, mulR (by decide) (by decide), mulL (by decide) (by decide), by decide, by omega, small1000 (by rw [List.length_map, hr.1]; omega), ?_⟩
      exact hN _ _ ⟨_, row ++ [((((c * 48271 + 11 * (0 + (j : Int)) + i).fmod 2147483647 * 69621 + 5 * (0 + (j : Int)) + 7).fmod 2147483629).fmod b)], _, _, rfl, hr.snoc ⟨Int.fmod_nonneg_of_pos _ hb, Int.fmod_lt_of_pos _ hb⟩, hs.write nr, by rw [put_same, List.map_append]; rfl⟩
    · rintro σ S' ⟨c, row, z, z2, rfl, hr, hs, hl⟩
      simp -dsimp -implicitDefEqProofs only [↓cov3, ↓cov2, ↓cov1, ↓E_var, ↓E_int, ↓E_bl, ↓E_non, ↓E_str, ↓E_glo, ↓E_tup, ↓E_lst, ↓E_bin, ↓E_neg, ↓E_cmp, ↓E_chn, ↓E_and, ↓E_or, ↓E_one, ↓E_not, ↓E_ifx, ↓E_idx, ↓E_slc, ↓E_call, ↓E_bi, ↓E_isi, ↓E_mth, ↓E_lc, ↓Es_nil, ↓Es_cons, ↓O_no, ↓O_some, ↓Q_no, ↓Q_c, ↓C_and, ↓C_or, ↓C_one, ↓C_not, ↓C_cmp, ↓C_chn, ↓C_v, ↓I_seq, ↓I_rng1, ↓I_rng2, ↓I_rng3, ↓I_enu, ↓I_zip, ↓I_rev, ↓S_set, ↓S_asg, ↓S_par2, ↓S_sub, ↓S_expr, ↓S_ret, ↓S_retN, ↓S_ifs, ↓S_for, ↓S_brk, ↓S_cnt, ↓S_pass, ↓S_raise, ↓S_try, ↓S_never, ex_t, ex_f, ↓S_nil, ↓S_cons, ↓kN_nx, ↓kN_rt, ↓kN_bk, ↓kN_ct, ↓kN_ex, ↓kL_nx, ↓kL_rt, ↓kL_bk, ↓kL_ct, ↓kL_ex, ↓kX_nx, ↓kX_rt, ↓kX_bk, ↓kX_ct, ↓kX_ex, ↓kend_nx, ↓kend_rt, ↓kend_bk, ↓kend_ct, ↓kend_ex, vr_some, gt_0, gt_s, stn_0, stn_s, wip_0, wip_s, wips_0, wips_s, neg_i, isi_s, o_i, tru_non, tru_bl, tru_int, tru_tup, tru_rol, c_Eq, c_NotEq, c_Lt, c_LtE, c_Gt, c_GtE, cs_Eq, cs_NotEq, cb_Eq, cb_NotEq, c2_Eq, c2_NotEq, is_non, isnot_non, is_bl, isnot_bl, is_int, isnot_int, is_str, isnot_str, is_tup, isnot_tup, is_rol, isnot_rol, is_ref, isnot_ref, is_b, isnot_b, in_s, notin_s, b_add, b_sub, b_mul, b_fdiv, b_mod, b_pow, b_addt, b_adds, atI0, atI1, atI2, atI3, slc_t, slc_r, len_s, abs_i, int_i, int_b, min_i, max_i, gcd_i, seq_t, seq_r, r1_i, r2_i, r3_i, a_nm, a_nil, a_cons, vrl_some, vrn_some, put_lget, Option.isSome_some, tru_ref, b_addl, idx_t, idx_r, idx_l, slc_l, len_t, len_r, len_l, tuple_t, tuple_r, tuple_l, list_t, list_r, list_l, app_l, rev_l, pop_l, popat_l, mT_l, seq_l, enu_l, zip_l, rev_i, rev_t, in_t, notin_t, fl_s, fl_i, fl_b, fl_n, inL_nil, inL_ss, inL_ii, List.all_cons, List.all_nil, Bool.and_self, Bool.and_true, Bool.true_and, zip_t, a_t, a_l, sub_l, isTs, isT, Option.map_some, List.length_cons, List.length_nil, Nat.reduceAdd, Nat.reduceSub, Nat.reduceLT, Nat.zero_add, Bool.false_eq_true, Bool.true_eq_false, if_false, if_true, decide_eq_true_eq, Bool.not_true, Bool.not_false, ite_true, ite_false, reduceIte, Bool.not_eq_true', decide_eq_false_iff_not, Int.cast_ofNat_Int, Int.reduceEq, Int.reduceLT, Int.reduceLE, Int.reduceNeg, Int.reduceAdd, Int.reduceSub, Int.reduceMul, Int.reduceToNat, decide_true, decide_false, not_true, not_false, not_true_eq_false, not_false_eq_true, true_and, and_true, eq_self, reduceCtorEq, List.isEmpty_nil, List.isEmpty_cons, List.nil_append, List.cons_append]
      rw [Int.toNat_natCast] at hr
      exact h row r S' hr hs hl
end
end LA

/-! The program's rational numbers: what each def computes, over Rat. -/
namespace LA
open PySem PySem.Spec PyProof.Rows L2 Ev
def F_rational : Fn := ⟨2, 3,
  (.cons (.ifs (.cmp .Eq (.var 1) (.int 0)) (.cons (.raise "ZeroDivisor" (.cons (.str "denominator 0") .nil)) .nil) .nil) (.cons (.set 2 (.bi .gcd (.cons (.var 0) (.cons (.var 1) .nil)))) (.cons (.ifs (.cmp .Lt (.var 1) (.int 0)) (.cons (.set 2 (.neg (.var 2))) .nil) .nil) (.cons (.ret (.tup (.cons (.bin .FloorDiv (.var 0) (.var 2)) (.cons (.bin .FloorDiv (.var 1) (.var 2)) .nil)))) .nil))))⟩
def F_radd : Fn := ⟨2, 2,
  (.cons (.ifs (.and (.cmp .Eq (.idx (.var 0) (.int 1)) (.int 1)) (.one (.cmp .Eq (.idx (.var 1) (.int 1)) (.int 1)))) (.cons (.ret (.tup (.cons (.bin .Add (.idx (.var 0) (.int 0)) (.idx (.var 1) (.int 0))) (.cons (.int 1) .nil)))) .nil) .nil) (.cons (.ret (.call "rational" (.cons (.bin .Add (.bin .Mult (.idx (.var 0) (.int 0)) (.idx (.var 1) (.int 1))) (.bin .Mult (.idx (.var 1) (.int 0)) (.idx (.var 0) (.int 1)))) (.cons (.bin .Mult (.idx (.var 0) (.int 1)) (.idx (.var 1) (.int 1))) .nil)))) .nil))⟩
def F_rsub : Fn := ⟨2, 2,
  (.cons (.ifs (.and (.cmp .Eq (.idx (.var 0) (.int 1)) (.int 1)) (.one (.cmp .Eq (.idx (.var 1) (.int 1)) (.int 1)))) (.cons (.ret (.tup (.cons (.bin .Sub (.idx (.var 0) (.int 0)) (.idx (.var 1) (.int 0))) (.cons (.int 1) .nil)))) .nil) .nil) (.cons (.ret (.call "rational" (.cons (.bin .Sub (.bin .Mult (.idx (.var 0) (.int 0)) (.idx (.var 1) (.int 1))) (.bin .Mult (.idx (.var 1) (.int 0)) (.idx (.var 0) (.int 1)))) (.cons (.bin .Mult (.idx (.var 0) (.int 1)) (.idx (.var 1) (.int 1))) .nil)))) .nil))⟩
def F_rmul : Fn := ⟨2, 2,
  (.cons (.ifs (.and (.cmp .Eq (.idx (.var 0) (.int 1)) (.int 1)) (.one (.cmp .Eq (.idx (.var 1) (.int 1)) (.int 1)))) (.cons (.ret (.tup (.cons (.bin .Mult (.idx (.var 0) (.int 0)) (.idx (.var 1) (.int 0))) (.cons (.int 1) .nil)))) .nil) .nil) (.cons (.ret (.call "rational" (.cons (.bin .Mult (.idx (.var 0) (.int 0)) (.idx (.var 1) (.int 0))) (.cons (.bin .Mult (.idx (.var 0) (.int 1)) (.idx (.var 1) (.int 1))) .nil)))) .nil))⟩
def F_rneg : Fn := ⟨1, 1,
  (.cons (.ret (.tup (.cons (.neg (.idx (.var 0) (.int 0))) (.cons (.idx (.var 0) (.int 1)) .nil)))) .nil)⟩
def F_rinv : Fn := ⟨1, 1,
  (.cons (.ret (.call "rational" (.cons (.idx (.var 0) (.int 1)) (.cons (.idx (.var 0) (.int 0)) .nil)))) .nil)⟩
def F_rdiv : Fn := ⟨2, 2,
  (.cons (.ret (.call "rational" (.cons (.bin .Mult (.idx (.var 0) (.int 0)) (.idx (.var 1) (.int 1))) (.cons (.bin .Mult (.idx (.var 0) (.int 1)) (.idx (.var 1) (.int 0))) .nil)))) .nil)⟩
def F_rpow : Fn := ⟨2, 3,
  (.cons (.ifs (.cmp .Lt (.var 1) (.int 0)) (.cons (.ret (.call "rpow" (.cons (.call "rinv" (.cons (.var 0) .nil)) (.cons (.neg (.var 1)) .nil)))) .nil) .nil) (.cons (.set 2 (.glo "ONE")) (.cons (.whl (.cmp .Gt (.var 1) (.int 0)) (.cons (.ifs (.cmp .Eq (.bin .Mod (.var 1) (.int 2)) (.int 1)) (.cons (.set 2 (.call "rmul" (.cons (.var 2) (.cons (.var 0) .nil)))) .nil) .nil) (.cons (.set 0 (.call "rmul" (.cons (.var 0) (.cons (.var 0) .nil)))) (.cons (.set 1 (.bin .FloorDiv (.var 1) (.int 2))) .nil)))) (.cons (.ret (.var 2)) .nil))))⟩
def F_rsign : Fn := ⟨1, 1,
  (.cons (.ifs (.cmp .Eq (.idx (.var 0) (.int 0)) (.int 0)) (.cons (.ret (.int 0)) .nil) .nil) (.cons (.ret (.ifx (.cmp .Gt (.idx (.var 0) (.int 0)) (.int 0)) (.int 1) (.neg (.int 1)))) .nil))⟩
def F_rcompare : Fn := ⟨2, 4,
  (.cons (.set 2 (.bin .Mult (.idx (.var 0) (.int 0)) (.idx (.var 1) (.int 1)))) (.cons (.set 3 (.bin .Mult (.idx (.var 1) (.int 0)) (.idx (.var 0) (.int 1)))) (.cons (.ifs (.cmp .Eq (.var 2) (.var 3)) (.cons (.ret (.int 0)) .nil) .nil) (.cons (.ret (.ifx (.cmp .Gt (.var 2) (.var 3)) (.int 1) (.neg (.int 1)))) .nil))))⟩
def F_rfloor : Fn := ⟨1, 1,
  (.cons (.ret (.bin .FloorDiv (.idx (.var 0) (.int 0)) (.idx (.var 0) (.int 1)))) .nil)⟩
def F_rwhole : Fn := ⟨1, 1,
  (.cons (.ret (.cmp .Eq (.idx (.var 0) (.int 1)) (.int 1))) .nil)⟩
/-- a rational as the program has it -/
def QD (q : Rat) : D := .tup [.int q.num, .int q.den]
/-! sizes -/
def Bt (z : Int) (n : Nat) : Prop := z.natAbs < 2 ^ n
structure QB (q : Rat) (n : Nat) : Prop where
  num : Bt q.num n
  den : Bt q.den n
theorem Bt.le {z : Int} {m n : Nat} (h : Bt z m) (l : m ≤ n) : Bt z n := Nat.lt_of_lt_of_le h (Nat.pow_le_pow_right (by decide) l)
theorem Bt.bits {z : Int} {m : Nat} (h : Bt z m) : Builtin.Int.intBits z ≤ m := intBits_le h
theorem Bt.of_bits {z : Int} {m : Nat} (h : Builtin.Int.intBits z ≤ m) : Bt z m := by
  unfold Builtin.Int.intBits at h
  unfold Bt
  by_cases hz : z = 0
  · subst hz
    exact Nat.two_pow_pos m
  · rw [if_neg (by simpa using hz)] at h
    exact Nat.lt_of_lt_of_le Nat.lt_log2_self (Nat.pow_le_pow_right (by decide) h)
theorem Bt.mulOk {a b : Int} {m n : Nat} (ha : Bt a m) (hb : Bt b n) (h : m + n ≤ 134217728) : IntMulOk a b := mulOk_of_bits ha.bits hb.bits h
theorem Bt.mul {a b : Int} {m n : Nat} (ha : Bt a m) (hb : Bt b n) : Bt (a * b) (m + n) := by
  unfold Bt at *
  rw [Int.natAbs_mul, Nat.pow_add]
  exact Nat.mul_lt_mul'' ha hb
theorem Bt.add {a b : Int} {n : Nat} (ha : Bt a n) (hb : Bt b n) : Bt (a + b) (n + 1) := by
  unfold Bt at *
  rw [Nat.pow_succ]
  omega
theorem Bt.sub {a b : Int} {n : Nat} (ha : Bt a n) (hb : Bt b n) : Bt (a - b) (n + 1) := by
  unfold Bt at *
  rw [Nat.pow_succ]
  omega
theorem Bt.neg {a : Int} {n : Nat} (ha : Bt a n) : Bt (-a) n := by
  unfold Bt at *
  omega
theorem Bt.nat {a : Nat} {n : Nat} (ha : a < 2 ^ n) : Bt (a : Int) n := by
  unfold Bt
  omega
theorem floor_is (n : Int) {d : Int} (hd : 0 < d) : n.fdiv d * d ≤ n ∧ n < (n.fdiv d + 1) * d ∧ (n.fdiv d).natAbs ≤ n.natAbs := by
  rw [Int.fdiv_eq_ediv_of_nonneg _ (Int.le_of_lt hd)]
  have h3 := Int.lt_ediv_add_one_mul_self n hd
  have h4 := Int.ediv_mul_le n (Int.ne_of_gt hd)
  refine ⟨h4, h3, ?_⟩
  generalize n / d = q at h3 h4
  by_cases hq : 0 ≤ q
  · have := Int.mul_le_mul_of_nonneg_left (show (1 : Int) ≤ d by omega) hq
    rw [Int.mul_one] at this
    omega
  · have := Int.mul_le_mul_of_nonpos_left (show q + 1 ≤ 0 by omega) (show (1 : Int) ≤ d by omega)
    rw [Int.mul_one] at this
    omega
theorem Bt.le_abs {a b : Int} {n : Nat} (h : Bt b n) (l : a.natAbs ≤ b.natAbs) : Bt a n := Nat.lt_of_le_of_lt l h
/-! n / d in lowest terms -/
theorem divInt_pos {n d : Int} (hd : 0 < d) : (Rat.divInt n d).num = n / (Nat.gcd n.natAbs d.natAbs : Nat) ∧ ((Rat.divInt n d).den : Int) = d / (Nat.gcd n.natAbs d.natAbs : Nat) := by
  obtain ⟨m, rfl⟩ := Int.eq_ofNat_of_zero_le (Int.le_of_lt hd)
  have hm : m ≠ 0 := by omega
  have e : Rat.divInt n (m : Int) = Rat.normalize n m hm := by
    rw [Rat.divInt_ofNat, Rat.normalize_eq_mkRat]
  rw [e, Rat.normalize_eq]
  exact ⟨rfl, by simp⟩
theorem divInt_flip (n d : Int) : Rat.divInt n d = Rat.divInt (-n) (-d) := (Rat.neg_divInt_neg n d).symm
theorem ratio {n d : Int} (hd : d ≠ 0) (g : Int) (hg : g = if d < 0 then -((Nat.gcd n.natAbs d.natAbs : Nat) : Int) else ((Nat.gcd n.natAbs d.natAbs : Nat) : Int)) :
    g ≠ 0 ∧ n.fdiv g = (Rat.divInt n d).num ∧ d.fdiv g = ((Rat.divInt n d).den : Int) := by
  have g0 : Nat.gcd n.natAbs d.natAbs ≠ 0 := by
    intro h
    have := (Nat.gcd_eq_zero_iff.mp h).2
    omega
  have gn : ((Nat.gcd n.natAbs d.natAbs : Nat) : Int) ∣ n := Int.ofNat_dvd_left.mpr (Nat.gcd_dvd_left _ _)
  have gd : ((Nat.gcd n.natAbs d.natAbs : Nat) : Int) ∣ d := Int.ofNat_dvd_left.mpr (Nat.gcd_dvd_right _ _)
  by_cases h : d < 0
  · rw [if_pos h] at hg
    subst hg
    have p := divInt_pos (n := -n) (d := -d) (by omega)
    rw [← divInt_flip, Int.natAbs_neg, Int.natAbs_neg] at p
    refine ⟨by omega, ?_, ?_⟩
    · rw [p.1, Int.fdiv_eq_ediv_of_dvd (Int.neg_dvd.mpr gn), Int.ediv_neg, Int.neg_ediv_of_dvd gn]
    · rw [p.2, Int.fdiv_eq_ediv_of_dvd (Int.neg_dvd.mpr gd), Int.ediv_neg, Int.neg_ediv_of_dvd gd]
  · rw [if_neg h] at hg
    subst hg
    have p := divInt_pos (n := n) (d := d) (by omega)
    refine ⟨by omega, ?_, ?_⟩
    · rw [p.1, Int.fdiv_eq_ediv_of_dvd gn]
    · rw [p.2, Int.fdiv_eq_ediv_of_dvd gd]
theorem divInt_le {n d : Int} (hd : d ≠ 0) : (Rat.divInt n d).num.natAbs ≤ n.natAbs ∧ (Rat.divInt n d).den ≤ d.natAbs := by
  have key : ∀ n d : Int, 0 < d → (Rat.divInt n d).num.natAbs ≤ n.natAbs ∧ (Rat.divInt n d).den ≤ d.natAbs := by
    intro n d hd
    have p := divInt_pos (n := n) hd
    constructor
    · rw [p.1, Int.natAbs_ediv_of_dvd (Int.ofNat_dvd_left.mpr (Nat.gcd_dvd_left _ _))]
      exact Nat.div_le_self _ _
    · have : ((Rat.divInt n d).den : Int).natAbs ≤ d.natAbs := by
        rw [p.2, Int.natAbs_ediv_of_dvd (Int.ofNat_dvd_left.mpr (Nat.gcd_dvd_right _ _))]
        exact Nat.div_le_self _ _
      simpa using this
  by_cases h : 0 < d
  · exact key n d h
  · have := key (-n) (-d) (by omega)
    rwa [← divInt_flip, Int.natAbs_neg, Int.natAbs_neg] at this
theorem QB.of {n d : Int} {k : Nat} (hn : Bt n k) (hd : Bt d k) (h0 : d ≠ 0) : QB (Rat.divInt n d) k := by
  have p := divInt_le (n := n) h0
  unfold Bt at hn hd
  refine ⟨?_, ?_⟩
  · unfold Bt
    omega
  · unfold Bt
    omega
theorem QB.le {q : Rat} {m n : Nat} (h : QB q m) (l : m ≤ n) : QB q n := ⟨h.num.le l, h.den.le l⟩
theorem den_pos (q : Rat) : (0 : Int) < q.den := by have := q.den_nz; omega
theorem add_is (a b : Rat) : Rat.divInt (a.num * b.den + b.num * a.den) (a.den * b.den) = a + b := by
  have ha := den_pos a
  have hb := den_pos b
  rw [← Rat.divInt_add_divInt _ _ (by omega) (by omega), Rat.num_divInt_den, Rat.num_divInt_den]
theorem sub_is (a b : Rat) : Rat.divInt (a.num * b.den - b.num * a.den) (a.den * b.den) = a - b := by
  have ha := den_pos a
  have hb := den_pos b
  rw [← Rat.divInt_sub_divInt _ _ (by omega) (by omega), Rat.num_divInt_den, Rat.num_divInt_den]
theorem mul_is (a b : Rat) : Rat.divInt (a.num * b.num) (a.den * b.den) = a * b := by
  rw [← Rat.divInt_mul_divInt, Rat.num_divInt_den, Rat.num_divInt_den]
theorem inv_is (a : Rat) : Rat.divInt a.den a.num = a⁻¹ := by
  conv => rhs; rw [← Rat.num_divInt_den a]
  rw [Rat.inv_divInt]
theorem div_is (a b : Rat) : Rat.divInt (a.num * b.den) (a.den * b.num) = a / b := by
  rw [← Rat.divInt_mul_divInt, Rat.num_divInt_den, inv_is, Rat.div_def]
theorem QB.add {a b : Rat} {m n k : Nat} (ha : QB a m) (hb : QB b n) (hk : m + n + 1 ≤ k) : QB (a + b) k := by
  rw [← add_is]
  have h1 := den_pos a
  have h2 := den_pos b
  refine QB.of ?_ ((ha.den.mul hb.den).le (by omega)) (Int.ne_of_gt (Int.mul_pos h1 h2))
  exact (Bt.add ((ha.num.mul hb.den).le (Nat.le_refl (m + n))) ((hb.num.mul ha.den).le (by omega))).le hk
theorem QB.sub {a b : Rat} {m n k : Nat} (ha : QB a m) (hb : QB b n) (hk : m + n + 1 ≤ k) : QB (a - b) k := by
  rw [← sub_is]
  have h1 := den_pos a
  have h2 := den_pos b
  refine QB.of ?_ ((ha.den.mul hb.den).le (by omega)) (Int.ne_of_gt (Int.mul_pos h1 h2))
  exact (Bt.sub ((ha.num.mul hb.den).le (Nat.le_refl (m + n))) ((hb.num.mul ha.den).le (by omega))).le hk
theorem QB.mul {a b : Rat} {m n k : Nat} (ha : QB a m) (hb : QB b n) (hk : m + n ≤ k) : QB (a * b) k := by
  rw [← mul_is]
  have h1 := den_pos a
  have h2 := den_pos b
  exact QB.of ((ha.num.mul hb.num).le hk) ((ha.den.mul hb.den).le hk) (Int.ne_of_gt (Int.mul_pos h1 h2))
theorem QB.neg {a : Rat} {m : Nat} (ha : QB a m) : QB (-a) m := ⟨ha.num.neg, ha.den⟩
theorem QB.inv {a : Rat} {m : Nat} (ha : QB a m) (h0 : a.num ≠ 0) : QB a⁻¹ m := by
  rw [← inv_is]
  exact QB.of ha.den ha.num h0
theorem num_ne {a : Rat} (h : a ≠ 0) : a.num ≠ 0 := fun z => h (Rat.num_eq_zero.mp z)
/-! whole numbers -/
theorem QD_int (m : Int) : QD (m : Rat) = .tup [.int m, .int 1] := rfl
theorem whole {a : Rat} (h : (a.den : Int) = 1) : a = (a.num : Rat) := Rat.ext rfl (by show a.den = 1; omega)
section
variable {G : Gl0} {T : Str → Option Fn} {k : Nat} {S : Sto} {Q : DK} {E : XS}
theorem idx_Q0 (q : Rat) : idxS (QD q) (.int 0) S Q = Q (.int q.num) S := by
  unfold QD
  rw [idx_t, atI0]
  rfl
theorem idx_Q1 (q : Rat) : idxS (QD q) (.int 1) S Q = Q (.int q.den) S := by
  unfold QD
  rw [idx_t, atI1]
  rfl
theorem eq_iff (a b : Rat) : (a.num = b.num ∧ (a.den : Int) = b.den) = (a = b) := propext ⟨fun h => Rat.ext h.1 (by have := h.2; omega), fun h => by subst h; exact ⟨rfl, rfl⟩⟩
theorem cQ_Eq {R : Bool → Prop} (a b : Rat) : cmpS .Eq (QD a) (QD b) S R = R (decide (a = b)) := by
  unfold QD
  rw [c2_Eq]
  simp only [eq_iff]
theorem cQ_NotEq {R : Bool → Prop} (a b : Rat) : cmpS .NotEq (QD a) (QD b) S R = R (!decide (a = b)) := cQ_Eq a b (R := fun k => R (!k))
theorem atI_Q (qs : List Rat) {i : Nat} (h : i < qs.length) : atI (qs.map QD) ((0 : Int) + (i : Nat)) = some (QD (qs.getD i 0)) := by
  rw [Int.zero_add]
  refine atI_nat ?_
  rw [List.getElem?_map, List.getElem?_eq_getElem h, List.getD_eq_getElem?_getD, List.getElem?_eq_getElem h]
  rfl
theorem atI_Qz (qs : List Rat) {z : Int} {i : Nat} (hz : z = i) (h : i < qs.length) : atI (qs.map QD) z = some (QD (qs.getD i 0)) := by
  subst hz
  have := atI_Q qs h
  rwa [Int.zero_add] at this
theorem getD_Q (qs : List Rat) {i : Nat} (h : i < qs.length) : (qs.map QD).getD i .non = QD (qs.getD i 0) := by
  rw [List.getD_eq_getElem?_getD, List.getElem?_map, List.getElem?_eq_getElem h, List.getD_eq_getElem?_getD, List.getElem?_eq_getElem h]
  rfl
theorem pures_Q : ∀ qs : List Rat, pures (qs.map QD) = true
  | [] => rfl
  | q :: r => by
    rw [List.map_cons, pures, pures_Q r]
    rfl
theorem lay_Q : ∀ qs : List Rat, PyData.canLayAll0 (pds (qs.map QD)) = true
  | [] => by
    rw [List.map_nil, pds, PyData.canLayAll0]
  | q :: r => by
    rw [List.map_cons, pds, PyData.canLayAll0, lay_Q r]
    simp [QD, pd, pds, PyData.canLay0, PyData.canLayAll0]
theorem depth_Q : ∀ qs : List Rat, PyData.depthAll (pds (qs.map QD)) ≤ 1
  | [] => by
    rw [List.map_nil, pds, PyData.depthAll]
    decide
  | q :: r => by
    rw [List.map_cons, pds, PyData.depthAll]
    have := depth_Q r
    have e : PyData.depth (pd (QD q)) = 1 := by simp [QD, pd, pds, PyData.depth, PyData.depthAll]
    omega
theorem eqv_Q (q : Rat) : PyData.eqv (pd (QD q)) (pd (QD q)) = true := by simp [QD, pd, pds, PyData.eqv, PyData.eqvAll]
theorem eqvs_Q : ∀ qs : List Rat, PyData.eqvAll (pds (qs.map QD)) (pds (qs.map QD)) = true
  | [] => by rw [List.map_nil, pds, PyData.eqvAll]
  | q :: r => by rw [List.map_cons, pds, PyData.eqvAll, eqv_Q, eqvs_Q r]; rfl
theorem teq {R : Bool → Prop} (qs : List Rat) : cmpS .Eq (.tup (qs.map QD)) (.tup (qs.map QD)) S R = R true := by
  have p : pure_ (.tup (qs.map QD)) = true := by rw [pure_]; exact pures_Q qs
  have sh : SeqAt.shaped (pd (.tup (qs.map QD))) = true := by
    rw [pd]
    unfold SeqAt.shaped
    rw [Bool.and_eq_true]
    refine ⟨by rw [PyData.canLay0]; exact lay_Q qs, decide_eq_true ?_⟩
    rw [PyData.depth]
    have := depth_Q qs
    omega
  show eqG _ _ S R = _
  rw [eqG_pure p p sh sh, pd, PyData.eqv, eqvs_Q]
theorem rational_ok (hT : T "rational" = some F_rational) (hp : G.PY) {n d : Int} (hd : d ≠ 0) (h : Q (QD (Rat.divInt n d)) S) : semF G T (k + 1) "rational" [.int n, .int d] S Q E := by
  refine call_of hT rfl ?_
  simp -dsimp -implicitDefEqProofs only [ent, List.map_cons, List.map_nil, List.length_cons, List.length_nil, Nat.reduceAdd, Nat.reduceSub, Nat.zero_add, List.replicate, List.cons_append, List.nil_append, F_rational]
  simp -dsimp -implicitDefEqProofs only [↓cov3, ↓cov2, ↓cov1, ↓E_var, ↓E_int, ↓E_bl, ↓E_non, ↓E_str, ↓E_glo, ↓E_tup, ↓E_lst, ↓E_bin, ↓E_neg, ↓E_cmp, ↓E_chn, ↓E_and, ↓E_or, ↓E_one, ↓E_not, ↓E_ifx, ↓E_idx, ↓E_slc, ↓E_call, ↓E_bi, ↓E_isi, ↓E_mth, ↓E_lc, ↓Es_nil, ↓Es_cons, ↓O_no, ↓O_some, ↓Q_no, ↓Q_c, ↓C_and, ↓C_or, ↓C_one, ↓C_not, ↓C_cmp, ↓C_chn, ↓C_v, ↓I_seq, ↓I_rng1, ↓I_rng2, ↓I_rng3, ↓I_enu, ↓I_zip, ↓I_rev, ↓S_set, ↓S_asg, ↓S_par2, ↓S_sub, ↓S_expr, ↓S_ret, ↓S_retN, ↓S_ifs, ↓S_for, ↓S_brk, ↓S_cnt, ↓S_pass, ↓S_raise, ↓S_try, ↓S_never, ex_t, ex_f, ↓S_nil, ↓S_cons, ↓kN_nx, ↓kN_rt, ↓kN_bk, ↓kN_ct, ↓kN_ex, ↓kL_nx, ↓kL_rt, ↓kL_bk, ↓kL_ct, ↓kL_ex, ↓kX_nx, ↓kX_rt, ↓kX_bk, ↓kX_ct, ↓kX_ex, ↓kend_nx, ↓kend_rt, ↓kend_bk, ↓kend_ct, ↓kend_ex, vr_some, gt_0, gt_s, stn_0, stn_s, wip_0, wip_s, wips_0, wips_s, neg_i, isi_s, o_i, tru_non, tru_bl, tru_int, tru_tup, tru_rol, c_Eq, c_NotEq, c_Lt, c_LtE, c_Gt, c_GtE, cs_Eq, cs_NotEq, cb_Eq, cb_NotEq, c2_Eq, c2_NotEq, is_non, isnot_non, is_bl, isnot_bl, is_int, isnot_int, is_str, isnot_str, is_tup, isnot_tup, is_rol, isnot_rol, is_ref, isnot_ref, is_b, isnot_b, in_s, notin_s, b_add, b_sub, b_mul, b_fdiv, b_mod, b_pow, b_addt, b_adds, atI0, atI1, atI2, atI3, slc_t, slc_r, len_s, abs_i, int_i, int_b, min_i, max_i, gcd_i, seq_t, seq_r, r1_i, r2_i, r3_i, a_nm, a_nil, a_cons, vrl_some, vrn_some, put_lget, Option.isSome_some, tru_ref, b_addl, idx_t, idx_r, idx_l, slc_l, len_t, len_r, len_l, tuple_t, tuple_r, tuple_l, list_t, list_r, list_l, app_l, rev_l, pop_l, popat_l, mT_l, seq_l, enu_l, zip_l, rev_i, rev_t, in_t, notin_t, fl_s, fl_i, fl_b, fl_n, inL_nil, inL_ss, inL_ii, List.all_cons, List.all_nil, Bool.and_self, Bool.and_true, Bool.true_and, zip_t, a_t, a_l, sub_l, isTs, isT, Option.map_some, List.length_cons, List.length_nil, Nat.reduceAdd, Nat.reduceSub, Nat.reduceLT, Nat.zero_add, Bool.false_eq_true, Bool.true_eq_false, if_false, if_true, decide_eq_true_eq, Bool.not_true, Bool.not_false, ite_true, ite_false, reduceIte, Bool.not_eq_true', decide_eq_false_iff_not, Int.cast_ofNat_Int, Int.reduceEq, Int.reduceLT, Int.reduceLE, Int.reduceNeg, Int.reduceAdd, Int.reduceSub, Int.reduceMul, Int.reduceToNat, decide_true, decide_false, not_true, not_false, not_true_eq_false, not_false_eq_true, true_and, and_true, eq_self, reduceCtorEq, List.isEmpty_nil, List.isEmpty_cons, List.nil_append, List.cons_append, hd]
  have key : ∀ g : Int, (g = if d < 0 then -((Nat.gcd n.natAbs d.natAbs : Nat) : Int) else ((Nat.gcd n.natAbs d.natAbs : Nat) : Int)) → FdOk G.PY n g ∧ FdOk G.PY d g ∧ Q (.tup [.int (n.fdiv g), .int (d.fdiv g)]) S := by
    intro g hg
    obtain ⟨g0, e1, e2⟩ := ratio hd g hg
    refine ⟨⟨g0, .inr hp⟩, ⟨g0, .inr hp⟩, ?_⟩
    rw [e1, e2]
    exact h
  refine ite2 (fun hn => ?_) fun hn => ?_
  · exact key _ (by rw [if_pos hn])
  · exact key _ (by rw [if_neg hn])
theorem rational_zero (hT : T "rational" = some F_rational) {n : Int} (h : E ⟨"ZeroDivisor", []⟩ S) : semF G T (k + 1) "rational" [.int n, .int 0] S Q E := by
  refine call_of hT rfl ?_
  simp -dsimp -implicitDefEqProofs only [ent, List.map_cons, List.map_nil, List.length_cons, List.length_nil, Nat.reduceAdd, Nat.reduceSub, Nat.zero_add, List.replicate, List.cons_append, List.nil_append, F_rational]
  simp -dsimp -implicitDefEqProofs only [↓cov3, ↓cov2, ↓cov1, ↓E_var, ↓E_int, ↓E_bl, ↓E_non, ↓E_str, ↓E_glo, ↓E_tup, ↓E_lst, ↓E_bin, ↓E_neg, ↓E_cmp, ↓E_chn, ↓E_and, ↓E_or, ↓E_one, ↓E_not, ↓E_ifx, ↓E_idx, ↓E_slc, ↓E_call, ↓E_bi, ↓E_isi, ↓E_mth, ↓E_lc, ↓Es_nil, ↓Es_cons, ↓O_no, ↓O_some, ↓Q_no, ↓Q_c, ↓C_and, ↓C_or, ↓C_one, ↓C_not, ↓C_cmp, ↓C_chn, ↓C_v, ↓I_seq, ↓I_rng1, ↓I_rng2, ↓I_rng3, ↓I_enu, ↓I_zip, ↓I_rev, ↓S_set, ↓S_asg, ↓S_par2, ↓S_sub, ↓S_expr, ↓S_ret, ↓S_retN, ↓S_ifs, ↓S_for, ↓S_brk, ↓S_cnt, ↓S_pass, ↓S_raise, ↓S_try, ↓S_never, ex_t, ex_f, ↓S_nil, ↓S_cons, ↓kN_nx, ↓kN_rt, ↓kN_bk, ↓kN_ct, ↓kN_ex, ↓kL_nx, ↓kL_rt, ↓kL_bk, ↓kL_ct, ↓kL_ex, ↓kX_nx, ↓kX_rt, ↓kX_bk, ↓kX_ct, ↓kX_ex, ↓kend_nx, ↓kend_rt, ↓kend_bk, ↓kend_ct, ↓kend_ex, vr_some, gt_0, gt_s, stn_0, stn_s, wip_0, wip_s, wips_0, wips_s, neg_i, isi_s, o_i, tru_non, tru_bl, tru_int, tru_tup, tru_rol, c_Eq, c_NotEq, c_Lt, c_LtE, c_Gt, c_GtE, cs_Eq, cs_NotEq, cb_Eq, cb_NotEq, c2_Eq, c2_NotEq, is_non, isnot_non, is_bl, isnot_bl, is_int, isnot_int, is_str, isnot_str, is_tup, isnot_tup, is_rol, isnot_rol, is_ref, isnot_ref, is_b, isnot_b, in_s, notin_s, b_add, b_sub, b_mul, b_fdiv, b_mod, b_pow, b_addt, b_adds, atI0, atI1, atI2, atI3, slc_t, slc_r, len_s, abs_i, int_i, int_b, min_i, max_i, gcd_i, seq_t, seq_r, r1_i, r2_i, r3_i, a_nm, a_nil, a_cons, vrl_some, vrn_some, put_lget, Option.isSome_some, tru_ref, b_addl, idx_t, idx_r, idx_l, slc_l, len_t, len_r, len_l, tuple_t, tuple_r, tuple_l, list_t, list_r, list_l, app_l, rev_l, pop_l, popat_l, mT_l, seq_l, enu_l, zip_l, rev_i, rev_t, in_t, notin_t, fl_s, fl_i, fl_b, fl_n, inL_nil, inL_ss, inL_ii, List.all_cons, List.all_nil, Bool.and_self, Bool.and_true, Bool.true_and, zip_t, a_t, a_l, sub_l, isTs, isT, Option.map_some, List.length_cons, List.length_nil, Nat.reduceAdd, Nat.reduceSub, Nat.reduceLT, Nat.zero_add, Bool.false_eq_true, Bool.true_eq_false, if_false, if_true, decide_eq_true_eq, Bool.not_true, Bool.not_false, ite_true, ite_false, reduceIte, Bool.not_eq_true', decide_eq_false_iff_not, Int.cast_ofNat_Int, Int.reduceEq, Int.reduceLT, Int.reduceLE, Int.reduceNeg, Int.reduceAdd, Int.reduceSub, Int.reduceMul, Int.reduceToNat, decide_true, decide_false, not_true, not_false, not_true_eq_false, not_false_eq_true, true_and, and_true, eq_self, reduceCtorEq, List.isEmpty_nil, List.isEmpty_cons, List.nil_append, List.cons_append]
  exact ⟨by decide, h⟩
theorem radd_ok (hT : T "radd" = some F_radd) (hR : T "rational" = some F_rational) (hp : G.PY) {a b : Rat} {m n : Nat} (ha : QB a m) (hb : QB b n) (hmn : m + n ≤ 134217728) (h : Q (QD (a + b)) S) : semF G T (k + 2) "radd" [QD a, QD b] S Q E := by
  refine call_of hT rfl ?_
  simp -dsimp -implicitDefEqProofs only [ent, List.map_cons, List.map_nil, List.length_cons, List.length_nil, Nat.reduceAdd, Nat.reduceSub, Nat.zero_add, List.replicate, List.cons_append, List.nil_append, F_radd, QD]
  simp -dsimp -implicitDefEqProofs only [↓cov3, ↓cov2, ↓cov1, ↓E_var, ↓E_int, ↓E_bl, ↓E_non, ↓E_str, ↓E_glo, ↓E_tup, ↓E_lst, ↓E_bin, ↓E_neg, ↓E_cmp, ↓E_chn, ↓E_and, ↓E_or, ↓E_one, ↓E_not, ↓E_ifx, ↓E_idx, ↓E_slc, ↓E_call, ↓E_bi, ↓E_isi, ↓E_mth, ↓E_lc, ↓Es_nil, ↓Es_cons, ↓O_no, ↓O_some, ↓Q_no, ↓Q_c, ↓C_and, ↓C_or, ↓C_one, ↓C_not, ↓C_cmp, ↓C_chn, ↓C_v, ↓I_seq, ↓I_rng1, ↓I_rng2, ↓I_rng3, ↓I_enu, ↓I_zip, ↓I_rev, ↓S_set, ↓S_asg, ↓S_par2, ↓S_sub, ↓S_expr, ↓S_ret, ↓S_retN, ↓S_ifs, ↓S_for, ↓S_brk, ↓S_cnt, ↓S_pass, ↓S_raise, ↓S_try, ↓S_never, ex_t, ex_f, ↓S_nil, ↓S_cons, ↓kN_nx, ↓kN_rt, ↓kN_bk, ↓kN_ct, ↓kN_ex, ↓kL_nx, ↓kL_rt, ↓kL_bk, ↓kL_ct, ↓kL_ex, ↓kX_nx, ↓kX_rt, ↓kX_bk, ↓kX_ct, ↓kX_ex, ↓kend_nx, ↓kend_rt, ↓kend_bk, ↓kend_ct, ↓kend_ex, vr_some, gt_0, gt_s, stn_0, stn_s, wip_0, wip_s, wips_0, wips_s, neg_i, isi_s, o_i, tru_non, tru_bl, tru_int, tru_tup, tru_rol, c_Eq, c_NotEq, c_Lt, c_LtE, c_Gt, c_GtE, cs_Eq, cs_NotEq, cb_Eq, cb_NotEq, c2_Eq, c2_NotEq, is_non, isnot_non, is_bl, isnot_bl, is_int, isnot_int, is_str, isnot_str, is_tup, isnot_tup, is_rol, isnot_rol, is_ref, isnot_ref, is_b, isnot_b, in_s, notin_s, b_add, b_sub, b_mul, b_fdiv, b_mod, b_pow, b_addt, b_adds, atI0, atI1, atI2, atI3, slc_t, slc_r, len_s, abs_i, int_i, int_b, min_i, max_i, gcd_i, seq_t, seq_r, r1_i, r2_i, r3_i, a_nm, a_nil, a_cons, vrl_some, vrn_some, put_lget, Option.isSome_some, tru_ref, b_addl, idx_t, idx_r, idx_l, slc_l, len_t, len_r, len_l, tuple_t, tuple_r, tuple_l, list_t, list_r, list_l, app_l, rev_l, pop_l, popat_l, mT_l, seq_l, enu_l, zip_l, rev_i, rev_t, in_t, notin_t, fl_s, fl_i, fl_b, fl_n, inL_nil, inL_ss, inL_ii, List.all_cons, List.all_nil, Bool.and_self, Bool.and_true, Bool.true_and, zip_t, a_t, a_l, sub_l, isTs, isT, Option.map_some, List.length_cons, List.length_nil, Nat.reduceAdd, Nat.reduceSub, Nat.reduceLT, Nat.zero_add, Bool.false_eq_true, Bool.true_eq_false, if_false, if_true, decide_eq_true_eq, Bool.not_true, Bool.not_false, ite_true, ite_false, reduceIte, Bool.not_eq_true', decide_eq_false_iff_not, Int.cast_ofNat_Int, Int.reduceEq, Int.reduceLT, Int.reduceLE, Int.reduceNeg, Int.reduceAdd, Int.reduceSub, Int.reduceMul, Int.reduceToNat, decide_true, decide_false, not_true, not_false, not_true_eq_false, not_false_eq_true, true_and, and_true, eq_self, reduceCtorEq, List.isEmpty_nil, List.isEmpty_cons, List.nil_append, List.cons_append]
  have rest : semF G T (k + 1) "rational" [.int (a.num * b.den + b.num * a.den), .int (a.den * b.den)] S Q E := by
    refine rational_ok hR hp (Int.ne_of_gt (Int.mul_pos (den_pos a) (den_pos b))) ?_
    rw [add_is]
    exact h
  refine ite2 (fun h1 => ite2 (fun h2 => ?_) fun h2 => ?_) fun h1 => ?_
  · have e : a + b = ((a.num + b.num : Int) : Rat) := by
      rw [Rat.intCast_add, ← whole h1, ← whole h2]
    rw [e, QD_int] at h
    exact h
  all_goals exact ⟨ha.num.mulOk hb.den hmn, hb.num.mulOk ha.den (by omega), ha.den.mulOk hb.den hmn, rest⟩
theorem rsub_ok (hT : T "rsub" = some F_rsub) (hR : T "rational" = some F_rational) (hp : G.PY) {a b : Rat} {m n : Nat} (ha : QB a m) (hb : QB b n) (hmn : m + n ≤ 134217728) (h : Q (QD (a - b)) S) : semF G T (k + 2) "rsub" [QD a, QD b] S Q E := by
  refine call_of hT rfl ?_
  simp -dsimp -implicitDefEqProofs only [ent, List.map_cons, List.map_nil, List.length_cons, List.length_nil, Nat.reduceAdd, Nat.reduceSub, Nat.zero_add, List.replicate, List.cons_append, List.nil_append, F_rsub, QD]
  simp -dsimp -implicitDefEqProofs only [↓cov3, ↓cov2, ↓cov1, ↓E_var, ↓E_int, ↓E_bl, ↓E_non, ↓E_str, ↓E_glo, ↓E_tup, ↓E_lst, ↓E_bin, ↓E_neg, ↓E_cmp, ↓E_chn, ↓E_and, ↓E_or, ↓E_one, ↓E_not, ↓E_ifx, ↓E_idx, ↓E_slc, ↓E_call, ↓E_bi, ↓E_isi, ↓E_mth, ↓E_lc, ↓Es_nil, ↓Es_cons, ↓O_no, ↓O_some, ↓Q_no, ↓Q_c, ↓C_and, ↓C_or, ↓C_one, ↓C_not, ↓C_cmp, ↓C_chn, ↓C_v, ↓I_seq, ↓I_rng1, ↓I_rng2, ↓I_rng3, ↓I_enu, ↓I_zip, ↓I_rev, ↓S_set, ↓S_asg, ↓S_par2, ↓S_sub, ↓S_expr, ↓S_ret, ↓S_retN, ↓S_ifs, ↓S_for, ↓S_brk, ↓S_cnt, ↓S_pass, ↓S_raise, ↓S_try, ↓S_never, ex_t, ex_f, ↓S_nil, ↓S_cons, ↓kN_nx, ↓kN_rt, ↓kN_bk, ↓kN_ct, ↓kN_ex, ↓kL_nx, ↓kL_rt, ↓kL_bk, ↓kL_ct, ↓kL_ex, ↓kX_nx, ↓kX_rt, ↓kX_bk, ↓kX_ct, ↓kX_ex, ↓kend_nx, ↓kend_rt, ↓kend_bk, ↓kend_ct, ↓kend_ex, vr_some, gt_0, gt_s, stn_0, stn_s, wip_0, wip_s, wips_0, wips_s, neg_i, isi_s, o_i, tru_non, tru_bl, tru_int, tru_tup, tru_rol, c_Eq, c_NotEq, c_Lt, c_LtE, c_Gt, c_GtE, cs_Eq, cs_NotEq, cb_Eq, cb_NotEq, c2_Eq, c2_NotEq, is_non, isnot_non, is_bl, isnot_bl, is_int, isnot_int, is_str, isnot_str, is_tup, isnot_tup, is_rol, isnot_rol, is_ref, isnot_ref, is_b, isnot_b, in_s, notin_s, b_add, b_sub, b_mul, b_fdiv, b_mod, b_pow, b_addt, b_adds, atI0, atI1, atI2, atI3, slc_t, slc_r, len_s, abs_i, int_i, int_b, min_i, max_i, gcd_i, seq_t, seq_r, r1_i, r2_i, r3_i, a_nm, a_nil, a_cons, vrl_some, vrn_some, put_lget, Option.isSome_some, tru_ref, b_addl, idx_t, idx_r, idx_l, slc_l, len_t, len_r, len_l, tuple_t, tuple_r, tuple_l, list_t, list_r, list_l, app_l, rev_l, pop_l, popat_l, mT_l, seq_l, enu_l, zip_l, rev_i, rev_t, in_t, notin_t, fl_s, fl_i, fl_b, fl_n, inL_nil, inL_ss, inL_ii, List.all_cons, List.all_nil, Bool.and_self, Bool.and_true, Bool.true_and, zip_t, a_t, a_l, sub_l, isTs, isT, Option.map_some, List.length_cons, List.length_nil, Nat.reduceAdd, Nat.reduceSub, Nat.reduceLT, Nat.zero_add, Bool.false_eq_true, Bool.true_eq_false, if_false, if_true, decide_eq_true_eq, Bool.not_true, Bool.not_false, ite_true, ite_false, reduceIte, Bool.not_eq_true', decide_eq_false_iff_not, Int.cast_ofNat_Int, Int.reduceEq, Int.reduceLT, Int.reduceLE, Int.reduceNeg, Int.reduceAdd, Int.reduceSub, Int.reduceMul, Int.reduceToNat, decide_true, decide_false, not_true, not_false, not_true_eq_false, not_false_eq_true, true_and, and_true, eq_self, reduceCtorEq, List.isEmpty_nil, List.isEmpty_cons, List.nil_append, List.cons_append]
  have rest : semF G T (k + 1) "rational" [.int (a.num * b.den - b.num * a.den), .int (a.den * b.den)] S Q E := by
    refine rational_ok hR hp (Int.ne_of_gt (Int.mul_pos (den_pos a) (den_pos b))) ?_
    rw [sub_is]
    exact h
  refine ite2 (fun h1 => ite2 (fun h2 => ?_) fun h2 => ?_) fun h1 => ?_
  · have e : a - b = ((a.num - b.num : Int) : Rat) := by
      rw [Rat.intCast_sub, ← whole h1, ← whole h2]
    rw [e, QD_int] at h
    exact h
  all_goals exact ⟨ha.num.mulOk hb.den hmn, hb.num.mulOk ha.den (by omega), ha.den.mulOk hb.den hmn, rest⟩
theorem rmul_ok (hT : T "rmul" = some F_rmul) (hR : T "rational" = some F_rational) (hp : G.PY) {a b : Rat} {m n : Nat} (ha : QB a m) (hb : QB b n) (hmn : m + n ≤ 134217728) (h : Q (QD (a * b)) S) : semF G T (k + 2) "rmul" [QD a, QD b] S Q E := by
  refine call_of hT rfl ?_
  simp -dsimp -implicitDefEqProofs only [ent, List.map_cons, List.map_nil, List.length_cons, List.length_nil, Nat.reduceAdd, Nat.reduceSub, Nat.zero_add, List.replicate, List.cons_append, List.nil_append, F_rmul, QD]
  simp -dsimp -implicitDefEqProofs only [↓cov3, ↓cov2, ↓cov1, ↓E_var, ↓E_int, ↓E_bl, ↓E_non, ↓E_str, ↓E_glo, ↓E_tup, ↓E_lst, ↓E_bin, ↓E_neg, ↓E_cmp, ↓E_chn, ↓E_and, ↓E_or, ↓E_one, ↓E_not, ↓E_ifx, ↓E_idx, ↓E_slc, ↓E_call, ↓E_bi, ↓E_isi, ↓E_mth, ↓E_lc, ↓Es_nil, ↓Es_cons, ↓O_no, ↓O_some, ↓Q_no, ↓Q_c, ↓C_and, ↓C_or, ↓C_one, ↓C_not, ↓C_cmp, ↓C_chn, ↓C_v, ↓I_seq, ↓I_rng1, ↓I_rng2, ↓I_rng3, ↓I_enu, ↓I_zip, ↓I_rev, ↓S_set, ↓S_asg, ↓S_par2, ↓S_sub, ↓S_expr, ↓S_ret, ↓S_retN, ↓S_ifs, ↓S_for, ↓S_brk, ↓S_cnt, ↓S_pass, ↓S_raise, ↓S_try, ↓S_never, ex_t, ex_f, ↓S_nil, ↓S_cons, ↓kN_nx, ↓kN_rt, ↓kN_bk, ↓kN_ct, ↓kN_ex, ↓kL_nx, ↓kL_rt, ↓kL_bk, ↓kL_ct, ↓kL_ex, ↓kX_nx, ↓kX_rt, ↓kX_bk, ↓kX_ct, ↓kX_ex, ↓kend_nx, ↓kend_rt, ↓kend_bk, ↓kend_ct, ↓kend_ex, vr_some, gt_0, gt_s, stn_0, stn_s, wip_0, wip_s, wips_0, wips_s, neg_i, isi_s, o_i, tru_non, tru_bl, tru_int, tru_tup, tru_rol, c_Eq, c_NotEq, c_Lt, c_LtE, c_Gt, c_GtE, cs_Eq, cs_NotEq, cb_Eq, cb_NotEq, c2_Eq, c2_NotEq, is_non, isnot_non, is_bl, isnot_bl, is_int, isnot_int, is_str, isnot_str, is_tup, isnot_tup, is_rol, isnot_rol, is_ref, isnot_ref, is_b, isnot_b, in_s, notin_s, b_add, b_sub, b_mul, b_fdiv, b_mod, b_pow, b_addt, b_adds, atI0, atI1, atI2, atI3, slc_t, slc_r, len_s, abs_i, int_i, int_b, min_i, max_i, gcd_i, seq_t, seq_r, r1_i, r2_i, r3_i, a_nm, a_nil, a_cons, vrl_some, vrn_some, put_lget, Option.isSome_some, tru_ref, b_addl, idx_t, idx_r, idx_l, slc_l, len_t, len_r, len_l, tuple_t, tuple_r, tuple_l, list_t, list_r, list_l, app_l, rev_l, pop_l, popat_l, mT_l, seq_l, enu_l, zip_l, rev_i, rev_t, in_t, notin_t, fl_s, fl_i, fl_b, fl_n, inL_nil, inL_ss, inL_ii, List.all_cons, List.all_nil, Bool.and_self, Bool.and_true, Bool.true_and, zip_t, a_t, a_l, sub_l, isTs, isT, Option.map_some, List.length_cons, List.length_nil, Nat.reduceAdd, Nat.reduceSub, Nat.reduceLT, Nat.zero_add, Bool.false_eq_true, Bool.true_eq_false, if_false, if_true, decide_eq_true_eq, Bool.not_true, Bool.not_false, ite_true, ite_false, reduceIte, Bool.not_eq_true', decide_eq_false_iff_not, Int.cast_ofNat_Int, Int.reduceEq, Int.reduceLT, Int.reduceLE, Int.reduceNeg, Int.reduceAdd, Int.reduceSub, Int.reduceMul, Int.reduceToNat, decide_true, decide_false, not_true, not_false, not_true_eq_false, not_false_eq_true, true_and, and_true, eq_self, reduceCtorEq, List.isEmpty_nil, List.isEmpty_cons, List.nil_append, List.cons_append]
  have rest : semF G T (k + 1) "rational" [.int (a.num * b.num), .int (a.den * b.den)] S Q E := by
    refine rational_ok hR hp (Int.ne_of_gt (Int.mul_pos (den_pos a) (den_pos b))) ?_
    rw [mul_is]
    exact h
  refine ite2 (fun h1 => ite2 (fun h2 => ?_) fun h2 => ?_) fun h1 => ?_
  · have e : a * b = ((a.num * b.num : Int) : Rat) := by
      rw [Rat.intCast_mul, ← whole h1, ← whole h2]
    rw [e, QD_int] at h
    exact ⟨ha.num.mulOk hb.num hmn, h⟩
  all_goals exact ⟨ha.num.mulOk hb.num hmn, ha.den.mulOk hb.den hmn, rest⟩
theorem rneg_ok (hT : T "rneg" = some F_rneg) {a : Rat} (h : Q (QD (-a)) S) : semF G T (k + 1) "rneg" [QD a] S Q E := by
  refine call_of hT rfl ?_
  simp -dsimp -implicitDefEqProofs only [ent, List.map_cons, List.map_nil, List.length_cons, List.length_nil, Nat.reduceAdd, Nat.reduceSub, Nat.zero_add, List.replicate, List.cons_append, List.nil_append, F_rneg, QD]
  simp -dsimp -implicitDefEqProofs only [↓cov3, ↓cov2, ↓cov1, ↓E_var, ↓E_int, ↓E_bl, ↓E_non, ↓E_str, ↓E_glo, ↓E_tup, ↓E_lst, ↓E_bin, ↓E_neg, ↓E_cmp, ↓E_chn, ↓E_and, ↓E_or, ↓E_one, ↓E_not, ↓E_ifx, ↓E_idx, ↓E_slc, ↓E_call, ↓E_bi, ↓E_isi, ↓E_mth, ↓E_lc, ↓Es_nil, ↓Es_cons, ↓O_no, ↓O_some, ↓Q_no, ↓Q_c, ↓C_and, ↓C_or, ↓C_one, ↓C_not, ↓C_cmp, ↓C_chn, ↓C_v, ↓I_seq, ↓I_rng1, ↓I_rng2, ↓I_rng3, ↓I_enu, ↓I_zip, ↓I_rev, ↓S_set, ↓S_asg, ↓S_par2, ↓S_sub, ↓S_expr, ↓S_ret, ↓S_retN, ↓S_ifs, ↓S_for, ↓S_brk, ↓S_cnt, ↓S_pass, ↓S_raise, ↓S_try, ↓S_never, ex_t, ex_f, ↓S_nil, ↓S_cons, ↓kN_nx, ↓kN_rt, ↓kN_bk, ↓kN_ct, ↓kN_ex, ↓kL_nx, ↓kL_rt, ↓kL_bk, ↓kL_ct, ↓kL_ex, ↓kX_nx, ↓kX_rt, ↓kX_bk, ↓kX_ct, ↓kX_ex, ↓kend_nx, ↓kend_rt, ↓kend_bk, ↓kend_ct, ↓kend_ex, vr_some, gt_0, gt_s, stn_0, stn_s, wip_0, wip_s, wips_0, wips_s, neg_i, isi_s, o_i, tru_non, tru_bl, tru_int, tru_tup, tru_rol, c_Eq, c_NotEq, c_Lt, c_LtE, c_Gt, c_GtE, cs_Eq, cs_NotEq, cb_Eq, cb_NotEq, c2_Eq, c2_NotEq, is_non, isnot_non, is_bl, isnot_bl, is_int, isnot_int, is_str, isnot_str, is_tup, isnot_tup, is_rol, isnot_rol, is_ref, isnot_ref, is_b, isnot_b, in_s, notin_s, b_add, b_sub, b_mul, b_fdiv, b_mod, b_pow, b_addt, b_adds, atI0, atI1, atI2, atI3, slc_t, slc_r, len_s, abs_i, int_i, int_b, min_i, max_i, gcd_i, seq_t, seq_r, r1_i, r2_i, r3_i, a_nm, a_nil, a_cons, vrl_some, vrn_some, put_lget, Option.isSome_some, tru_ref, b_addl, idx_t, idx_r, idx_l, slc_l, len_t, len_r, len_l, tuple_t, tuple_r, tuple_l, list_t, list_r, list_l, app_l, rev_l, pop_l, popat_l, mT_l, seq_l, enu_l, zip_l, rev_i, rev_t, in_t, notin_t, fl_s, fl_i, fl_b, fl_n, inL_nil, inL_ss, inL_ii, List.all_cons, List.all_nil, Bool.and_self, Bool.and_true, Bool.true_and, zip_t, a_t, a_l, sub_l, isTs, isT, Option.map_some, List.length_cons, List.length_nil, Nat.reduceAdd, Nat.reduceSub, Nat.reduceLT, Nat.zero_add, Bool.false_eq_true, Bool.true_eq_false, if_false, if_true, decide_eq_true_eq, Bool.not_true, Bool.not_false, ite_true, ite_false, reduceIte, Bool.not_eq_true', decide_eq_false_iff_not, Int.cast_ofNat_Int, Int.reduceEq, Int.reduceLT, Int.reduceLE, Int.reduceNeg, Int.reduceAdd, Int.reduceSub, Int.reduceMul, Int.reduceToNat, decide_true, decide_false, not_true, not_false, not_true_eq_false, not_false_eq_true, true_and, and_true, eq_self, reduceCtorEq, List.isEmpty_nil, List.isEmpty_cons, List.nil_append, List.cons_append]
  exact h
theorem rinv_ok (hT : T "rinv" = some F_rinv) (hR : T "rational" = some F_rational) (hp : G.PY) {a : Rat} (h0 : a.num ≠ 0) (h : Q (QD a⁻¹) S) : semF G T (k + 2) "rinv" [QD a] S Q E := by
  refine call_of hT rfl ?_
  simp -dsimp -implicitDefEqProofs only [ent, List.map_cons, List.map_nil, List.length_cons, List.length_nil, Nat.reduceAdd, Nat.reduceSub, Nat.zero_add, List.replicate, List.cons_append, List.nil_append, F_rinv, QD]
  simp -dsimp -implicitDefEqProofs only [↓cov3, ↓cov2, ↓cov1, ↓E_var, ↓E_int, ↓E_bl, ↓E_non, ↓E_str, ↓E_glo, ↓E_tup, ↓E_lst, ↓E_bin, ↓E_neg, ↓E_cmp, ↓E_chn, ↓E_and, ↓E_or, ↓E_one, ↓E_not, ↓E_ifx, ↓E_idx, ↓E_slc, ↓E_call, ↓E_bi, ↓E_isi, ↓E_mth, ↓E_lc, ↓Es_nil, ↓Es_cons, ↓O_no, ↓O_some, ↓Q_no, ↓Q_c, ↓C_and, ↓C_or, ↓C_one, ↓C_not, ↓C_cmp, ↓C_chn, ↓C_v, ↓I_seq, ↓I_rng1, ↓I_rng2, ↓I_rng3, ↓I_enu, ↓I_zip, ↓I_rev, ↓S_set, ↓S_asg, ↓S_par2, ↓S_sub, ↓S_expr, ↓S_ret, ↓S_retN, ↓S_ifs, ↓S_for, ↓S_brk, ↓S_cnt, ↓S_pass, ↓S_raise, ↓S_try, ↓S_never, ex_t, ex_f, ↓S_nil, ↓S_cons, ↓kN_nx, ↓kN_rt, ↓kN_bk, ↓kN_ct, ↓kN_ex, ↓kL_nx, ↓kL_rt, ↓kL_bk, ↓kL_ct, ↓kL_ex, ↓kX_nx, ↓kX_rt, ↓kX_bk, ↓kX_ct, ↓kX_ex, ↓kend_nx, ↓kend_rt, ↓kend_bk, ↓kend_ct, ↓kend_ex, vr_some, gt_0, gt_s, stn_0, stn_s, wip_0, wip_s, wips_0, wips_s, neg_i, isi_s, o_i, tru_non, tru_bl, tru_int, tru_tup, tru_rol, c_Eq, c_NotEq, c_Lt, c_LtE, c_Gt, c_GtE, cs_Eq, cs_NotEq, cb_Eq, cb_NotEq, c2_Eq, c2_NotEq, is_non, isnot_non, is_bl, isnot_bl, is_int, isnot_int, is_str, isnot_str, is_tup, isnot_tup, is_rol, isnot_rol, is_ref, isnot_ref, is_b, isnot_b, in_s, notin_s, b_add, b_sub, b_mul, b_fdiv, b_mod, b_pow, b_addt, b_adds, atI0, atI1, atI2, atI3, slc_t, slc_r, len_s, abs_i, int_i, int_b, min_i, max_i, gcd_i, seq_t, seq_r, r1_i, r2_i, r3_i, a_nm, a_nil, a_cons, vrl_some, vrn_some, put_lget, Option.isSome_some, tru_ref, b_addl, idx_t, idx_r, idx_l, slc_l, len_t, len_r, len_l, tuple_t, tuple_r, tuple_l, list_t, list_r, list_l, app_l, rev_l, pop_l, popat_l, mT_l, seq_l, enu_l, zip_l, rev_i, rev_t, in_t, notin_t, fl_s, fl_i, fl_b, fl_n, inL_nil, inL_ss, inL_ii, List.all_cons, List.all_nil, Bool.and_self, Bool.and_true, Bool.true_and, zip_t, a_t, a_l, sub_l, isTs, isT, Option.map_some, List.length_cons, List.length_nil, Nat.reduceAdd, Nat.reduceSub, Nat.reduceLT, Nat.zero_add, Bool.false_eq_true, Bool.true_eq_false, if_false, if_true, decide_eq_true_eq, Bool.not_true, Bool.not_false, ite_true, ite_false, reduceIte, Bool.not_eq_true', decide_eq_false_iff_not, Int.cast_ofNat_Int, Int.reduceEq, Int.reduceLT, Int.reduceLE, Int.reduceNeg, Int.reduceAdd, Int.reduceSub, Int.reduceMul, Int.reduceToNat, decide_true, decide_false, not_true, not_false, not_true_eq_false, not_false_eq_true, true_and, and_true, eq_self, reduceCtorEq, List.isEmpty_nil, List.isEmpty_cons, List.nil_append, List.cons_append]
  refine rational_ok hR hp h0 ?_
  rw [inv_is]
  exact h
theorem rdiv_ok (hT : T "rdiv" = some F_rdiv) (hR : T "rational" = some F_rational) (hp : G.PY) {a b : Rat} {m n : Nat} (ha : QB a m) (hb : QB b n) (hmn : m + n ≤ 134217728) (h0 : b.num ≠ 0) (h : Q (QD (a / b)) S) : semF G T (k + 2) "rdiv" [QD a, QD b] S Q E := by
  refine call_of hT rfl ?_
  simp -dsimp -implicitDefEqProofs only [ent, List.map_cons, List.map_nil, List.length_cons, List.length_nil, Nat.reduceAdd, Nat.reduceSub, Nat.zero_add, List.replicate, List.cons_append, List.nil_append, F_rdiv, QD]
  simp -dsimp -implicitDefEqProofs only [↓cov3, ↓cov2, ↓cov1, ↓E_var, ↓E_int, ↓E_bl, ↓E_non, ↓E_str, ↓E_glo, ↓E_tup, ↓E_lst, ↓E_bin, ↓E_neg, ↓E_cmp, ↓E_chn, ↓E_and, ↓E_or, ↓E_one, ↓E_not, ↓E_ifx, ↓E_idx, ↓E_slc, ↓E_call, ↓E_bi, ↓E_isi, ↓E_mth, ↓E_lc, ↓Es_nil, ↓Es_cons, ↓O_no, ↓O_some, ↓Q_no, ↓Q_c, ↓C_and, ↓C_or, ↓C_one, ↓C_not, ↓C_cmp, ↓C_chn, ↓C_v, ↓I_seq, ↓I_rng1, ↓I_rng2, ↓I_rng3, ↓I_enu, ↓I_zip, ↓I_rev, ↓S_set, ↓S_asg, ↓S_par2, ↓S_sub, ↓S_expr, ↓S_ret, ↓S_retN, ↓S_ifs, ↓S_for, ↓S_brk, ↓S_cnt, ↓S_pass, ↓S_raise, ↓S_try, ↓S_never, ex_t, ex_f, ↓S_nil, ↓S_cons, ↓kN_nx, ↓kN_rt, ↓kN_bk, ↓kN_ct, ↓kN_ex, ↓kL_nx, ↓kL_rt, ↓kL_bk, ↓kL_ct, ↓kL_ex, ↓kX_nx, ↓kX_rt, ↓kX_bk, ↓kX_ct, ↓kX_ex, ↓kend_nx, ↓kend_rt, ↓kend_bk, ↓kend_ct, ↓kend_ex, vr_some, gt_0, gt_s, stn_0, stn_s, wip_0, wip_s, wips_0, wips_s, neg_i, isi_s, o_i, tru_non, tru_bl, tru_int, tru_tup, tru_rol, c_Eq, c_NotEq, c_Lt, c_LtE, c_Gt, c_GtE, cs_Eq, cs_NotEq, cb_Eq, cb_NotEq, c2_Eq, c2_NotEq, is_non, isnot_non, is_bl, isnot_bl, is_int, isnot_int, is_str, isnot_str, is_tup, isnot_tup, is_rol, isnot_rol, is_ref, isnot_ref, is_b, isnot_b, in_s, notin_s, b_add, b_sub, b_mul, b_fdiv, b_mod, b_pow, b_addt, b_adds, atI0, atI1, atI2, atI3, slc_t, slc_r, len_s, abs_i, int_i, int_b, min_i, max_i, gcd_i, seq_t, seq_r, r1_i, r2_i, r3_i, a_nm, a_nil, a_cons, vrl_some, vrn_some, put_lget, Option.isSome_some, tru_ref, b_addl, idx_t, idx_r, idx_l, slc_l, len_t, len_r, len_l, tuple_t, tuple_r, tuple_l, list_t, list_r, list_l, app_l, rev_l, pop_l, popat_l, mT_l, seq_l, enu_l, zip_l, rev_i, rev_t, in_t, notin_t, fl_s, fl_i, fl_b, fl_n, inL_nil, inL_ss, inL_ii, List.all_cons, List.all_nil, Bool.and_self, Bool.and_true, Bool.true_and, zip_t, a_t, a_l, sub_l, isTs, isT, Option.map_some, List.length_cons, List.length_nil, Nat.reduceAdd, Nat.reduceSub, Nat.reduceLT, Nat.zero_add, Bool.false_eq_true, Bool.true_eq_false, if_false, if_true, decide_eq_true_eq, Bool.not_true, Bool.not_false, ite_true, ite_false, reduceIte, Bool.not_eq_true', decide_eq_false_iff_not, Int.cast_ofNat_Int, Int.reduceEq, Int.reduceLT, Int.reduceLE, Int.reduceNeg, Int.reduceAdd, Int.reduceSub, Int.reduceMul, Int.reduceToNat, decide_true, decide_false, not_true, not_false, not_true_eq_false, not_false_eq_true, true_and, and_true, eq_self, reduceCtorEq, List.isEmpty_nil, List.isEmpty_cons, List.nil_append, List.cons_append]
  refine ⟨ha.num.mulOk hb.den hmn, ha.den.mulOk hb.num hmn, rational_ok hR hp (Int.mul_ne_zero (Int.ne_of_gt (den_pos a)) h0) ?_⟩
  rw [div_is]
  exact h
theorem rsign_ok (hT : T "rsign" = some F_rsign) {a : Rat} (h : Q (.int a.num.sign) S) : semF G T (k + 1) "rsign" [QD a] S Q E := by
  refine call_of hT rfl ?_
  simp -dsimp -implicitDefEqProofs only [ent, List.map_cons, List.map_nil, List.length_cons, List.length_nil, Nat.reduceAdd, Nat.reduceSub, Nat.zero_add, List.replicate, List.cons_append, List.nil_append, F_rsign, QD]
  simp -dsimp -implicitDefEqProofs only [↓cov3, ↓cov2, ↓cov1, ↓E_var, ↓E_int, ↓E_bl, ↓E_non, ↓E_str, ↓E_glo, ↓E_tup, ↓E_lst, ↓E_bin, ↓E_neg, ↓E_cmp, ↓E_chn, ↓E_and, ↓E_or, ↓E_one, ↓E_not, ↓E_ifx, ↓E_idx, ↓E_slc, ↓E_call, ↓E_bi, ↓E_isi, ↓E_mth, ↓E_lc, ↓Es_nil, ↓Es_cons, ↓O_no, ↓O_some, ↓Q_no, ↓Q_c, ↓C_and, ↓C_or, ↓C_one, ↓C_not, ↓C_cmp, ↓C_chn, ↓C_v, ↓I_seq, ↓I_rng1, ↓I_rng2, ↓I_rng3, ↓I_enu, ↓I_zip, ↓I_rev, ↓S_set, ↓S_asg, ↓S_par2, ↓S_sub, ↓S_expr, ↓S_ret, ↓S_retN, ↓S_ifs, ↓S_for, ↓S_brk, ↓S_cnt, ↓S_pass, ↓S_raise, ↓S_try, ↓S_never, ex_t, ex_f, ↓S_nil, ↓S_cons, ↓kN_nx, ↓kN_rt, ↓kN_bk, ↓kN_ct, ↓kN_ex, ↓kL_nx, ↓kL_rt, ↓kL_bk, ↓kL_ct, ↓kL_ex, ↓kX_nx, ↓kX_rt, ↓kX_bk, ↓kX_ct, ↓kX_ex, ↓kend_nx, ↓kend_rt, ↓kend_bk, ↓kend_ct, ↓kend_ex, vr_some, gt_0, gt_s, stn_0, stn_s, wip_0, wip_s, wips_0, wips_s, neg_i, isi_s, o_i, tru_non, tru_bl, tru_int, tru_tup, tru_rol, c_Eq, c_NotEq, c_Lt, c_LtE, c_Gt, c_GtE, cs_Eq, cs_NotEq, cb_Eq, cb_NotEq, c2_Eq, c2_NotEq, is_non, isnot_non, is_bl, isnot_bl, is_int, isnot_int, is_str, isnot_str, is_tup, isnot_tup, is_rol, isnot_rol, is_ref, isnot_ref, is_b, isnot_b, in_s, notin_s, b_add, b_sub, b_mul, b_fdiv, b_mod, b_pow, b_addt, b_adds, atI0, atI1, atI2, atI3, slc_t, slc_r, len_s, abs_i, int_i, int_b, min_i, max_i, gcd_i, seq_t, seq_r, r1_i, r2_i, r3_i, a_nm, a_nil, a_cons, vrl_some, vrn_some, put_lget, Option.isSome_some, tru_ref, b_addl, idx_t, idx_r, idx_l, slc_l, len_t, len_r, len_l, tuple_t, tuple_r, tuple_l, list_t, list_r, list_l, app_l, rev_l, pop_l, popat_l, mT_l, seq_l, enu_l, zip_l, rev_i, rev_t, in_t, notin_t, fl_s, fl_i, fl_b, fl_n, inL_nil, inL_ss, inL_ii, List.all_cons, List.all_nil, Bool.and_self, Bool.and_true, Bool.true_and, zip_t, a_t, a_l, sub_l, isTs, isT, Option.map_some, List.length_cons, List.length_nil, Nat.reduceAdd, Nat.reduceSub, Nat.reduceLT, Nat.zero_add, Bool.false_eq_true, Bool.true_eq_false, if_false, if_true, decide_eq_true_eq, Bool.not_true, Bool.not_false, ite_true, ite_false, reduceIte, Bool.not_eq_true', decide_eq_false_iff_not, Int.cast_ofNat_Int, Int.reduceEq, Int.reduceLT, Int.reduceLE, Int.reduceNeg, Int.reduceAdd, Int.reduceSub, Int.reduceMul, Int.reduceToNat, decide_true, decide_false, not_true, not_false, not_true_eq_false, not_false_eq_true, true_and, and_true, eq_self, reduceCtorEq, List.isEmpty_nil, List.isEmpty_cons, List.nil_append, List.cons_append]
  refine ite2 (fun h1 => ?_) fun h1 => ite2 (fun h2 => ?_) fun h2 => ?_
  · rw [h1] at h
    exact h
  · rw [Int.sign_eq_one_of_pos h2] at h
    exact h
  · rw [Int.sign_eq_neg_one_of_neg (by omega)] at h
    exact h
theorem rwhole_ok (hT : T "rwhole" = some F_rwhole) {a : Rat} (h : Q (.bl (decide ((a.den : Int) = 1))) S) : semF G T (k + 1) "rwhole" [QD a] S Q E := by
  refine call_of hT rfl ?_
  simp -dsimp -implicitDefEqProofs only [ent, List.map_cons, List.map_nil, List.length_cons, List.length_nil, Nat.reduceAdd, Nat.reduceSub, Nat.zero_add, List.replicate, List.cons_append, List.nil_append, F_rwhole, QD]
  simp -dsimp -implicitDefEqProofs only [↓cov3, ↓cov2, ↓cov1, ↓E_var, ↓E_int, ↓E_bl, ↓E_non, ↓E_str, ↓E_glo, ↓E_tup, ↓E_lst, ↓E_bin, ↓E_neg, ↓E_cmp, ↓E_chn, ↓E_and, ↓E_or, ↓E_one, ↓E_not, ↓E_ifx, ↓E_idx, ↓E_slc, ↓E_call, ↓E_bi, ↓E_isi, ↓E_mth, ↓E_lc, ↓Es_nil, ↓Es_cons, ↓O_no, ↓O_some, ↓Q_no, ↓Q_c, ↓C_and, ↓C_or, ↓C_one, ↓C_not, ↓C_cmp, ↓C_chn, ↓C_v, ↓I_seq, ↓I_rng1, ↓I_rng2, ↓I_rng3, ↓I_enu, ↓I_zip, ↓I_rev, ↓S_set, ↓S_asg, ↓S_par2, ↓S_sub, ↓S_expr, ↓S_ret, ↓S_retN, ↓S_ifs, ↓S_for, ↓S_brk, ↓S_cnt, ↓S_pass, ↓S_raise, ↓S_try, ↓S_never, ex_t, ex_f, ↓S_nil, ↓S_cons, ↓kN_nx, ↓kN_rt, ↓kN_bk, ↓kN_ct, ↓kN_ex, ↓kL_nx, ↓kL_rt, ↓kL_bk, ↓kL_ct, ↓kL_ex, ↓kX_nx, ↓kX_rt, ↓kX_bk, ↓kX_ct, ↓kX_ex, ↓kend_nx, ↓kend_rt, ↓kend_bk, ↓kend_ct, ↓kend_ex, vr_some, gt_0, gt_s, stn_0, stn_s, wip_0, wip_s, wips_0, wips_s, neg_i, isi_s, o_i, tru_non, tru_bl, tru_int, tru_tup, tru_rol, c_Eq, c_NotEq, c_Lt, c_LtE, c_Gt, c_GtE, cs_Eq, cs_NotEq, cb_Eq, cb_NotEq, c2_Eq, c2_NotEq, is_non, isnot_non, is_bl, isnot_bl, is_int, isnot_int, is_str, isnot_str, is_tup, isnot_tup, is_rol, isnot_rol, is_ref, isnot_ref, is_b, isnot_b, in_s, notin_s, b_add, b_sub, b_mul, b_fdiv, b_mod, b_pow, b_addt, b_adds, atI0, atI1, atI2, atI3, slc_t, slc_r, len_s, abs_i, int_i, int_b, min_i, max_i, gcd_i, seq_t, seq_r, r1_i, r2_i, r3_i, a_nm, a_nil, a_cons, vrl_some, vrn_some, put_lget, Option.isSome_some, tru_ref, b_addl, idx_t, idx_r, idx_l, slc_l, len_t, len_r, len_l, tuple_t, tuple_r, tuple_l, list_t, list_r, list_l, app_l, rev_l, pop_l, popat_l, mT_l, seq_l, enu_l, zip_l, rev_i, rev_t, in_t, notin_t, fl_s, fl_i, fl_b, fl_n, inL_nil, inL_ss, inL_ii, List.all_cons, List.all_nil, Bool.and_self, Bool.and_true, Bool.true_and, zip_t, a_t, a_l, sub_l, isTs, isT, Option.map_some, List.length_cons, List.length_nil, Nat.reduceAdd, Nat.reduceSub, Nat.reduceLT, Nat.zero_add, Bool.false_eq_true, Bool.true_eq_false, if_false, if_true, decide_eq_true_eq, Bool.not_true, Bool.not_false, ite_true, ite_false, reduceIte, Bool.not_eq_true', decide_eq_false_iff_not, Int.cast_ofNat_Int, Int.reduceEq, Int.reduceLT, Int.reduceLE, Int.reduceNeg, Int.reduceAdd, Int.reduceSub, Int.reduceMul, Int.reduceToNat, decide_true, decide_false, not_true, not_false, not_true_eq_false, not_false_eq_true, true_and, and_true, eq_self, reduceCtorEq, List.isEmpty_nil, List.isEmpty_cons, List.nil_append, List.cons_append]
  exact h
theorem rfloor_ok (hT : T "rfloor" = some F_rfloor) (hp : G.PY) {a : Rat} (h : Q (.int (a.num.fdiv a.den)) S) : semF G T (k + 1) "rfloor" [QD a] S Q E := by
  refine call_of hT rfl ?_
  simp -dsimp -implicitDefEqProofs only [ent, List.map_cons, List.map_nil, List.length_cons, List.length_nil, Nat.reduceAdd, Nat.reduceSub, Nat.zero_add, List.replicate, List.cons_append, List.nil_append, F_rfloor, QD]
  simp -dsimp -implicitDefEqProofs only [↓cov3, ↓cov2, ↓cov1, ↓E_var, ↓E_int, ↓E_bl, ↓E_non, ↓E_str, ↓E_glo, ↓E_tup, ↓E_lst, ↓E_bin, ↓E_neg, ↓E_cmp, ↓E_chn, ↓E_and, ↓E_or, ↓E_one, ↓E_not, ↓E_ifx, ↓E_idx, ↓E_slc, ↓E_call, ↓E_bi, ↓E_isi, ↓E_mth, ↓E_lc, ↓Es_nil, ↓Es_cons, ↓O_no, ↓O_some, ↓Q_no, ↓Q_c, ↓C_and, ↓C_or, ↓C_one, ↓C_not, ↓C_cmp, ↓C_chn, ↓C_v, ↓I_seq, ↓I_rng1, ↓I_rng2, ↓I_rng3, ↓I_enu, ↓I_zip, ↓I_rev, ↓S_set, ↓S_asg, ↓S_par2, ↓S_sub, ↓S_expr, ↓S_ret, ↓S_retN, ↓S_ifs, ↓S_for, ↓S_brk, ↓S_cnt, ↓S_pass, ↓S_raise, ↓S_try, ↓S_never, ex_t, ex_f, ↓S_nil, ↓S_cons, ↓kN_nx, ↓kN_rt, ↓kN_bk, ↓kN_ct, ↓kN_ex, ↓kL_nx, ↓kL_rt, ↓kL_bk, ↓kL_ct, ↓kL_ex, ↓kX_nx, ↓kX_rt, ↓kX_bk, ↓kX_ct, ↓kX_ex, ↓kend_nx, ↓kend_rt, ↓kend_bk, ↓kend_ct, ↓kend_ex, vr_some, gt_0, gt_s, stn_0, stn_s, wip_0, wip_s, wips_0, wips_s, neg_i, isi_s, o_i, tru_non, tru_bl, tru_int, tru_tup, tru_rol, c_Eq, c_NotEq, c_Lt, c_LtE, c_Gt, c_GtE, cs_Eq, cs_NotEq, cb_Eq, cb_NotEq, c2_Eq, c2_NotEq, is_non, isnot_non, is_bl, isnot_bl, is_int, isnot_int, is_str, isnot_str, is_tup, isnot_tup, is_rol, isnot_rol, is_ref, isnot_ref, is_b, isnot_b, in_s, notin_s, b_add, b_sub, b_mul, b_fdiv, b_mod, b_pow, b_addt, b_adds, atI0, atI1, atI2, atI3, slc_t, slc_r, len_s, abs_i, int_i, int_b, min_i, max_i, gcd_i, seq_t, seq_r, r1_i, r2_i, r3_i, a_nm, a_nil, a_cons, vrl_some, vrn_some, put_lget, Option.isSome_some, tru_ref, b_addl, idx_t, idx_r, idx_l, slc_l, len_t, len_r, len_l, tuple_t, tuple_r, tuple_l, list_t, list_r, list_l, app_l, rev_l, pop_l, popat_l, mT_l, seq_l, enu_l, zip_l, rev_i, rev_t, in_t, notin_t, fl_s, fl_i, fl_b, fl_n, inL_nil, inL_ss, inL_ii, List.all_cons, List.all_nil, Bool.and_self, Bool.and_true, Bool.true_and, zip_t, a_t, a_l, sub_l, isTs, isT, Option.map_some, List.length_cons, List.length_nil, Nat.reduceAdd, Nat.reduceSub, Nat.reduceLT, Nat.zero_add, Bool.false_eq_true, Bool.true_eq_false, if_false, if_true, decide_eq_true_eq, Bool.not_true, Bool.not_false, ite_true, ite_false, reduceIte, Bool.not_eq_true', decide_eq_false_iff_not, Int.cast_ofNat_Int, Int.reduceEq, Int.reduceLT, Int.reduceLE, Int.reduceNeg, Int.reduceAdd, Int.reduceSub, Int.reduceMul, Int.reduceToNat, decide_true, decide_false, not_true, not_false, not_true_eq_false, not_false_eq_true, true_and, and_true, eq_self, reduceCtorEq, List.isEmpty_nil, List.isEmpty_cons, List.nil_append, List.cons_append]
  exact ⟨⟨Int.ne_of_gt (den_pos a), .inr hp⟩, h⟩
theorem rcompare_ok (hT : T "rcompare" = some F_rcompare) {a b : Rat} {m n : Nat} (ha : QB a m) (hb : QB b n) (hmn : m + n ≤ 134217728) (h : Q (.int (a.num * b.den - b.num * a.den).sign) S) : semF G T (k + 1) "rcompare" [QD a, QD b] S Q E := by
  refine call_of hT rfl ?_
  simp -dsimp -implicitDefEqProofs only [ent, List.map_cons, List.map_nil, List.length_cons, List.length_nil, Nat.reduceAdd, Nat.reduceSub, Nat.zero_add, List.replicate, List.cons_append, List.nil_append, F_rcompare, QD]
  simp -dsimp -implicitDefEqProofs only [↓cov3, ↓cov2, ↓cov1, ↓E_var, ↓E_int, ↓E_bl, ↓E_non, ↓E_str, ↓E_glo, ↓E_tup, ↓E_lst, ↓E_bin, ↓E_neg, ↓E_cmp, ↓E_chn, ↓E_and, ↓E_or, ↓E_one, ↓E_not, ↓E_ifx, ↓E_idx, ↓E_slc, ↓E_call, ↓E_bi, ↓E_isi, ↓E_mth, ↓E_lc, ↓Es_nil, ↓Es_cons, ↓O_no, ↓O_some, ↓Q_no, ↓Q_c, ↓C_and, ↓C_or, ↓C_one, ↓C_not, ↓C_cmp, ↓C_chn, ↓C_v, ↓I_seq, ↓I_rng1, ↓I_rng2, ↓I_rng3, ↓I_enu, ↓I_zip, ↓I_rev, ↓S_set, ↓S_asg, ↓S_par2, ↓S_sub, ↓S_expr, ↓S_ret, ↓S_retN, ↓S_ifs, ↓S_for, ↓S_brk, ↓S_cnt, ↓S_pass, ↓S_raise, ↓S_try, ↓S_never, ex_t, ex_f, ↓S_nil, ↓S_cons, ↓kN_nx, ↓kN_rt, ↓kN_bk, ↓kN_ct, ↓kN_ex, ↓kL_nx, ↓kL_rt, ↓kL_bk, ↓kL_ct, ↓kL_ex, ↓kX_nx, ↓kX_rt, ↓kX_bk, ↓kX_ct, ↓kX_ex, ↓kend_nx, ↓kend_rt, ↓kend_bk, ↓kend_ct, ↓kend_ex, vr_some, gt_0, gt_s, stn_0, stn_s, wip_0, wip_s, wips_0, wips_s, neg_i, isi_s, o_i, tru_non, tru_bl, tru_int, tru_tup, tru_rol, c_Eq, c_NotEq, c_Lt, c_LtE, c_Gt, c_GtE, cs_Eq, cs_NotEq, cb_Eq, cb_NotEq, c2_Eq, c2_NotEq, is_non, isnot_non, is_bl, isnot_bl, is_int, isnot_int, is_str, isnot_str, is_tup, isnot_tup, is_rol, isnot_rol, is_ref, isnot_ref, is_b, isnot_b, in_s, notin_s, b_add, b_sub, b_mul, b_fdiv, b_mod, b_pow, b_addt, b_adds, atI0, atI1, atI2, atI3, slc_t, slc_r, len_s, abs_i, int_i, int_b, min_i, max_i, gcd_i, seq_t, seq_r, r1_i, r2_i, r3_i, a_nm, a_nil, a_cons, vrl_some, vrn_some, put_lget, Option.isSome_some, tru_ref, b_addl, idx_t, idx_r, idx_l, slc_l, len_t, len_r, len_l, tuple_t, tuple_r, tuple_l, list_t, list_r, list_l, app_l, rev_l, pop_l, popat_l, mT_l, seq_l, enu_l, zip_l, rev_i, rev_t, in_t, notin_t, fl_s, fl_i, fl_b, fl_n, inL_nil, inL_ss, inL_ii, List.all_cons, List.all_nil, Bool.and_self, Bool.and_true, Bool.true_and, zip_t, a_t, a_l, sub_l, isTs, isT, Option.map_some, List.length_cons, List.length_nil, Nat.reduceAdd, Nat.reduceSub, Nat.reduceLT, Nat.zero_add, Bool.false_eq_true, Bool.true_eq_false, if_false, if_true, decide_eq_true_eq, Bool.not_true, Bool.not_false, ite_true, ite_false, reduceIte, Bool.not_eq_true', decide_eq_false_iff_not, Int.cast_ofNat_Int, Int.reduceEq, Int.reduceLT, Int.reduceLE, Int.reduceNeg, Int.reduceAdd, Int.reduceSub, Int.reduceMul, Int.reduceToNat, decide_true, decide_false, not_true, not_false, not_true_eq_false, not_false_eq_true, true_and, and_true, eq_self, reduceCtorEq, List.isEmpty_nil, List.isEmpty_cons, List.nil_append, List.cons_append]
  refine ⟨ha.num.mulOk hb.den hmn, hb.num.mulOk ha.den (by omega), ite2 (fun h1 => ?_) fun h1 => ite2 (fun h2 => ?_) fun h2 => ?_⟩
  · rw [h1, Int.sub_self] at h
    exact h
  · rw [Int.sign_eq_one_of_pos (by omega)] at h
    exact h
  · rw [Int.sign_eq_neg_one_of_neg (by omega)] at h
    exact h
end
end LA

namespace Lw
open PySem PySem.Spec PyProof.Rows L2 Ev
def F_rational : Fn := ⟨2, 3,
  (.cons (.ifs (.cmp .Eq (.var 1) (.int 0)) (.cons (.raise "ZeroDivisor" (.cons (.str "denominator 0") .nil)) .nil) .nil) (.cons (.set 2 (.bi .gcd (.cons (.var 0) (.cons (.var 1) .nil)))) (.cons (.ifs (.cmp .Lt (.var 1) (.int 0)) (.cons (.set 2 (.neg (.var 2))) .nil) .nil) (.cons (.ret (.tup (.cons (.bin .FloorDiv (.var 0) (.var 2)) (.cons (.bin .FloorDiv (.var 1) (.var 2)) .nil)))) .nil))))⟩
def F_radd : Fn := ⟨2, 2,
  (.cons (.ifs (.and (.cmp .Eq (.idx (.var 0) (.int 1)) (.int 1)) (.one (.cmp .Eq (.idx (.var 1) (.int 1)) (.int 1)))) (.cons (.ret (.tup (.cons (.bin .Add (.idx (.var 0) (.int 0)) (.idx (.var 1) (.int 0))) (.cons (.int 1) .nil)))) .nil) .nil) (.cons (.ret (.call "rational" (.cons (.bin .Add (.bin .Mult (.idx (.var 0) (.int 0)) (.idx (.var 1) (.int 1))) (.bin .Mult (.idx (.var 1) (.int 0)) (.idx (.var 0) (.int 1)))) (.cons (.bin .Mult (.idx (.var 0) (.int 1)) (.idx (.var 1) (.int 1))) .nil)))) .nil))⟩
def F_rsub : Fn := ⟨2, 2,
  (.cons (.ifs (.and (.cmp .Eq (.idx (.var 0) (.int 1)) (.int 1)) (.one (.cmp .Eq (.idx (.var 1) (.int 1)) (.int 1)))) (.cons (.ret (.tup (.cons (.bin .Sub (.idx (.var 0) (.int 0)) (.idx (.var 1) (.int 0))) (.cons (.int 1) .nil)))) .nil) .nil) (.cons (.ret (.call "rational" (.cons (.bin .Sub (.bin .Mult (.idx (.var 0) (.int 0)) (.idx (.var 1) (.int 1))) (.bin .Mult (.idx (.var 1) (.int 0)) (.idx (.var 0) (.int 1)))) (.cons (.bin .Mult (.idx (.var 0) (.int 1)) (.idx (.var 1) (.int 1))) .nil)))) .nil))⟩
def F_rmul : Fn := ⟨2, 2,
  (.cons (.ifs (.and (.cmp .Eq (.idx (.var 0) (.int 1)) (.int 1)) (.one (.cmp .Eq (.idx (.var 1) (.int 1)) (.int 1)))) (.cons (.ret (.tup (.cons (.bin .Mult (.idx (.var 0) (.int 0)) (.idx (.var 1) (.int 0))) (.cons (.int 1) .nil)))) .nil) .nil) (.cons (.ret (.call "rational" (.cons (.bin .Mult (.idx (.var 0) (.int 0)) (.idx (.var 1) (.int 0))) (.cons (.bin .Mult (.idx (.var 0) (.int 1)) (.idx (.var 1) (.int 1))) .nil)))) .nil))⟩
def F_rneg : Fn := ⟨1, 1,
  (.cons (.ret (.tup (.cons (.neg (.idx (.var 0) (.int 0))) (.cons (.idx (.var 0) (.int 1)) .nil)))) .nil)⟩
def F_rinv : Fn := ⟨1, 1,
  (.cons (.ret (.call "rational" (.cons (.idx (.var 0) (.int 1)) (.cons (.idx (.var 0) (.int 0)) .nil)))) .nil)⟩
def F_rdiv : Fn := ⟨2, 2,
  (.cons (.ret (.call "rational" (.cons (.bin .Mult (.idx (.var 0) (.int 0)) (.idx (.var 1) (.int 1))) (.cons (.bin .Mult (.idx (.var 0) (.int 1)) (.idx (.var 1) (.int 0))) .nil)))) .nil)⟩
def F_rpow : Fn := ⟨2, 3,
  (.cons (.ifs (.cmp .Lt (.var 1) (.int 0)) (.cons (.ret (.call "rpow" (.cons (.call "rinv" (.cons (.var 0) .nil)) (.cons (.neg (.var 1)) .nil)))) .nil) .nil) (.cons (.set 2 (.glo "ONE")) (.cons (.whl (.cmp .Gt (.var 1) (.int 0)) (.cons (.ifs (.cmp .Eq (.bin .Mod (.var 1) (.int 2)) (.int 1)) (.cons (.set 2 (.call "rmul" (.cons (.var 2) (.cons (.var 0) .nil)))) .nil) .nil) (.cons (.set 0 (.call "rmul" (.cons (.var 0) (.cons (.var 0) .nil)))) (.cons (.set 1 (.bin .FloorDiv (.var 1) (.int 2))) .nil)))) (.cons (.ret (.var 2)) .nil))))⟩
def F_differentiate : Fn := ⟨1, 4,
  (.cons (.set 1 (.idx (.var 0) (.int 0))) (.cons (.ifs (.cmp .Eq (.var 1) (.str "num")) (.cons (.ret (.tup (.cons (.str "num") (.cons (.int 0) (.cons (.int 1) .nil))))) .nil) .nil) (.cons (.ifs (.cmp .Eq (.var 1) (.str "x")) (.cons (.ret (.tup (.cons (.str "num") (.cons (.int 1) (.cons (.int 1) .nil))))) .nil) .nil) (.cons (.set 2 (.call "differentiate" (.cons (.idx (.var 0) (.int 1)) .nil))) (.cons (.ifs (.cmp .In (.var 1) (.tup (.cons (.str "add") (.cons (.str "sub") .nil)))) (.cons (.ret (.tup (.cons (.var 1) (.cons (.var 2) (.cons (.call "differentiate" (.cons (.idx (.var 0) (.int 2)) .nil)) .nil))))) .nil) .nil) (.cons (.ifs (.cmp .Eq (.var 1) (.str "mul")) (.cons (.ret (.tup (.cons (.str "add") (.cons (.tup (.cons (.str "mul") (.cons (.var 2) (.cons (.idx (.var 0) (.int 2)) .nil)))) (.cons (.tup (.cons (.str "mul") (.cons (.idx (.var 0) (.int 1)) (.cons (.call "differentiate" (.cons (.idx (.var 0) (.int 2)) .nil)) .nil)))) .nil))))) .nil) .nil) (.cons (.ifs (.cmp .Eq (.var 1) (.str "div")) (.cons (.set 3 (.tup (.cons (.str "sub") (.cons (.tup (.cons (.str "mul") (.cons (.var 2) (.cons (.idx (.var 0) (.int 2)) .nil)))) (.cons (.tup (.cons (.str "mul") (.cons (.idx (.var 0) (.int 1)) (.cons (.call "differentiate" (.cons (.idx (.var 0) (.int 2)) .nil)) .nil)))) .nil))))) (.cons (.ret (.tup (.cons (.str "div") (.cons (.var 3) (.cons (.tup (.cons (.str "pow") (.cons (.idx (.var 0) (.int 2)) (.cons (.int 2) .nil)))) .nil))))) .nil)) .nil) (.cons (.ifs (.cmp .Eq (.var 1) (.str "neg")) (.cons (.ret (.tup (.cons (.str "neg") (.cons (.var 2) .nil)))) .nil) .nil) (.cons (.ifs (.cmp .Eq (.var 1) (.str "exp")) (.cons (.ret (.tup (.cons (.str "mul") (.cons (.var 0) (.cons (.var 2) .nil))))) .nil) .nil) (.cons (.ifs (.cmp .Eq (.var 1) (.str "log")) (.cons (.ret (.tup (.cons (.str "div") (.cons (.var 2) (.cons (.idx (.var 0) (.int 1)) .nil))))) .nil) .nil) (.cons (.ifs (.cmp .Eq (.idx (.var 0) (.int 2)) (.int 0)) (.cons (.ret (.tup (.cons (.str "num") (.cons (.int 0) (.cons (.int 1) .nil))))) .nil) .nil) (.cons (.ret (.tup (.cons (.str "mul") (.cons (.tup (.cons (.str "mul") (.cons (.tup (.cons (.str "num") (.cons (.idx (.var 0) (.int 2)) (.cons (.int 1) .nil)))) (.cons (.tup (.cons (.str "pow") (.cons (.idx (.var 0) (.int 1)) (.cons (.bin .Sub (.idx (.var 0) (.int 2)) (.int 1)) .nil)))) .nil)))) (.cons (.var 2) .nil))))) .nil))))))))))))⟩
def F_evaluate : Fn := ⟨2, 4,
  (.cons (.set 2 (.idx (.var 0) (.int 0))) (.cons (.ifs (.cmp .Eq (.var 2) (.str "num")) (.cons (.ret (.tup (.cons (.idx (.var 0) (.int 1)) (.cons (.idx (.var 0) (.int 2)) .nil)))) .nil) .nil) (.cons (.ifs (.cmp .Eq (.var 2) (.str "x")) (.cons (.ret (.var 1)) .nil) .nil) (.cons (.set 3 (.call "evaluate" (.cons (.idx (.var 0) (.int 1)) (.cons (.var 1) .nil)))) (.cons (.ifs (.cmp .In (.var 2) (.glo "BINARY")) (.cons (.ret (.call "binary_value" (.cons (.var 2) (.cons (.var 3) (.cons (.call "evaluate" (.cons (.idx (.var 0) (.int 2)) (.cons (.var 1) .nil))) .nil))))) .nil) .nil) (.cons (.ifs (.cmp .Eq (.var 2) (.str "neg")) (.cons (.ret (.call "rneg" (.cons (.var 3) .nil))) .nil) .nil) (.cons (.ifs (.cmp .Eq (.var 2) (.str "pow")) (.cons (.ifs (.and (.cmp .Eq (.var 3) (.glo "ZERO")) (.one (.cmp .Lt (.idx (.var 0) (.int 2)) (.int 0)))) (.cons .never .nil) .nil) (.cons (.ret (.call "rpow" (.cons (.var 3) (.cons (.idx (.var 0) (.int 2)) .nil)))) .nil)) .nil) (.cons (.ifs (.cmp .Eq (.var 2) (.str "exp")) (.cons (.ifs (.cmp .NotEq (.var 3) (.glo "ZERO")) (.cons .never .nil) .nil) (.cons (.ret (.glo "ONE")) .nil)) .nil) (.cons (.ifs (.cmp .Eq (.var 3) (.glo "ZERO")) (.cons .never .nil) .nil) (.cons (.ifs (.cmp .NotEq (.var 3) (.glo "ONE")) (.cons .never .nil) .nil) (.cons (.ret (.glo "ZERO")) .nil)))))))))))⟩
def F_binary_value : Fn := ⟨3, 3,
  (.cons (.ifs (.cmp .Eq (.var 0) (.str "add")) (.cons (.ret (.call "radd" (.cons (.var 1) (.cons (.var 2) .nil)))) .nil) .nil) (.cons (.ifs (.cmp .Eq (.var 0) (.str "sub")) (.cons (.ret (.call "rsub" (.cons (.var 1) (.cons (.var 2) .nil)))) .nil) .nil) (.cons (.ifs (.cmp .Eq (.var 0) (.str "mul")) (.cons (.ret (.call "rmul" (.cons (.var 1) (.cons (.var 2) .nil)))) .nil) .nil) (.cons (.ifs (.cmp .Eq (.var 2) (.glo "ZERO")) (.cons .never .nil) .nil) (.cons (.ret (.call "rdiv" (.cons (.var 1) (.cons (.var 2) .nil)))) .nil)))))⟩
def F_law_numbers : Fn := ⟨1, 6,
  (.cons (.set 1 (.lst .nil)) (.cons (.for_ (.nm 2) (.rng1 (.bi .min2 (.cons (.bi .len (.cons (.var 0) .nil)) (.cons (.int 63) .nil)))) (.cons (.set 3 (.bi .abs (.cons (.idx (.var 0) (.var 2)) .nil))) (.cons (.ifs (.cmp .GtE (.var 3) (.bin .Pow (.int 10) (.int 18))) (.cons (.for_ (.nm 4) (.rng1 (.int 60)) (.cons (.ifs (.cmp .Gt (.var 3) (.int 0)) (.cons (.expr (.mth .append (.var 1) (.cons (.bin .Mod (.var 3) (.int 997)) .nil))) (.cons (.set 3 (.bin .FloorDiv (.var 3) (.int 997))) .nil)) .nil) .nil)) .nil) (.cons (.for_ (.nm 4) (.rng1 (.int 6)) (.cons (.set 3 (.bin .Mod (.bin .Add (.bin .Add (.bin .Add (.bin .Mult (.var 3) (.int 48271)) (.bin .Mult (.int 69621) (.var 4))) (.bin .Mult (.int 7919) (.var 2))) (.int 13)) (.int 2147483647))) (.cons (.set 5 (.bin .Mod (.bin .Add (.bin .Mult (.var 3) (.int 16807)) (.bin .FloorDiv (.var 3) (.int 4096))) (.int 2147483629))) (.cons (.expr (.mth .append (.var 1) (.cons (.bin .Mod (.var 5) (.int 997)) .nil))) .nil)))) .nil)) .nil))) (.cons (.ret (.var 1)) .nil)))⟩
def F_law_next : Fn := ⟨2, 2,
  (.cons (.ifs (.cmp .Eq (.bi .len (.cons (.var 0) .nil)) (.int 0)) (.cons (.ret (.int 0)) .nil) .nil) (.cons (.ret (.bin .Mod (.mth .popat (.var 0) (.cons (.int 0) .nil)) (.var 1))) .nil))⟩
def F_law_fraction : Fn := ⟨2, 5,
  (.cons (.ifs (.cmp .Lt (.var 1) (.int 0)) (.cons (.par2 0 1 (.neg (.var 0)) (.neg (.var 1))) .nil) .nil) (.cons (.par2 3 4 (.bi .abs (.cons (.var 0) .nil)) (.var 1)) (.cons (.for_ (.nm 2) (.rng1 (.int 100000)) (.cons (.ifs (.cmp .Eq (.var 4) (.int 0)) (.cons .brk .nil) .nil) (.cons (.par2 3 4 (.var 4) (.bin .Mod (.var 3) (.var 4))) .nil))) (.cons (.ret (.tup (.cons (.bin .FloorDiv (.var 0) (.var 3)) (.cons (.bin .FloorDiv (.var 1) (.var 3)) .nil)))) .nil))))⟩
def F_law_add : Fn := ⟨2, 2,
  (.cons (.ret (.call "_law_fraction" (.cons (.bin .Add (.bin .Mult (.idx (.var 0) (.int 0)) (.idx (.var 1) (.int 1))) (.bin .Mult (.idx (.var 1) (.int 0)) (.idx (.var 0) (.int 1)))) (.cons (.bin .Mult (.idx (.var 0) (.int 1)) (.idx (.var 1) (.int 1))) .nil)))) .nil)⟩
def F_law_mul : Fn := ⟨2, 2,
  (.cons (.ret (.call "_law_fraction" (.cons (.bin .Mult (.idx (.var 0) (.int 0)) (.idx (.var 1) (.int 0))) (.cons (.bin .Mult (.idx (.var 0) (.int 1)) (.idx (.var 1) (.int 1))) .nil)))) .nil)⟩
def F_law_inverse : Fn := ⟨1, 1,
  (.cons (.ret (.call "_law_fraction" (.cons (.idx (.var 0) (.int 1)) (.cons (.idx (.var 0) (.int 0)) .nil)))) .nil)⟩
def F_law_power : Fn := ⟨2, 4,
  (.cons (.set 2 (.tup (.cons (.int 1) (.cons (.int 1) .nil)))) (.cons (.ifs (.cmp .Lt (.var 1) (.int 0)) (.cons (.par2 0 1 (.call "_law_inverse" (.cons (.var 0) .nil)) (.neg (.var 1))) .nil) .nil) (.cons (.for_ (.nm 3) (.rng1 (.var 1)) (.cons (.set 2 (.call "_law_mul" (.cons (.var 2) (.cons (.var 0) .nil)))) .nil)) (.cons (.ret (.var 2)) .nil))))⟩
def F_law_leaf : Fn := ⟨1, 3,
  (.cons (.set 1 (.call "_law_next" (.cons (.var 0) (.cons (.int 7) .nil)))) (.cons (.ifs (.cmp .Lt (.var 1) (.int 3)) (.cons (.ret (.tup (.cons (.str "x") .nil))) .nil) .nil) (.cons (.set 2 (.call "_law_next" (.cons (.var 0) (.cons (.int 12) .nil)))) (.cons (.ifs (.cmp .Eq (.var 1) (.int 3)) (.cons (.ret (.call "_law_number" (.cons (.bin .Sub (.var 2) (.int 6)) (.cons (.bin .Add (.int 1) (.call "_law_next" (.cons (.var 0) (.cons (.int 4) .nil)))) .nil)))) .nil) .nil) (.cons (.ifs (.cmp .Eq (.var 1) (.int 4)) (.cons (.ret (.call "_law_number" (.cons (.bin .Sub (.call "_law_next" (.cons (.var 0) (.cons (.int 900) .nil))) (.int 450)) (.cons (.bin .Add (.int 1) (.call "_law_next" (.cons (.var 0) (.cons (.int 90) .nil)))) .nil)))) .nil) .nil) (.cons (.ret (.tup (.cons (.str "num") (.cons (.var 2) (.cons (.int 1) .nil))))) .nil))))))⟩
def F_law_number : Fn := ⟨2, 3,
  (.cons (.set 2 (.call "_law_fraction" (.cons (.var 0) (.cons (.var 1) .nil)))) (.cons (.ret (.tup (.cons (.str "num") (.cons (.idx (.var 2) (.int 0)) (.cons (.idx (.var 2) (.int 1)) .nil))))) .nil))⟩
def F_law_tree : Fn := ⟨3, 6,
  (.cons (.set 3 (.call "_law_next" (.cons (.var 0) (.cons (.int 13) .nil)))) (.cons (.ifs (.or (.cmp .LtE (.var 1) (.int 1)) (.or (.cmp .Lt (.var 3) (.int 2)) (.one (.cmp .Eq (.bi .len (.cons (.var 0) .nil)) (.int 0))))) (.cons (.ret (.call "_law_leaf" (.cons (.var 0) .nil))) .nil) .nil) (.cons (.set 4 (.call "_law_tree" (.cons (.var 0) (.cons (.bin .Sub (.var 1) (.int 1)) (.cons (.var 2) .nil))))) (.cons (.ifs (.cmp .Lt (.var 3) (.int 9)) (.cons (.set 5 (.idx (.lst (.cons (.str "add") (.cons (.str "sub") (.cons (.str "mul") (.cons (.str "div") (.cons (.str "add") (.cons (.str "mul") (.cons (.str "sub") .nil)))))))) (.bin .Sub (.var 3) (.int 2)))) (.cons (.ret (.tup (.cons (.var 5) (.cons (.var 4) (.cons (.call "_law_tree" (.cons (.var 0) (.cons (.bin .Sub (.var 1) (.int 1)) (.cons (.var 2) .nil)))) .nil))))) .nil)) .nil) (.cons (.ifs (.cmp .Eq (.var 3) (.int 9)) (.cons (.ret (.tup (.cons (.str "neg") (.cons (.var 4) .nil)))) .nil) .nil) (.cons (.ifs (.cmp .Eq (.var 3) (.int 10)) (.cons (.ret (.tup (.cons (.str "pow") (.cons (.var 4) (.cons (.bin .Sub (.call "_law_next" (.cons (.var 0) (.cons (.bin .Add (.bin .Mult (.int 2) (.var 2)) (.int 1)) .nil))) (.var 2)) .nil))))) .nil) .nil) (.cons (.ret (.tup (.cons (.idx (.lst (.cons (.str "exp") (.cons (.str "log") .nil))) (.bin .Sub (.var 3) (.int 11))) (.cons (.var 4) .nil)))) .nil)))))))⟩
def F_law_derivative : Fn := ⟨1, 4,
  (.cons (.ifs (.cmp .Eq (.idx (.var 0) (.int 0)) (.str "num")) (.cons (.ret (.tup (.cons (.str "num") (.cons (.int 0) (.cons (.int 1) .nil))))) .nil) .nil) (.cons (.ifs (.cmp .Eq (.idx (.var 0) (.int 0)) (.str "x")) (.cons (.ret (.tup (.cons (.str "num") (.cons (.int 1) (.cons (.int 1) .nil))))) .nil) .nil) (.cons (.set 1 (.idx (.var 0) (.int 1))) (.cons (.set 2 (.call "_law_derivative" (.cons (.var 1) .nil))) (.cons (.ifs (.cmp .Eq (.idx (.var 0) (.int 0)) (.str "neg")) (.cons (.ret (.tup (.cons (.str "neg") (.cons (.var 2) .nil)))) .nil) .nil) (.cons (.ifs (.cmp .Eq (.idx (.var 0) (.int 0)) (.str "exp")) (.cons (.ret (.tup (.cons (.str "mul") (.cons (.var 0) (.cons (.var 2) .nil))))) .nil) .nil) (.cons (.ifs (.cmp .Eq (.idx (.var 0) (.int 0)) (.str "log")) (.cons (.ret (.tup (.cons (.str "div") (.cons (.var 2) (.cons (.var 1) .nil))))) .nil) .nil) (.cons (.ifs (.cmp .Eq (.idx (.var 0) (.int 0)) (.str "pow")) (.cons (.ifs (.cmp .Eq (.idx (.var 0) (.int 2)) (.int 0)) (.cons (.ret (.tup (.cons (.str "num") (.cons (.int 0) (.cons (.int 1) .nil))))) .nil) .nil) (.cons (.ret (.tup (.cons (.str "mul") (.cons (.tup (.cons (.str "mul") (.cons (.tup (.cons (.str "num") (.cons (.idx (.var 0) (.int 2)) (.cons (.int 1) .nil)))) (.cons (.tup (.cons (.str "pow") (.cons (.var 1) (.cons (.bin .Sub (.idx (.var 0) (.int 2)) (.int 1)) .nil)))) .nil)))) (.cons (.var 2) .nil))))) .nil)) .nil) (.cons (.set 3 (.call "_law_derivative" (.cons (.idx (.var 0) (.int 2)) .nil))) (.cons (.ifs (.cmp .In (.idx (.var 0) (.int 0)) (.tup (.cons (.str "add") (.cons (.str "sub") .nil)))) (.cons (.ret (.tup (.cons (.idx (.var 0) (.int 0)) (.cons (.var 2) (.cons (.var 3) .nil))))) .nil) .nil) (.cons (.ifs (.cmp .Eq (.idx (.var 0) (.int 0)) (.str "mul")) (.cons (.ret (.tup (.cons (.str "add") (.cons (.tup (.cons (.str "mul") (.cons (.var 2) (.cons (.idx (.var 0) (.int 2)) .nil)))) (.cons (.tup (.cons (.str "mul") (.cons (.var 1) (.cons (.var 3) .nil)))) .nil))))) .nil) .nil) (.cons (.ret (.tup (.cons (.str "div") (.cons (.tup (.cons (.str "sub") (.cons (.tup (.cons (.str "mul") (.cons (.var 2) (.cons (.idx (.var 0) (.int 2)) .nil)))) (.cons (.tup (.cons (.str "mul") (.cons (.var 1) (.cons (.var 3) .nil)))) .nil)))) (.cons (.tup (.cons (.str "pow") (.cons (.idx (.var 0) (.int 2)) (.cons (.int 2) .nil)))) .nil))))) .nil))))))))))))⟩
def F_law_slope : Fn := ⟨2, 6,
  (.cons (.ifs (.cmp .Eq (.idx (.var 0) (.int 0)) (.str "num")) (.cons (.ret (.tup (.cons (.tup (.cons (.idx (.var 0) (.int 1)) (.cons (.idx (.var 0) (.int 2)) .nil))) (.cons (.tup (.cons (.int 0) (.cons (.int 1) .nil))) .nil)))) .nil) .nil) (.cons (.ifs (.cmp .Eq (.idx (.var 0) (.int 0)) (.str "x")) (.cons (.ret (.tup (.cons (.var 1) (.cons (.tup (.cons (.int 1) (.cons (.int 1) .nil))) .nil)))) .nil) .nil) (.cons (.set 2 (.call "_law_slope" (.cons (.idx (.var 0) (.int 1)) (.cons (.var 1) .nil)))) (.cons (.ifs (.cmp .Is (.var 2) .non) (.cons (.ret .non) .nil) .nil) (.cons (.ifs (.cmp .In (.idx (.var 0) (.int 0)) (.tup (.cons (.str "add") (.cons (.str "sub") (.cons (.str "mul") (.cons (.str "div") .nil)))))) (.cons (.ret (.call "_law_slope_of_two" (.cons (.idx (.var 0) (.int 0)) (.cons (.var 2) (.cons (.call "_law_slope" (.cons (.idx (.var 0) (.int 2)) (.cons (.var 1) .nil))) .nil))))) .nil) .nil) (.cons (.asg (.tup (.cons (.nm 4) (.cons (.nm 5) .nil))) (.var 2)) (.cons (.ifs (.cmp .Eq (.idx (.var 0) (.int 0)) (.str "neg")) (.cons (.ret (.tup (.cons (.tup (.cons (.neg (.idx (.var 4) (.int 0))) (.cons (.idx (.var 4) (.int 1)) .nil))) (.cons (.tup (.cons (.neg (.idx (.var 5) (.int 0))) (.cons (.idx (.var 5) (.int 1)) .nil))) .nil)))) .nil) .nil) (.cons (.ifs (.cmp .Eq (.idx (.var 0) (.int 0)) (.str "exp")) (.cons (.ifs (.cmp .NotEq (.idx (.var 4) (.int 0)) (.int 0)) (.cons (.ret .non) .nil) .nil) (.cons (.ret (.tup (.cons (.tup (.cons (.int 1) (.cons (.int 1) .nil))) (.cons (.var 5) .nil)))) .nil)) .nil) (.cons (.ifs (.cmp .Eq (.idx (.var 0) (.int 0)) (.str "log")) (.cons (.ifs (.cmp .NotEq (.var 4) (.tup (.cons (.int 1) (.cons (.int 1) .nil)))) (.cons (.ret .non) .nil) .nil) (.cons (.ret (.tup (.cons (.tup (.cons (.int 0) (.cons (.int 1) .nil))) (.cons (.var 5) .nil)))) .nil)) .nil) (.cons (.ifs (.cmp .Eq (.idx (.var 0) (.int 2)) (.int 0)) (.cons (.ret (.tup (.cons (.tup (.cons (.int 1) (.cons (.int 1) .nil))) (.cons (.tup (.cons (.int 0) (.cons (.int 1) .nil))) .nil)))) .nil) .nil) (.cons (.ifs (.and (.cmp .Eq (.idx (.var 4) (.int 0)) (.int 0)) (.one (.cmp .Lt (.idx (.var 0) (.int 2)) (.int 0)))) (.cons (.ret .non) .nil) .nil) (.cons (.set 3 (.call "_law_mul" (.cons (.tup (.cons (.idx (.var 0) (.int 2)) (.cons (.int 1) .nil))) (.cons (.call "_law_power" (.cons (.var 4) (.cons (.bin .Sub (.idx (.var 0) (.int 2)) (.int 1)) .nil))) .nil)))) (.cons (.ret (.tup (.cons (.call "_law_power" (.cons (.var 4) (.cons (.idx (.var 0) (.int 2)) .nil))) (.cons (.call "_law_mul" (.cons (.var 3) (.cons (.var 5) .nil))) .nil)))) .nil)))))))))))))⟩
def F_law_slope_of_two : Fn := ⟨3, 5,
  (.cons (.ifs (.cmp .Is (.var 2) .non) (.cons (.ret .non) .nil) .nil) (.cons (.ifs (.cmp .Eq (.var 0) (.str "add")) (.cons (.ret (.tup (.cons (.call "_law_add" (.cons (.idx (.var 1) (.int 0)) (.cons (.idx (.var 2) (.int 0)) .nil))) (.cons (.call "_law_add" (.cons (.idx (.var 1) (.int 1)) (.cons (.idx (.var 2) (.int 1)) .nil))) .nil)))) .nil) .nil) (.cons (.ifs (.cmp .Eq (.var 0) (.str "sub")) (.cons (.ret (.tup (.cons (.call "_law_add" (.cons (.idx (.var 1) (.int 0)) (.cons (.tup (.cons (.neg (.idx (.idx (.var 2) (.int 0)) (.int 0))) (.cons (.idx (.idx (.var 2) (.int 0)) (.int 1)) .nil))) .nil))) (.cons (.call "_law_add" (.cons (.idx (.var 1) (.int 1)) (.cons (.tup (.cons (.neg (.idx (.idx (.var 2) (.int 1)) (.int 0))) (.cons (.idx (.idx (.var 2) (.int 1)) (.int 1)) .nil))) .nil))) .nil)))) .nil) .nil) (.cons (.ifs (.cmp .Eq (.var 0) (.str "mul")) (.cons (.ret (.tup (.cons (.call "_law_mul" (.cons (.idx (.var 1) (.int 0)) (.cons (.idx (.var 2) (.int 0)) .nil))) (.cons (.call "_law_add" (.cons (.call "_law_mul" (.cons (.idx (.var 1) (.int 0)) (.cons (.idx (.var 2) (.int 1)) .nil))) (.cons (.call "_law_mul" (.cons (.idx (.var 1) (.int 1)) (.cons (.idx (.var 2) (.int 0)) .nil))) .nil))) .nil)))) .nil) .nil) (.cons (.ifs (.cmp .Eq (.idx (.idx (.var 2) (.int 0)) (.int 0)) (.int 0)) (.cons (.ret .non) .nil) .nil) (.cons (.set 3 (.call "_law_mul" (.cons (.idx (.var 1) (.int 0)) (.cons (.idx (.var 2) (.int 1)) .nil)))) (.cons (.set 3 (.call "_law_add" (.cons (.call "_law_mul" (.cons (.idx (.var 1) (.int 1)) (.cons (.idx (.var 2) (.int 0)) .nil))) (.cons (.tup (.cons (.neg (.idx (.var 3) (.int 0))) (.cons (.idx (.var 3) (.int 1)) .nil))) .nil)))) (.cons (.set 4 (.call "_law_inverse" (.cons (.idx (.var 2) (.int 0)) .nil))) (.cons (.ret (.tup (.cons (.call "_law_mul" (.cons (.idx (.var 1) (.int 0)) (.cons (.var 4) .nil))) (.cons (.call "_law_mul" (.cons (.var 3) (.cons (.call "_law_mul" (.cons (.var 4) (.cons (.var 4) .nil))) .nil))) .nil)))) .nil)))))))))⟩
def F_law : Fn := ⟨1, 6,
  (.cons (.set 1 (.call "_law_numbers" (.cons (.var 0) .nil))) (.cons (.set 2 (.call "_law_fraction" (.cons (.bin .Sub (.call "_law_next" (.cons (.var 1) (.cons (.int 13) .nil))) (.int 6)) (.cons (.bin .Add (.int 1) (.call "_law_next" (.cons (.var 1) (.cons (.int 3) .nil)))) .nil)))) (.cons (.set 3 (.call "_law_tree" (.cons (.var 1) (.cons (.bin .Add (.int 1) (.call "_law_next" (.cons (.var 1) (.cons (.int 5) .nil)))) (.cons (.int 4) .nil))))) (.cons (.set 4 (.call "differentiate" (.cons (.var 3) .nil))) (.cons (.ifs (.cmp .NotEq (.var 4) (.call "_law_derivative" (.cons (.var 3) .nil))) (.cons (.ret (.bl false)) .nil) .nil) (.cons (.set 5 (.call "_law_slope" (.cons (.var 3) (.cons (.var 2) .nil)))) (.cons (.ifs (.cmp .Is (.var 5) .non) (.cons (.ret (.bl true)) .nil) .nil) (.cons (.ret (.cmp .Eq (.call "evaluate" (.cons (.var 4) (.cons (.var 2) .nil))) (.idx (.var 5) (.int 1)))) .nil))))))))⟩
def tbl : List (Str × Fn) := [("rational", F_rational), ("radd", F_radd), ("rsub", F_rsub), ("rmul", F_rmul), ("rneg", F_rneg), ("rinv", F_rinv), ("rdiv", F_rdiv), ("rpow", F_rpow), ("differentiate", F_differentiate), ("evaluate", F_evaluate), ("binary_value", F_binary_value), ("_law_numbers", F_law_numbers), ("_law_next", F_law_next), ("_law_fraction", F_law_fraction), ("_law_add", F_law_add), ("_law_mul", F_law_mul), ("_law_inverse", F_law_inverse), ("_law_power", F_law_power), ("_law_leaf", F_law_leaf), ("_law_number", F_law_number), ("_law_tree", F_law_tree), ("_law_derivative", F_law_derivative), ("_law_slope", F_law_slope), ("_law_slope_of_two", F_law_slope_of_two), ("law", F_law)]
def T : Str → Option Fn := fun f => tbl.lookup f
theorem t_rational : T "rational" = some F_rational := rfl
theorem t_radd : T "radd" = some F_radd := rfl
theorem t_rsub : T "rsub" = some F_rsub := rfl
theorem t_rmul : T "rmul" = some F_rmul := rfl
theorem t_rneg : T "rneg" = some F_rneg := rfl
theorem t_rinv : T "rinv" = some F_rinv := rfl
theorem t_rdiv : T "rdiv" = some F_rdiv := rfl
theorem t_rpow : T "rpow" = some F_rpow := rfl
theorem t_differentiate : T "differentiate" = some F_differentiate := rfl
theorem t_evaluate : T "evaluate" = some F_evaluate := rfl
theorem t_binary_value : T "binary_value" = some F_binary_value := rfl
theorem t_law_numbers : T "_law_numbers" = some F_law_numbers := rfl
theorem t_law_next : T "_law_next" = some F_law_next := rfl
theorem t_law_fraction : T "_law_fraction" = some F_law_fraction := rfl
theorem t_law_add : T "_law_add" = some F_law_add := rfl
theorem t_law_mul : T "_law_mul" = some F_law_mul := rfl
theorem t_law_inverse : T "_law_inverse" = some F_law_inverse := rfl
theorem t_law_power : T "_law_power" = some F_law_power := rfl
theorem t_law_leaf : T "_law_leaf" = some F_law_leaf := rfl
theorem t_law_number : T "_law_number" = some F_law_number := rfl
theorem t_law_tree : T "_law_tree" = some F_law_tree := rfl
theorem t_law_derivative : T "_law_derivative" = some F_law_derivative := rfl
theorem t_law_slope : T "_law_slope" = some F_law_slope := rfl
theorem t_law_slope_of_two : T "_law_slope_of_two" = some F_law_slope_of_two := rfl
theorem t_law : T "law" = some F_law := rfl
def subT : List (Str × Str × Bool) := []
def G : Gl0 := { cs := fun x => if x = "BINARY" then some (.tup [.str "add", .str "sub", .str "mul", .str "div"]) else if x = "ONE" then some (.tup [.int 1, .int 1]) else if x = "ZERO" then some (.tup [.int 0, .int 1]) else none, PY := True, sub := fun c x => ((subT.filter fun z => z.2.1 == x).map fun z => (z.1, z.2.2)).lookup c }
def topS (i : Nat) : Stmt := PySem.Challenge.pw_integraph_k21_derivative_of_an_expressio.main.body.getD i (.Pass ⟨0, 0, 0, 0⟩)
def M : Md := { fns := [("rational", 2), ("radd", 2), ("rsub", 2), ("rmul", 2), ("rneg", 1), ("rinv", 1), ("rdiv", 2), ("rpow", 2), ("differentiate", 1), ("evaluate", 2), ("binary_value", 3), ("_law_numbers", 1), ("_law_next", 2), ("_law_fraction", 2), ("_law_add", 2), ("_law_mul", 2), ("_law_inverse", 1), ("_law_power", 2), ("_law_leaf", 1), ("_law_number", 2), ("_law_tree", 3), ("_law_derivative", 1), ("_law_slope", 2), ("_law_slope_of_two", 3), ("law", 1)], blt := ["abs", "len", "min", "range"], cst := ["BINARY", "ONE", "ZERO"], gcd := true, exc := ["ZeroDivisor"], exn := [] }
abbrev n_rational : List Str := ["n", "d", "common"]
abbrev p_rational : List Str := ["n", "d"]
theorem ft_rational : FnT M (topS 8) F_rational n_rational p_rational := ⟨⟨rfl, rfl, rfl, by decide +kernel, rfl, by decide +kernel, by decide +kernel⟩, by decide +kernel, rfl, rfl⟩
abbrev n_radd : List Str := ["a", "b"]
abbrev p_radd : List Str := ["a", "b"]
theorem ft_radd : FnT M (topS 9) F_radd n_radd p_radd := ⟨⟨rfl, rfl, rfl, by decide +kernel, rfl, by decide +kernel, by decide +kernel⟩, by decide +kernel, rfl, rfl⟩
abbrev n_rsub : List Str := ["a", "b"]
abbrev p_rsub : List Str := ["a", "b"]
theorem ft_rsub : FnT M (topS 10) F_rsub n_rsub p_rsub := ⟨⟨rfl, rfl, rfl, by decide +kernel, rfl, by decide +kernel, by decide +kernel⟩, by decide +kernel, rfl, rfl⟩
abbrev n_rmul : List Str := ["a", "b"]
abbrev p_rmul : List Str := ["a", "b"]
theorem ft_rmul : FnT M (topS 11) F_rmul n_rmul p_rmul := ⟨⟨rfl, rfl, rfl, by decide +kernel, rfl, by decide +kernel, by decide +kernel⟩, by decide +kernel, rfl, rfl⟩
abbrev n_rneg : List Str := ["a"]
abbrev p_rneg : List Str := ["a"]
theorem ft_rneg : FnT M (topS 12) F_rneg n_rneg p_rneg := ⟨⟨rfl, rfl, rfl, by decide +kernel, rfl, by decide +kernel, by decide +kernel⟩, by decide +kernel, rfl, rfl⟩
abbrev n_rinv : List Str := ["a"]
abbrev p_rinv : List Str := ["a"]
theorem ft_rinv : FnT M (topS 13) F_rinv n_rinv p_rinv := ⟨⟨rfl, rfl, rfl, by decide +kernel, rfl, by decide +kernel, by decide +kernel⟩, by decide +kernel, rfl, rfl⟩
abbrev n_rdiv : List Str := ["a", "b"]
abbrev p_rdiv : List Str := ["a", "b"]
theorem ft_rdiv : FnT M (topS 14) F_rdiv n_rdiv p_rdiv := ⟨⟨rfl, rfl, rfl, by decide +kernel, rfl, by decide +kernel, by decide +kernel⟩, by decide +kernel, rfl, rfl⟩
abbrev n_rpow : List Str := ["a", "k", "out"]
abbrev p_rpow : List Str := ["a", "k"]
theorem ft_rpow : FnT M (topS 15) F_rpow n_rpow p_rpow := ⟨⟨rfl, rfl, rfl, by decide +kernel, rfl, by decide +kernel, by decide +kernel⟩, by decide +kernel, rfl, rfl⟩
abbrev n_differentiate : List Str := ["e", "word", "first", "top"]
abbrev p_differentiate : List Str := ["e"]
theorem ft_differentiate : FnT M (topS 18) F_differentiate n_differentiate p_differentiate := ⟨⟨rfl, rfl, rfl, by decide +kernel, rfl, by decide +kernel, by decide +kernel⟩, by decide +kernel, rfl, rfl⟩
abbrev n_evaluate : List Str := ["e", "q", "word", "first"]
abbrev p_evaluate : List Str := ["e", "q"]
theorem ft_evaluate : FnT M (topS 19) F_evaluate n_evaluate p_evaluate := ⟨⟨rfl, rfl, rfl, by decide +kernel, rfl, by decide +kernel, by decide +kernel⟩, by decide +kernel, rfl, rfl⟩
abbrev n_binary_value : List Str := ["word", "first", "second"]
abbrev p_binary_value : List Str := ["word", "first", "second"]
theorem ft_binary_value : FnT M (topS 20) F_binary_value n_binary_value p_binary_value := ⟨⟨rfl, rfl, rfl, by decide +kernel, rfl, by decide +kernel, by decide +kernel⟩, by decide +kernel, rfl, rfl⟩
abbrev n_law_numbers : List Str := ["_law_script", "_law_rows", "_law_k", "_law_cell", "_law_turn", "_law_mixed"]
abbrev p_law_numbers : List Str := ["_law_script"]
theorem ft_law_numbers : FnT M (topS 22) F_law_numbers n_law_numbers p_law_numbers := ⟨⟨rfl, rfl, rfl, by decide +kernel, rfl, by decide +kernel, by decide +kernel⟩, by decide +kernel, rfl, rfl⟩
abbrev n_law_next : List Str := ["_law_numbers_here", "_law_many"]
abbrev p_law_next : List Str := ["_law_numbers_here", "_law_many"]
theorem ft_law_next : FnT M (topS 23) F_law_next n_law_next p_law_next := ⟨⟨rfl, rfl, rfl, by decide +kernel, rfl, by decide +kernel, by decide +kernel⟩, by decide +kernel, rfl, rfl⟩
abbrev n_law_fraction : List Str := ["_law_n", "_law_d", "_law_turn", "_law_a", "_law_b"]
abbrev p_law_fraction : List Str := ["_law_n", "_law_d"]
theorem ft_law_fraction : FnT M (topS 24) F_law_fraction n_law_fraction p_law_fraction := ⟨⟨rfl, rfl, rfl, by decide +kernel, rfl, by decide +kernel, by decide +kernel⟩, by decide +kernel, rfl, rfl⟩
abbrev n_law_add : List Str := ["_law_a", "_law_b"]
abbrev p_law_add : List Str := ["_law_a", "_law_b"]
theorem ft_law_add : FnT M (topS 25) F_law_add n_law_add p_law_add := ⟨⟨rfl, rfl, rfl, by decide +kernel, rfl, by decide +kernel, by decide +kernel⟩, by decide +kernel, rfl, rfl⟩
abbrev n_law_mul : List Str := ["_law_a", "_law_b"]
abbrev p_law_mul : List Str := ["_law_a", "_law_b"]
theorem ft_law_mul : FnT M (topS 26) F_law_mul n_law_mul p_law_mul := ⟨⟨rfl, rfl, rfl, by decide +kernel, rfl, by decide +kernel, by decide +kernel⟩, by decide +kernel, rfl, rfl⟩
abbrev n_law_inverse : List Str := ["_law_a"]
abbrev p_law_inverse : List Str := ["_law_a"]
theorem ft_law_inverse : FnT M (topS 27) F_law_inverse n_law_inverse p_law_inverse := ⟨⟨rfl, rfl, rfl, by decide +kernel, rfl, by decide +kernel, by decide +kernel⟩, by decide +kernel, rfl, rfl⟩
abbrev n_law_power : List Str := ["_law_a", "_law_k", "_law_total", "_law_turn"]
abbrev p_law_power : List Str := ["_law_a", "_law_k"]
theorem ft_law_power : FnT M (topS 28) F_law_power n_law_power p_law_power := ⟨⟨rfl, rfl, rfl, by decide +kernel, rfl, by decide +kernel, by decide +kernel⟩, by decide +kernel, rfl, rfl⟩
abbrev n_law_leaf : List Str := ["_law_numbers_here", "_law_pick", "_law_n"]
abbrev p_law_leaf : List Str := ["_law_numbers_here"]
theorem ft_law_leaf : FnT M (topS 29) F_law_leaf n_law_leaf p_law_leaf := ⟨⟨rfl, rfl, rfl, by decide +kernel, rfl, by decide +kernel, by decide +kernel⟩, by decide +kernel, rfl, rfl⟩
abbrev n_law_number : List Str := ["_law_n", "_law_d", "_law_found"]
abbrev p_law_number : List Str := ["_law_n", "_law_d"]
theorem ft_law_number : FnT M (topS 30) F_law_number n_law_number p_law_number := ⟨⟨rfl, rfl, rfl, by decide +kernel, rfl, by decide +kernel, by decide +kernel⟩, by decide +kernel, rfl, rfl⟩
abbrev n_law_tree : List Str := ["_law_numbers_here", "_law_levels", "_law_most", "_law_pick", "_law_first", "_law_word"]
abbrev p_law_tree : List Str := ["_law_numbers_here", "_law_levels", "_law_most"]
theorem ft_law_tree : FnT M (topS 31) F_law_tree n_law_tree p_law_tree := ⟨⟨rfl, rfl, rfl, by decide +kernel, rfl, by decide +kernel, by decide +kernel⟩, by decide +kernel, rfl, rfl⟩
abbrev n_law_derivative : List Str := ["_law_e", "_law_u", "_law_du", "_law_dv"]
abbrev p_law_derivative : List Str := ["_law_e"]
theorem ft_law_derivative : FnT M (topS 32) F_law_derivative n_law_derivative p_law_derivative := ⟨⟨rfl, rfl, rfl, by decide +kernel, rfl, by decide +kernel, by decide +kernel⟩, by decide +kernel, rfl, rfl⟩
abbrev n_law_slope : List Str := ["_law_e", "_law_q", "_law_a", "_law_factor", "_law_value", "_law_slope_here"]
abbrev p_law_slope : List Str := ["_law_e", "_law_q"]
theorem ft_law_slope : FnT M (topS 33) F_law_slope n_law_slope p_law_slope := ⟨⟨rfl, rfl, rfl, by decide +kernel, rfl, by decide +kernel, by decide +kernel⟩, by decide +kernel, rfl, rfl⟩
abbrev n_law_slope_of_two : List Str := ["_law_word", "_law_a", "_law_b", "_law_top", "_law_inverse_here"]
abbrev p_law_slope_of_two : List Str := ["_law_word", "_law_a", "_law_b"]
theorem ft_law_slope_of_two : FnT M (topS 34) F_law_slope_of_two n_law_slope_of_two p_law_slope_of_two := ⟨⟨rfl, rfl, rfl, by decide +kernel, rfl, by decide +kernel, by decide +kernel⟩, by decide +kernel, rfl, rfl⟩
abbrev n_law : List Str := ["_law_script", "_law_numbers_here", "_law_q", "_law_e", "_law_actual", "_law_due"]
abbrev p_law : List Str := ["_law_script"]
theorem ft_law : FnT M (topS 35) F_law n_law p_law := ⟨⟨rfl, rfl, rfl, by decide +kernel, rfl, by decide +kernel, by decide +kernel⟩, by decide +kernel, rfl, rfl⟩
theorem mok_mk {P : Program} {K : PySem.W.Frag} {h base : Heap} {mg : Str → Option Value} (X : K.In h) (Gn : h.Ns mainGlobals mg) (hse : base.NoSeer) (ht : P.given.tree = none)
    {f0 : Addr} {od0 an0 : Option Addr} {sl0 : Array (Option Value)} {oc0 kV0 dc0 pm0 cd0 ct0 : Value}
    {f1 : Addr} {od1 an1 : Option Addr} {sl1 : Array (Option Value)} {oc1 kV1 dc1 pm1 cd1 ct1 : Value}
    {f2 : Addr} {od2 an2 : Option Addr} {sl2 : Array (Option Value)} {oc2 kV2 dc2 pm2 cd2 ct2 : Value}
    {f3 : Addr} {od3 an3 : Option Addr} {sl3 : Array (Option Value)} {oc3 kV3 dc3 pm3 cd3 ct3 : Value}
    {f4 : Addr} {od4 an4 : Option Addr} {sl4 : Array (Option Value)} {oc4 kV4 dc4 pm4 cd4 ct4 : Value}
    {f5 : Addr} {od5 an5 : Option Addr} {sl5 : Array (Option Value)} {oc5 kV5 dc5 pm5 cd5 ct5 : Value}
    {f6 : Addr} {od6 an6 : Option Addr} {sl6 : Array (Option Value)} {oc6 kV6 dc6 pm6 cd6 ct6 : Value}
    {f7 : Addr} {od7 an7 : Option Addr} {sl7 : Array (Option Value)} {oc7 kV7 dc7 pm7 cd7 ct7 : Value}
    {f8 : Addr} {od8 an8 : Option Addr} {sl8 : Array (Option Value)} {oc8 kV8 dc8 pm8 cd8 ct8 : Value}
    {f9 : Addr} {od9 an9 : Option Addr} {sl9 : Array (Option Value)} {oc9 kV9 dc9 pm9 cd9 ct9 : Value}
    {f10 : Addr} {od10 an10 : Option Addr} {sl10 : Array (Option Value)} {oc10 kV10 dc10 pm10 cd10 ct10 : Value}
    {f11 : Addr} {od11 an11 : Option Addr} {sl11 : Array (Option Value)} {oc11 kV11 dc11 pm11 cd11 ct11 : Value}
    {f12 : Addr} {od12 an12 : Option Addr} {sl12 : Array (Option Value)} {oc12 kV12 dc12 pm12 cd12 ct12 : Value}
    {f13 : Addr} {od13 an13 : Option Addr} {sl13 : Array (Option Value)} {oc13 kV13 dc13 pm13 cd13 ct13 : Value}
    {f14 : Addr} {od14 an14 : Option Addr} {sl14 : Array (Option Value)} {oc14 kV14 dc14 pm14 cd14 ct14 : Value}
    {f15 : Addr} {od15 an15 : Option Addr} {sl15 : Array (Option Value)} {oc15 kV15 dc15 pm15 cd15 ct15 : Value}
    {f16 : Addr} {od16 an16 : Option Addr} {sl16 : Array (Option Value)} {oc16 kV16 dc16 pm16 cd16 ct16 : Value}
    {f17 : Addr} {od17 an17 : Option Addr} {sl17 : Array (Option Value)} {oc17 kV17 dc17 pm17 cd17 ct17 : Value}
    {f18 : Addr} {od18 an18 : Option Addr} {sl18 : Array (Option Value)} {oc18 kV18 dc18 pm18 cd18 ct18 : Value}
    {f19 : Addr} {od19 an19 : Option Addr} {sl19 : Array (Option Value)} {oc19 kV19 dc19 pm19 cd19 ct19 : Value}
    {f20 : Addr} {od20 an20 : Option Addr} {sl20 : Array (Option Value)} {oc20 kV20 dc20 pm20 cd20 ct20 : Value}
    {f21 : Addr} {od21 an21 : Option Addr} {sl21 : Array (Option Value)} {oc21 kV21 dc21 pm21 cd21 ct21 : Value}
    {f22 : Addr} {od22 an22 : Option Addr} {sl22 : Array (Option Value)} {oc22 kV22 dc22 pm22 cd22 ct22 : Value}
    {f23 : Addr} {od23 an23 : Option Addr} {sl23 : Array (Option Value)} {oc23 kV23 dc23 pm23 cd23 ct23 : Value}
    {f24 : Addr} {od24 an24 : Option Addr} {sl24 : Array (Option Value)} {oc24 kV24 dc24 pm24 cd24 ct24 : Value}
    (a0 : PySem.W.nsIn K mainGlobals "rational" = some (some (.ref f0))) (l0 : K.lookup f0 = some ⟨oc0, od0, .func (PySem.W.fnOf "rational" "rational" (defArgs (topS 8)) (defBody (topS 8)) (defScope (topS 8)) .none kV0 dc0 pm0 an0 cd0 ct0), sl0⟩) (c0 : PySem.W.codeIn K cd0 "rational" = true) (k0 : PySem.W.keepIn K (.ref f0) = true)
    (a1 : PySem.W.nsIn K mainGlobals "radd" = some (some (.ref f1))) (l1 : K.lookup f1 = some ⟨oc1, od1, .func (PySem.W.fnOf "radd" "radd" (defArgs (topS 9)) (defBody (topS 9)) (defScope (topS 9)) .none kV1 dc1 pm1 an1 cd1 ct1), sl1⟩) (c1 : PySem.W.codeIn K cd1 "radd" = true) (k1 : PySem.W.keepIn K (.ref f1) = true)
    (a2 : PySem.W.nsIn K mainGlobals "rsub" = some (some (.ref f2))) (l2 : K.lookup f2 = some ⟨oc2, od2, .func (PySem.W.fnOf "rsub" "rsub" (defArgs (topS 10)) (defBody (topS 10)) (defScope (topS 10)) .none kV2 dc2 pm2 an2 cd2 ct2), sl2⟩) (c2 : PySem.W.codeIn K cd2 "rsub" = true) (k2 : PySem.W.keepIn K (.ref f2) = true)
    (a3 : PySem.W.nsIn K mainGlobals "rmul" = some (some (.ref f3))) (l3 : K.lookup f3 = some ⟨oc3, od3, .func (PySem.W.fnOf "rmul" "rmul" (defArgs (topS 11)) (defBody (topS 11)) (defScope (topS 11)) .none kV3 dc3 pm3 an3 cd3 ct3), sl3⟩) (c3 : PySem.W.codeIn K cd3 "rmul" = true) (k3 : PySem.W.keepIn K (.ref f3) = true)
    (a4 : PySem.W.nsIn K mainGlobals "rneg" = some (some (.ref f4))) (l4 : K.lookup f4 = some ⟨oc4, od4, .func (PySem.W.fnOf "rneg" "rneg" (defArgs (topS 12)) (defBody (topS 12)) (defScope (topS 12)) .none kV4 dc4 pm4 an4 cd4 ct4), sl4⟩) (c4 : PySem.W.codeIn K cd4 "rneg" = true) (k4 : PySem.W.keepIn K (.ref f4) = true)
    (a5 : PySem.W.nsIn K mainGlobals "rinv" = some (some (.ref f5))) (l5 : K.lookup f5 = some ⟨oc5, od5, .func (PySem.W.fnOf "rinv" "rinv" (defArgs (topS 13)) (defBody (topS 13)) (defScope (topS 13)) .none kV5 dc5 pm5 an5 cd5 ct5), sl5⟩) (c5 : PySem.W.codeIn K cd5 "rinv" = true) (k5 : PySem.W.keepIn K (.ref f5) = true)
    (a6 : PySem.W.nsIn K mainGlobals "rdiv" = some (some (.ref f6))) (l6 : K.lookup f6 = some ⟨oc6, od6, .func (PySem.W.fnOf "rdiv" "rdiv" (defArgs (topS 14)) (defBody (topS 14)) (defScope (topS 14)) .none kV6 dc6 pm6 an6 cd6 ct6), sl6⟩) (c6 : PySem.W.codeIn K cd6 "rdiv" = true) (k6 : PySem.W.keepIn K (.ref f6) = true)
    (a7 : PySem.W.nsIn K mainGlobals "rpow" = some (some (.ref f7))) (l7 : K.lookup f7 = some ⟨oc7, od7, .func (PySem.W.fnOf "rpow" "rpow" (defArgs (topS 15)) (defBody (topS 15)) (defScope (topS 15)) .none kV7 dc7 pm7 an7 cd7 ct7), sl7⟩) (c7 : PySem.W.codeIn K cd7 "rpow" = true) (k7 : PySem.W.keepIn K (.ref f7) = true)
    (a8 : PySem.W.nsIn K mainGlobals "differentiate" = some (some (.ref f8))) (l8 : K.lookup f8 = some ⟨oc8, od8, .func (PySem.W.fnOf "differentiate" "differentiate" (defArgs (topS 18)) (defBody (topS 18)) (defScope (topS 18)) .none kV8 dc8 pm8 an8 cd8 ct8), sl8⟩) (c8 : PySem.W.codeIn K cd8 "differentiate" = true) (k8 : PySem.W.keepIn K (.ref f8) = true)
    (a9 : PySem.W.nsIn K mainGlobals "evaluate" = some (some (.ref f9))) (l9 : K.lookup f9 = some ⟨oc9, od9, .func (PySem.W.fnOf "evaluate" "evaluate" (defArgs (topS 19)) (defBody (topS 19)) (defScope (topS 19)) .none kV9 dc9 pm9 an9 cd9 ct9), sl9⟩) (c9 : PySem.W.codeIn K cd9 "evaluate" = true) (k9 : PySem.W.keepIn K (.ref f9) = true)
    (a10 : PySem.W.nsIn K mainGlobals "binary_value" = some (some (.ref f10))) (l10 : K.lookup f10 = some ⟨oc10, od10, .func (PySem.W.fnOf "binary_value" "binary_value" (defArgs (topS 20)) (defBody (topS 20)) (defScope (topS 20)) .none kV10 dc10 pm10 an10 cd10 ct10), sl10⟩) (c10 : PySem.W.codeIn K cd10 "binary_value" = true) (k10 : PySem.W.keepIn K (.ref f10) = true)
    (a11 : PySem.W.nsIn K mainGlobals "_law_numbers" = some (some (.ref f11))) (l11 : K.lookup f11 = some ⟨oc11, od11, .func (PySem.W.fnOf "_law_numbers" "_law_numbers" (defArgs (topS 22)) (defBody (topS 22)) (defScope (topS 22)) .none kV11 dc11 pm11 an11 cd11 ct11), sl11⟩) (c11 : PySem.W.codeIn K cd11 "_law_numbers" = true) (k11 : PySem.W.keepIn K (.ref f11) = true)
    (a12 : PySem.W.nsIn K mainGlobals "_law_next" = some (some (.ref f12))) (l12 : K.lookup f12 = some ⟨oc12, od12, .func (PySem.W.fnOf "_law_next" "_law_next" (defArgs (topS 23)) (defBody (topS 23)) (defScope (topS 23)) .none kV12 dc12 pm12 an12 cd12 ct12), sl12⟩) (c12 : PySem.W.codeIn K cd12 "_law_next" = true) (k12 : PySem.W.keepIn K (.ref f12) = true)
    (a13 : PySem.W.nsIn K mainGlobals "_law_fraction" = some (some (.ref f13))) (l13 : K.lookup f13 = some ⟨oc13, od13, .func (PySem.W.fnOf "_law_fraction" "_law_fraction" (defArgs (topS 24)) (defBody (topS 24)) (defScope (topS 24)) .none kV13 dc13 pm13 an13 cd13 ct13), sl13⟩) (c13 : PySem.W.codeIn K cd13 "_law_fraction" = true) (k13 : PySem.W.keepIn K (.ref f13) = true)
    (a14 : PySem.W.nsIn K mainGlobals "_law_add" = some (some (.ref f14))) (l14 : K.lookup f14 = some ⟨oc14, od14, .func (PySem.W.fnOf "_law_add" "_law_add" (defArgs (topS 25)) (defBody (topS 25)) (defScope (topS 25)) .none kV14 dc14 pm14 an14 cd14 ct14), sl14⟩) (c14 : PySem.W.codeIn K cd14 "_law_add" = true) (k14 : PySem.W.keepIn K (.ref f14) = true)
    (a15 : PySem.W.nsIn K mainGlobals "_law_mul" = some (some (.ref f15))) (l15 : K.lookup f15 = some ⟨oc15, od15, .func (PySem.W.fnOf "_law_mul" "_law_mul" (defArgs (topS 26)) (defBody (topS 26)) (defScope (topS 26)) .none kV15 dc15 pm15 an15 cd15 ct15), sl15⟩) (c15 : PySem.W.codeIn K cd15 "_law_mul" = true) (k15 : PySem.W.keepIn K (.ref f15) = true)
    (a16 : PySem.W.nsIn K mainGlobals "_law_inverse" = some (some (.ref f16))) (l16 : K.lookup f16 = some ⟨oc16, od16, .func (PySem.W.fnOf "_law_inverse" "_law_inverse" (defArgs (topS 27)) (defBody (topS 27)) (defScope (topS 27)) .none kV16 dc16 pm16 an16 cd16 ct16), sl16⟩) (c16 : PySem.W.codeIn K cd16 "_law_inverse" = true) (k16 : PySem.W.keepIn K (.ref f16) = true)
    (a17 : PySem.W.nsIn K mainGlobals "_law_power" = some (some (.ref f17))) (l17 : K.lookup f17 = some ⟨oc17, od17, .func (PySem.W.fnOf "_law_power" "_law_power" (defArgs (topS 28)) (defBody (topS 28)) (defScope (topS 28)) .none kV17 dc17 pm17 an17 cd17 ct17), sl17⟩) (c17 : PySem.W.codeIn K cd17 "_law_power" = true) (k17 : PySem.W.keepIn K (.ref f17) = true)
    (a18 : PySem.W.nsIn K mainGlobals "_law_leaf" = some (some (.ref f18))) (l18 : K.lookup f18 = some ⟨oc18, od18, .func (PySem.W.fnOf "_law_leaf" "_law_leaf" (defArgs (topS 29)) (defBody (topS 29)) (defScope (topS 29)) .none kV18 dc18 pm18 an18 cd18 ct18), sl18⟩) (c18 : PySem.W.codeIn K cd18 "_law_leaf" = true) (k18 : PySem.W.keepIn K (.ref f18) = true)
    (a19 : PySem.W.nsIn K mainGlobals "_law_number" = some (some (.ref f19))) (l19 : K.lookup f19 = some ⟨oc19, od19, .func (PySem.W.fnOf "_law_number" "_law_number" (defArgs (topS 30)) (defBody (topS 30)) (defScope (topS 30)) .none kV19 dc19 pm19 an19 cd19 ct19), sl19⟩) (c19 : PySem.W.codeIn K cd19 "_law_number" = true) (k19 : PySem.W.keepIn K (.ref f19) = true)
    (a20 : PySem.W.nsIn K mainGlobals "_law_tree" = some (some (.ref f20))) (l20 : K.lookup f20 = some ⟨oc20, od20, .func (PySem.W.fnOf "_law_tree" "_law_tree" (defArgs (topS 31)) (defBody (topS 31)) (defScope (topS 31)) .none kV20 dc20 pm20 an20 cd20 ct20), sl20⟩) (c20 : PySem.W.codeIn K cd20 "_law_tree" = true) (k20 : PySem.W.keepIn K (.ref f20) = true)
    (a21 : PySem.W.nsIn K mainGlobals "_law_derivative" = some (some (.ref f21))) (l21 : K.lookup f21 = some ⟨oc21, od21, .func (PySem.W.fnOf "_law_derivative" "_law_derivative" (defArgs (topS 32)) (defBody (topS 32)) (defScope (topS 32)) .none kV21 dc21 pm21 an21 cd21 ct21), sl21⟩) (c21 : PySem.W.codeIn K cd21 "_law_derivative" = true) (k21 : PySem.W.keepIn K (.ref f21) = true)
    (a22 : PySem.W.nsIn K mainGlobals "_law_slope" = some (some (.ref f22))) (l22 : K.lookup f22 = some ⟨oc22, od22, .func (PySem.W.fnOf "_law_slope" "_law_slope" (defArgs (topS 33)) (defBody (topS 33)) (defScope (topS 33)) .none kV22 dc22 pm22 an22 cd22 ct22), sl22⟩) (c22 : PySem.W.codeIn K cd22 "_law_slope" = true) (k22 : PySem.W.keepIn K (.ref f22) = true)
    (a23 : PySem.W.nsIn K mainGlobals "_law_slope_of_two" = some (some (.ref f23))) (l23 : K.lookup f23 = some ⟨oc23, od23, .func (PySem.W.fnOf "_law_slope_of_two" "_law_slope_of_two" (defArgs (topS 34)) (defBody (topS 34)) (defScope (topS 34)) .none kV23 dc23 pm23 an23 cd23 ct23), sl23⟩) (c23 : PySem.W.codeIn K cd23 "_law_slope_of_two" = true) (k23 : PySem.W.keepIn K (.ref f23) = true)
    (a24 : PySem.W.nsIn K mainGlobals "law" = some (some (.ref f24))) (l24 : K.lookup f24 = some ⟨oc24, od24, .func (PySem.W.fnOf "law" "law" (defArgs (topS 35)) (defBody (topS 35)) (defScope (topS 35)) .none kV24 dc24 pm24 an24 cd24 ct24), sl24⟩) (c24 : PySem.W.codeIn K cd24 "law" = true) (k24 : PySem.W.keepIn K (.ref f24) = true)
    (z0 : PySem.W.nsIn K mainGlobals "abs" = some none)
    (z1 : PySem.W.nsIn K mainGlobals "len" = some none)
    (z2 : PySem.W.nsIn K mainGlobals "min" = some none)
    (z3 : PySem.W.nsIn K mainGlobals "range" = some none)
    (zg : PySem.W.nsIn K mainGlobals "gcd" = some (some (.builtin "math.gcd")))
    {y0 : Addr} {uo0 : Obj} {ui0 : Array Value} {un0 : Nat} (ya0 : PySem.W.nsIn K mainGlobals "BINARY" = some (some (.ref y0))) (yl0 : K.lookup y0 = some uo0) (yc0 : uo0.cls = .type "tuple") (yd0 : uo0.data = .seq ui0 un0) (ys0 : ui0.size ≤ sizeLine) (yv0 : Vals [.str "add", .str "sub", .str "mul", .str "div"] ui0.toList)
    {y1 : Addr} {uo1 : Obj} {ui1 : Array Value} {un1 : Nat} (ya1 : PySem.W.nsIn K mainGlobals "ONE" = some (some (.ref y1))) (yl1 : K.lookup y1 = some uo1) (yc1 : uo1.cls = .type "tuple") (yd1 : uo1.data = .seq ui1 un1) (ys1 : ui1.size ≤ sizeLine) (yv1 : Vals [.int 1, .int 1] ui1.toList)
    {y2 : Addr} {uo2 : Obj} {ui2 : Array Value} {un2 : Nat} (ya2 : PySem.W.nsIn K mainGlobals "ZERO" = some (some (.ref y2))) (yl2 : K.lookup y2 = some uo2) (yc2 : uo2.cls = .type "tuple") (yd2 : uo2.data = .seq ui2 un2) (ys2 : ui2.size ≤ sizeLine) (yv2 : Vals [.int 0, .int 1] ui2.toList)
    {e0 : Addr} (ea0 : PySem.W.nsIn K mainGlobals "ZeroDivisor" = some (some (.ref e0))) (ek0 : PySem.W.keepIn K (.ref e0) = true) (eb0 : PySem.W.subIn K (.ref e0) (.type "BaseException") = some true) (et0 : PySem.W.typeIn K (.ref e0) = some (.type "type"))
    (ex0 : PySem.W.excIn K e0 [.type "ValueError", .type "Exception", .type "BaseException", .type "object"] "ValueError.__new__" = true) :
    Mok M G T P K mg base where
  blt := fun x hx => by
    have hx : x ∈ M.blt := by simpa using hx
    simp only [M, List.mem_cons, List.not_mem_nil, or_false] at hx
    rcases hx with rfl | rfl | rfl | rfl
    · exact PySem.W.mg_none_of X Gn z0
    · exact PySem.W.mg_none_of X Gn z1
    · exact PySem.W.mg_none_of X Gn z2
    · exact PySem.W.mg_none_of X Gn z3
  gcd := fun _ => PySem.W.mg_of X Gn zg
  cst := fun x hx => by
    have hx : x ∈ M.cst := by simpa using hx
    simp only [M, List.mem_cons, List.not_mem_nil, or_false] at hx
    rcases hx with rfl | rfl | rfl
    · exact ⟨.tup [.str "add", .str "sub", .str "mul", .str "div"], _, .ref y0, rfl, PySem.W.mg_of X Gn ya0, rfl, fun H => .tup (.inr ⟨uo0, ui0, un0, yl0, yc0, yd0, ys0, yv0⟩) (by repeat (first | exact .nil | refine .cons (.int _) ?_ | refine .cons (.str _) ?_))⟩
    · exact ⟨.tup [.int 1, .int 1], _, .ref y1, rfl, PySem.W.mg_of X Gn ya1, rfl, fun H => .tup (.inr ⟨uo1, ui1, un1, yl1, yc1, yd1, ys1, yv1⟩) (by repeat (first | exact .nil | refine .cons (.int _) ?_ | refine .cons (.str _) ?_))⟩
    · exact ⟨.tup [.int 0, .int 1], _, .ref y2, rfl, PySem.W.mg_of X Gn ya2, rfl, fun H => .tup (.inr ⟨uo2, ui2, un2, yl2, yc2, yd2, ys2, yv2⟩) (by repeat (first | exact .nil | refine .cons (.int _) ?_ | refine .cons (.str _) ?_))⟩
  fns := fun f n h => by
    have h := mem_of_lookup h
    simp only [M, List.mem_cons, List.not_mem_nil, or_false, Prod.mk.injEq] at h
    rcases h with ⟨rfl, rfl⟩ | ⟨rfl, rfl⟩ | ⟨rfl, rfl⟩ | ⟨rfl, rfl⟩ | ⟨rfl, rfl⟩ | ⟨rfl, rfl⟩ | ⟨rfl, rfl⟩ | ⟨rfl, rfl⟩ | ⟨rfl, rfl⟩ | ⟨rfl, rfl⟩ | ⟨rfl, rfl⟩ | ⟨rfl, rfl⟩ | ⟨rfl, rfl⟩ | ⟨rfl, rfl⟩ | ⟨rfl, rfl⟩ | ⟨rfl, rfl⟩ | ⟨rfl, rfl⟩ | ⟨rfl, rfl⟩ | ⟨rfl, rfl⟩ | ⟨rfl, rfl⟩ | ⟨rfl, rfl⟩ | ⟨rfl, rfl⟩ | ⟨rfl, rfl⟩ | ⟨rfl, rfl⟩ | ⟨rfl, rfl⟩
    · exact ⟨_, t_rational, rfl⟩
    · exact ⟨_, t_radd, rfl⟩
    · exact ⟨_, t_rsub, rfl⟩
    · exact ⟨_, t_rmul, rfl⟩
    · exact ⟨_, t_rneg, rfl⟩
    · exact ⟨_, t_rinv, rfl⟩
    · exact ⟨_, t_rdiv, rfl⟩
    · exact ⟨_, t_rpow, rfl⟩
    · exact ⟨_, t_differentiate, rfl⟩
    · exact ⟨_, t_evaluate, rfl⟩
    · exact ⟨_, t_binary_value, rfl⟩
    · exact ⟨_, t_law_numbers, rfl⟩
    · exact ⟨_, t_law_next, rfl⟩
    · exact ⟨_, t_law_fraction, rfl⟩
    · exact ⟨_, t_law_add, rfl⟩
    · exact ⟨_, t_law_mul, rfl⟩
    · exact ⟨_, t_law_inverse, rfl⟩
    · exact ⟨_, t_law_power, rfl⟩
    · exact ⟨_, t_law_leaf, rfl⟩
    · exact ⟨_, t_law_number, rfl⟩
    · exact ⟨_, t_law_tree, rfl⟩
    · exact ⟨_, t_law_derivative, rfl⟩
    · exact ⟨_, t_law_slope, rfl⟩
    · exact ⟨_, t_law_slope_of_two, rfl⟩
    · exact ⟨_, t_law, rfl⟩
  fn := fun f F h => by
    have h := mem_of_lookup (l := tbl) h
    simp only [tbl, List.mem_cons, List.not_mem_nil, or_false, Prod.mk.injEq] at h
    rcases h with ⟨rfl, rfl⟩ | ⟨rfl, rfl⟩ | ⟨rfl, rfl⟩ | ⟨rfl, rfl⟩ | ⟨rfl, rfl⟩ | ⟨rfl, rfl⟩ | ⟨rfl, rfl⟩ | ⟨rfl, rfl⟩ | ⟨rfl, rfl⟩ | ⟨rfl, rfl⟩ | ⟨rfl, rfl⟩ | ⟨rfl, rfl⟩ | ⟨rfl, rfl⟩ | ⟨rfl, rfl⟩ | ⟨rfl, rfl⟩ | ⟨rfl, rfl⟩ | ⟨rfl, rfl⟩ | ⟨rfl, rfl⟩ | ⟨rfl, rfl⟩ | ⟨rfl, rfl⟩ | ⟨rfl, rfl⟩ | ⟨rfl, rfl⟩ | ⟨rfl, rfl⟩ | ⟨rfl, rfl⟩ | ⟨rfl, rfl⟩
    · exact ⟨f0, _, topS 8, _, _, "rational", PySem.W.mg_of X Gn a0, fun_mk (st := topS 8) l0 c0 k0, ft_rational, (fun_mk (st := topS 8) l0 c0 k0).binds (ps := p_rational) fun _ _ _ _ _ _ us hl => match us, hl with | [_, _], _ => rfl⟩
    · exact ⟨f1, _, topS 9, _, _, "radd", PySem.W.mg_of X Gn a1, fun_mk (st := topS 9) l1 c1 k1, ft_radd, (fun_mk (st := topS 9) l1 c1 k1).binds (ps := p_radd) fun _ _ _ _ _ _ us hl => match us, hl with | [_, _], _ => rfl⟩
    · exact ⟨f2, _, topS 10, _, _, "rsub", PySem.W.mg_of X Gn a2, fun_mk (st := topS 10) l2 c2 k2, ft_rsub, (fun_mk (st := topS 10) l2 c2 k2).binds (ps := p_rsub) fun _ _ _ _ _ _ us hl => match us, hl with | [_, _], _ => rfl⟩
    · exact ⟨f3, _, topS 11, _, _, "rmul", PySem.W.mg_of X Gn a3, fun_mk (st := topS 11) l3 c3 k3, ft_rmul, (fun_mk (st := topS 11) l3 c3 k3).binds (ps := p_rmul) fun _ _ _ _ _ _ us hl => match us, hl with | [_, _], _ => rfl⟩
    · exact ⟨f4, _, topS 12, _, _, "rneg", PySem.W.mg_of X Gn a4, fun_mk (st := topS 12) l4 c4 k4, ft_rneg, (fun_mk (st := topS 12) l4 c4 k4).binds (ps := p_rneg) fun _ _ _ _ _ _ us hl => match us, hl with | [_], _ => rfl⟩
    · exact ⟨f5, _, topS 13, _, _, "rinv", PySem.W.mg_of X Gn a5, fun_mk (st := topS 13) l5 c5 k5, ft_rinv, (fun_mk (st := topS 13) l5 c5 k5).binds (ps := p_rinv) fun _ _ _ _ _ _ us hl => match us, hl with | [_], _ => rfl⟩
    · exact ⟨f6, _, topS 14, _, _, "rdiv", PySem.W.mg_of X Gn a6, fun_mk (st := topS 14) l6 c6 k6, ft_rdiv, (fun_mk (st := topS 14) l6 c6 k6).binds (ps := p_rdiv) fun _ _ _ _ _ _ us hl => match us, hl with | [_, _], _ => rfl⟩
    · exact ⟨f7, _, topS 15, _, _, "rpow", PySem.W.mg_of X Gn a7, fun_mk (st := topS 15) l7 c7 k7, ft_rpow, (fun_mk (st := topS 15) l7 c7 k7).binds (ps := p_rpow) fun _ _ _ _ _ _ us hl => match us, hl with | [_, _], _ => rfl⟩
    · exact ⟨f8, _, topS 18, _, _, "differentiate", PySem.W.mg_of X Gn a8, fun_mk (st := topS 18) l8 c8 k8, ft_differentiate, (fun_mk (st := topS 18) l8 c8 k8).binds (ps := p_differentiate) fun _ _ _ _ _ _ us hl => match us, hl with | [_], _ => rfl⟩
    · exact ⟨f9, _, topS 19, _, _, "evaluate", PySem.W.mg_of X Gn a9, fun_mk (st := topS 19) l9 c9 k9, ft_evaluate, (fun_mk (st := topS 19) l9 c9 k9).binds (ps := p_evaluate) fun _ _ _ _ _ _ us hl => match us, hl with | [_, _], _ => rfl⟩
    · exact ⟨f10, _, topS 20, _, _, "binary_value", PySem.W.mg_of X Gn a10, fun_mk (st := topS 20) l10 c10 k10, ft_binary_value, (fun_mk (st := topS 20) l10 c10 k10).binds (ps := p_binary_value) fun _ _ _ _ _ _ us hl => match us, hl with | [_, _, _], _ => rfl⟩
    · exact ⟨f11, _, topS 22, _, _, "_law_numbers", PySem.W.mg_of X Gn a11, fun_mk (st := topS 22) l11 c11 k11, ft_law_numbers, (fun_mk (st := topS 22) l11 c11 k11).binds (ps := p_law_numbers) fun _ _ _ _ _ _ us hl => match us, hl with | [_], _ => rfl⟩
    · exact ⟨f12, _, topS 23, _, _, "_law_next", PySem.W.mg_of X Gn a12, fun_mk (st := topS 23) l12 c12 k12, ft_law_next, (fun_mk (st := topS 23) l12 c12 k12).binds (ps := p_law_next) fun _ _ _ _ _ _ us hl => match us, hl with | [_, _], _ => rfl⟩
    · exact ⟨f13, _, topS 24, _, _, "_law_fraction", PySem.W.mg_of X Gn a13, fun_mk (st := topS 24) l13 c13 k13, ft_law_fraction, (fun_mk (st := topS 24) l13 c13 k13).binds (ps := p_law_fraction) fun _ _ _ _ _ _ us hl => match us, hl with | [_, _], _ => rfl⟩
    · exact ⟨f14, _, topS 25, _, _, "_law_add", PySem.W.mg_of X Gn a14, fun_mk (st := topS 25) l14 c14 k14, ft_law_add, (fun_mk (st := topS 25) l14 c14 k14).binds (ps := p_law_add) fun _ _ _ _ _ _ us hl => match us, hl with | [_, _], _ => rfl⟩
    · exact ⟨f15, _, topS 26, _, _, "_law_mul", PySem.W.mg_of X Gn a15, fun_mk (st := topS 26) l15 c15 k15, ft_law_mul, (fun_mk (st := topS 26) l15 c15 k15).binds (ps := p_law_mul) fun _ _ _ _ _ _ us hl => match us, hl with | [_, _], _ => rfl⟩
    · exact ⟨f16, _, topS 27, _, _, "_law_inverse", PySem.W.mg_of X Gn a16, fun_mk (st := topS 27) l16 c16 k16, ft_law_inverse, (fun_mk (st := topS 27) l16 c16 k16).binds (ps := p_law_inverse) fun _ _ _ _ _ _ us hl => match us, hl with | [_], _ => rfl⟩
    · exact ⟨f17, _, topS 28, _, _, "_law_power", PySem.W.mg_of X Gn a17, fun_mk (st := topS 28) l17 c17 k17, ft_law_power, (fun_mk (st := topS 28) l17 c17 k17).binds (ps := p_law_power) fun _ _ _ _ _ _ us hl => match us, hl with | [_, _], _ => rfl⟩
    · exact ⟨f18, _, topS 29, _, _, "_law_leaf", PySem.W.mg_of X Gn a18, fun_mk (st := topS 29) l18 c18 k18, ft_law_leaf, (fun_mk (st := topS 29) l18 c18 k18).binds (ps := p_law_leaf) fun _ _ _ _ _ _ us hl => match us, hl with | [_], _ => rfl⟩
    · exact ⟨f19, _, topS 30, _, _, "_law_number", PySem.W.mg_of X Gn a19, fun_mk (st := topS 30) l19 c19 k19, ft_law_number, (fun_mk (st := topS 30) l19 c19 k19).binds (ps := p_law_number) fun _ _ _ _ _ _ us hl => match us, hl with | [_, _], _ => rfl⟩
    · exact ⟨f20, _, topS 31, _, _, "_law_tree", PySem.W.mg_of X Gn a20, fun_mk (st := topS 31) l20 c20 k20, ft_law_tree, (fun_mk (st := topS 31) l20 c20 k20).binds (ps := p_law_tree) fun _ _ _ _ _ _ us hl => match us, hl with | [_, _, _], _ => rfl⟩
    · exact ⟨f21, _, topS 32, _, _, "_law_derivative", PySem.W.mg_of X Gn a21, fun_mk (st := topS 32) l21 c21 k21, ft_law_derivative, (fun_mk (st := topS 32) l21 c21 k21).binds (ps := p_law_derivative) fun _ _ _ _ _ _ us hl => match us, hl with | [_], _ => rfl⟩
    · exact ⟨f22, _, topS 33, _, _, "_law_slope", PySem.W.mg_of X Gn a22, fun_mk (st := topS 33) l22 c22 k22, ft_law_slope, (fun_mk (st := topS 33) l22 c22 k22).binds (ps := p_law_slope) fun _ _ _ _ _ _ us hl => match us, hl with | [_, _], _ => rfl⟩
    · exact ⟨f23, _, topS 34, _, _, "_law_slope_of_two", PySem.W.mg_of X Gn a23, fun_mk (st := topS 34) l23 c23 k23, ft_law_slope_of_two, (fun_mk (st := topS 34) l23 c23 k23).binds (ps := p_law_slope_of_two) fun _ _ _ _ _ _ us hl => match us, hl with | [_, _, _], _ => rfl⟩
    · exact ⟨f24, _, topS 35, _, _, "law", PySem.W.mg_of X Gn a24, fun_mk (st := topS 35) l24 c24 k24, ft_law, (fun_mk (st := topS 35) l24 c24 k24).binds (ps := p_law) fun _ _ _ _ _ _ us hl => match us, hl with | [_], _ => rfl⟩
  py := fun _ => ⟨hse, ht⟩
  exc := fun x hx => by
    have hx : x ∈ M.exc := by simpa using hx
    simp only [M, List.mem_cons, List.not_mem_nil, or_false] at hx
    rcases hx with rfl
    · exact ⟨e0, PySem.W.mg_of X Gn ea0, ek0, ex0, eb0, et0⟩
  exn := fun x h => by cases h
open LA
inductive Op where
  | add | sub | mul | div
/-- an expression -/
inductive Ex where
  | num (q : Rat)
  | x
  | bin (o : Op) (a b : Ex)
  | neg (a : Ex)
  | exp (a : Ex)
  | log (a : Ex)
  | pow (a : Ex) (k : Int)
def opS : Op → Str
  | .add => "add"
  | .sub => "sub"
  | .mul => "mul"
  | .div => "div"
def XD : Ex → D
  | .num q => .tup [.str "num", .int q.num, .int q.den]
  | .x => .tup [.str "x"]
  | .bin o a b => .tup [.str (opS o), XD a, XD b]
  | .neg a => .tup [.str "neg", XD a]
  | .exp a => .tup [.str "exp", XD a]
  | .log a => .tup [.str "log", XD a]
  | .pow a k => .tup [.str "pow", XD a, .int k]
def hgt : Ex → Nat
  | .num _ => 1
  | .x => 1
  | .bin _ a b => max (hgt a) (hgt b) + 1
  | .neg a => hgt a + 1
  | .exp a => hgt a + 1
  | .log a => hgt a + 1
  | .pow a _ => hgt a + 1
def der : Ex → Ex
  | .num _ => .num 0
  | .x => .num 1
  | .bin .add a b => .bin .add (der a) (der b)
  | .bin .sub a b => .bin .sub (der a) (der b)
  | .bin .mul a b => .bin .add (.bin .mul (der a) b) (.bin .mul a (der b))
  | .bin .div a b => .bin .div (.bin .sub (.bin .mul (der a) b) (.bin .mul a (der b))) (.pow b 2)
  | .neg a => .neg (der a)
  | .exp a => .bin .mul (.exp a) (der a)
  | .log a => .bin .div (der a) a
  | .pow a k => if k = 0 then .num 0 else .bin .mul (.bin .mul (.num (k : Rat)) (.pow a (k - 1))) (der a)
/-- a power with a whole exponent -/
def pw (a : Rat) (k : Int) : Rat := if k < 0 then (a ^ k.natAbs)⁻¹ else a ^ k.natAbs
/-- the program's value -/
def ev (q : Rat) : Ex → Option Rat
  | .num r => some r
  | .x => some q
  | .neg a => (ev q a).map fun u => -u
  | .exp a => (ev q a).bind fun u => if u = 0 then some 1 else none
  | .log a => (ev q a).bind fun u => if u = 1 then some 0 else none
  | .pow a k => (ev q a).bind fun u => if u = 0 ∧ k < 0 then none else some (pw u k)
  | .bin o a b => (ev q a).bind fun u => (ev q b).bind fun v => match o with
    | .add => some (u + v)
    | .sub => some (u - v)
    | .mul => some (u * v)
    | .div => if v = 0 then none else some (u / v)
/-- the law's pairs of a value and a slope -/
def sl (q : Rat) : Ex → Option (Rat × Rat)
  | .num r => some (r, 0)
  | .x => some (q, 1)
  | .neg a => (sl q a).map fun u => (-u.1, -u.2)
  | .exp a => (sl q a).bind fun u => if u.1 = 0 then some (1, u.2) else none
  | .log a => (sl q a).bind fun u => if u.1 = 1 then some (0, u.2) else none
  | .pow a k => (sl q a).bind fun u => if k = 0 then some (1, 0) else if u.1 = 0 ∧ k < 0 then none else some (pw u.1 k, (k : Rat) * pw u.1 (k - 1) * u.2)
  | .bin o a b => (sl q a).bind fun u => (sl q b).bind fun v => match o with
    | .add => some (u.1 + v.1, u.2 + v.2)
    | .sub => some (u.1 + -v.1, u.2 + -v.2)
    | .mul => some (u.1 * v.1, u.1 * v.2 + u.2 * v.1)
    | .div => if v.1 = 0 then none else some (u.1 * v.1⁻¹, (u.2 * v.1 + -(u.1 * v.2)) * (v.1⁻¹ * v.1⁻¹))
theorem sl_ev (q : Rat) : ∀ (e : Ex) (v s : Rat), sl q e = some (v, s) → ev q e = some v ∧ ev q (der e) = some s
  | .num r, v, s, h => by
    cases h
    exact ⟨rfl, rfl⟩
  | .x, v, s, h => by
    cases h
    exact ⟨rfl, rfl⟩
  | .neg a, v, s, h => by
    unfold sl at h
    cases ha : sl q a with
    | none => rw [ha] at h; cases h
    | some u =>
      rw [ha] at h
      cases h
      obtain ⟨h1, h2⟩ := sl_ev q a u.1 u.2 ha
      unfold der
      constructor <;> unfold ev
      · rw [h1]; rfl
      · rw [h2]; rfl
  | .exp a, v, s, h => by
    unfold sl at h
    cases ha : sl q a with
    | none => rw [ha] at h; cases h
    | some u =>
      rw [ha] at h
      have h : (if u.1 = 0 then some ((1 : Rat), u.2) else none) = some (v, s) := h
      by_cases h0 : u.1 = 0
      · rw [if_pos h0] at h
        cases h
        obtain ⟨h1, h2⟩ := sl_ev q a u.1 u.2 ha
        have e1 : ev q (.exp a) = some 1 := by
          unfold ev
          rw [h1]
          show (if u.1 = 0 then some (1 : Rat) else none) = _
          rw [if_pos h0]
        refine ⟨e1, ?_⟩
        unfold der ev
        rw [e1, h2]
        show some (1 * u.2) = some u.2
        rw [Rat.one_mul]
      · rw [if_neg h0] at h
        cases h
  | .log a, v, s, h => by
    unfold sl at h
    cases ha : sl q a with
    | none => rw [ha] at h; cases h
    | some u =>
      rw [ha] at h
      have h : (if u.1 = 1 then some ((0 : Rat), u.2) else none) = some (v, s) := h
      by_cases h0 : u.1 = 1
      · rw [if_pos h0] at h
        cases h
        obtain ⟨h1, h2⟩ := sl_ev q a u.1 u.2 ha
        have e1 : ev q (.log a) = some 0 := by
          unfold ev
          rw [h1]
          show (if u.1 = 1 then some (0 : Rat) else none) = _
          rw [if_pos h0]
        refine ⟨e1, ?_⟩
        unfold der ev
        rw [h1, h2]
        show (if u.1 = 0 then none else some (u.2 / u.1)) = some u.2
        rw [h0, if_neg (by decide)]
        congr 1
        grind
      · rw [if_neg h0] at h
        cases h
  | .bin o a b, v, s, h => by
    unfold sl at h
    cases ha : sl q a with
    | none => rw [ha] at h; cases h
    | some u =>
      cases hb : sl q b with
      | none => rw [ha, hb] at h; cases h
      | some w =>
        rw [ha, hb] at h
        obtain ⟨h1, h2⟩ := sl_ev q a u.1 u.2 ha
        obtain ⟨h3, h4⟩ := sl_ev q b w.1 w.2 hb
        have bin : ∀ (o : Op) (x y : Ex) (X Y : Rat), ev q x = some X → ev q y = some Y → ev q (.bin o x y) = (match o with
            | .add => some (X + Y)
            | .sub => some (X - Y)
            | .mul => some (X * Y)
            | .div => if Y = 0 then none else some (X / Y)) := by
          intro o x y X Y hx hy
          conv => lhs; unfold ev
          rw [hx, hy]
          rfl
        cases o with
        | add =>
          cases h
          exact ⟨bin .add _ _ _ _ h1 h3, bin .add _ _ _ _ h2 h4⟩
        | sub =>
          cases h
          refine ⟨?_, ?_⟩
          · rw [bin .sub _ _ _ _ h1 h3, ← Rat.sub_eq_add_neg]
          · unfold der
            rw [bin .sub _ _ _ _ h2 h4, ← Rat.sub_eq_add_neg]
        | mul =>
          cases h
          refine ⟨bin .mul _ _ _ _ h1 h3, ?_⟩
          unfold der
          rw [bin .add _ _ _ _ (bin .mul _ _ _ _ h2 h3) (bin .mul _ _ _ _ h1 h4)]
          show some _ = some _
          congr 1
          grind
        | div =>
          have h : (if w.1 = 0 then none else some (u.1 * w.1⁻¹, (u.2 * w.1 + -(u.1 * w.2)) * (w.1⁻¹ * w.1⁻¹))) = some (v, s) := h
          by_cases h0 : w.1 = 0
          · rw [if_pos h0] at h
            cases h
          · rw [if_neg h0] at h
            cases h
            refine ⟨?_, ?_⟩
            · rw [bin .div _ _ _ _ h1 h3]
              show (if w.1 = 0 then none else some (u.1 / w.1)) = _
              rw [if_neg h0, Rat.div_def]
            · have e2 : ev q (.pow b 2) = some (w.1 * w.1) := by
                unfold ev
                rw [h3]
                show (if w.1 = 0 ∧ (2 : Int) < 0 then none else some (pw w.1 2)) = _
                rw [if_neg (fun z => absurd z.2 (by decide))]
                unfold pw
                rw [if_neg (by decide)]
                show some (w.1 ^ 2) = _
                rw [Rat.pow_succ, Rat.pow_succ, Rat.pow_zero, Rat.one_mul]
              unfold der
              rw [bin .div _ _ _ _ (bin .sub _ _ _ _ (bin .mul _ _ _ _ h2 h3) (bin .mul _ _ _ _ h1 h4)) e2]
              have hw : w.1 * w.1 ≠ 0 := fun z => (Rat.mul_eq_zero.mp z).elim h0 h0
              show (if w.1 * w.1 = 0 then none else some ((u.2 * w.1 - u.1 * w.2) / (w.1 * w.1))) = _
              rw [if_neg hw]
              congr 1
              grind
  | .pow a k, v, s, h => by
    unfold sl at h
    cases ha : sl q a with
    | none => rw [ha] at h; cases h
    | some u =>
      rw [ha] at h
      have h : (if k = 0 then some ((1 : Rat), (0 : Rat)) else if u.1 = 0 ∧ k < 0 then none else some (pw u.1 k, (k : Rat) * pw u.1 (k - 1) * u.2)) = some (v, s) := h
      obtain ⟨h1, h2⟩ := sl_ev q a u.1 u.2 ha
      have pe : ∀ j : Int, ¬(u.1 = 0 ∧ j < 0) → ev q (.pow a j) = some (pw u.1 j) := by
        intro j hj
        unfold ev
        rw [h1]
        show (if u.1 = 0 ∧ j < 0 then none else some (pw u.1 j)) = _
        rw [if_neg hj]
      by_cases h0 : k = 0
      · rw [if_pos h0] at h
        cases h
        subst h0
        refine ⟨?_, ?_⟩
        · rw [pe 0 (fun z => absurd z.2 (by decide))]
          unfold pw
          rw [if_neg (by decide)]
          show some (u.1 ^ 0) = _
          rw [Rat.pow_zero]
        · unfold der
          rw [if_pos rfl]
          rfl
      · rw [if_neg h0] at h
        by_cases hz : u.1 = 0 ∧ k < 0
        · rw [if_pos hz] at h
          cases h
        · rw [if_neg hz] at h
          cases h
          refine ⟨pe k hz, ?_⟩
          have e1 := pe (k - 1) (fun z => hz ⟨z.1, by omega⟩)
          unfold der
          rw [if_neg h0]
          have bin : ∀ (x y : Ex) (X Y : Rat), ev q x = some X → ev q y = some Y → ev q (.bin .mul x y) = some (X * Y) := by
            intro x y X Y hx hy
            conv => lhs; unfold ev
            rw [hx, hy]
            rfl
          exact bin _ _ _ _ (bin _ _ _ _ rfl e1) h2
theorem hPY : G.PY := trivial
/-- words that differ -/
theorem ne_w : ∀ a ∈ (["num", "x", "add", "sub", "mul", "div", "neg", "exp", "log", "pow"] : List Str), ∀ b ∈ (["num", "x", "add", "sub", "mul", "div", "neg", "exp", "log", "pow"] : List Str), (a = b) ∨ (a = b) = False := by
  intro a _ b _
  by_cases h : a = b
  · exact .inl h
  · exact .inr (eq_false h)
section
variable {k : Nat} {S : Sto} {Q : DK} {E : XS}
theorem diff_ok : ∀ (e : Ex) (m : Nat) (S : Sto) (Q : DK) (E : XS), hgt e < m → Q (XD (der e)) S → semF G T m "differentiate" [XD e] S Q E
  | .num q, m, S, Q, E, h, hq => by
    obtain ⟨m, rfl⟩ : ∃ m', m = m' + 1 := ⟨m - 1, by omega⟩
    refine call_of t_differentiate rfl ?_
    simp -dsimp -implicitDefEqProofs only [ent, List.map_cons, List.map_nil, List.length_cons, List.length_nil, Nat.reduceAdd, Nat.reduceSub, Nat.zero_add, List.replicate, List.cons_append, List.nil_append, F_differentiate, XD]
    simp -dsimp -implicitDefEqProofs only [↓cov3, ↓cov2, ↓cov1, ↓E_var, ↓E_int, ↓E_bl, ↓E_non, ↓E_str, ↓E_glo, ↓E_tup, ↓E_lst, ↓E_bin, ↓E_neg, ↓E_cmp, ↓E_chn, ↓E_and, ↓E_or, ↓E_one, ↓E_not, ↓E_ifx, ↓E_idx, ↓E_slc, ↓E_call, ↓E_bi, ↓E_isi, ↓E_mth, ↓E_lc, ↓Es_nil, ↓Es_cons, ↓O_no, ↓O_some, ↓Q_no, ↓Q_c, ↓C_and, ↓C_or, ↓C_one, ↓C_not, ↓C_cmp, ↓C_chn, ↓C_v, ↓I_seq, ↓I_rng1, ↓I_rng2, ↓I_rng3, ↓I_enu, ↓I_zip, ↓I_rev, ↓S_set, ↓S_asg, ↓S_par2, ↓S_sub, ↓S_expr, ↓S_ret, ↓S_retN, ↓S_ifs, ↓S_for, ↓S_brk, ↓S_cnt, ↓S_pass, ↓S_raise, ↓S_try, ↓S_never, ex_t, ex_f, ↓S_nil, ↓S_cons, ↓kN_nx, ↓kN_rt, ↓kN_bk, ↓kN_ct, ↓kN_ex, ↓kL_nx, ↓kL_rt, ↓kL_bk, ↓kL_ct, ↓kL_ex, ↓kX_nx, ↓kX_rt, ↓kX_bk, ↓kX_ct, ↓kX_ex, ↓kend_nx, ↓kend_rt, ↓kend_bk, ↓kend_ct, ↓kend_ex, vr_some, gt_0, gt_s, stn_0, stn_s, wip_0, wip_s, wips_0, wips_s, neg_i, isi_s, o_i, tru_non, tru_bl, tru_int, tru_tup, tru_rol, c_Eq, c_NotEq, c_Lt, c_LtE, c_Gt, c_GtE, cs_Eq, cs_NotEq, cb_Eq, cb_NotEq, c2_Eq, c2_NotEq, is_non, isnot_non, is_bl, isnot_bl, is_int, isnot_int, is_str, isnot_str, is_tup, isnot_tup, is_rol, isnot_rol, is_ref, isnot_ref, is_b, isnot_b, in_s, notin_s, b_add, b_sub, b_mul, b_fdiv, b_mod, b_pow, b_addt, b_adds, atI0, atI1, atI2, atI3, slc_t, slc_r, len_s, abs_i, int_i, int_b, min_i, max_i, gcd_i, seq_t, seq_r, r1_i, r2_i, r3_i, a_nm, a_nil, a_cons, vrl_some, vrn_some, put_lget, Option.isSome_some, tru_ref, b_addl, idx_t, idx_r, idx_l, slc_l, len_t, len_r, len_l, tuple_t, tuple_r, tuple_l, list_t, list_r, list_l, app_l, rev_l, pop_l, popat_l, mT_l, seq_l, enu_l, zip_l, rev_i, rev_t, in_t, notin_t, fl_s, fl_i, fl_b, fl_n, inL_nil, inL_ss, inL_ii, List.all_cons, List.all_nil, Bool.and_self, Bool.and_true, Bool.true_and, zip_t, a_t, a_l, sub_l, isTs, isT, Option.map_some, List.length_cons, List.length_nil, Nat.reduceAdd, Nat.reduceSub, Nat.reduceLT, Nat.zero_add, Bool.false_eq_true, Bool.true_eq_false, if_false, if_true, decide_eq_true_eq, Bool.not_true, Bool.not_false, ite_true, ite_false, reduceIte, Bool.not_eq_true', decide_eq_false_iff_not, Int.cast_ofNat_Int, Int.reduceEq, Int.reduceLT, Int.reduceLE, Int.reduceNeg, Int.reduceAdd, Int.reduceSub, Int.reduceMul, Int.reduceToNat, decide_true, decide_false, not_true, not_false, not_true_eq_false, not_false_eq_true, true_and, and_true, eq_self, reduceCtorEq, List.isEmpty_nil, List.isEmpty_cons, List.nil_append, List.cons_append]
    exact hq
  | .x, m, S, Q, E, h, hq => by
    obtain ⟨m, rfl⟩ : ∃ m', m = m' + 1 := ⟨m - 1, by omega⟩
    refine call_of t_differentiate rfl ?_
    simp -dsimp -implicitDefEqProofs only [ent, List.map_cons, List.map_nil, List.length_cons, List.length_nil, Nat.reduceAdd, Nat.reduceSub, Nat.zero_add, List.replicate, List.cons_append, List.nil_append, F_differentiate, XD]
    simp -dsimp -implicitDefEqProofs only [↓cov3, ↓cov2, ↓cov1, ↓E_var, ↓E_int, ↓E_bl, ↓E_non, ↓E_str, ↓E_glo, ↓E_tup, ↓E_lst, ↓E_bin, ↓E_neg, ↓E_cmp, ↓E_chn, ↓E_and, ↓E_or, ↓E_one, ↓E_not, ↓E_ifx, ↓E_idx, ↓E_slc, ↓E_call, ↓E_bi, ↓E_isi, ↓E_mth, ↓E_lc, ↓Es_nil, ↓Es_cons, ↓O_no, ↓O_some, ↓Q_no, ↓Q_c, ↓C_and, ↓C_or, ↓C_one, ↓C_not, ↓C_cmp, ↓C_chn, ↓C_v, ↓I_seq, ↓I_rng1, ↓I_rng2, ↓I_rng3, ↓I_enu, ↓I_zip, ↓I_rev, ↓S_set, ↓S_asg, ↓S_par2, ↓S_sub, ↓S_expr, ↓S_ret, ↓S_retN, ↓S_ifs, ↓S_for, ↓S_brk, ↓S_cnt, ↓S_pass, ↓S_raise, ↓S_try, ↓S_never, ex_t, ex_f, ↓S_nil, ↓S_cons, ↓kN_nx, ↓kN_rt, ↓kN_bk, ↓kN_ct, ↓kN_ex, ↓kL_nx, ↓kL_rt, ↓kL_bk, ↓kL_ct, ↓kL_ex, ↓kX_nx, ↓kX_rt, ↓kX_bk, ↓kX_ct, ↓kX_ex, ↓kend_nx, ↓kend_rt, ↓kend_bk, ↓kend_ct, ↓kend_ex, vr_some, gt_0, gt_s, stn_0, stn_s, wip_0, wip_s, wips_0, wips_s, neg_i, isi_s, o_i, tru_non, tru_bl, tru_int, tru_tup, tru_rol, c_Eq, c_NotEq, c_Lt, c_LtE, c_Gt, c_GtE, cs_Eq, cs_NotEq, cb_Eq, cb_NotEq, c2_Eq, c2_NotEq, is_non, isnot_non, is_bl, isnot_bl, is_int, isnot_int, is_str, isnot_str, is_tup, isnot_tup, is_rol, isnot_rol, is_ref, isnot_ref, is_b, isnot_b, in_s, notin_s, b_add, b_sub, b_mul, b_fdiv, b_mod, b_pow, b_addt, b_adds, atI0, atI1, atI2, atI3, slc_t, slc_r, len_s, abs_i, int_i, int_b, min_i, max_i, gcd_i, seq_t, seq_r, r1_i, r2_i, r3_i, a_nm, a_nil, a_cons, vrl_some, vrn_some, put_lget, Option.isSome_some, tru_ref, b_addl, idx_t, idx_r, idx_l, slc_l, len_t, len_r, len_l, tuple_t, tuple_r, tuple_l, list_t, list_r, list_l, app_l, rev_l, pop_l, popat_l, mT_l, seq_l, enu_l, zip_l, rev_i, rev_t, in_t, notin_t, fl_s, fl_i, fl_b, fl_n, inL_nil, inL_ss, inL_ii, List.all_cons, List.all_nil, Bool.and_self, Bool.and_true, Bool.true_and, zip_t, a_t, a_l, sub_l, isTs, isT, Option.map_some, List.length_cons, List.length_nil, Nat.reduceAdd, Nat.reduceSub, Nat.reduceLT, Nat.zero_add, Bool.false_eq_true, Bool.true_eq_false, if_false, if_true, decide_eq_true_eq, Bool.not_true, Bool.not_false, ite_true, ite_false, reduceIte, Bool.not_eq_true', decide_eq_false_iff_not, Int.cast_ofNat_Int, Int.reduceEq, Int.reduceLT, Int.reduceLE, Int.reduceNeg, Int.reduceAdd, Int.reduceSub, Int.reduceMul, Int.reduceToNat, decide_true, decide_false, not_true, not_false, not_true_eq_false, not_false_eq_true, true_and, and_true, eq_self, reduceCtorEq, List.isEmpty_nil, List.isEmpty_cons, List.nil_append, List.cons_append, lit_inj, String.reduceEq, inL_ss, Bool.or_false, Bool.false_or, Bool.or_true, Bool.true_or, opS]
    exact hq
  | .neg a, m, S, Q, E, h, hq => by
    obtain ⟨m, rfl⟩ : ∃ m', m = m' + 1 := ⟨m - 1, by omega⟩
    refine call_of t_differentiate rfl ?_
    have h1 : hgt a < m := by unfold hgt at h; omega
    simp -dsimp -implicitDefEqProofs only [ent, List.map_cons, List.map_nil, List.length_cons, List.length_nil, Nat.reduceAdd, Nat.reduceSub, Nat.zero_add, List.replicate, List.cons_append, List.nil_append, F_differentiate, XD]
    simp -dsimp -implicitDefEqProofs only [↓cov3, ↓cov2, ↓cov1, ↓E_var, ↓E_int, ↓E_bl, ↓E_non, ↓E_str, ↓E_glo, ↓E_tup, ↓E_lst, ↓E_bin, ↓E_neg, ↓E_cmp, ↓E_chn, ↓E_and, ↓E_or, ↓E_one, ↓E_not, ↓E_ifx, ↓E_idx, ↓E_slc, ↓E_call, ↓E_bi, ↓E_isi, ↓E_mth, ↓E_lc, ↓Es_nil, ↓Es_cons, ↓O_no, ↓O_some, ↓Q_no, ↓Q_c, ↓C_and, ↓C_or, ↓C_one, ↓C_not, ↓C_cmp, ↓C_chn, ↓C_v, ↓I_seq, ↓I_rng1, ↓I_rng2, ↓I_rng3, ↓I_enu, ↓I_zip, ↓I_rev, ↓S_set, ↓S_asg, ↓S_par2, ↓S_sub, ↓S_expr, ↓S_ret, ↓S_retN, ↓S_ifs, ↓S_for, ↓S_brk, ↓S_cnt, ↓S_pass, ↓S_raise, ↓S_try, ↓S_never, ex_t, ex_f, ↓S_nil, ↓S_cons, ↓kN_nx, ↓kN_rt, ↓kN_bk, ↓kN_ct, ↓kN_ex, ↓kL_nx, ↓kL_rt, ↓kL_bk, ↓kL_ct, ↓kL_ex, ↓kX_nx, ↓kX_rt, ↓kX_bk, ↓kX_ct, ↓kX_ex, ↓kend_nx, ↓kend_rt, ↓kend_bk, ↓kend_ct, ↓kend_ex, vr_some, gt_0, gt_s, stn_0, stn_s, wip_0, wip_s, wips_0, wips_s, neg_i, isi_s, o_i, tru_non, tru_bl, tru_int, tru_tup, tru_rol, c_Eq, c_NotEq, c_Lt, c_LtE, c_Gt, c_GtE, cs_Eq, cs_NotEq, cb_Eq, cb_NotEq, c2_Eq, c2_NotEq, is_non, isnot_non, is_bl, isnot_bl, is_int, isnot_int, is_str, isnot_str, is_tup, isnot_tup, is_rol, isnot_rol, is_ref, isnot_ref, is_b, isnot_b, in_s, notin_s, b_add, b_sub, b_mul, b_fdiv, b_mod, b_pow, b_addt, b_adds, atI0, atI1, atI2, atI3, slc_t, slc_r, len_s, abs_i, int_i, int_b, min_i, max_i, gcd_i, seq_t, seq_r, r1_i, r2_i, r3_i, a_nm, a_nil, a_cons, vrl_some, vrn_some, put_lget, Option.isSome_some, tru_ref, b_addl, idx_t, idx_r, idx_l, slc_l, len_t, len_r, len_l, tuple_t, tuple_r, tuple_l, list_t, list_r, list_l, app_l, rev_l, pop_l, popat_l, mT_l, seq_l, enu_l, zip_l, rev_i, rev_t, in_t, notin_t, fl_s, fl_i, fl_b, fl_n, inL_nil, inL_ss, inL_ii, List.all_cons, List.all_nil, Bool.and_self, Bool.and_true, Bool.true_and, zip_t, a_t, a_l, sub_l, isTs, isT, Option.map_some, List.length_cons, List.length_nil, Nat.reduceAdd, Nat.reduceSub, Nat.reduceLT, Nat.zero_add, Bool.false_eq_true, Bool.true_eq_false, if_false, if_true, decide_eq_true_eq, Bool.not_true, Bool.not_false, ite_true, ite_false, reduceIte, Bool.not_eq_true', decide_eq_false_iff_not, Int.cast_ofNat_Int, Int.reduceEq, Int.reduceLT, Int.reduceLE, Int.reduceNeg, Int.reduceAdd, Int.reduceSub, Int.reduceMul, Int.reduceToNat, decide_true, decide_false, not_true, not_false, not_true_eq_false, not_false_eq_true, true_and, and_true, eq_self, reduceCtorEq, List.isEmpty_nil, List.isEmpty_cons, List.nil_append, List.cons_append, lit_inj, String.reduceEq, inL_ss, Bool.or_false, Bool.false_or, Bool.or_true, Bool.true_or, opS]
    refine diff_ok a m _ _ _ h1 ?_
    simp -dsimp -implicitDefEqProofs only [↓cov3, ↓cov2, ↓cov1, ↓E_var, ↓E_int, ↓E_bl, ↓E_non, ↓E_str, ↓E_glo, ↓E_tup, ↓E_lst, ↓E_bin, ↓E_neg, ↓E_cmp, ↓E_chn, ↓E_and, ↓E_or, ↓E_one, ↓E_not, ↓E_ifx, ↓E_idx, ↓E_slc, ↓E_call, ↓E_bi, ↓E_isi, ↓E_mth, ↓E_lc, ↓Es_nil, ↓Es_cons, ↓O_no, ↓O_some, ↓Q_no, ↓Q_c, ↓C_and, ↓C_or, ↓C_one, ↓C_not, ↓C_cmp, ↓C_chn, ↓C_v, ↓I_seq, ↓I_rng1, ↓I_rng2, ↓I_rng3, ↓I_enu, ↓I_zip, ↓I_rev, ↓S_set, ↓S_asg, ↓S_par2, ↓S_sub, ↓S_expr, ↓S_ret, ↓S_retN, ↓S_ifs, ↓S_for, ↓S_brk, ↓S_cnt, ↓S_pass, ↓S_raise, ↓S_try, ↓S_never, ex_t, ex_f, ↓S_nil, ↓S_cons, ↓kN_nx, ↓kN_rt, ↓kN_bk, ↓kN_ct, ↓kN_ex, ↓kL_nx, ↓kL_rt, ↓kL_bk, ↓kL_ct, ↓kL_ex, ↓kX_nx, ↓kX_rt, ↓kX_bk, ↓kX_ct, ↓kX_ex, ↓kend_nx, ↓kend_rt, ↓kend_bk, ↓kend_ct, ↓kend_ex, vr_some, gt_0, gt_s, stn_0, stn_s, wip_0, wip_s, wips_0, wips_s, neg_i, isi_s, o_i, tru_non, tru_bl, tru_int, tru_tup, tru_rol, c_Eq, c_NotEq, c_Lt, c_LtE, c_Gt, c_GtE, cs_Eq, cs_NotEq, cb_Eq, cb_NotEq, c2_Eq, c2_NotEq, is_non, isnot_non, is_bl, isnot_bl, is_int, isnot_int, is_str, isnot_str, is_tup, isnot_tup, is_rol, isnot_rol, is_ref, isnot_ref, is_b, isnot_b, in_s, notin_s, b_add, b_sub, b_mul, b_fdiv, b_mod, b_pow, b_addt, b_adds, atI0, atI1, atI2, atI3, slc_t, slc_r, len_s, abs_i, int_i, int_b, min_i, max_i, gcd_i, seq_t, seq_r, r1_i, r2_i, r3_i, a_nm, a_nil, a_cons, vrl_some, vrn_some, put_lget, Option.isSome_some, tru_ref, b_addl, idx_t, idx_r, idx_l, slc_l, len_t, len_r, len_l, tuple_t, tuple_r, tuple_l, list_t, list_r, list_l, app_l, rev_l, pop_l, popat_l, mT_l, seq_l, enu_l, zip_l, rev_i, rev_t, in_t, notin_t, fl_s, fl_i, fl_b, fl_n, inL_nil, inL_ss, inL_ii, List.all_cons, List.all_nil, Bool.and_self, Bool.and_true, Bool.true_and, zip_t, a_t, a_l, sub_l, isTs, isT, Option.map_some, List.length_cons, List.length_nil, Nat.reduceAdd, Nat.reduceSub, Nat.reduceLT, Nat.zero_add, Bool.false_eq_true, Bool.true_eq_false, if_false, if_true, decide_eq_true_eq, Bool.not_true, Bool.not_false, ite_true, ite_false, reduceIte, Bool.not_eq_true', decide_eq_false_iff_not, Int.cast_ofNat_Int, Int.reduceEq, Int.reduceLT, Int.reduceLE, Int.reduceNeg, Int.reduceAdd, Int.reduceSub, Int.reduceMul, Int.reduceToNat, decide_true, decide_false, not_true, not_false, not_true_eq_false, not_false_eq_true, true_and, and_true, eq_self, reduceCtorEq, List.isEmpty_nil, List.isEmpty_cons, List.nil_append, List.cons_append, lit_inj, String.reduceEq, inL_ss, Bool.or_false, Bool.false_or, Bool.or_true, Bool.true_or, opS]
    exact hq
  | .exp a, m, S, Q, E, h, hq => by
    obtain ⟨m, rfl⟩ : ∃ m', m = m' + 1 := ⟨m - 1, by omega⟩
    refine call_of t_differentiate rfl ?_
    have h1 : hgt a < m := by unfold hgt at h; omega
    simp -dsimp -implicitDefEqProofs only [ent, List.map_cons, List.map_nil, List.length_cons, List.length_nil, Nat.reduceAdd, Nat.reduceSub, Nat.zero_add, List.replicate, List.cons_append, List.nil_append, F_differentiate, XD]
    simp -dsimp -implicitDefEqProofs only [↓cov3, ↓cov2, ↓cov1, ↓E_var, ↓E_int, ↓E_bl, ↓E_non, ↓E_str, ↓E_glo, ↓E_tup, ↓E_lst, ↓E_bin, ↓E_neg, ↓E_cmp, ↓E_chn, ↓E_and, ↓E_or, ↓E_one, ↓E_not, ↓E_ifx, ↓E_idx, ↓E_slc, ↓E_call, ↓E_bi, ↓E_isi, ↓E_mth, ↓E_lc, ↓Es_nil, ↓Es_cons, ↓O_no, ↓O_some, ↓Q_no, ↓Q_c, ↓C_and, ↓C_or, ↓C_one, ↓C_not, ↓C_cmp, ↓C_chn, ↓C_v, ↓I_seq, ↓I_rng1, ↓I_rng2, ↓I_rng3, ↓I_enu, ↓I_zip, ↓I_rev, ↓S_set, ↓S_asg, ↓S_par2, ↓S_sub, ↓S_expr, ↓S_ret, ↓S_retN, ↓S_ifs, ↓S_for, ↓S_brk, ↓S_cnt, ↓S_pass, ↓S_raise, ↓S_try, ↓S_never, ex_t, ex_f, ↓S_nil, ↓S_cons, ↓kN_nx, ↓kN_rt, ↓kN_bk, ↓kN_ct, ↓kN_ex, ↓kL_nx, ↓kL_rt, ↓kL_bk, ↓kL_ct, ↓kL_ex, ↓kX_nx, ↓kX_rt, ↓kX_bk, ↓kX_ct, ↓kX_ex, ↓kend_nx, ↓kend_rt, ↓kend_bk, ↓kend_ct, ↓kend_ex, vr_some, gt_0, gt_s, stn_0, stn_s, wip_0, wip_s, wips_0, wips_s, neg_i, isi_s, o_i, tru_non, tru_bl, tru_int, tru_tup, tru_rol, c_Eq, c_NotEq, c_Lt, c_LtE, c_Gt, c_GtE, cs_Eq, cs_NotEq, cb_Eq, cb_NotEq, c2_Eq, c2_NotEq, is_non, isnot_non, is_bl, isnot_bl, is_int, isnot_int, is_str, isnot_str, is_tup, isnot_tup, is_rol, isnot_rol, is_ref, isnot_ref, is_b, isnot_b, in_s, notin_s, b_add, b_sub, b_mul, b_fdiv, b_mod, b_pow, b_addt, b_adds, atI0, atI1, atI2, atI3, slc_t, slc_r, len_s, abs_i, int_i, int_b, min_i, max_i, gcd_i, seq_t, seq_r, r1_i, r2_i, r3_i, a_nm, a_nil, a_cons, vrl_some, vrn_some, put_lget, Option.isSome_some, tru_ref, b_addl, idx_t, idx_r, idx_l, slc_l, len_t, len_r, len_l, tuple_t, tuple_r, tuple_l, list_t, list_r, list_l, app_l, rev_l, pop_l, popat_l, mT_l, seq_l, enu_l, zip_l, rev_i, rev_t, in_t, notin_t, fl_s, fl_i, fl_b, fl_n, inL_nil, inL_ss, inL_ii, List.all_cons, List.all_nil, Bool.and_self, Bool.and_true, Bool.true_and, zip_t, a_t, a_l, sub_l, isTs, isT, Option.map_some, List.length_cons, List.length_nil, Nat.reduceAdd, Nat.reduceSub, Nat.reduceLT, Nat.zero_add, Bool.false_eq_true, Bool.true_eq_false, if_false, if_true, decide_eq_true_eq, Bool.not_true, Bool.not_false, ite_true, ite_false, reduceIte, Bool.not_eq_true', decide_eq_false_iff_not, Int.cast_ofNat_Int, Int.reduceEq, Int.reduceLT, Int.reduceLE, Int.reduceNeg, Int.reduceAdd, Int.reduceSub, Int.reduceMul, Int.reduceToNat, decide_true, decide_false, not_true, not_false, not_true_eq_false, not_false_eq_true, true_and, and_true, eq_self, reduceCtorEq, List.isEmpty_nil, List.isEmpty_cons, List.nil_append, List.cons_append, lit_inj, String.reduceEq, inL_ss, Bool.or_false, Bool.false_or, Bool.or_true, Bool.true_or, opS]
    refine diff_ok a m _ _ _ h1 ?_
    simp -dsimp -implicitDefEqProofs only [↓cov3, ↓cov2, ↓cov1, ↓E_var, ↓E_int, ↓E_bl, ↓E_non, ↓E_str, ↓E_glo, ↓E_tup, ↓E_lst, ↓E_bin, ↓E_neg, ↓E_cmp, ↓E_chn, ↓E_and, ↓E_or, ↓E_one, ↓E_not, ↓E_ifx, ↓E_idx, ↓E_slc, ↓E_call, ↓E_bi, ↓E_isi, ↓E_mth, ↓E_lc, ↓Es_nil, ↓Es_cons, ↓O_no, ↓O_some, ↓Q_no, ↓Q_c, ↓C_and, ↓C_or, ↓C_one, ↓C_not, ↓C_cmp, ↓C_chn, ↓C_v, ↓I_seq, ↓I_rng1, ↓I_rng2, ↓I_rng3, ↓I_enu, ↓I_zip, ↓I_rev, ↓S_set, ↓S_asg, ↓S_par2, ↓S_sub, ↓S_expr, ↓S_ret, ↓S_retN, ↓S_ifs, ↓S_for, ↓S_brk, ↓S_cnt, ↓S_pass, ↓S_raise, ↓S_try, ↓S_never, ex_t, ex_f, ↓S_nil, ↓S_cons, ↓kN_nx, ↓kN_rt, ↓kN_bk, ↓kN_ct, ↓kN_ex, ↓kL_nx, ↓kL_rt, ↓kL_bk, ↓kL_ct, ↓kL_ex, ↓kX_nx, ↓kX_rt, ↓kX_bk, ↓kX_ct, ↓kX_ex, ↓kend_nx, ↓kend_rt, ↓kend_bk, ↓kend_ct, ↓kend_ex, vr_some, gt_0, gt_s, stn_0, stn_s, wip_0, wip_s, wips_0, wips_s, neg_i, isi_s, o_i, tru_non, tru_bl, tru_int, tru_tup, tru_rol, c_Eq, c_NotEq, c_Lt, c_LtE, c_Gt, c_GtE, cs_Eq, cs_NotEq, cb_Eq, cb_NotEq, c2_Eq, c2_NotEq, is_non, isnot_non, is_bl, isnot_bl, is_int, isnot_int, is_str, isnot_str, is_tup, isnot_tup, is_rol, isnot_rol, is_ref, isnot_ref, is_b, isnot_b, in_s, notin_s, b_add, b_sub, b_mul, b_fdiv, b_mod, b_pow, b_addt, b_adds, atI0, atI1, atI2, atI3, slc_t, slc_r, len_s, abs_i, int_i, int_b, min_i, max_i, gcd_i, seq_t, seq_r, r1_i, r2_i, r3_i, a_nm, a_nil, a_cons, vrl_some, vrn_some, put_lget, Option.isSome_some, tru_ref, b_addl, idx_t, idx_r, idx_l, slc_l, len_t, len_r, len_l, tuple_t, tuple_r, tuple_l, list_t, list_r, list_l, app_l, rev_l, pop_l, popat_l, mT_l, seq_l, enu_l, zip_l, rev_i, rev_t, in_t, notin_t, fl_s, fl_i, fl_b, fl_n, inL_nil, inL_ss, inL_ii, List.all_cons, List.all_nil, Bool.and_self, Bool.and_true, Bool.true_and, zip_t, a_t, a_l, sub_l, isTs, isT, Option.map_some, List.length_cons, List.length_nil, Nat.reduceAdd, Nat.reduceSub, Nat.reduceLT, Nat.zero_add, Bool.false_eq_true, Bool.true_eq_false, if_false, if_true, decide_eq_true_eq, Bool.not_true, Bool.not_false, ite_true, ite_false, reduceIte, Bool.not_eq_true', decide_eq_false_iff_not, Int.cast_ofNat_Int, Int.reduceEq, Int.reduceLT, Int.reduceLE, Int.reduceNeg, Int.reduceAdd, Int.reduceSub, Int.reduceMul, Int.reduceToNat, decide_true, decide_false, not_true, not_false, not_true_eq_false, not_false_eq_true, true_and, and_true, eq_self, reduceCtorEq, List.isEmpty_nil, List.isEmpty_cons, List.nil_append, List.cons_append, lit_inj, String.reduceEq, inL_ss, Bool.or_false, Bool.false_or, Bool.or_true, Bool.true_or, opS]
    exact hq
  | .log a, m, S, Q, E, h, hq => by
    obtain ⟨m, rfl⟩ : ∃ m', m = m' + 1 := ⟨m - 1, by omega⟩
    refine call_of t_differentiate rfl ?_
    have h1 : hgt a < m := by unfold hgt at h; omega
    simp -dsimp -implicitDefEqProofs only [ent, List.map_cons, List.map_nil, List.length_cons, List.length_nil, Nat.reduceAdd, Nat.reduceSub, Nat.zero_add, List.replicate, List.cons_append, List.nil_append, F_differentiate, XD]
    simp -dsimp -implicitDefEqProofs only [↓cov3, ↓cov2, ↓cov1, ↓E_var, ↓E_int, ↓E_bl, ↓E_non, ↓E_str, ↓E_glo, ↓E_tup, ↓E_lst, ↓E_bin, ↓E_neg, ↓E_cmp, ↓E_chn, ↓E_and, ↓E_or, ↓E_one, ↓E_not, ↓E_ifx, ↓E_idx, ↓E_slc, ↓E_call, ↓E_bi, ↓E_isi, ↓E_mth, ↓E_lc, ↓Es_nil, ↓Es_cons, ↓O_no, ↓O_some, ↓Q_no, ↓Q_c, ↓C_and, ↓C_or, ↓C_one, ↓C_not, ↓C_cmp, ↓C_chn, ↓C_v, ↓I_seq, ↓I_rng1, ↓I_rng2, ↓I_rng3, ↓I_enu, ↓I_zip, ↓I_rev, ↓S_set, ↓S_asg, ↓S_par2, ↓S_sub, ↓S_expr, ↓S_ret, ↓S_retN, ↓S_ifs, ↓S_for, ↓S_brk, ↓S_cnt, ↓S_pass, ↓S_raise, ↓S_try, ↓S_never, ex_t, ex_f, ↓S_nil, ↓S_cons, ↓kN_nx, ↓kN_rt, ↓kN_bk, ↓kN_ct, ↓kN_ex, ↓kL_nx, ↓kL_rt, ↓kL_bk, ↓kL_ct, ↓kL_ex, ↓kX_nx, ↓kX_rt, ↓kX_bk, ↓kX_ct, ↓kX_ex, ↓kend_nx, ↓kend_rt, ↓kend_bk, ↓kend_ct, ↓kend_ex, vr_some, gt_0, gt_s, stn_0, stn_s, wip_0, wip_s, wips_0, wips_s, neg_i, isi_s, o_i, tru_non, tru_bl, tru_int, tru_tup, tru_rol, c_Eq, c_NotEq, c_Lt, c_LtE, c_Gt, c_GtE, cs_Eq, cs_NotEq, cb_Eq, cb_NotEq, c2_Eq, c2_NotEq, is_non, isnot_non, is_bl, isnot_bl, is_int, isnot_int, is_str, isnot_str, is_tup, isnot_tup, is_rol, isnot_rol, is_ref, isnot_ref, is_b, isnot_b, in_s, notin_s, b_add, b_sub, b_mul, b_fdiv, b_mod, b_pow, b_addt, b_adds, atI0, atI1, atI2, atI3, slc_t, slc_r, len_s, abs_i, int_i, int_b, min_i, max_i, gcd_i, seq_t, seq_r, r1_i, r2_i, r3_i, a_nm, a_nil, a_cons, vrl_some, vrn_some, put_lget, Option.isSome_some, tru_ref, b_addl, idx_t, idx_r, idx_l, slc_l, len_t, len_r, len_l, tuple_t, tuple_r, tuple_l, list_t, list_r, list_l, app_l, rev_l, pop_l, popat_l, mT_l, seq_l, enu_l, zip_l, rev_i, rev_t, in_t, notin_t, fl_s, fl_i, fl_b, fl_n, inL_nil, inL_ss, inL_ii, List.all_cons, List.all_nil, Bool.and_self, Bool.and_true, Bool.true_and, zip_t, a_t, a_l, sub_l, isTs, isT, Option.map_some, List.length_cons, List.length_nil, Nat.reduceAdd, Nat.reduceSub, Nat.reduceLT, Nat.zero_add, Bool.false_eq_true, Bool.true_eq_false, if_false, if_true, decide_eq_true_eq, Bool.not_true, Bool.not_false, ite_true, ite_false, reduceIte, Bool.not_eq_true', decide_eq_false_iff_not, Int.cast_ofNat_Int, Int.reduceEq, Int.reduceLT, Int.reduceLE, Int.reduceNeg, Int.reduceAdd, Int.reduceSub, Int.reduceMul, Int.reduceToNat, decide_true, decide_false, not_true, not_false, not_true_eq_false, not_false_eq_true, true_and, and_true, eq_self, reduceCtorEq, List.isEmpty_nil, List.isEmpty_cons, List.nil_append, List.cons_append, lit_inj, String.reduceEq, inL_ss, Bool.or_false, Bool.false_or, Bool.or_true, Bool.true_or, opS]
    refine diff_ok a m _ _ _ h1 ?_
    simp -dsimp -implicitDefEqProofs only [↓cov3, ↓cov2, ↓cov1, ↓E_var, ↓E_int, ↓E_bl, ↓E_non, ↓E_str, ↓E_glo, ↓E_tup, ↓E_lst, ↓E_bin, ↓E_neg, ↓E_cmp, ↓E_chn, ↓E_and, ↓E_or, ↓E_one, ↓E_not, ↓E_ifx, ↓E_idx, ↓E_slc, ↓E_call, ↓E_bi, ↓E_isi, ↓E_mth, ↓E_lc, ↓Es_nil, ↓Es_cons, ↓O_no, ↓O_some, ↓Q_no, ↓Q_c, ↓C_and, ↓C_or, ↓C_one, ↓C_not, ↓C_cmp, ↓C_chn, ↓C_v, ↓I_seq, ↓I_rng1, ↓I_rng2, ↓I_rng3, ↓I_enu, ↓I_zip, ↓I_rev, ↓S_set, ↓S_asg, ↓S_par2, ↓S_sub, ↓S_expr, ↓S_ret, ↓S_retN, ↓S_ifs, ↓S_for, ↓S_brk, ↓S_cnt, ↓S_pass, ↓S_raise, ↓S_try, ↓S_never, ex_t, ex_f, ↓S_nil, ↓S_cons, ↓kN_nx, ↓kN_rt, ↓kN_bk, ↓kN_ct, ↓kN_ex, ↓kL_nx, ↓kL_rt, ↓kL_bk, ↓kL_ct, ↓kL_ex, ↓kX_nx, ↓kX_rt, ↓kX_bk, ↓kX_ct, ↓kX_ex, ↓kend_nx, ↓kend_rt, ↓kend_bk, ↓kend_ct, ↓kend_ex, vr_some, gt_0, gt_s, stn_0, stn_s, wip_0, wip_s, wips_0, wips_s, neg_i, isi_s, o_i, tru_non, tru_bl, tru_int, tru_tup, tru_rol, c_Eq, c_NotEq, c_Lt, c_LtE, c_Gt, c_GtE, cs_Eq, cs_NotEq, cb_Eq, cb_NotEq, c2_Eq, c2_NotEq, is_non, isnot_non, is_bl, isnot_bl, is_int, isnot_int, is_str, isnot_str, is_tup, isnot_tup, is_rol, isnot_rol, is_ref, isnot_ref, is_b, isnot_b, in_s, notin_s, b_add, b_sub, b_mul, b_fdiv, b_mod, b_pow, b_addt, b_adds, atI0, atI1, atI2, atI3, slc_t, slc_r, len_s, abs_i, int_i, int_b, min_i, max_i, gcd_i, seq_t, seq_r, r1_i, r2_i, r3_i, a_nm, a_nil, a_cons, vrl_some, vrn_some, put_lget, Option.isSome_some, tru_ref, b_addl, idx_t, idx_r, idx_l, slc_l, len_t, len_r, len_l, tuple_t, tuple_r, tuple_l, list_t, list_r, list_l, app_l, rev_l, pop_l, popat_l, mT_l, seq_l, enu_l, zip_l, rev_i, rev_t, in_t, notin_t, fl_s, fl_i, fl_b, fl_n, inL_nil, inL_ss, inL_ii, List.all_cons, List.all_nil, Bool.and_self, Bool.and_true, Bool.true_and, zip_t, a_t, a_l, sub_l, isTs, isT, Option.map_some, List.length_cons, List.length_nil, Nat.reduceAdd, Nat.reduceSub, Nat.reduceLT, Nat.zero_add, Bool.false_eq_true, Bool.true_eq_false, if_false, if_true, decide_eq_true_eq, Bool.not_true, Bool.not_false, ite_true, ite_false, reduceIte, Bool.not_eq_true', decide_eq_false_iff_not, Int.cast_ofNat_Int, Int.reduceEq, Int.reduceLT, Int.reduceLE, Int.reduceNeg, Int.reduceAdd, Int.reduceSub, Int.reduceMul, Int.reduceToNat, decide_true, decide_false, not_true, not_false, not_true_eq_false, not_false_eq_true, true_and, and_true, eq_self, reduceCtorEq, List.isEmpty_nil, List.isEmpty_cons, List.nil_append, List.cons_append, lit_inj, String.reduceEq, inL_ss, Bool.or_false, Bool.false_or, Bool.or_true, Bool.true_or, opS]
    exact hq
  | .bin .add a b, m, S, Q, E, h, hq => by
    obtain ⟨m, rfl⟩ : ∃ m', m = m' + 1 := ⟨m - 1, by omega⟩
    refine call_of t_differentiate rfl ?_
    have h1 : hgt a < m := by unfold hgt at h; omega
    have h2 : hgt b < m := by unfold hgt at h; omega
    simp -dsimp -implicitDefEqProofs only [ent, List.map_cons, List.map_nil, List.length_cons, List.length_nil, Nat.reduceAdd, Nat.reduceSub, Nat.zero_add, List.replicate, List.cons_append, List.nil_append, F_differentiate, XD]
    simp -dsimp -implicitDefEqProofs only [↓cov3, ↓cov2, ↓cov1, ↓E_var, ↓E_int, ↓E_bl, ↓E_non, ↓E_str, ↓E_glo, ↓E_tup, ↓E_lst, ↓E_bin, ↓E_neg, ↓E_cmp, ↓E_chn, ↓E_and, ↓E_or, ↓E_one, ↓E_not, ↓E_ifx, ↓E_idx, ↓E_slc, ↓E_call, ↓E_bi, ↓E_isi, ↓E_mth, ↓E_lc, ↓Es_nil, ↓Es_cons, ↓O_no, ↓O_some, ↓Q_no, ↓Q_c, ↓C_and, ↓C_or, ↓C_one, ↓C_not, ↓C_cmp, ↓C_chn, ↓C_v, ↓I_seq, ↓I_rng1, ↓I_rng2, ↓I_rng3, ↓I_enu, ↓I_zip, ↓I_rev, ↓S_set, ↓S_asg, ↓S_par2, ↓S_sub, ↓S_expr, ↓S_ret, ↓S_retN, ↓S_ifs, ↓S_for, ↓S_brk, ↓S_cnt, ↓S_pass, ↓S_raise, ↓S_try, ↓S_never, ex_t, ex_f, ↓S_nil, ↓S_cons, ↓kN_nx, ↓kN_rt, ↓kN_bk, ↓kN_ct, ↓kN_ex, ↓kL_nx, ↓kL_rt, ↓kL_bk, ↓kL_ct, ↓kL_ex, ↓kX_nx, ↓kX_rt, ↓kX_bk, ↓kX_ct, ↓kX_ex, ↓kend_nx, ↓kend_rt, ↓kend_bk, ↓kend_ct, ↓kend_ex, vr_some, gt_0, gt_s, stn_0, stn_s, wip_0, wip_s, wips_0, wips_s, neg_i, isi_s, o_i, tru_non, tru_bl, tru_int, tru_tup, tru_rol, c_Eq, c_NotEq, c_Lt, c_LtE, c_Gt, c_GtE, cs_Eq, cs_NotEq, cb_Eq, cb_NotEq, c2_Eq, c2_NotEq, is_non, isnot_non, is_bl, isnot_bl, is_int, isnot_int, is_str, isnot_str, is_tup, isnot_tup, is_rol, isnot_rol, is_ref, isnot_ref, is_b, isnot_b, in_s, notin_s, b_add, b_sub, b_mul, b_fdiv, b_mod, b_pow, b_addt, b_adds, atI0, atI1, atI2, atI3, slc_t, slc_r, len_s, abs_i, int_i, int_b, min_i, max_i, gcd_i, seq_t, seq_r, r1_i, r2_i, r3_i, a_nm, a_nil, a_cons, vrl_some, vrn_some, put_lget, Option.isSome_some, tru_ref, b_addl, idx_t, idx_r, idx_l, slc_l, len_t, len_r, len_l, tuple_t, tuple_r, tuple_l, list_t, list_r, list_l, app_l, rev_l, pop_l, popat_l, mT_l, seq_l, enu_l, zip_l, rev_i, rev_t, in_t, notin_t, fl_s, fl_i, fl_b, fl_n, inL_nil, inL_ss, inL_ii, List.all_cons, List.all_nil, Bool.and_self, Bool.and_true, Bool.true_and, zip_t, a_t, a_l, sub_l, isTs, isT, Option.map_some, List.length_cons, List.length_nil, Nat.reduceAdd, Nat.reduceSub, Nat.reduceLT, Nat.zero_add, Bool.false_eq_true, Bool.true_eq_false, if_false, if_true, decide_eq_true_eq, Bool.not_true, Bool.not_false, ite_true, ite_false, reduceIte, Bool.not_eq_true', decide_eq_false_iff_not, Int.cast_ofNat_Int, Int.reduceEq, Int.reduceLT, Int.reduceLE, Int.reduceNeg, Int.reduceAdd, Int.reduceSub, Int.reduceMul, Int.reduceToNat, decide_true, decide_false, not_true, not_false, not_true_eq_false, not_false_eq_true, true_and, and_true, eq_self, reduceCtorEq, List.isEmpty_nil, List.isEmpty_cons, List.nil_append, List.cons_append, lit_inj, String.reduceEq, inL_ss, Bool.or_false, Bool.false_or, Bool.or_true, Bool.true_or, opS]
    refine diff_ok a m _ _ _ h1 ?_
    simp -dsimp -implicitDefEqProofs only [↓cov3, ↓cov2, ↓cov1, ↓E_var, ↓E_int, ↓E_bl, ↓E_non, ↓E_str, ↓E_glo, ↓E_tup, ↓E_lst, ↓E_bin, ↓E_neg, ↓E_cmp, ↓E_chn, ↓E_and, ↓E_or, ↓E_one, ↓E_not, ↓E_ifx, ↓E_idx, ↓E_slc, ↓E_call, ↓E_bi, ↓E_isi, ↓E_mth, ↓E_lc, ↓Es_nil, ↓Es_cons, ↓O_no, ↓O_some, ↓Q_no, ↓Q_c, ↓C_and, ↓C_or, ↓C_one, ↓C_not, ↓C_cmp, ↓C_chn, ↓C_v, ↓I_seq, ↓I_rng1, ↓I_rng2, ↓I_rng3, ↓I_enu, ↓I_zip, ↓I_rev, ↓S_set, ↓S_asg, ↓S_par2, ↓S_sub, ↓S_expr, ↓S_ret, ↓S_retN, ↓S_ifs, ↓S_for, ↓S_brk, ↓S_cnt, ↓S_pass, ↓S_raise, ↓S_try, ↓S_never, ex_t, ex_f, ↓S_nil, ↓S_cons, ↓kN_nx, ↓kN_rt, ↓kN_bk, ↓kN_ct, ↓kN_ex, ↓kL_nx, ↓kL_rt, ↓kL_bk, ↓kL_ct, ↓kL_ex, ↓kX_nx, ↓kX_rt, ↓kX_bk, ↓kX_ct, ↓kX_ex, ↓kend_nx, ↓kend_rt, ↓kend_bk, ↓kend_ct, ↓kend_ex, vr_some, gt_0, gt_s, stn_0, stn_s, wip_0, wip_s, wips_0, wips_s, neg_i, isi_s, o_i, tru_non, tru_bl, tru_int, tru_tup, tru_rol, c_Eq, c_NotEq, c_Lt, c_LtE, c_Gt, c_GtE, cs_Eq, cs_NotEq, cb_Eq, cb_NotEq, c2_Eq, c2_NotEq, is_non, isnot_non, is_bl, isnot_bl, is_int, isnot_int, is_str, isnot_str, is_tup, isnot_tup, is_rol, isnot_rol, is_ref, isnot_ref, is_b, isnot_b, in_s, notin_s, b_add, b_sub, b_mul, b_fdiv, b_mod, b_pow, b_addt, b_adds, atI0, atI1, atI2, atI3, slc_t, slc_r, len_s, abs_i, int_i, int_b, min_i, max_i, gcd_i, seq_t, seq_r, r1_i, r2_i, r3_i, a_nm, a_nil, a_cons, vrl_some, vrn_some, put_lget, Option.isSome_some, tru_ref, b_addl, idx_t, idx_r, idx_l, slc_l, len_t, len_r, len_l, tuple_t, tuple_r, tuple_l, list_t, list_r, list_l, app_l, rev_l, pop_l, popat_l, mT_l, seq_l, enu_l, zip_l, rev_i, rev_t, in_t, notin_t, fl_s, fl_i, fl_b, fl_n, inL_nil, inL_ss, inL_ii, List.all_cons, List.all_nil, Bool.and_self, Bool.and_true, Bool.true_and, zip_t, a_t, a_l, sub_l, isTs, isT, Option.map_some, List.length_cons, List.length_nil, Nat.reduceAdd, Nat.reduceSub, Nat.reduceLT, Nat.zero_add, Bool.false_eq_true, Bool.true_eq_false, if_false, if_true, decide_eq_true_eq, Bool.not_true, Bool.not_false, ite_true, ite_false, reduceIte, Bool.not_eq_true', decide_eq_false_iff_not, Int.cast_ofNat_Int, Int.reduceEq, Int.reduceLT, Int.reduceLE, Int.reduceNeg, Int.reduceAdd, Int.reduceSub, Int.reduceMul, Int.reduceToNat, decide_true, decide_false, not_true, not_false, not_true_eq_false, not_false_eq_true, true_and, and_true, eq_self, reduceCtorEq, List.isEmpty_nil, List.isEmpty_cons, List.nil_append, List.cons_append, lit_inj, String.reduceEq, inL_ss, Bool.or_false, Bool.false_or, Bool.or_true, Bool.true_or, opS]
    refine diff_ok b m _ _ _ h2 ?_
    simp -dsimp -implicitDefEqProofs only [↓cov3, ↓cov2, ↓cov1, ↓E_var, ↓E_int, ↓E_bl, ↓E_non, ↓E_str, ↓E_glo, ↓E_tup, ↓E_lst, ↓E_bin, ↓E_neg, ↓E_cmp, ↓E_chn, ↓E_and, ↓E_or, ↓E_one, ↓E_not, ↓E_ifx, ↓E_idx, ↓E_slc, ↓E_call, ↓E_bi, ↓E_isi, ↓E_mth, ↓E_lc, ↓Es_nil, ↓Es_cons, ↓O_no, ↓O_some, ↓Q_no, ↓Q_c, ↓C_and, ↓C_or, ↓C_one, ↓C_not, ↓C_cmp, ↓C_chn, ↓C_v, ↓I_seq, ↓I_rng1, ↓I_rng2, ↓I_rng3, ↓I_enu, ↓I_zip, ↓I_rev, ↓S_set, ↓S_asg, ↓S_par2, ↓S_sub, ↓S_expr, ↓S_ret, ↓S_retN, ↓S_ifs, ↓S_for, ↓S_brk, ↓S_cnt, ↓S_pass, ↓S_raise, ↓S_try, ↓S_never, ex_t, ex_f, ↓S_nil, ↓S_cons, ↓kN_nx, ↓kN_rt, ↓kN_bk, ↓kN_ct, ↓kN_ex, ↓kL_nx, ↓kL_rt, ↓kL_bk, ↓kL_ct, ↓kL_ex, ↓kX_nx, ↓kX_rt, ↓kX_bk, ↓kX_ct, ↓kX_ex, ↓kend_nx, ↓kend_rt, ↓kend_bk, ↓kend_ct, ↓kend_ex, vr_some, gt_0, gt_s, stn_0, stn_s, wip_0, wip_s, wips_0, wips_s, neg_i, isi_s, o_i, tru_non, tru_bl, tru_int, tru_tup, tru_rol, c_Eq, c_NotEq, c_Lt, c_LtE, c_Gt, c_GtE, cs_Eq, cs_NotEq, cb_Eq, cb_NotEq, c2_Eq, c2_NotEq, is_non, isnot_non, is_bl, isnot_bl, is_int, isnot_int, is_str, isnot_str, is_tup, isnot_tup, is_rol, isnot_rol, is_ref, isnot_ref, is_b, isnot_b, in_s, notin_s, b_add, b_sub, b_mul, b_fdiv, b_mod, b_pow, b_addt, b_adds, atI0, atI1, atI2, atI3, slc_t, slc_r, len_s, abs_i, int_i, int_b, min_i, max_i, gcd_i, seq_t, seq_r, r1_i, r2_i, r3_i, a_nm, a_nil, a_cons, vrl_some, vrn_some, put_lget, Option.isSome_some, tru_ref, b_addl, idx_t, idx_r, idx_l, slc_l, len_t, len_r, len_l, tuple_t, tuple_r, tuple_l, list_t, list_r, list_l, app_l, rev_l, pop_l, popat_l, mT_l, seq_l, enu_l, zip_l, rev_i, rev_t, in_t, notin_t, fl_s, fl_i, fl_b, fl_n, inL_nil, inL_ss, inL_ii, List.all_cons, List.all_nil, Bool.and_self, Bool.and_true, Bool.true_and, zip_t, a_t, a_l, sub_l, isTs, isT, Option.map_some, List.length_cons, List.length_nil, Nat.reduceAdd, Nat.reduceSub, Nat.reduceLT, Nat.zero_add, Bool.false_eq_true, Bool.true_eq_false, if_false, if_true, decide_eq_true_eq, Bool.not_true, Bool.not_false, ite_true, ite_false, reduceIte, Bool.not_eq_true', decide_eq_false_iff_not, Int.cast_ofNat_Int, Int.reduceEq, Int.reduceLT, Int.reduceLE, Int.reduceNeg, Int.reduceAdd, Int.reduceSub, Int.reduceMul, Int.reduceToNat, decide_true, decide_false, not_true, not_false, not_true_eq_false, not_false_eq_true, true_and, and_true, eq_self, reduceCtorEq, List.isEmpty_nil, List.isEmpty_cons, List.nil_append, List.cons_append, lit_inj, String.reduceEq, inL_ss, Bool.or_false, Bool.false_or, Bool.or_true, Bool.true_or, opS]
    exact hq
  | .bin .sub a b, m, S, Q, E, h, hq => by
    obtain ⟨m, rfl⟩ : ∃ m', m = m' + 1 := ⟨m - 1, by omega⟩
    refine call_of t_differentiate rfl ?_
    have h1 : hgt a < m := by unfold hgt at h; omega
    have h2 : hgt b < m := by unfold hgt at h; omega
    simp -dsimp -implicitDefEqProofs only [ent, List.map_cons, List.map_nil, List.length_cons, List.length_nil, Nat.reduceAdd, Nat.reduceSub, Nat.zero_add, List.replicate, List.cons_append, List.nil_append, F_differentiate, XD]
    simp -dsimp -implicitDefEqProofs only [↓cov3, ↓cov2, ↓cov1, ↓E_var, ↓E_int, ↓E_bl, ↓E_non, ↓E_str, ↓E_glo, ↓E_tup, ↓E_lst, ↓E_bin, ↓E_neg, ↓E_cmp, ↓E_chn, ↓E_and, ↓E_or, ↓E_one, ↓E_not, ↓E_ifx, ↓E_idx, ↓E_slc, ↓E_call, ↓E_bi, ↓E_isi, ↓E_mth, ↓E_lc, ↓Es_nil, ↓Es_cons, ↓O_no, ↓O_some, ↓Q_no, ↓Q_c, ↓C_and, ↓C_or, ↓C_one, ↓C_not, ↓C_cmp, ↓C_chn, ↓C_v, ↓I_seq, ↓I_rng1, ↓I_rng2, ↓I_rng3, ↓I_enu, ↓I_zip, ↓I_rev, ↓S_set, ↓S_asg, ↓S_par2, ↓S_sub, ↓S_expr, ↓S_ret, ↓S_retN, ↓S_ifs, ↓S_for, ↓S_brk, ↓S_cnt, ↓S_pass, ↓S_raise, ↓S_try, ↓S_never, ex_t, ex_f, ↓S_nil, ↓S_cons, ↓kN_nx, ↓kN_rt, ↓kN_bk, ↓kN_ct, ↓kN_ex, ↓kL_nx, ↓kL_rt, ↓kL_bk, ↓kL_ct, ↓kL_ex, ↓kX_nx, ↓kX_rt, ↓kX_bk, ↓kX_ct, ↓kX_ex, ↓kend_nx, ↓kend_rt, ↓kend_bk, ↓kend_ct, ↓kend_ex, vr_some, gt_0, gt_s, stn_0, stn_s, wip_0, wip_s, wips_0, wips_s, neg_i, isi_s, o_i, tru_non, tru_bl, tru_int, tru_tup, tru_rol, c_Eq, c_NotEq, c_Lt, c_LtE, c_Gt, c_GtE, cs_Eq, cs_NotEq, cb_Eq, cb_NotEq, c2_Eq, c2_NotEq, is_non, isnot_non, is_bl, isnot_bl, is_int, isnot_int, is_str, isnot_str, is_tup, isnot_tup, is_rol, isnot_rol, is_ref, isnot_ref, is_b, isnot_b, in_s, notin_s, b_add, b_sub, b_mul, b_fdiv, b_mod, b_pow, b_addt, b_adds, atI0, atI1, atI2, atI3, slc_t, slc_r, len_s, abs_i, int_i, int_b, min_i, max_i, gcd_i, seq_t, seq_r, r1_i, r2_i, r3_i, a_nm, a_nil, a_cons, vrl_some, vrn_some, put_lget, Option.isSome_some, tru_ref, b_addl, idx_t, idx_r, idx_l, slc_l, len_t, len_r, len_l, tuple_t, tuple_r, tuple_l, list_t, list_r, list_l, app_l, rev_l, pop_l, popat_l, mT_l, seq_l, enu_l, zip_l, rev_i, rev_t, in_t, notin_t, fl_s, fl_i, fl_b, fl_n, inL_nil, inL_ss, inL_ii, List.all_cons, List.all_nil, Bool.and_self, Bool.and_true, Bool.true_and, zip_t, a_t, a_l, sub_l, isTs, isT, Option.map_some, List.length_cons, List.length_nil, Nat.reduceAdd, Nat.reduceSub, Nat.reduceLT, Nat.zero_add, Bool.false_eq_true, Bool.true_eq_false, if_false, if_true, decide_eq_true_eq, Bool.not_true, Bool.not_false, ite_true, ite_false, reduceIte, Bool.not_eq_true', decide_eq_false_iff_not, Int.cast_ofNat_Int, Int.reduceEq, Int.reduceLT, Int.reduceLE, Int.reduceNeg, Int.reduceAdd, Int.reduceSub, Int.reduceMul, Int.reduceToNat, decide_true, decide_false, not_true, not_false, not_true_eq_false, not_false_eq_true, true_and, and_true, eq_self, reduceCtorEq, List.isEmpty_nil, List.isEmpty_cons, List.nil_append, List.cons_append, lit_inj, String.reduceEq, inL_ss, Bool.or_false, Bool.false_or, Bool.or_true, Bool.true_or, opS]
    refine diff_ok a m _ _ _ h1 ?_
    simp -dsimp -implicitDefEqProofs only [↓cov3, ↓cov2, ↓cov1, ↓E_var, ↓E_int, ↓E_bl, ↓E_non, ↓E_str, ↓E_glo, ↓E_tup, ↓E_lst, ↓E_bin, ↓E_neg, ↓E_cmp, ↓E_chn, ↓E_and, ↓E_or, ↓E_one, ↓E_not, ↓E_ifx, ↓E_idx, ↓E_slc, ↓E_call, ↓E_bi, ↓E_isi, ↓E_mth, ↓E_lc, ↓Es_nil, ↓Es_cons, ↓O_no, ↓O_some, ↓Q_no, ↓Q_c, ↓C_and, ↓C_or, ↓C_one, ↓C_not, ↓C_cmp, ↓C_chn, ↓C_v, ↓I_seq, ↓I_rng1, ↓I_rng2, ↓I_rng3, ↓I_enu, ↓I_zip, ↓I_rev, ↓S_set, ↓S_asg, ↓S_par2, ↓S_sub, ↓S_expr, ↓S_ret, ↓S_retN, ↓S_ifs, ↓S_for, ↓S_brk, ↓S_cnt, ↓S_pass, ↓S_raise, ↓S_try, ↓S_never, ex_t, ex_f, ↓S_nil, ↓S_cons, ↓kN_nx, ↓kN_rt, ↓kN_bk, ↓kN_ct, ↓kN_ex, ↓kL_nx, ↓kL_rt, ↓kL_bk, ↓kL_ct, ↓kL_ex, ↓kX_nx, ↓kX_rt, ↓kX_bk, ↓kX_ct, ↓kX_ex, ↓kend_nx, ↓kend_rt, ↓kend_bk, ↓kend_ct, ↓kend_ex, vr_some, gt_0, gt_s, stn_0, stn_s, wip_0, wip_s, wips_0, wips_s, neg_i, isi_s, o_i, tru_non, tru_bl, tru_int, tru_tup, tru_rol, c_Eq, c_NotEq, c_Lt, c_LtE, c_Gt, c_GtE, cs_Eq, cs_NotEq, cb_Eq, cb_NotEq, c2_Eq, c2_NotEq, is_non, isnot_non, is_bl, isnot_bl, is_int, isnot_int, is_str, isnot_str, is_tup, isnot_tup, is_rol, isnot_rol, is_ref, isnot_ref, is_b, isnot_b, in_s, notin_s, b_add, b_sub, b_mul, b_fdiv, b_mod, b_pow, b_addt, b_adds, atI0, atI1, atI2, atI3, slc_t, slc_r, len_s, abs_i, int_i, int_b, min_i, max_i, gcd_i, seq_t, seq_r, r1_i, r2_i, r3_i, a_nm, a_nil, a_cons, vrl_some, vrn_some, put_lget, Option.isSome_some, tru_ref, b_addl, idx_t, idx_r, idx_l, slc_l, len_t, len_r, len_l, tuple_t, tuple_r, tuple_l, list_t, list_r, list_l, app_l, rev_l, pop_l, popat_l, mT_l, seq_l, enu_l, zip_l, rev_i, rev_t, in_t, notin_t, fl_s, fl_i, fl_b, fl_n, inL_nil, inL_ss, inL_ii, List.all_cons, List.all_nil, Bool.and_self, Bool.and_true, Bool.true_and, zip_t, a_t, a_l, sub_l, isTs, isT, Option.map_some, List.length_cons, List.length_nil, Nat.reduceAdd, Nat.reduceSub, Nat.reduceLT, Nat.zero_add, Bool.false_eq_true, Bool.true_eq_false, if_false, if_true, decide_eq_true_eq, Bool.not_true, Bool.not_false, ite_true, ite_false, reduceIte, Bool.not_eq_true', decide_eq_false_iff_not, Int.cast_ofNat_Int, Int.reduceEq, Int.reduceLT, Int.reduceLE, Int.reduceNeg, Int.reduceAdd, Int.reduceSub, Int.reduceMul, Int.reduceToNat, decide_true, decide_false, not_true, not_false, not_true_eq_false, not_false_eq_true, true_and, and_true, eq_self, reduceCtorEq, List.isEmpty_nil, List.isEmpty_cons, List.nil_append, List.cons_append, lit_inj, String.reduceEq, inL_ss, Bool.or_false, Bool.false_or, Bool.or_true, Bool.true_or, opS]
    refine diff_ok b m _ _ _ h2 ?_
    simp -dsimp -implicitDefEqProofs only [↓cov3, ↓cov2, ↓cov1, ↓E_var, ↓E_int, ↓E_bl, ↓E_non, ↓E_str, ↓E_glo, ↓E_tup, ↓E_lst, ↓E_bin, ↓E_neg, ↓E_cmp, ↓E_chn, ↓E_and, ↓E_or, ↓E_one, ↓E_not, ↓E_ifx, ↓E_idx, ↓E_slc, ↓E_call, ↓E_bi, ↓E_isi, ↓E_mth, ↓E_lc, ↓Es_nil, ↓Es_cons, ↓O_no, ↓O_some, ↓Q_no, ↓Q_c, ↓C_and, ↓C_or, ↓C_one, ↓C_not, ↓C_cmp, ↓C_chn, ↓C_v, ↓I_seq, ↓I_rng1, ↓I_rng2, ↓I_rng3, ↓I_enu, ↓I_zip, ↓I_rev, ↓S_set, ↓S_asg, ↓S_par2, ↓S_sub, ↓S_expr, ↓S_ret, ↓S_retN, ↓S_ifs, ↓S_for, ↓S_brk, ↓S_cnt, ↓S_pass, ↓S_raise, ↓S_try, ↓S_never, ex_t, ex_f, ↓S_nil, ↓S_cons, ↓kN_nx, ↓kN_rt, ↓kN_bk, ↓kN_ct, ↓kN_ex, ↓kL_nx, ↓kL_rt, ↓kL_bk, ↓kL_ct, ↓kL_ex, ↓kX_nx, ↓kX_rt, ↓kX_bk, ↓kX_ct, ↓kX_ex, ↓kend_nx, ↓kend_rt, ↓kend_bk, ↓kend_ct, ↓kend_ex, vr_some, gt_0, gt_s, stn_0, stn_s, wip_0, wip_s, wips_0, wips_s, neg_i, isi_s, o_i, tru_non, tru_bl, tru_int, tru_tup, tru_rol, c_Eq, c_NotEq, c_Lt, c_LtE, c_Gt, c_GtE, cs_Eq, cs_NotEq, cb_Eq, cb_NotEq, c2_Eq, c2_NotEq, is_non, isnot_non, is_bl, isnot_bl, is_int, isnot_int, is_str, isnot_str, is_tup, isnot_tup, is_rol, isnot_rol, is_ref, isnot_ref, is_b, isnot_b, in_s, notin_s, b_add, b_sub, b_mul, b_fdiv, b_mod, b_pow, b_addt, b_adds, atI0, atI1, atI2, atI3, slc_t, slc_r, len_s, abs_i, int_i, int_b, min_i, max_i, gcd_i, seq_t, seq_r, r1_i, r2_i, r3_i, a_nm, a_nil, a_cons, vrl_some, vrn_some, put_lget, Option.isSome_some, tru_ref, b_addl, idx_t, idx_r, idx_l, slc_l, len_t, len_r, len_l, tuple_t, tuple_r, tuple_l, list_t, list_r, list_l, app_l, rev_l, pop_l, popat_l, mT_l, seq_l, enu_l, zip_l, rev_i, rev_t, in_t, notin_t, fl_s, fl_i, fl_b, fl_n, inL_nil, inL_ss, inL_ii, List.all_cons, List.all_nil, Bool.and_self, Bool.and_true, Bool.true_and, zip_t, a_t, a_l, sub_l, isTs, isT, Option.map_some, List.length_cons, List.length_nil, Nat.reduceAdd, Nat.reduceSub, Nat.reduceLT, Nat.zero_add, Bool.false_eq_true, Bool.true_eq_false, if_false, if_true, decide_eq_true_eq, Bool.not_true, Bool.not_false, ite_true, ite_false, reduceIte, Bool.not_eq_true', decide_eq_false_iff_not, Int.cast_ofNat_Int, Int.reduceEq, Int.reduceLT, Int.reduceLE, Int.reduceNeg, Int.reduceAdd, Int.reduceSub, Int.reduceMul, Int.reduceToNat, decide_true, decide_false, not_true, not_false, not_true_eq_false, not_false_eq_true, true_and, and_true, eq_self, reduceCtorEq, List.isEmpty_nil, List.isEmpty_cons, List.nil_append, List.cons_append, lit_inj, String.reduceEq, inL_ss, Bool.or_false, Bool.false_or, Bool.or_true, Bool.true_or, opS]
    exact hq
  | .bin .mul a b, m, S, Q, E, h, hq => by
    obtain ⟨m, rfl⟩ : ∃ m', m = m' + 1 := ⟨m - 1, by omega⟩
    refine call_of t_differentiate rfl ?_
    have h1 : hgt a < m := by unfold hgt at h; omega
    have h2 : hgt b < m := by unfold hgt at h; omega
    simp -dsimp -implicitDefEqProofs only [ent, List.map_cons, List.map_nil, List.length_cons, List.length_nil, Nat.reduceAdd, Nat.reduceSub, Nat.zero_add, List.replicate, List.cons_append, List.nil_append, F_differentiate, XD]
    simp -dsimp -implicitDefEqProofs only [↓cov3, ↓cov2, ↓cov1, ↓E_var, ↓E_int, ↓E_bl, ↓E_non, ↓E_str, ↓E_glo, ↓E_tup, ↓E_lst, ↓E_bin, ↓E_neg, ↓E_cmp, ↓E_chn, ↓E_and, ↓E_or, ↓E_one, ↓E_not, ↓E_ifx, ↓E_idx, ↓E_slc, ↓E_call, ↓E_bi, ↓E_isi, ↓E_mth, ↓E_lc, ↓Es_nil, ↓Es_cons, ↓O_no, ↓O_some, ↓Q_no, ↓Q_c, ↓C_and, ↓C_or, ↓C_one, ↓C_not, ↓C_cmp, ↓C_chn, ↓C_v, ↓I_seq, ↓I_rng1, ↓I_rng2, ↓I_rng3, ↓I_enu, ↓I_zip, ↓I_rev, ↓S_set, ↓S_asg, ↓S_par2, ↓S_sub, ↓S_expr, ↓S_ret, ↓S_retN, ↓S_ifs, ↓S_for, ↓S_brk, ↓S_cnt, ↓S_pass, ↓S_raise, ↓S_try, ↓S_never, ex_t, ex_f, ↓S_nil, ↓S_cons, ↓kN_nx, ↓kN_rt, ↓kN_bk, ↓kN_ct, ↓kN_ex, ↓kL_nx, ↓kL_rt, ↓kL_bk, ↓kL_ct, ↓kL_ex, ↓kX_nx, ↓kX_rt, ↓kX_bk, ↓kX_ct, ↓kX_ex, ↓kend_nx, ↓kend_rt, ↓kend_bk, ↓kend_ct, ↓kend_ex, vr_some, gt_0, gt_s, stn_0, stn_s, wip_0, wip_s, wips_0, wips_s, neg_i, isi_s, o_i, tru_non, tru_bl, tru_int, tru_tup, tru_rol, c_Eq, c_NotEq, c_Lt, c_LtE, c_Gt, c_GtE, cs_Eq, cs_NotEq, cb_Eq, cb_NotEq, c2_Eq, c2_NotEq, is_non, isnot_non, is_bl, isnot_bl, is_int, isnot_int, is_str, isnot_str, is_tup, isnot_tup, is_rol, isnot_rol, is_ref, isnot_ref, is_b, isnot_b, in_s, notin_s, b_add, b_sub, b_mul, b_fdiv, b_mod, b_pow, b_addt, b_adds, atI0, atI1, atI2, atI3, slc_t, slc_r, len_s, abs_i, int_i, int_b, min_i, max_i, gcd_i, seq_t, seq_r, r1_i, r2_i, r3_i, a_nm, a_nil, a_cons, vrl_some, vrn_some, put_lget, Option.isSome_some, tru_ref, b_addl, idx_t, idx_r, idx_l, slc_l, len_t, len_r, len_l, tuple_t, tuple_r, tuple_l, list_t, list_r, list_l, app_l, rev_l, pop_l, popat_l, mT_l, seq_l, enu_l, zip_l, rev_i, rev_t, in_t, notin_t, fl_s, fl_i, fl_b, fl_n, inL_nil, inL_ss, inL_ii, List.all_cons, List.all_nil, Bool.and_self, Bool.and_true, Bool.true_and, zip_t, a_t, a_l, sub_l, isTs, isT, Option.map_some, List.length_cons, List.length_nil, Nat.reduceAdd, Nat.reduceSub, Nat.reduceLT, Nat.zero_add, Bool.false_eq_true, Bool.true_eq_false, if_false, if_true, decide_eq_true_eq, Bool.not_true, Bool.not_false, ite_true, ite_false, reduceIte, Bool.not_eq_true', decide_eq_false_iff_not, Int.cast_ofNat_Int, Int.reduceEq, Int.reduceLT, Int.reduceLE, Int.reduceNeg, Int.reduceAdd, Int.reduceSub, Int.reduceMul, Int.reduceToNat, decide_true, decide_false, not_true, not_false, not_true_eq_false, not_false_eq_true, true_and, and_true, eq_self, reduceCtorEq, List.isEmpty_nil, List.isEmpty_cons, List.nil_append, List.cons_append, lit_inj, String.reduceEq, inL_ss, Bool.or_false, Bool.false_or, Bool.or_true, Bool.true_or, opS]
    refine diff_ok a m _ _ _ h1 ?_
    simp -dsimp -implicitDefEqProofs only [↓cov3, ↓cov2, ↓cov1, ↓E_var, ↓E_int, ↓E_bl, ↓E_non, ↓E_str, ↓E_glo, ↓E_tup, ↓E_lst, ↓E_bin, ↓E_neg, ↓E_cmp, ↓E_chn, ↓E_and, ↓E_or, ↓E_one, ↓E_not, ↓E_ifx, ↓E_idx, ↓E_slc, ↓E_call, ↓E_bi, ↓E_isi, ↓E_mth, ↓E_lc, ↓Es_nil, ↓Es_cons, ↓O_no, ↓O_some, ↓Q_no, ↓Q_c, ↓C_and, ↓C_or, ↓C_one, ↓C_not, ↓C_cmp, ↓C_chn, ↓C_v, ↓I_seq, ↓I_rng1, ↓I_rng2, ↓I_rng3, ↓I_enu, ↓I_zip, ↓I_rev, ↓S_set, ↓S_asg, ↓S_par2, ↓S_sub, ↓S_expr, ↓S_ret, ↓S_retN, ↓S_ifs, ↓S_for, ↓S_brk, ↓S_cnt, ↓S_pass, ↓S_raise, ↓S_try, ↓S_never, ex_t, ex_f, ↓S_nil, ↓S_cons, ↓kN_nx, ↓kN_rt, ↓kN_bk, ↓kN_ct, ↓kN_ex, ↓kL_nx, ↓kL_rt, ↓kL_bk, ↓kL_ct, ↓kL_ex, ↓kX_nx, ↓kX_rt, ↓kX_bk, ↓kX_ct, ↓kX_ex, ↓kend_nx, ↓kend_rt, ↓kend_bk, ↓kend_ct, ↓kend_ex, vr_some, gt_0, gt_s, stn_0, stn_s, wip_0, wip_s, wips_0, wips_s, neg_i, isi_s, o_i, tru_non, tru_bl, tru_int, tru_tup, tru_rol, c_Eq, c_NotEq, c_Lt, c_LtE, c_Gt, c_GtE, cs_Eq, cs_NotEq, cb_Eq, cb_NotEq, c2_Eq, c2_NotEq, is_non, isnot_non, is_bl, isnot_bl, is_int, isnot_int, is_str, isnot_str, is_tup, isnot_tup, is_rol, isnot_rol, is_ref, isnot_ref, is_b, isnot_b, in_s, notin_s, b_add, b_sub, b_mul, b_fdiv, b_mod, b_pow, b_addt, b_adds, atI0, atI1, atI2, atI3, slc_t, slc_r, len_s, abs_i, int_i, int_b, min_i, max_i, gcd_i, seq_t, seq_r, r1_i, r2_i, r3_i, a_nm, a_nil, a_cons, vrl_some, vrn_some, put_lget, Option.isSome_some, tru_ref, b_addl, idx_t, idx_r, idx_l, slc_l, len_t, len_r, len_l, tuple_t, tuple_r, tuple_l, list_t, list_r, list_l, app_l, rev_l, pop_l, popat_l, mT_l, seq_l, enu_l, zip_l, rev_i, rev_t, in_t, notin_t, fl_s, fl_i, fl_b, fl_n, inL_nil, inL_ss, inL_ii, List.all_cons, List.all_nil, Bool.and_self, Bool.and_true, Bool.true_and, zip_t, a_t, a_l, sub_l, isTs, isT, Option.map_some, List.length_cons, List.length_nil, Nat.reduceAdd, Nat.reduceSub, Nat.reduceLT, Nat.zero_add, Bool.false_eq_true, Bool.true_eq_false, if_false, if_true, decide_eq_true_eq, Bool.not_true, Bool.not_false, ite_true, ite_false, reduceIte, Bool.not_eq_true', decide_eq_false_iff_not, Int.cast_ofNat_Int, Int.reduceEq, Int.reduceLT, Int.reduceLE, Int.reduceNeg, Int.reduceAdd, Int.reduceSub, Int.reduceMul, Int.reduceToNat, decide_true, decide_false, not_true, not_false, not_true_eq_false, not_false_eq_true, true_and, and_true, eq_self, reduceCtorEq, List.isEmpty_nil, List.isEmpty_cons, List.nil_append, List.cons_append, lit_inj, String.reduceEq, inL_ss, Bool.or_false, Bool.false_or, Bool.or_true, Bool.true_or, opS]
    refine diff_ok b m _ _ _ h2 ?_
    simp -dsimp -implicitDefEqProofs only [↓cov3, ↓cov2, ↓cov1, ↓E_var, ↓E_int, ↓E_bl, ↓E_non, ↓E_str, ↓E_glo, ↓E_tup, ↓E_lst, ↓E_bin, ↓E_neg, ↓E_cmp, ↓E_chn, ↓E_and, ↓E_or, ↓E_one, ↓E_not, ↓E_ifx, ↓E_idx, ↓E_slc, ↓E_call, ↓E_bi, ↓E_isi, ↓E_mth, ↓E_lc, ↓Es_nil, ↓Es_cons, ↓O_no, ↓O_some, ↓Q_no, ↓Q_c, ↓C_and, ↓C_or, ↓C_one, ↓C_not, ↓C_cmp, ↓C_chn, ↓C_v, ↓I_seq, ↓I_rng1, ↓I_rng2, ↓I_rng3, ↓I_enu, ↓I_zip, ↓I_rev, ↓S_set, ↓S_asg, ↓S_par2, ↓S_sub, ↓S_expr, ↓S_ret, ↓S_retN, ↓S_ifs, ↓S_for, ↓S_brk, ↓S_cnt, ↓S_pass, ↓S_raise, ↓S_try, ↓S_never, ex_t, ex_f, ↓S_nil, ↓S_cons, ↓kN_nx, ↓kN_rt, ↓kN_bk, ↓kN_ct, ↓kN_ex, ↓kL_nx, ↓kL_rt, ↓kL_bk, ↓kL_ct, ↓kL_ex, ↓kX_nx, ↓kX_rt, ↓kX_bk, ↓kX_ct, ↓kX_ex, ↓kend_nx, ↓kend_rt, ↓kend_bk, ↓kend_ct, ↓kend_ex, vr_some, gt_0, gt_s, stn_0, stn_s, wip_0, wip_s, wips_0, wips_s, neg_i, isi_s, o_i, tru_non, tru_bl, tru_int, tru_tup, tru_rol, c_Eq, c_NotEq, c_Lt, c_LtE, c_Gt, c_GtE, cs_Eq, cs_NotEq, cb_Eq, cb_NotEq, c2_Eq, c2_NotEq, is_non, isnot_non, is_bl, isnot_bl, is_int, isnot_int, is_str, isnot_str, is_tup, isnot_tup, is_rol, isnot_rol, is_ref, isnot_ref, is_b, isnot_b, in_s, notin_s, b_add, b_sub, b_mul, b_fdiv, b_mod, b_pow, b_addt, b_adds, atI0, atI1, atI2, atI3, slc_t, slc_r, len_s, abs_i, int_i, int_b, min_i, max_i, gcd_i, seq_t, seq_r, r1_i, r2_i, r3_i, a_nm, a_nil, a_cons, vrl_some, vrn_some, put_lget, Option.isSome_some, tru_ref, b_addl, idx_t, idx_r, idx_l, slc_l, len_t, len_r, len_l, tuple_t, tuple_r, tuple_l, list_t, list_r, list_l, app_l, rev_l, pop_l, popat_l, mT_l, seq_l, enu_l, zip_l, rev_i, rev_t, in_t, notin_t, fl_s, fl_i, fl_b, fl_n, inL_nil, inL_ss, inL_ii, List.all_cons, List.all_nil, Bool.and_self, Bool.and_true, Bool.true_and, zip_t, a_t, a_l, sub_l, isTs, isT, Option.map_some, List.length_cons, List.length_nil, Nat.reduceAdd, Nat.reduceSub, Nat.reduceLT, Nat.zero_add, Bool.false_eq_true, Bool.true_eq_false, if_false, if_true, decide_eq_true_eq, Bool.not_true, Bool.not_false, ite_true, ite_false, reduceIte, Bool.not_eq_true', decide_eq_false_iff_not, Int.cast_ofNat_Int, Int.reduceEq, Int.reduceLT, Int.reduceLE, Int.reduceNeg, Int.reduceAdd, Int.reduceSub, Int.reduceMul, Int.reduceToNat, decide_true, decide_false, not_true, not_false, not_true_eq_false, not_false_eq_true, true_and, and_true, eq_self, reduceCtorEq, List.isEmpty_nil, List.isEmpty_cons, List.nil_append, List.cons_append, lit_inj, String.reduceEq, inL_ss, Bool.or_false, Bool.false_or, Bool.or_true, Bool.true_or, opS]
    exact hq
  | .bin .div a b, m, S, Q, E, h, hq => by
    obtain ⟨m, rfl⟩ : ∃ m', m = m' + 1 := ⟨m - 1, by omega⟩
    refine call_of t_differentiate rfl ?_
    have h1 : hgt a < m := by unfold hgt at h; omega
    have h2 : hgt b < m := by unfold hgt at h; omega
    simp -dsimp -implicitDefEqProofs only [ent, List.map_cons, List.map_nil, List.length_cons, List.length_nil, Nat.reduceAdd, Nat.reduceSub, Nat.zero_add, List.replicate, List.cons_append, List.nil_append, F_differentiate, XD]
    simp -dsimp -implicitDefEqProofs only [↓cov3, ↓cov2, ↓cov1, ↓E_var, ↓E_int, ↓E_bl, ↓E_non, ↓E_str, ↓E_glo, ↓E_tup, ↓E_lst, ↓E_bin, ↓E_neg, ↓E_cmp, ↓E_chn, ↓E_and, ↓E_or, ↓E_one, ↓E_not, ↓E_ifx, ↓E_idx, ↓E_slc, ↓E_call, ↓E_bi, ↓E_isi, ↓E_mth, ↓E_lc, ↓Es_nil, ↓Es_cons, ↓O_no, ↓O_some, ↓Q_no, ↓Q_c, ↓C_and, ↓C_or, ↓C_one, ↓C_not, ↓C_cmp, ↓C_chn, ↓C_v, ↓I_seq, ↓I_rng1, ↓I_rng2, ↓I_rng3, ↓I_enu, ↓I_zip, ↓I_rev, ↓S_set, ↓S_asg, ↓S_par2, ↓S_sub, ↓S_expr, ↓S_ret, ↓S_retN, ↓S_ifs, ↓S_for, ↓S_brk, ↓S_cnt, ↓S_pass, ↓S_raise, ↓S_try, ↓S_never, ex_t, ex_f, ↓S_nil, ↓S_cons, ↓kN_nx, ↓kN_rt, ↓kN_bk, ↓kN_ct, ↓kN_ex, ↓kL_nx, ↓kL_rt, ↓kL_bk, ↓kL_ct, ↓kL_ex, ↓kX_nx, ↓kX_rt, ↓kX_bk, ↓kX_ct, ↓kX_ex, ↓kend_nx, ↓kend_rt, ↓kend_bk, ↓kend_ct, ↓kend_ex, vr_some, gt_0, gt_s, stn_0, stn_s, wip_0, wip_s, wips_0, wips_s, neg_i, isi_s, o_i, tru_non, tru_bl, tru_int, tru_tup, tru_rol, c_Eq, c_NotEq, c_Lt, c_LtE, c_Gt, c_GtE, cs_Eq, cs_NotEq, cb_Eq, cb_NotEq, c2_Eq, c2_NotEq, is_non, isnot_non, is_bl, isnot_bl, is_int, isnot_int, is_str, isnot_str, is_tup, isnot_tup, is_rol, isnot_rol, is_ref, isnot_ref, is_b, isnot_b, in_s, notin_s, b_add, b_sub, b_mul, b_fdiv, b_mod, b_pow, b_addt, b_adds, atI0, atI1, atI2, atI3, slc_t, slc_r, len_s, abs_i, int_i, int_b, min_i, max_i, gcd_i, seq_t, seq_r, r1_i, r2_i, r3_i, a_nm, a_nil, a_cons, vrl_some, vrn_some, put_lget, Option.isSome_some, tru_ref, b_addl, idx_t, idx_r, idx_l, slc_l, len_t, len_r, len_l, tuple_t, tuple_r, tuple_l, list_t, list_r, list_l, app_l, rev_l, pop_l, popat_l, mT_l, seq_l, enu_l, zip_l, rev_i, rev_t, in_t, notin_t, fl_s, fl_i, fl_b, fl_n, inL_nil, inL_ss, inL_ii, List.all_cons, List.all_nil, Bool.and_self, Bool.and_true, Bool.true_and, zip_t, a_t, a_l, sub_l, isTs, isT, Option.map_some, List.length_cons, List.length_nil, Nat.reduceAdd, Nat.reduceSub, Nat.reduceLT, Nat.zero_add, Bool.false_eq_true, Bool.true_eq_false, if_false, if_true, decide_eq_true_eq, Bool.not_true, Bool.not_false, ite_true, ite_false, reduceIte, Bool.not_eq_true', decide_eq_false_iff_not, Int.cast_ofNat_Int, Int.reduceEq, Int.reduceLT, Int.reduceLE, Int.reduceNeg, Int.reduceAdd, Int.reduceSub, Int.reduceMul, Int.reduceToNat, decide_true, decide_false, not_true, not_false, not_true_eq_false, not_false_eq_true, true_and, and_true, eq_self, reduceCtorEq, List.isEmpty_nil, List.isEmpty_cons, List.nil_append, List.cons_append, lit_inj, String.reduceEq, inL_ss, Bool.or_false, Bool.false_or, Bool.or_true, Bool.true_or, opS]
    refine diff_ok a m _ _ _ h1 ?_
    simp -dsimp -implicitDefEqProofs only [↓cov3, ↓cov2, ↓cov1, ↓E_var, ↓E_int, ↓E_bl, ↓E_non, ↓E_str, ↓E_glo, ↓E_tup, ↓E_lst, ↓E_bin, ↓E_neg, ↓E_cmp, ↓E_chn, ↓E_and, ↓E_or, ↓E_one, ↓E_not, ↓E_ifx, ↓E_idx, ↓E_slc, ↓E_call, ↓E_bi, ↓E_isi, ↓E_mth, ↓E_lc, ↓Es_nil, ↓Es_cons, ↓O_no, ↓O_some, ↓Q_no, ↓Q_c, ↓C_and, ↓C_or, ↓C_one, ↓C_not, ↓C_cmp, ↓C_chn, ↓C_v, ↓I_seq, ↓I_rng1, ↓I_rng2, ↓I_rng3, ↓I_enu, ↓I_zip, ↓I_rev, ↓S_set, ↓S_asg, ↓S_par2, ↓S_sub, ↓S_expr, ↓S_ret, ↓S_retN, ↓S_ifs, ↓S_for, ↓S_brk, ↓S_cnt, ↓S_pass, ↓S_raise, ↓S_try, ↓S_never, ex_t, ex_f, ↓S_nil, ↓S_cons, ↓kN_nx, ↓kN_rt, ↓kN_bk, ↓kN_ct, ↓kN_ex, ↓kL_nx, ↓kL_rt, ↓kL_bk, ↓kL_ct, ↓kL_ex, ↓kX_nx, ↓kX_rt, ↓kX_bk, ↓kX_ct, ↓kX_ex, ↓kend_nx, ↓kend_rt, ↓kend_bk, ↓kend_ct, ↓kend_ex, vr_some, gt_0, gt_s, stn_0, stn_s, wip_0, wip_s, wips_0, wips_s, neg_i, isi_s, o_i, tru_non, tru_bl, tru_int, tru_tup, tru_rol, c_Eq, c_NotEq, c_Lt, c_LtE, c_Gt, c_GtE, cs_Eq, cs_NotEq, cb_Eq, cb_NotEq, c2_Eq, c2_NotEq, is_non, isnot_non, is_bl, isnot_bl, is_int, isnot_int, is_str, isnot_str, is_tup, isnot_tup, is_rol, isnot_rol, is_ref, isnot_ref, is_b, isnot_b, in_s, notin_s, b_add, b_sub, b_mul, b_fdiv, b_mod, b_pow, b_addt, b_adds, atI0, atI1, atI2, atI3, slc_t, slc_r, len_s, abs_i, int_i, int_b, min_i, max_i, gcd_i, seq_t, seq_r, r1_i, r2_i, r3_i, a_nm, a_nil, a_cons, vrl_some, vrn_some, put_lget, Option.isSome_some, tru_ref, b_addl, idx_t, idx_r, idx_l, slc_l, len_t, len_r, len_l, tuple_t, tuple_r, tuple_l, list_t, list_r, list_l, app_l, rev_l, pop_l, popat_l, mT_l, seq_l, enu_l, zip_l, rev_i, rev_t, in_t, notin_t, fl_s, fl_i, fl_b, fl_n, inL_nil, inL_ss, inL_ii, List.all_cons, List.all_nil, Bool.and_self, Bool.and_true, Bool.true_and, zip_t, a_t, a_l, sub_l, isTs, isT, Option.map_some, List.length_cons, List.length_nil, Nat.reduceAdd, Nat.reduceSub, Nat.reduceLT, Nat.zero_add, Bool.false_eq_true, Bool.true_eq_false, if_false, if_true, decide_eq_true_eq, Bool.not_true, Bool.not_false, ite_true, ite_false, reduceIte, Bool.not_eq_true', decide_eq_false_iff_not, Int.cast_ofNat_Int, Int.reduceEq, Int.reduceLT, Int.reduceLE, Int.reduceNeg, Int.reduceAdd, Int.reduceSub, Int.reduceMul, Int.reduceToNat, decide_true, decide_false, not_true, not_false, not_true_eq_false, not_false_eq_true, true_and, and_true, eq_self, reduceCtorEq, List.isEmpty_nil, List.isEmpty_cons, List.nil_append, List.cons_append, lit_inj, String.reduceEq, inL_ss, Bool.or_false, Bool.false_or, Bool.or_true, Bool.true_or, opS]
    refine diff_ok b m _ _ _ h2 ?_
    simp -dsimp -implicitDefEqProofs only [↓cov3, ↓cov2, ↓cov1, ↓E_var, ↓E_int, ↓E_bl, ↓E_non, ↓E_str, ↓E_glo, ↓E_tup, ↓E_lst, ↓E_bin, ↓E_neg, ↓E_cmp, ↓E_chn, ↓E_and, ↓E_or, ↓E_one, ↓E_not, ↓E_ifx, ↓E_idx, ↓E_slc, ↓E_call, ↓E_bi, ↓E_isi, ↓E_mth, ↓E_lc, ↓Es_nil, ↓Es_cons, ↓O_no, ↓O_some, ↓Q_no, ↓Q_c, ↓C_and, ↓C_or, ↓C_one, ↓C_not, ↓C_cmp, ↓C_chn, ↓C_v, ↓I_seq, ↓I_rng1, ↓I_rng2, ↓I_rng3, ↓I_enu, ↓I_zip, ↓I_rev, ↓S_set, ↓S_asg, ↓S_par2, ↓S_sub, ↓S_expr, ↓S_ret, ↓S_retN, ↓S_ifs, ↓S_for, ↓S_brk, ↓S_cnt, ↓S_pass, ↓S_raise, ↓S_try, ↓S_never, ex_t, ex_f, ↓S_nil, ↓S_cons, ↓kN_nx, ↓kN_rt, ↓kN_bk, ↓kN_ct, ↓kN_ex, ↓kL_nx, ↓kL_rt, ↓kL_bk, ↓kL_ct, ↓kL_ex, ↓kX_nx, ↓kX_rt, ↓kX_bk, ↓kX_ct, ↓kX_ex, ↓kend_nx, ↓kend_rt, ↓kend_bk, ↓kend_ct, ↓kend_ex, vr_some, gt_0, gt_s, stn_0, stn_s, wip_0, wip_s, wips_0, wips_s, neg_i, isi_s, o_i, tru_non, tru_bl, tru_int, tru_tup, tru_rol, c_Eq, c_NotEq, c_Lt, c_LtE, c_Gt, c_GtE, cs_Eq, cs_NotEq, cb_Eq, cb_NotEq, c2_Eq, c2_NotEq, is_non, isnot_non, is_bl, isnot_bl, is_int, isnot_int, is_str, isnot_str, is_tup, isnot_tup, is_rol, isnot_rol, is_ref, isnot_ref, is_b, isnot_b, in_s, notin_s, b_add, b_sub, b_mul, b_fdiv, b_mod, b_pow, b_addt, b_adds, atI0, atI1, atI2, atI3, slc_t, slc_r, len_s, abs_i, int_i, int_b, min_i, max_i, gcd_i, seq_t, seq_r, r1_i, r2_i, r3_i, a_nm, a_nil, a_cons, vrl_some, vrn_some, put_lget, Option.isSome_some, tru_ref, b_addl, idx_t, idx_r, idx_l, slc_l, len_t, len_r, len_l, tuple_t, tuple_r, tuple_l, list_t, list_r, list_l, app_l, rev_l, pop_l, popat_l, mT_l, seq_l, enu_l, zip_l, rev_i, rev_t, in_t, notin_t, fl_s, fl_i, fl_b, fl_n, inL_nil, inL_ss, inL_ii, List.all_cons, List.all_nil, Bool.and_self, Bool.and_true, Bool.true_and, zip_t, a_t, a_l, sub_l, isTs, isT, Option.map_some, List.length_cons, List.length_nil, Nat.reduceAdd, Nat.reduceSub, Nat.reduceLT, Nat.zero_add, Bool.false_eq_true, Bool.true_eq_false, if_false, if_true, decide_eq_true_eq, Bool.not_true, Bool.not_false, ite_true, ite_false, reduceIte, Bool.not_eq_true', decide_eq_false_iff_not, Int.cast_ofNat_Int, Int.reduceEq, Int.reduceLT, Int.reduceLE, Int.reduceNeg, Int.reduceAdd, Int.reduceSub, Int.reduceMul, Int.reduceToNat, decide_true, decide_false, not_true, not_false, not_true_eq_false, not_false_eq_true, true_and, and_true, eq_self, reduceCtorEq, List.isEmpty_nil, List.isEmpty_cons, List.nil_append, List.cons_append, lit_inj, String.reduceEq, inL_ss, Bool.or_false, Bool.false_or, Bool.or_true, Bool.true_or, opS]
    exact hq
  | .pow a k, m, S, Q, E, h, hq => by
    obtain ⟨m, rfl⟩ : ∃ m', m = m' + 1 := ⟨m - 1, by omega⟩
    refine call_of t_differentiate rfl ?_
    have h1 : hgt a < m := by unfold hgt at h; omega
    simp -dsimp -implicitDefEqProofs only [ent, List.map_cons, List.map_nil, List.length_cons, List.length_nil, Nat.reduceAdd, Nat.reduceSub, Nat.zero_add, List.replicate, List.cons_append, List.nil_append, F_differentiate, XD]
    simp -dsimp -implicitDefEqProofs only [↓cov3, ↓cov2, ↓cov1, ↓E_var, ↓E_int, ↓E_bl, ↓E_non, ↓E_str, ↓E_glo, ↓E_tup, ↓E_lst, ↓E_bin, ↓E_neg, ↓E_cmp, ↓E_chn, ↓E_and, ↓E_or, ↓E_one, ↓E_not, ↓E_ifx, ↓E_idx, ↓E_slc, ↓E_call, ↓E_bi, ↓E_isi, ↓E_mth, ↓E_lc, ↓Es_nil, ↓Es_cons, ↓O_no, ↓O_some, ↓Q_no, ↓Q_c, ↓C_and, ↓C_or, ↓C_one, ↓C_not, ↓C_cmp, ↓C_chn, ↓C_v, ↓I_seq, ↓I_rng1, ↓I_rng2, ↓I_rng3, ↓I_enu, ↓I_zip, ↓I_rev, ↓S_set, ↓S_asg, ↓S_par2, ↓S_sub, ↓S_expr, ↓S_ret, ↓S_retN, ↓S_ifs, ↓S_for, ↓S_brk, ↓S_cnt, ↓S_pass, ↓S_raise, ↓S_try, ↓S_never, ex_t, ex_f, ↓S_nil, ↓S_cons, ↓kN_nx, ↓kN_rt, ↓kN_bk, ↓kN_ct, ↓kN_ex, ↓kL_nx, ↓kL_rt, ↓kL_bk, ↓kL_ct, ↓kL_ex, ↓kX_nx, ↓kX_rt, ↓kX_bk, ↓kX_ct, ↓kX_ex, ↓kend_nx, ↓kend_rt, ↓kend_bk, ↓kend_ct, ↓kend_ex, vr_some, gt_0, gt_s, stn_0, stn_s, wip_0, wip_s, wips_0, wips_s, neg_i, isi_s, o_i, tru_non, tru_bl, tru_int, tru_tup, tru_rol, c_Eq, c_NotEq, c_Lt, c_LtE, c_Gt, c_GtE, cs_Eq, cs_NotEq, cb_Eq, cb_NotEq, c2_Eq, c2_NotEq, is_non, isnot_non, is_bl, isnot_bl, is_int, isnot_int, is_str, isnot_str, is_tup, isnot_tup, is_rol, isnot_rol, is_ref, isnot_ref, is_b, isnot_b, in_s, notin_s, b_add, b_sub, b_mul, b_fdiv, b_mod, b_pow, b_addt, b_adds, atI0, atI1, atI2, atI3, slc_t, slc_r, len_s, abs_i, int_i, int_b, min_i, max_i, gcd_i, seq_t, seq_r, r1_i, r2_i, r3_i, a_nm, a_nil, a_cons, vrl_some, vrn_some, put_lget, Option.isSome_some, tru_ref, b_addl, idx_t, idx_r, idx_l, slc_l, len_t, len_r, len_l, tuple_t, tuple_r, tuple_l, list_t, list_r, list_l, app_l, rev_l, pop_l, popat_l, mT_l, seq_l, enu_l, zip_l, rev_i, rev_t, in_t, notin_t, fl_s, fl_i, fl_b, fl_n, inL_nil, inL_ss, inL_ii, List.all_cons, List.all_nil, Bool.and_self, Bool.and_true, Bool.true_and, zip_t, a_t, a_l, sub_l, isTs, isT, Option.map_some, List.length_cons, List.length_nil, Nat.reduceAdd, Nat.reduceSub, Nat.reduceLT, Nat.zero_add, Bool.false_eq_true, Bool.true_eq_false, if_false, if_true, decide_eq_true_eq, Bool.not_true, Bool.not_false, ite_true, ite_false, reduceIte, Bool.not_eq_true', decide_eq_false_iff_not, Int.cast_ofNat_Int, Int.reduceEq, Int.reduceLT, Int.reduceLE, Int.reduceNeg, Int.reduceAdd, Int.reduceSub, Int.reduceMul, Int.reduceToNat, decide_true, decide_false, not_true, not_false, not_true_eq_false, not_false_eq_true, true_and, and_true, eq_self, reduceCtorEq, List.isEmpty_nil, List.isEmpty_cons, List.nil_append, List.cons_append, lit_inj, String.reduceEq, inL_ss, Bool.or_false, Bool.false_or, Bool.or_true, Bool.true_or, opS]
    refine diff_ok a m _ _ _ h1 ?_
    simp -dsimp -implicitDefEqProofs only [↓cov3, ↓cov2, ↓cov1, ↓E_var, ↓E_int, ↓E_bl, ↓E_non, ↓E_str, ↓E_glo, ↓E_tup, ↓E_lst, ↓E_bin, ↓E_neg, ↓E_cmp, ↓E_chn, ↓E_and, ↓E_or, ↓E_one, ↓E_not, ↓E_ifx, ↓E_idx, ↓E_slc, ↓E_call, ↓E_bi, ↓E_isi, ↓E_mth, ↓E_lc, ↓Es_nil, ↓Es_cons, ↓O_no, ↓O_some, ↓Q_no, ↓Q_c, ↓C_and, ↓C_or, ↓C_one, ↓C_not, ↓C_cmp, ↓C_chn, ↓C_v, ↓I_seq, ↓I_rng1, ↓I_rng2, ↓I_rng3, ↓I_enu, ↓I_zip, ↓I_rev, ↓S_set, ↓S_asg, ↓S_par2, ↓S_sub, ↓S_expr, ↓S_ret, ↓S_retN, ↓S_ifs, ↓S_for, ↓S_brk, ↓S_cnt, ↓S_pass, ↓S_raise, ↓S_try, ↓S_never, ex_t, ex_f, ↓S_nil, ↓S_cons, ↓kN_nx, ↓kN_rt, ↓kN_bk, ↓kN_ct, ↓kN_ex, ↓kL_nx, ↓kL_rt, ↓kL_bk, ↓kL_ct, ↓kL_ex, ↓kX_nx, ↓kX_rt, ↓kX_bk, ↓kX_ct, ↓kX_ex, ↓kend_nx, ↓kend_rt, ↓kend_bk, ↓kend_ct, ↓kend_ex, vr_some, gt_0, gt_s, stn_0, stn_s, wip_0, wip_s, wips_0, wips_s, neg_i, isi_s, o_i, tru_non, tru_bl, tru_int, tru_tup, tru_rol, c_Eq, c_NotEq, c_Lt, c_LtE, c_Gt, c_GtE, cs_Eq, cs_NotEq, cb_Eq, cb_NotEq, c2_Eq, c2_NotEq, is_non, isnot_non, is_bl, isnot_bl, is_int, isnot_int, is_str, isnot_str, is_tup, isnot_tup, is_rol, isnot_rol, is_ref, isnot_ref, is_b, isnot_b, in_s, notin_s, b_add, b_sub, b_mul, b_fdiv, b_mod, b_pow, b_addt, b_adds, atI0, atI1, atI2, atI3, slc_t, slc_r, len_s, abs_i, int_i, int_b, min_i, max_i, gcd_i, seq_t, seq_r, r1_i, r2_i, r3_i, a_nm, a_nil, a_cons, vrl_some, vrn_some, put_lget, Option.isSome_some, tru_ref, b_addl, idx_t, idx_r, idx_l, slc_l, len_t, len_r, len_l, tuple_t, tuple_r, tuple_l, list_t, list_r, list_l, app_l, rev_l, pop_l, popat_l, mT_l, seq_l, enu_l, zip_l, rev_i, rev_t, in_t, notin_t, fl_s, fl_i, fl_b, fl_n, inL_nil, inL_ss, inL_ii, List.all_cons, List.all_nil, Bool.and_self, Bool.and_true, Bool.true_and, zip_t, a_t, a_l, sub_l, isTs, isT, Option.map_some, List.length_cons, List.length_nil, Nat.reduceAdd, Nat.reduceSub, Nat.reduceLT, Nat.zero_add, Bool.false_eq_true, Bool.true_eq_false, if_false, if_true, decide_eq_true_eq, Bool.not_true, Bool.not_false, ite_true, ite_false, reduceIte, Bool.not_eq_true', decide_eq_false_iff_not, Int.cast_ofNat_Int, Int.reduceEq, Int.reduceLT, Int.reduceLE, Int.reduceNeg, Int.reduceAdd, Int.reduceSub, Int.reduceMul, Int.reduceToNat, decide_true, decide_false, not_true, not_false, not_true_eq_false, not_false_eq_true, true_and, and_true, eq_self, reduceCtorEq, List.isEmpty_nil, List.isEmpty_cons, List.nil_append, List.cons_append, lit_inj, String.reduceEq, inL_ss, Bool.or_false, Bool.false_or, Bool.or_true, Bool.true_or, opS]
    unfold der at hq
    refine ite2 (fun hk => ?_) fun hk => ?_
    · rw [if_pos hk] at hq
      exact hq
    · rw [if_neg hk] at hq
      exact hq
theorem lder_ok : ∀ (e : Ex) (m : Nat) (S : Sto) (Q : DK) (E : XS), hgt e < m → Q (XD (der e)) S → semF G T m "_law_derivative" [XD e] S Q E
  | .num q, m, S, Q, E, h, hq => by
    obtain ⟨m, rfl⟩ : ∃ m', m = m' + 1 := ⟨m - 1, by omega⟩
    refine call_of t_law_derivative rfl ?_
    simp -dsimp -implicitDefEqProofs only [ent, List.map_cons, List.map_nil, List.length_cons, List.length_nil, Nat.reduceAdd, Nat.reduceSub, Nat.zero_add, List.replicate, List.cons_append, List.nil_append, F_law_derivative, XD]
    simp -dsimp -implicitDefEqProofs only [↓cov3, ↓cov2, ↓cov1, ↓E_var, ↓E_int, ↓E_bl, ↓E_non, ↓E_str, ↓E_glo, ↓E_tup, ↓E_lst, ↓E_bin, ↓E_neg, ↓E_cmp, ↓E_chn, ↓E_and, ↓E_or, ↓E_one, ↓E_not, ↓E_ifx, ↓E_idx, ↓E_slc, ↓E_call, ↓E_bi, ↓E_isi, ↓E_mth, ↓E_lc, ↓Es_nil, ↓Es_cons, ↓O_no, ↓O_some, ↓Q_no, ↓Q_c, ↓C_and, ↓C_or, ↓C_one, ↓C_not, ↓C_cmp, ↓C_chn, ↓C_v, ↓I_seq, ↓I_rng1, ↓I_rng2, ↓I_rng3, ↓I_enu, ↓I_zip, ↓I_rev, ↓S_set, ↓S_asg, ↓S_par2, ↓S_sub, ↓S_expr, ↓S_ret, ↓S_retN, ↓S_ifs, ↓S_for, ↓S_brk, ↓S_cnt, ↓S_pass, ↓S_raise, ↓S_try, ↓S_never, ex_t, ex_f, ↓S_nil, ↓S_cons, ↓kN_nx, ↓kN_rt, ↓kN_bk, ↓kN_ct, ↓kN_ex, ↓kL_nx, ↓kL_rt, ↓kL_bk, ↓kL_ct, ↓kL_ex, ↓kX_nx, ↓kX_rt, ↓kX_bk, ↓kX_ct, ↓kX_ex, ↓kend_nx, ↓kend_rt, ↓kend_bk, ↓kend_ct, ↓kend_ex, vr_some, gt_0, gt_s, stn_0, stn_s, wip_0, wip_s, wips_0, wips_s, neg_i, isi_s, o_i, tru_non, tru_bl, tru_int, tru_tup, tru_rol, c_Eq, c_NotEq, c_Lt, c_LtE, c_Gt, c_GtE, cs_Eq, cs_NotEq, cb_Eq, cb_NotEq, c2_Eq, c2_NotEq, is_non, isnot_non, is_bl, isnot_bl, is_int, isnot_int, is_str, isnot_str, is_tup, isnot_tup, is_rol, isnot_rol, is_ref, isnot_ref, is_b, isnot_b, in_s, notin_s, b_add, b_sub, b_mul, b_fdiv, b_mod, b_pow, b_addt, b_adds, atI0, atI1, atI2, atI3, slc_t, slc_r, len_s, abs_i, int_i, int_b, min_i, max_i, gcd_i, seq_t, seq_r, r1_i, r2_i, r3_i, a_nm, a_nil, a_cons, vrl_some, vrn_some, put_lget, Option.isSome_some, tru_ref, b_addl, idx_t, idx_r, idx_l, slc_l, len_t, len_r, len_l, tuple_t, tuple_r, tuple_l, list_t, list_r, list_l, app_l, rev_l, pop_l, popat_l, mT_l, seq_l, enu_l, zip_l, rev_i, rev_t, in_t, notin_t, fl_s, fl_i, fl_b, fl_n, inL_nil, inL_ss, inL_ii, List.all_cons, List.all_nil, Bool.and_self, Bool.and_true, Bool.true_and, zip_t, a_t, a_l, sub_l, isTs, isT, Option.map_some, List.length_cons, List.length_nil, Nat.reduceAdd, Nat.reduceSub, Nat.reduceLT, Nat.zero_add, Bool.false_eq_true, Bool.true_eq_false, if_false, if_true, decide_eq_true_eq, Bool.not_true, Bool.not_false, ite_true, ite_false, reduceIte, Bool.not_eq_true', decide_eq_false_iff_not, Int.cast_ofNat_Int, Int.reduceEq, Int.reduceLT, Int.reduceLE, Int.reduceNeg, Int.reduceAdd, Int.reduceSub, Int.reduceMul, Int.reduceToNat, decide_true, decide_false, not_true, not_false, not_true_eq_false, not_false_eq_true, true_and, and_true, eq_self, reduceCtorEq, List.isEmpty_nil, List.isEmpty_cons, List.nil_append, List.cons_append, lit_inj, String.reduceEq, inL_ss, Bool.or_false, Bool.false_or, Bool.or_true, Bool.true_or, opS]
    exact hq
  | .x, m, S, Q, E, h, hq => by
    obtain ⟨m, rfl⟩ : ∃ m', m = m' + 1 := ⟨m - 1, by omega⟩
    refine call_of t_law_derivative rfl ?_
    simp -dsimp -implicitDefEqProofs only [ent, List.map_cons, List.map_nil, List.length_cons, List.length_nil, Nat.reduceAdd, Nat.reduceSub, Nat.zero_add, List.replicate, List.cons_append, List.nil_append, F_law_derivative, XD]
    simp -dsimp -implicitDefEqProofs only [↓cov3, ↓cov2, ↓cov1, ↓E_var, ↓E_int, ↓E_bl, ↓E_non, ↓E_str, ↓E_glo, ↓E_tup, ↓E_lst, ↓E_bin, ↓E_neg, ↓E_cmp, ↓E_chn, ↓E_and, ↓E_or, ↓E_one, ↓E_not, ↓E_ifx, ↓E_idx, ↓E_slc, ↓E_call, ↓E_bi, ↓E_isi, ↓E_mth, ↓E_lc, ↓Es_nil, ↓Es_cons, ↓O_no, ↓O_some, ↓Q_no, ↓Q_c, ↓C_and, ↓C_or, ↓C_one, ↓C_not, ↓C_cmp, ↓C_chn, ↓C_v, ↓I_seq, ↓I_rng1, ↓I_rng2, ↓I_rng3, ↓I_enu, ↓I_zip, ↓I_rev, ↓S_set, ↓S_asg, ↓S_par2, ↓S_sub, ↓S_expr, ↓S_ret, ↓S_retN, ↓S_ifs, ↓S_for, ↓S_brk, ↓S_cnt, ↓S_pass, ↓S_raise, ↓S_try, ↓S_never, ex_t, ex_f, ↓S_nil, ↓S_cons, ↓kN_nx, ↓kN_rt, ↓kN_bk, ↓kN_ct, ↓kN_ex, ↓kL_nx, ↓kL_rt, ↓kL_bk, ↓kL_ct, ↓kL_ex, ↓kX_nx, ↓kX_rt, ↓kX_bk, ↓kX_ct, ↓kX_ex, ↓kend_nx, ↓kend_rt, ↓kend_bk, ↓kend_ct, ↓kend_ex, vr_some, gt_0, gt_s, stn_0, stn_s, wip_0, wip_s, wips_0, wips_s, neg_i, isi_s, o_i, tru_non, tru_bl, tru_int, tru_tup, tru_rol, c_Eq, c_NotEq, c_Lt, c_LtE, c_Gt, c_GtE, cs_Eq, cs_NotEq, cb_Eq, cb_NotEq, c2_Eq, c2_NotEq, is_non, isnot_non, is_bl, isnot_bl, is_int, isnot_int, is_str, isnot_str, is_tup, isnot_tup, is_rol, isnot_rol, is_ref, isnot_ref, is_b, isnot_b, in_s, notin_s, b_add, b_sub, b_mul, b_fdiv, b_mod, b_pow, b_addt, b_adds, atI0, atI1, atI2, atI3, slc_t, slc_r, len_s, abs_i, int_i, int_b, min_i, max_i, gcd_i, seq_t, seq_r, r1_i, r2_i, r3_i, a_nm, a_nil, a_cons, vrl_some, vrn_some, put_lget, Option.isSome_some, tru_ref, b_addl, idx_t, idx_r, idx_l, slc_l, len_t, len_r, len_l, tuple_t, tuple_r, tuple_l, list_t, list_r, list_l, app_l, rev_l, pop_l, popat_l, mT_l, seq_l, enu_l, zip_l, rev_i, rev_t, in_t, notin_t, fl_s, fl_i, fl_b, fl_n, inL_nil, inL_ss, inL_ii, List.all_cons, List.all_nil, Bool.and_self, Bool.and_true, Bool.true_and, zip_t, a_t, a_l, sub_l, isTs, isT, Option.map_some, List.length_cons, List.length_nil, Nat.reduceAdd, Nat.reduceSub, Nat.reduceLT, Nat.zero_add, Bool.false_eq_true, Bool.true_eq_false, if_false, if_true, decide_eq_true_eq, Bool.not_true, Bool.not_false, ite_true, ite_false, reduceIte, Bool.not_eq_true', decide_eq_false_iff_not, Int.cast_ofNat_Int, Int.reduceEq, Int.reduceLT, Int.reduceLE, Int.reduceNeg, Int.reduceAdd, Int.reduceSub, Int.reduceMul, Int.reduceToNat, decide_true, decide_false, not_true, not_false, not_true_eq_false, not_false_eq_true, true_and, and_true, eq_self, reduceCtorEq, List.isEmpty_nil, List.isEmpty_cons, List.nil_append, List.cons_append, lit_inj, String.reduceEq, inL_ss, Bool.or_false, Bool.false_or, Bool.or_true, Bool.true_or, opS]
    exact hq
  | .neg a, m, S, Q, E, h, hq => by
    obtain ⟨m, rfl⟩ : ∃ m', m = m' + 1 := ⟨m - 1, by omega⟩
    refine call_of t_law_derivative rfl ?_
    have h1 : hgt a < m := by unfold hgt at h; omega
    simp -dsimp -implicitDefEqProofs only [ent, List.map_cons, List.map_nil, List.length_cons, List.length_nil, Nat.reduceAdd, Nat.reduceSub, Nat.zero_add, List.replicate, List.cons_append, List.nil_append, F_law_derivative, XD]
    simp -dsimp -implicitDefEqProofs only [↓cov3, ↓cov2, ↓cov1, ↓E_var, ↓E_int, ↓E_bl, ↓E_non, ↓E_str, ↓E_glo, ↓E_tup, ↓E_lst, ↓E_bin, ↓E_neg, ↓E_cmp, ↓E_chn, ↓E_and, ↓E_or, ↓E_one, ↓E_not, ↓E_ifx, ↓E_idx, ↓E_slc, ↓E_call, ↓E_bi, ↓E_isi, ↓E_mth, ↓E_lc, ↓Es_nil, ↓Es_cons, ↓O_no, ↓O_some, ↓Q_no, ↓Q_c, ↓C_and, ↓C_or, ↓C_one, ↓C_not, ↓C_cmp, ↓C_chn, ↓C_v, ↓I_seq, ↓I_rng1, ↓I_rng2, ↓I_rng3, ↓I_enu, ↓I_zip, ↓I_rev, ↓S_set, ↓S_asg, ↓S_par2, ↓S_sub, ↓S_expr, ↓S_ret, ↓S_retN, ↓S_ifs, ↓S_for, ↓S_brk, ↓S_cnt, ↓S_pass, ↓S_raise, ↓S_try, ↓S_never, ex_t, ex_f, ↓S_nil, ↓S_cons, ↓kN_nx, ↓kN_rt, ↓kN_bk, ↓kN_ct, ↓kN_ex, ↓kL_nx, ↓kL_rt, ↓kL_bk, ↓kL_ct, ↓kL_ex, ↓kX_nx, ↓kX_rt, ↓kX_bk, ↓kX_ct, ↓kX_ex, ↓kend_nx, ↓kend_rt, ↓kend_bk, ↓kend_ct, ↓kend_ex, vr_some, gt_0, gt_s, stn_0, stn_s, wip_0, wip_s, wips_0, wips_s, neg_i, isi_s, o_i, tru_non, tru_bl, tru_int, tru_tup, tru_rol, c_Eq, c_NotEq, c_Lt, c_LtE, c_Gt, c_GtE, cs_Eq, cs_NotEq, cb_Eq, cb_NotEq, c2_Eq, c2_NotEq, is_non, isnot_non, is_bl, isnot_bl, is_int, isnot_int, is_str, isnot_str, is_tup, isnot_tup, is_rol, isnot_rol, is_ref, isnot_ref, is_b, isnot_b, in_s, notin_s, b_add, b_sub, b_mul, b_fdiv, b_mod, b_pow, b_addt, b_adds, atI0, atI1, atI2, atI3, slc_t, slc_r, len_s, abs_i, int_i, int_b, min_i, max_i, gcd_i, seq_t, seq_r, r1_i, r2_i, r3_i, a_nm, a_nil, a_cons, vrl_some, vrn_some, put_lget, Option.isSome_some, tru_ref, b_addl, idx_t, idx_r, idx_l, slc_l, len_t, len_r, len_l, tuple_t, tuple_r, tuple_l, list_t, list_r, list_l, app_l, rev_l, pop_l, popat_l, mT_l, seq_l, enu_l, zip_l, rev_i, rev_t, in_t, notin_t, fl_s, fl_i, fl_b, fl_n, inL_nil, inL_ss, inL_ii, List.all_cons, List.all_nil, Bool.and_self, Bool.and_true, Bool.true_and, zip_t, a_t, a_l, sub_l, isTs, isT, Option.map_some, List.length_cons, List.length_nil, Nat.reduceAdd, Nat.reduceSub, Nat.reduceLT, Nat.zero_add, Bool.false_eq_true, Bool.true_eq_false, if_false, if_true, decide_eq_true_eq, Bool.not_true, Bool.not_false, ite_true, ite_false, reduceIte, Bool.not_eq_true', decide_eq_false_iff_not, Int.cast_ofNat_Int, Int.reduceEq, Int.reduceLT, Int.reduceLE, Int.reduceNeg, Int.reduceAdd, Int.reduceSub, Int.reduceMul, Int.reduceToNat, decide_true, decide_false, not_true, not_false, not_true_eq_false, not_false_eq_true, true_and, and_true, eq_self, reduceCtorEq, List.isEmpty_nil, List.isEmpty_cons, List.nil_append, List.cons_append, lit_inj, String.reduceEq, inL_ss, Bool.or_false, Bool.false_or, Bool.or_true, Bool.true_or, opS]
    refine lder_ok a m _ _ _ h1 ?_
    simp -dsimp -implicitDefEqProofs only [↓cov3, ↓cov2, ↓cov1, ↓E_var, ↓E_int, ↓E_bl, ↓E_non, ↓E_str, ↓E_glo, ↓E_tup, ↓E_lst, ↓E_bin, ↓E_neg, ↓E_cmp, ↓E_chn, ↓E_and, ↓E_or, ↓E_one, ↓E_not, ↓E_ifx, ↓E_idx, ↓E_slc, ↓E_call, ↓E_bi, ↓E_isi, ↓E_mth, ↓E_lc, ↓Es_nil, ↓Es_cons, ↓O_no, ↓O_some, ↓Q_no, ↓Q_c, ↓C_and, ↓C_or, ↓C_one, ↓C_not, ↓C_cmp, ↓C_chn, ↓C_v, ↓I_seq, ↓I_rng1, ↓I_rng2, ↓I_rng3, ↓I_enu, ↓I_zip, ↓I_rev, ↓S_set, ↓S_asg, ↓S_par2, ↓S_sub, ↓S_expr, ↓S_ret, ↓S_retN, ↓S_ifs, ↓S_for, ↓S_brk, ↓S_cnt, ↓S_pass, ↓S_raise, ↓S_try, ↓S_never, ex_t, ex_f, ↓S_nil, ↓S_cons, ↓kN_nx, ↓kN_rt, ↓kN_bk, ↓kN_ct, ↓kN_ex, ↓kL_nx, ↓kL_rt, ↓kL_bk, ↓kL_ct, ↓kL_ex, ↓kX_nx, ↓kX_rt, ↓kX_bk, ↓kX_ct, ↓kX_ex, ↓kend_nx, ↓kend_rt, ↓kend_bk, ↓kend_ct, ↓kend_ex, vr_some, gt_0, gt_s, stn_0, stn_s, wip_0, wip_s, wips_0, wips_s, neg_i, isi_s, o_i, tru_non, tru_bl, tru_int, tru_tup, tru_rol, c_Eq, c_NotEq, c_Lt, c_LtE, c_Gt, c_GtE, cs_Eq, cs_NotEq, cb_Eq, cb_NotEq, c2_Eq, c2_NotEq, is_non, isnot_non, is_bl, isnot_bl, is_int, isnot_int, is_str, isnot_str, is_tup, isnot_tup, is_rol, isnot_rol, is_ref, isnot_ref, is_b, isnot_b, in_s, notin_s, b_add, b_sub, b_mul, b_fdiv, b_mod, b_pow, b_addt, b_adds, atI0, atI1, atI2, atI3, slc_t, slc_r, len_s, abs_i, int_i, int_b, min_i, max_i, gcd_i, seq_t, seq_r, r1_i, r2_i, r3_i, a_nm, a_nil, a_cons, vrl_some, vrn_some, put_lget, Option.isSome_some, tru_ref, b_addl, idx_t, idx_r, idx_l, slc_l, len_t, len_r, len_l, tuple_t, tuple_r, tuple_l, list_t, list_r, list_l, app_l, rev_l, pop_l, popat_l, mT_l, seq_l, enu_l, zip_l, rev_i, rev_t, in_t, notin_t, fl_s, fl_i, fl_b, fl_n, inL_nil, inL_ss, inL_ii, List.all_cons, List.all_nil, Bool.and_self, Bool.and_true, Bool.true_and, zip_t, a_t, a_l, sub_l, isTs, isT, Option.map_some, List.length_cons, List.length_nil, Nat.reduceAdd, Nat.reduceSub, Nat.reduceLT, Nat.zero_add, Bool.false_eq_true, Bool.true_eq_false, if_false, if_true, decide_eq_true_eq, Bool.not_true, Bool.not_false, ite_true, ite_false, reduceIte, Bool.not_eq_true', decide_eq_false_iff_not, Int.cast_ofNat_Int, Int.reduceEq, Int.reduceLT, Int.reduceLE, Int.reduceNeg, Int.reduceAdd, Int.reduceSub, Int.reduceMul, Int.reduceToNat, decide_true, decide_false, not_true, not_false, not_true_eq_false, not_false_eq_true, true_and, and_true, eq_self, reduceCtorEq, List.isEmpty_nil, List.isEmpty_cons, List.nil_append, List.cons_append, lit_inj, String.reduceEq, inL_ss, Bool.or_false, Bool.false_or, Bool.or_true, Bool.true_or, opS]
    exact hq
  | .exp a, m, S, Q, E, h, hq => by
    obtain ⟨m, rfl⟩ : ∃ m', m = m' + 1 := ⟨m - 1, by omega⟩
    refine call_of t_law_derivative rfl ?_
    have h1 : hgt a < m := by unfold hgt at h; omega
    simp -dsimp -implicitDefEqProofs only [ent, List.map_cons, List.map_nil, List.length_cons, List.length_nil, Nat.reduceAdd, Nat.reduceSub, Nat.zero_add, List.replicate, List.cons_append, List.nil_append, F_law_derivative, XD]
    simp -dsimp -implicitDefEqProofs only [↓cov3, ↓cov2, ↓cov1, ↓E_var, ↓E_int, ↓E_bl, ↓E_non, ↓E_str, ↓E_glo, ↓E_tup, ↓E_lst, ↓E_bin, ↓E_neg, ↓E_cmp, ↓E_chn, ↓E_and, ↓E_or, ↓E_one, ↓E_not, ↓E_ifx, ↓E_idx, ↓E_slc, ↓E_call, ↓E_bi, ↓E_isi, ↓E_mth, ↓E_lc, ↓Es_nil, ↓Es_cons, ↓O_no, ↓O_some, ↓Q_no, ↓Q_c, ↓C_and, ↓C_or, ↓C_one, ↓C_not, ↓C_cmp, ↓C_chn, ↓C_v, ↓I_seq, ↓I_rng1, ↓I_rng2, ↓I_rng3, ↓I_enu, ↓I_zip, ↓I_rev, ↓S_set, ↓S_asg, ↓S_par2, ↓S_sub, ↓S_expr, ↓S_ret, ↓S_retN, ↓S_ifs, ↓S_for, ↓S_brk, ↓S_cnt, ↓S_pass, ↓S_raise, ↓S_try, ↓S_never, ex_t, ex_f, ↓S_nil, ↓S_cons, ↓kN_nx, ↓kN_rt, ↓kN_bk, ↓kN_ct, ↓kN_ex, ↓kL_nx, ↓kL_rt, ↓kL_bk, ↓kL_ct, ↓kL_ex, ↓kX_nx, ↓kX_rt, ↓kX_bk, ↓kX_ct, ↓kX_ex, ↓kend_nx, ↓kend_rt, ↓kend_bk, ↓kend_ct, ↓kend_ex, vr_some, gt_0, gt_s, stn_0, stn_s, wip_0, wip_s, wips_0, wips_s, neg_i, isi_s, o_i, tru_non, tru_bl, tru_int, tru_tup, tru_rol, c_Eq, c_NotEq, c_Lt, c_LtE, c_Gt, c_GtE, cs_Eq, cs_NotEq, cb_Eq, cb_NotEq, c2_Eq, c2_NotEq, is_non, isnot_non, is_bl, isnot_bl, is_int, isnot_int, is_str, isnot_str, is_tup, isnot_tup, is_rol, isnot_rol, is_ref, isnot_ref, is_b, isnot_b, in_s, notin_s, b_add, b_sub, b_mul, b_fdiv, b_mod, b_pow, b_addt, b_adds, atI0, atI1, atI2, atI3, slc_t, slc_r, len_s, abs_i, int_i, int_b, min_i, max_i, gcd_i, seq_t, seq_r, r1_i, r2_i, r3_i, a_nm, a_nil, a_cons, vrl_some, vrn_some, put_lget, Option.isSome_some, tru_ref, b_addl, idx_t, idx_r, idx_l, slc_l, len_t, len_r, len_l, tuple_t, tuple_r, tuple_l, list_t, list_r, list_l, app_l, rev_l, pop_l, popat_l, mT_l, seq_l, enu_l, zip_l, rev_i, rev_t, in_t, notin_t, fl_s, fl_i, fl_b, fl_n, inL_nil, inL_ss, inL_ii, List.all_cons, List.all_nil, Bool.and_self, Bool.and_true, Bool.true_and, zip_t, a_t, a_l, sub_l, isTs, isT, Option.map_some, List.length_cons, List.length_nil, Nat.reduceAdd, Nat.reduceSub, Nat.reduceLT, Nat.zero_add, Bool.false_eq_true, Bool.true_eq_false, if_false, if_true, decide_eq_true_eq, Bool.not_true, Bool.not_false, ite_true, ite_false, reduceIte, Bool.not_eq_true', decide_eq_false_iff_not, Int.cast_ofNat_Int, Int.reduceEq, Int.reduceLT, Int.reduceLE, Int.reduceNeg, Int.reduceAdd, Int.reduceSub, Int.reduceMul, Int.reduceToNat, decide_true, decide_false, not_true, not_false, not_true_eq_false, not_false_eq_true, true_and, and_true, eq_self, reduceCtorEq, List.isEmpty_nil, List.isEmpty_cons, List.nil_append, List.cons_append, lit_inj, String.reduceEq, inL_ss, Bool.or_false, Bool.false_or, Bool.or_true, Bool.true_or, opS]
    refine lder_ok a m _ _ _ h1 ?_
    simp -dsimp -implicitDefEqProofs only [↓cov3, ↓cov2, ↓cov1, ↓E_var, ↓E_int, ↓E_bl, ↓E_non, ↓E_str, ↓E_glo, ↓E_tup, ↓E_lst, ↓E_bin, ↓E_neg, ↓E_cmp, ↓E_chn, ↓E_and, ↓E_or, ↓E_one, ↓E_not, ↓E_ifx, ↓E_idx, ↓E_slc, ↓E_call, ↓E_bi, ↓E_isi, ↓E_mth, ↓E_lc, ↓Es_nil, ↓Es_cons, ↓O_no, ↓O_some, ↓Q_no, ↓Q_c, ↓C_and, ↓C_or, ↓C_one, ↓C_not, ↓C_cmp, ↓C_chn, ↓C_v, ↓I_seq, ↓I_rng1, ↓I_rng2, ↓I_rng3, ↓I_enu, ↓I_zip, ↓I_rev, ↓S_set, ↓S_asg, ↓S_par2, ↓S_sub, ↓S_expr, ↓S_ret, ↓S_retN, ↓S_ifs, ↓S_for, ↓S_brk, ↓S_cnt, ↓S_pass, ↓S_raise, ↓S_try, ↓S_never, ex_t, ex_f, ↓S_nil, ↓S_cons, ↓kN_nx, ↓kN_rt, ↓kN_bk, ↓kN_ct, ↓kN_ex, ↓kL_nx, ↓kL_rt, ↓kL_bk, ↓kL_ct, ↓kL_ex, ↓kX_nx, ↓kX_rt, ↓kX_bk, ↓kX_ct, ↓kX_ex, ↓kend_nx, ↓kend_rt, ↓kend_bk, ↓kend_ct, ↓kend_ex, vr_some, gt_0, gt_s, stn_0, stn_s, wip_0, wip_s, wips_0, wips_s, neg_i, isi_s, o_i, tru_non, tru_bl, tru_int, tru_tup, tru_rol, c_Eq, c_NotEq, c_Lt, c_LtE, c_Gt, c_GtE, cs_Eq, cs_NotEq, cb_Eq, cb_NotEq, c2_Eq, c2_NotEq, is_non, isnot_non, is_bl, isnot_bl, is_int, isnot_int, is_str, isnot_str, is_tup, isnot_tup, is_rol, isnot_rol, is_ref, isnot_ref, is_b, isnot_b, in_s, notin_s, b_add, b_sub, b_mul, b_fdiv, b_mod, b_pow, b_addt, b_adds, atI0, atI1, atI2, atI3, slc_t, slc_r, len_s, abs_i, int_i, int_b, min_i, max_i, gcd_i, seq_t, seq_r, r1_i, r2_i, r3_i, a_nm, a_nil, a_cons, vrl_some, vrn_some, put_lget, Option.isSome_some, tru_ref, b_addl, idx_t, idx_r, idx_l, slc_l, len_t, len_r, len_l, tuple_t, tuple_r, tuple_l, list_t, list_r, list_l, app_l, rev_l, pop_l, popat_l, mT_l, seq_l, enu_l, zip_l, rev_i, rev_t, in_t, notin_t, fl_s, fl_i, fl_b, fl_n, inL_nil, inL_ss, inL_ii, List.all_cons, List.all_nil, Bool.and_self, Bool.and_true, Bool.true_and, zip_t, a_t, a_l, sub_l, isTs, isT, Option.map_some, List.length_cons, List.length_nil, Nat.reduceAdd, Nat.reduceSub, Nat.reduceLT, Nat.zero_add, Bool.false_eq_true, Bool.true_eq_false, if_false, if_true, decide_eq_true_eq, Bool.not_true, Bool.not_false, ite_true, ite_false, reduceIte, Bool.not_eq_true', decide_eq_false_iff_not, Int.cast_ofNat_Int, Int.reduceEq, Int.reduceLT, Int.reduceLE, Int.reduceNeg, Int.reduceAdd, Int.reduceSub, Int.reduceMul, Int.reduceToNat, decide_true, decide_false, not_true, not_false, not_true_eq_false, not_false_eq_true, true_and, and_true, eq_self, reduceCtorEq, List.isEmpty_nil, List.isEmpty_cons, List.nil_append, List.cons_append, lit_inj, String.reduceEq, inL_ss, Bool.or_false, Bool.false_or, Bool.or_true, Bool.true_or, opS]
    exact hq
  | .log a, m, S, Q, E, h, hq => by
    obtain ⟨m, rfl⟩ : ∃ m', m = m' + 1 := ⟨m - 1, by omega⟩
    refine call_of t_law_derivative rfl ?_
    have h1 : hgt a < m := by unfold hgt at h; omega
    simp -dsimp -implicitDefEqProofs only [ent, List.map_cons, List.map_nil, List.length_cons, List.length_nil, Nat.reduceAdd, Nat.reduceSub, Nat.zero_add, List.replicate, List.cons_append, List.nil_append, F_law_derivative, XD]
    simp -dsimp -implicitDefEqProofs only [↓cov3, ↓cov2, ↓cov1, ↓E_var, ↓E_int, ↓E_bl, ↓E_non, ↓E_str, ↓E_glo, ↓E_tup, ↓E_lst, ↓E_bin, ↓E_neg, ↓E_cmp, ↓E_chn, ↓E_and, ↓E_or, ↓E_one, ↓E_not, ↓E_ifx, ↓E_idx, ↓E_slc, ↓E_call, ↓E_bi, ↓E_isi, ↓E_mth, ↓E_lc, ↓Es_nil, ↓Es_cons, ↓O_no, ↓O_some, ↓Q_no, ↓Q_c, ↓C_and, ↓C_or, ↓C_one, ↓C_not, ↓C_cmp, ↓C_chn, ↓C_v, ↓I_seq, ↓I_rng1, ↓I_rng2, ↓I_rng3, ↓I_enu, ↓I_zip, ↓I_rev, ↓S_set, ↓S_asg, ↓S_par2, ↓S_sub, ↓S_expr, ↓S_ret, ↓S_retN, ↓S_ifs, ↓S_for, ↓S_brk, ↓S_cnt, ↓S_pass, ↓S_raise, ↓S_try, ↓S_never, ex_t, ex_f, ↓S_nil, ↓S_cons, ↓kN_nx, ↓kN_rt, ↓kN_bk, ↓kN_ct, ↓kN_ex, ↓kL_nx, ↓kL_rt, ↓kL_bk, ↓kL_ct, ↓kL_ex, ↓kX_nx, ↓kX_rt, ↓kX_bk, ↓kX_ct, ↓kX_ex, ↓kend_nx, ↓kend_rt, ↓kend_bk, ↓kend_ct, ↓kend_ex, vr_some, gt_0, gt_s, stn_0, stn_s, wip_0, wip_s, wips_0, wips_s, neg_i, isi_s, o_i, tru_non, tru_bl, tru_int, tru_tup, tru_rol, c_Eq, c_NotEq, c_Lt, c_LtE, c_Gt, c_GtE, cs_Eq, cs_NotEq, cb_Eq, cb_NotEq, c2_Eq, c2_NotEq, is_non, isnot_non, is_bl, isnot_bl, is_int, isnot_int, is_str, isnot_str, is_tup, isnot_tup, is_rol, isnot_rol, is_ref, isnot_ref, is_b, isnot_b, in_s, notin_s, b_add, b_sub, b_mul, b_fdiv, b_mod, b_pow, b_addt, b_adds, atI0, atI1, atI2, atI3, slc_t, slc_r, len_s, abs_i, int_i, int_b, min_i, max_i, gcd_i, seq_t, seq_r, r1_i, r2_i, r3_i, a_nm, a_nil, a_cons, vrl_some, vrn_some, put_lget, Option.isSome_some, tru_ref, b_addl, idx_t, idx_r, idx_l, slc_l, len_t, len_r, len_l, tuple_t, tuple_r, tuple_l, list_t, list_r, list_l, app_l, rev_l, pop_l, popat_l, mT_l, seq_l, enu_l, zip_l, rev_i, rev_t, in_t, notin_t, fl_s, fl_i, fl_b, fl_n, inL_nil, inL_ss, inL_ii, List.all_cons, List.all_nil, Bool.and_self, Bool.and_true, Bool.true_and, zip_t, a_t, a_l, sub_l, isTs, isT, Option.map_some, List.length_cons, List.length_nil, Nat.reduceAdd, Nat.reduceSub, Nat.reduceLT, Nat.zero_add, Bool.false_eq_true, Bool.true_eq_false, if_false, if_true, decide_eq_true_eq, Bool.not_true, Bool.not_false, ite_true, ite_false, reduceIte, Bool.not_eq_true', decide_eq_false_iff_not, Int.cast_ofNat_Int, Int.reduceEq, Int.reduceLT, Int.reduceLE, Int.reduceNeg, Int.reduceAdd, Int.reduceSub, Int.reduceMul, Int.reduceToNat, decide_true, decide_false, not_true, not_false, not_true_eq_false, not_false_eq_true, true_and, and_true, eq_self, reduceCtorEq, List.isEmpty_nil, List.isEmpty_cons, List.nil_append, List.cons_append, lit_inj, String.reduceEq, inL_ss, Bool.or_false, Bool.false_or, Bool.or_true, Bool.true_or, opS]
    refine lder_ok a m _ _ _ h1 ?_
    simp -dsimp -implicitDefEqProofs only [↓cov3, ↓cov2, ↓cov1, ↓E_var, ↓E_int, ↓E_bl, ↓E_non, ↓E_str, ↓E_glo, ↓E_tup, ↓E_lst, ↓E_bin, ↓E_neg, ↓E_cmp, ↓E_chn, ↓E_and, ↓E_or, ↓E_one, ↓E_not, ↓E_ifx, ↓E_idx, ↓E_slc, ↓E_call, ↓E_bi, ↓E_isi, ↓E_mth, ↓E_lc, ↓Es_nil, ↓Es_cons, ↓O_no, ↓O_some, ↓Q_no, ↓Q_c, ↓C_and, ↓C_or, ↓C_one, ↓C_not, ↓C_cmp, ↓C_chn, ↓C_v, ↓I_seq, ↓I_rng1, ↓I_rng2, ↓I_rng3, ↓I_enu, ↓I_zip, ↓I_rev, ↓S_set, ↓S_asg, ↓S_par2, ↓S_sub, ↓S_expr, ↓S_ret, ↓S_retN, ↓S_ifs, ↓S_for, ↓S_brk, ↓S_cnt, ↓S_pass, ↓S_raise, ↓S_try, ↓S_never, ex_t, ex_f, ↓S_nil, ↓S_cons, ↓kN_nx, ↓kN_rt, ↓kN_bk, ↓kN_ct, ↓kN_ex, ↓kL_nx, ↓kL_rt, ↓kL_bk, ↓kL_ct, ↓kL_ex, ↓kX_nx, ↓kX_rt, ↓kX_bk, ↓kX_ct, ↓kX_ex, ↓kend_nx, ↓kend_rt, ↓kend_bk, ↓kend_ct, ↓kend_ex, vr_some, gt_0, gt_s, stn_0, stn_s, wip_0, wip_s, wips_0, wips_s, neg_i, isi_s, o_i, tru_non, tru_bl, tru_int, tru_tup, tru_rol, c_Eq, c_NotEq, c_Lt, c_LtE, c_Gt, c_GtE, cs_Eq, cs_NotEq, cb_Eq, cb_NotEq, c2_Eq, c2_NotEq, is_non, isnot_non, is_bl, isnot_bl, is_int, isnot_int, is_str, isnot_str, is_tup, isnot_tup, is_rol, isnot_rol, is_ref, isnot_ref, is_b, isnot_b, in_s, notin_s, b_add, b_sub, b_mul, b_fdiv, b_mod, b_pow, b_addt, b_adds, atI0, atI1, atI2, atI3, slc_t, slc_r, len_s, abs_i, int_i, int_b, min_i, max_i, gcd_i, seq_t, seq_r, r1_i, r2_i, r3_i, a_nm, a_nil, a_cons, vrl_some, vrn_some, put_lget, Option.isSome_some, tru_ref, b_addl, idx_t, idx_r, idx_l, slc_l, len_t, len_r, len_l, tuple_t, tuple_r, tuple_l, list_t, list_r, list_l, app_l, rev_l, pop_l, popat_l, mT_l, seq_l, enu_l, zip_l, rev_i, rev_t, in_t, notin_t, fl_s, fl_i, fl_b, fl_n, inL_nil, inL_ss, inL_ii, List.all_cons, List.all_nil, Bool.and_self, Bool.and_true, Bool.true_and, zip_t, a_t, a_l, sub_l, isTs, isT, Option.map_some, List.length_cons, List.length_nil, Nat.reduceAdd, Nat.reduceSub, Nat.reduceLT, Nat.zero_add, Bool.false_eq_true, Bool.true_eq_false, if_false, if_true, decide_eq_true_eq, Bool.not_true, Bool.not_false, ite_true, ite_false, reduceIte, Bool.not_eq_true', decide_eq_false_iff_not, Int.cast_ofNat_Int, Int.reduceEq, Int.reduceLT, Int.reduceLE, Int.reduceNeg, Int.reduceAdd, Int.reduceSub, Int.reduceMul, Int.reduceToNat, decide_true, decide_false, not_true, not_false, not_true_eq_false, not_false_eq_true, true_and, and_true, eq_self, reduceCtorEq, List.isEmpty_nil, List.isEmpty_cons, List.nil_append, List.cons_append, lit_inj, String.reduceEq, inL_ss, Bool.or_false, Bool.false_or, Bool.or_true, Bool.true_or, opS]
    exact hq
  | .bin .add a b, m, S, Q, E, h, hq => by
    obtain ⟨m, rfl⟩ : ∃ m', m = m' + 1 := ⟨m - 1, by omega⟩
    refine call_of t_law_derivative rfl ?_
    have h1 : hgt a < m := by unfold hgt at h; omega
    have h2 : hgt b < m := by unfold hgt at h; omega
    simp -dsimp -implicitDefEqProofs only [ent, List.map_cons, List.map_nil, List.length_cons, List.length_nil, Nat.reduceAdd, Nat.reduceSub, Nat.zero_add, List.replicate, List.cons_append, List.nil_append, F_law_derivative, XD]
    simp -dsimp -implicitDefEqProofs only [↓cov3, ↓cov2, ↓cov1, ↓E_var, ↓E_int, ↓E_bl, ↓E_non, ↓E_str, ↓E_glo, ↓E_tup, ↓E_lst, ↓E_bin, ↓E_neg, ↓E_cmp, ↓E_chn, ↓E_and, ↓E_or, ↓E_one, ↓E_not, ↓E_ifx, ↓E_idx, ↓E_slc, ↓E_call, ↓E_bi, ↓E_isi, ↓E_mth, ↓E_lc, ↓Es_nil, ↓Es_cons, ↓O_no, ↓O_some, ↓Q_no, ↓Q_c, ↓C_and, ↓C_or, ↓C_one, ↓C_not, ↓C_cmp, ↓C_chn, ↓C_v, ↓I_seq, ↓I_rng1, ↓I_rng2, ↓I_rng3, ↓I_enu, ↓I_zip, ↓I_rev, ↓S_set, ↓S_asg, ↓S_par2, ↓S_sub, ↓S_expr, ↓S_ret, ↓S_retN, ↓S_ifs, ↓S_for, ↓S_brk, ↓S_cnt, ↓S_pass, ↓S_raise, ↓S_try, ↓S_never, ex_t, ex_f, ↓S_nil, ↓S_cons, ↓kN_nx, ↓kN_rt, ↓kN_bk, ↓kN_ct, ↓kN_ex, ↓kL_nx, ↓kL_rt, ↓kL_bk, ↓kL_ct, ↓kL_ex, ↓kX_nx, ↓kX_rt, ↓kX_bk, ↓kX_ct, ↓kX_ex, ↓kend_nx, ↓kend_rt, ↓kend_bk, ↓kend_ct, ↓kend_ex, vr_some, gt_0, gt_s, stn_0, stn_s, wip_0, wip_s, wips_0, wips_s, neg_i, isi_s, o_i, tru_non, tru_bl, tru_int, tru_tup, tru_rol, c_Eq, c_NotEq, c_Lt, c_LtE, c_Gt, c_GtE, cs_Eq, cs_NotEq, cb_Eq, cb_NotEq, c2_Eq, c2_NotEq, is_non, isnot_non, is_bl, isnot_bl, is_int, isnot_int, is_str, isnot_str, is_tup, isnot_tup, is_rol, isnot_rol, is_ref, isnot_ref, is_b, isnot_b, in_s, notin_s, b_add, b_sub, b_mul, b_fdiv, b_mod, b_pow, b_addt, b_adds, atI0, atI1, atI2, atI3, slc_t, slc_r, len_s, abs_i, int_i, int_b, min_i, max_i, gcd_i, seq_t, seq_r, r1_i, r2_i, r3_i, a_nm, a_nil, a_cons, vrl_some, vrn_some, put_lget, Option.isSome_some, tru_ref, b_addl, idx_t, idx_r, idx_l, slc_l, len_t, len_r, len_l, tuple_t, tuple_r, tuple_l, list_t, list_r, list_l, app_l, rev_l, pop_l, popat_l, mT_l, seq_l, enu_l, zip_l, rev_i, rev_t, in_t, notin_t, fl_s, fl_i, fl_b, fl_n, inL_nil, inL_ss, inL_ii, List.all_cons, List.all_nil, Bool.and_self, Bool.and_true, Bool.true_and, zip_t, a_t, a_l, sub_l, isTs, isT, Option.map_some, List.length_cons, List.length_nil, Nat.reduceAdd, Nat.reduceSub, Nat.reduceLT, Nat.zero_add, Bool.false_eq_true, Bool.true_eq_false, if_false, if_true, decide_eq_true_eq, Bool.not_true, Bool.not_false, ite_true, ite_false, reduceIte, Bool.not_eq_true', decide_eq_false_iff_not, Int.cast_ofNat_Int, Int.reduceEq, Int.reduceLT, Int.reduceLE, Int.reduceNeg, Int.reduceAdd, Int.reduceSub, Int.reduceMul, Int.reduceToNat, decide_true, decide_false, not_true, not_false, not_true_eq_false, not_false_eq_true, true_and, and_true, eq_self, reduceCtorEq, List.isEmpty_nil, List.isEmpty_cons, List.nil_append, List.cons_append, lit_inj, String.reduceEq, inL_ss, Bool.or_false, Bool.false_or, Bool.or_true, Bool.true_or, opS]
    refine lder_ok a m _ _ _ h1 ?_
    simp -dsimp -implicitDefEqProofs only [↓cov3, ↓cov2, ↓cov1, ↓E_var, ↓E_int, ↓E_bl, ↓E_non, ↓E_str, ↓E_glo, ↓E_tup, ↓E_lst, ↓E_bin, ↓E_neg, ↓E_cmp, ↓E_chn, ↓E_and, ↓E_or, ↓E_one, ↓E_not, ↓E_ifx, ↓E_idx, ↓E_slc, ↓E_call, ↓E_bi, ↓E_isi, ↓E_mth, ↓E_lc, ↓Es_nil, ↓Es_cons, ↓O_no, ↓O_some, ↓Q_no, ↓Q_c, ↓C_and, ↓C_or, ↓C_one, ↓C_not, ↓C_cmp, ↓C_chn, ↓C_v, ↓I_seq, ↓I_rng1, ↓I_rng2, ↓I_rng3, ↓I_enu, ↓I_zip, ↓I_rev, ↓S_set, ↓S_asg, ↓S_par2, ↓S_sub, ↓S_expr, ↓S_ret, ↓S_retN, ↓S_ifs, ↓S_for, ↓S_brk, ↓S_cnt, ↓S_pass, ↓S_raise, ↓S_try, ↓S_never, ex_t, ex_f, ↓S_nil, ↓S_cons, ↓kN_nx, ↓kN_rt, ↓kN_bk, ↓kN_ct, ↓kN_ex, ↓kL_nx, ↓kL_rt, ↓kL_bk, ↓kL_ct, ↓kL_ex, ↓kX_nx, ↓kX_rt, ↓kX_bk, ↓kX_ct, ↓kX_ex, ↓kend_nx, ↓kend_rt, ↓kend_bk, ↓kend_ct, ↓kend_ex, vr_some, gt_0, gt_s, stn_0, stn_s, wip_0, wip_s, wips_0, wips_s, neg_i, isi_s, o_i, tru_non, tru_bl, tru_int, tru_tup, tru_rol, c_Eq, c_NotEq, c_Lt, c_LtE, c_Gt, c_GtE, cs_Eq, cs_NotEq, cb_Eq, cb_NotEq, c2_Eq, c2_NotEq, is_non, isnot_non, is_bl, isnot_bl, is_int, isnot_int, is_str, isnot_str, is_tup, isnot_tup, is_rol, isnot_rol, is_ref, isnot_ref, is_b, isnot_b, in_s, notin_s, b_add, b_sub, b_mul, b_fdiv, b_mod, b_pow, b_addt, b_adds, atI0, atI1, atI2, atI3, slc_t, slc_r, len_s, abs_i, int_i, int_b, min_i, max_i, gcd_i, seq_t, seq_r, r1_i, r2_i, r3_i, a_nm, a_nil, a_cons, vrl_some, vrn_some, put_lget, Option.isSome_some, tru_ref, b_addl, idx_t, idx_r, idx_l, slc_l, len_t, len_r, len_l, tuple_t, tuple_r, tuple_l, list_t, list_r, list_l, app_l, rev_l, pop_l, popat_l, mT_l, seq_l, enu_l, zip_l, rev_i, rev_t, in_t, notin_t, fl_s, fl_i, fl_b, fl_n, inL_nil, inL_ss, inL_ii, List.all_cons, List.all_nil, Bool.and_self, Bool.and_true, Bool.true_and, zip_t, a_t, a_l, sub_l, isTs, isT, Option.map_some, List.length_cons, List.length_nil, Nat.reduceAdd, Nat.reduceSub, Nat.reduceLT, Nat.zero_add, Bool.false_eq_true, Bool.true_eq_false, if_false, if_true, decide_eq_true_eq, Bool.not_true, Bool.not_false, ite_true, ite_false, reduceIte, Bool.not_eq_true', decide_eq_false_iff_not, Int.cast_ofNat_Int, Int.reduceEq, Int.reduceLT, Int.reduceLE, Int.reduceNeg, Int.reduceAdd, Int.reduceSub, Int.reduceMul, Int.reduceToNat, decide_true, decide_false, not_true, not_false, not_true_eq_false, not_false_eq_true, true_and, and_true, eq_self, reduceCtorEq, List.isEmpty_nil, List.isEmpty_cons, List.nil_append, List.cons_append, lit_inj, String.reduceEq, inL_ss, Bool.or_false, Bool.false_or, Bool.or_true, Bool.true_or, opS]
    refine lder_ok b m _ _ _ h2 ?_
    simp -dsimp -implicitDefEqProofs only [↓cov3, ↓cov2, ↓cov1, ↓E_var, ↓E_int, ↓E_bl, ↓E_non, ↓E_str, ↓E_glo, ↓E_tup, ↓E_lst, ↓E_bin, ↓E_neg, ↓E_cmp, ↓E_chn, ↓E_and, ↓E_or, ↓E_one, ↓E_not, ↓E_ifx, ↓E_idx, ↓E_slc, ↓E_call, ↓E_bi, ↓E_isi, ↓E_mth, ↓E_lc, ↓Es_nil, ↓Es_cons, ↓O_no, ↓O_some, ↓Q_no, ↓Q_c, ↓C_and, ↓C_or, ↓C_one, ↓C_not, ↓C_cmp, ↓C_chn, ↓C_v, ↓I_seq, ↓I_rng1, ↓I_rng2, ↓I_rng3, ↓I_enu, ↓I_zip, ↓I_rev, ↓S_set, ↓S_asg, ↓S_par2, ↓S_sub, ↓S_expr, ↓S_ret, ↓S_retN, ↓S_ifs, ↓S_for, ↓S_brk, ↓S_cnt, ↓S_pass, ↓S_raise, ↓S_try, ↓S_never, ex_t, ex_f, ↓S_nil, ↓S_cons, ↓kN_nx, ↓kN_rt, ↓kN_bk, ↓kN_ct, ↓kN_ex, ↓kL_nx, ↓kL_rt, ↓kL_bk, ↓kL_ct, ↓kL_ex, ↓kX_nx, ↓kX_rt, ↓kX_bk, ↓kX_ct, ↓kX_ex, ↓kend_nx, ↓kend_rt, ↓kend_bk, ↓kend_ct, ↓kend_ex, vr_some, gt_0, gt_s, stn_0, stn_s, wip_0, wip_s, wips_0, wips_s, neg_i, isi_s, o_i, tru_non, tru_bl, tru_int, tru_tup, tru_rol, c_Eq, c_NotEq, c_Lt, c_LtE, c_Gt, c_GtE, cs_Eq, cs_NotEq, cb_Eq, cb_NotEq, c2_Eq, c2_NotEq, is_non, isnot_non, is_bl, isnot_bl, is_int, isnot_int, is_str, isnot_str, is_tup, isnot_tup, is_rol, isnot_rol, is_ref, isnot_ref, is_b, isnot_b, in_s, notin_s, b_add, b_sub, b_mul, b_fdiv, b_mod, b_pow, b_addt, b_adds, atI0, atI1, atI2, atI3, slc_t, slc_r, len_s, abs_i, int_i, int_b, min_i, max_i, gcd_i, seq_t, seq_r, r1_i, r2_i, r3_i, a_nm, a_nil, a_cons, vrl_some, vrn_some, put_lget, Option.isSome_some, tru_ref, b_addl, idx_t, idx_r, idx_l, slc_l, len_t, len_r, len_l, tuple_t, tuple_r, tuple_l, list_t, list_r, list_l, app_l, rev_l, pop_l, popat_l, mT_l, seq_l, enu_l, zip_l, rev_i, rev_t, in_t, notin_t, fl_s, fl_i, fl_b, fl_n, inL_nil, inL_ss, inL_ii, List.all_cons, List.all_nil, Bool.and_self, Bool.and_true, Bool.true_and, zip_t, a_t, a_l, sub_l, isTs, isT, Option.map_some, List.length_cons, List.length_nil, Nat.reduceAdd, Nat.reduceSub, Nat.reduceLT, Nat.zero_add, Bool.false_eq_true, Bool.true_eq_false, if_false, if_true, decide_eq_true_eq, Bool.not_true, Bool.not_false, ite_true, ite_false, reduceIte, Bool.not_eq_true', decide_eq_false_iff_not, Int.cast_ofNat_Int, Int.reduceEq, Int.reduceLT, Int.reduceLE, Int.reduceNeg, Int.reduceAdd, Int.reduceSub, Int.reduceMul, Int.reduceToNat, decide_true, decide_false, not_true, not_false, not_true_eq_false, not_false_eq_true, true_and, and_true, eq_self, reduceCtorEq, List.isEmpty_nil, List.isEmpty_cons, List.nil_append, List.cons_append, lit_inj, String.reduceEq, inL_ss, Bool.or_false, Bool.false_or, Bool.or_true, Bool.true_or, opS]
    exact hq
  | .bin .sub a b, m, S, Q, E, h, hq => by
    obtain ⟨m, rfl⟩ : ∃ m', m = m' + 1 := ⟨m - 1, by omega⟩
    refine call_of t_law_derivative rfl ?_
    have h1 : hgt a < m := by unfold hgt at h; omega
    have h2 : hgt b < m := by unfold hgt at h; omega
    simp -dsimp -implicitDefEqProofs only [ent, List.map_cons, List.map_nil, List.length_cons, List.length_nil, Nat.reduceAdd, Nat.reduceSub, Nat.zero_add, List.replicate, List.cons_append, List.nil_append, F_law_derivative, XD]
    simp -dsimp -implicitDefEqProofs only [↓cov3, ↓cov2, ↓cov1, ↓E_var, ↓E_int, ↓E_bl, ↓E_non, ↓E_str, ↓E_glo, ↓E_tup, ↓E_lst, ↓E_bin, ↓E_neg, ↓E_cmp, ↓E_chn, ↓E_and, ↓E_or, ↓E_one, ↓E_not, ↓E_ifx, ↓E_idx, ↓E_slc, ↓E_call, ↓E_bi, ↓E_isi, ↓E_mth, ↓E_lc, ↓Es_nil, ↓Es_cons, ↓O_no, ↓O_some, ↓Q_no, ↓Q_c, ↓C_and, ↓C_or, ↓C_one, ↓C_not, ↓C_cmp, ↓C_chn, ↓C_v, ↓I_seq, ↓I_rng1, ↓I_rng2, ↓I_rng3, ↓I_enu, ↓I_zip, ↓I_rev, ↓S_set, ↓S_asg, ↓S_par2, ↓S_sub, ↓S_expr, ↓S_ret, ↓S_retN, ↓S_ifs, ↓S_for, ↓S_brk, ↓S_cnt, ↓S_pass, ↓S_raise, ↓S_try, ↓S_never, ex_t, ex_f, ↓S_nil, ↓S_cons, ↓kN_nx, ↓kN_rt, ↓kN_bk, ↓kN_ct, ↓kN_ex, ↓kL_nx, ↓kL_rt, ↓kL_bk, ↓kL_ct, ↓kL_ex, ↓kX_nx, ↓kX_rt, ↓kX_bk, ↓kX_ct, ↓kX_ex, ↓kend_nx, ↓kend_rt, ↓kend_bk, ↓kend_ct, ↓kend_ex, vr_some, gt_0, gt_s, stn_0, stn_s, wip_0, wip_s, wips_0, wips_s, neg_i, isi_s, o_i, tru_non, tru_bl, tru_int, tru_tup, tru_rol, c_Eq, c_NotEq, c_Lt, c_LtE, c_Gt, c_GtE, cs_Eq, cs_NotEq, cb_Eq, cb_NotEq, c2_Eq, c2_NotEq, is_non, isnot_non, is_bl, isnot_bl, is_int, isnot_int, is_str, isnot_str, is_tup, isnot_tup, is_rol, isnot_rol, is_ref, isnot_ref, is_b, isnot_b, in_s, notin_s, b_add, b_sub, b_mul, b_fdiv, b_mod, b_pow, b_addt, b_adds, atI0, atI1, atI2, atI3, slc_t, slc_r, len_s, abs_i, int_i, int_b, min_i, max_i, gcd_i, seq_t, seq_r, r1_i, r2_i, r3_i, a_nm, a_nil, a_cons, vrl_some, vrn_some, put_lget, Option.isSome_some, tru_ref, b_addl, idx_t, idx_r, idx_l, slc_l, len_t, len_r, len_l, tuple_t, tuple_r, tuple_l, list_t, list_r, list_l, app_l, rev_l, pop_l, popat_l, mT_l, seq_l, enu_l, zip_l, rev_i, rev_t, in_t, notin_t, fl_s, fl_i, fl_b, fl_n, inL_nil, inL_ss, inL_ii, List.all_cons, List.all_nil, Bool.and_self, Bool.and_true, Bool.true_and, zip_t, a_t, a_l, sub_l, isTs, isT, Option.map_some, List.length_cons, List.length_nil, Nat.reduceAdd, Nat.reduceSub, Nat.reduceLT, Nat.zero_add, Bool.false_eq_true, Bool.true_eq_false, if_false, if_true, decide_eq_true_eq, Bool.not_true, Bool.not_false, ite_true, ite_false, reduceIte, Bool.not_eq_true', decide_eq_false_iff_not, Int.cast_ofNat_Int, Int.reduceEq, Int.reduceLT, Int.reduceLE, Int.reduceNeg, Int.reduceAdd, Int.reduceSub, Int.reduceMul, Int.reduceToNat, decide_true, decide_false, not_true, not_false, not_true_eq_false, not_false_eq_true, true_and, and_true, eq_self, reduceCtorEq, List.isEmpty_nil, List.isEmpty_cons, List.nil_append, List.cons_append, lit_inj, String.reduceEq, inL_ss, Bool.or_false, Bool.false_or, Bool.or_true, Bool.true_or, opS]
    refine lder_ok a m _ _ _ h1 ?_
    simp -dsimp -implicitDefEqProofs only [↓cov3, ↓cov2, ↓cov1, ↓E_var, ↓E_int, ↓E_bl, ↓E_non, ↓E_str, ↓E_glo, ↓E_tup, ↓E_lst, ↓E_bin, ↓E_neg, ↓E_cmp, ↓E_chn, ↓E_and, ↓E_or, ↓E_one, ↓E_not, ↓E_ifx, ↓E_idx, ↓E_slc, ↓E_call, ↓E_bi, ↓E_isi, ↓E_mth, ↓E_lc, ↓Es_nil, ↓Es_cons, ↓O_no, ↓O_some, ↓Q_no, ↓Q_c, ↓C_and, ↓C_or, ↓C_one, ↓C_not, ↓C_cmp, ↓C_chn, ↓C_v, ↓I_seq, ↓I_rng1, ↓I_rng2, ↓I_rng3, ↓I_enu, ↓I_zip, ↓I_rev, ↓S_set, ↓S_asg, ↓S_par2, ↓S_sub, ↓S_expr, ↓S_ret, ↓S_retN, ↓S_ifs, ↓S_for, ↓S_brk, ↓S_cnt, ↓S_pass, ↓S_raise, ↓S_try, ↓S_never, ex_t, ex_f, ↓S_nil, ↓S_cons, ↓kN_nx, ↓kN_rt, ↓kN_bk, ↓kN_ct, ↓kN_ex, ↓kL_nx, ↓kL_rt, ↓kL_bk, ↓kL_ct, ↓kL_ex, ↓kX_nx, ↓kX_rt, ↓kX_bk, ↓kX_ct, ↓kX_ex, ↓kend_nx, ↓kend_rt, ↓kend_bk, ↓kend_ct, ↓kend_ex, vr_some, gt_0, gt_s, stn_0, stn_s, wip_0, wip_s, wips_0, wips_s, neg_i, isi_s, o_i, tru_non, tru_bl, tru_int, tru_tup, tru_rol, c_Eq, c_NotEq, c_Lt, c_LtE, c_Gt, c_GtE, cs_Eq, cs_NotEq, cb_Eq, cb_NotEq, c2_Eq, c2_NotEq, is_non, isnot_non, is_bl, isnot_bl, is_int, isnot_int, is_str, isnot_str, is_tup, isnot_tup, is_rol, isnot_rol, is_ref, isnot_ref, is_b, isnot_b, in_s, notin_s, b_add, b_sub, b_mul, b_fdiv, b_mod, b_pow, b_addt, b_adds, atI0, atI1, atI2, atI3, slc_t, slc_r, len_s, abs_i, int_i, int_b, min_i, max_i, gcd_i, seq_t, seq_r, r1_i, r2_i, r3_i, a_nm, a_nil, a_cons, vrl_some, vrn_some, put_lget, Option.isSome_some, tru_ref, b_addl, idx_t, idx_r, idx_l, slc_l, len_t, len_r, len_l, tuple_t, tuple_r, tuple_l, list_t, list_r, list_l, app_l, rev_l, pop_l, popat_l, mT_l, seq_l, enu_l, zip_l, rev_i, rev_t, in_t, notin_t, fl_s, fl_i, fl_b, fl_n, inL_nil, inL_ss, inL_ii, List.all_cons, List.all_nil, Bool.and_self, Bool.and_true, Bool.true_and, zip_t, a_t, a_l, sub_l, isTs, isT, Option.map_some, List.length_cons, List.length_nil, Nat.reduceAdd, Nat.reduceSub, Nat.reduceLT, Nat.zero_add, Bool.false_eq_true, Bool.true_eq_false, if_false, if_true, decide_eq_true_eq, Bool.not_true, Bool.not_false, ite_true, ite_false, reduceIte, Bool.not_eq_true', decide_eq_false_iff_not, Int.cast_ofNat_Int, Int.reduceEq, Int.reduceLT, Int.reduceLE, Int.reduceNeg, Int.reduceAdd, Int.reduceSub, Int.reduceMul, Int.reduceToNat, decide_true, decide_false, not_true, not_false, not_true_eq_false, not_false_eq_true, true_and, and_true, eq_self, reduceCtorEq, List.isEmpty_nil, List.isEmpty_cons, List.nil_append, List.cons_append, lit_inj, String.reduceEq, inL_ss, Bool.or_false, Bool.false_or, Bool.or_true, Bool.true_or, opS]
    refine lder_ok b m _ _ _ h2 ?_
    simp -dsimp -implicitDefEqProofs only [↓cov3, ↓cov2, ↓cov1, ↓E_var, ↓E_int, ↓E_bl, ↓E_non, ↓E_str, ↓E_glo, ↓E_tup, ↓E_lst, ↓E_bin, ↓E_neg, ↓E_cmp, ↓E_chn, ↓E_and, ↓E_or, ↓E_one, ↓E_not, ↓E_ifx, ↓E_idx, ↓E_slc, ↓E_call, ↓E_bi, ↓E_isi, ↓E_mth, ↓E_lc, ↓Es_nil, ↓Es_cons, ↓O_no, ↓O_some, ↓Q_no, ↓Q_c, ↓C_and, ↓C_or, ↓C_one, ↓C_not, ↓C_cmp, ↓C_chn, ↓C_v, ↓I_seq, ↓I_rng1, ↓I_rng2, ↓I_rng3, ↓I_enu, ↓I_zip, ↓I_rev, ↓S_set, ↓S_asg, ↓S_par2, ↓S_sub, ↓S_expr, ↓S_ret, ↓S_retN, ↓S_ifs, ↓S_for, ↓S_brk, ↓S_cnt, ↓S_pass, ↓S_raise, ↓S_try, ↓S_never, ex_t, ex_f, ↓S_nil, ↓S_cons, ↓kN_nx, ↓kN_rt, ↓kN_bk, ↓kN_ct, ↓kN_ex, ↓kL_nx, ↓kL_rt, ↓kL_bk, ↓kL_ct, ↓kL_ex, ↓kX_nx, ↓kX_rt, ↓kX_bk, ↓kX_ct, ↓kX_ex, ↓kend_nx, ↓kend_rt, ↓kend_bk, ↓kend_ct, ↓kend_ex, vr_some, gt_0, gt_s, stn_0, stn_s, wip_0, wip_s, wips_0, wips_s, neg_i, isi_s, o_i, tru_non, tru_bl, tru_int, tru_tup, tru_rol, c_Eq, c_NotEq, c_Lt, c_LtE, c_Gt, c_GtE, cs_Eq, cs_NotEq, cb_Eq, cb_NotEq, c2_Eq, c2_NotEq, is_non, isnot_non, is_bl, isnot_bl, is_int, isnot_int, is_str, isnot_str, is_tup, isnot_tup, is_rol, isnot_rol, is_ref, isnot_ref, is_b, isnot_b, in_s, notin_s, b_add, b_sub, b_mul, b_fdiv, b_mod, b_pow, b_addt, b_adds, atI0, atI1, atI2, atI3, slc_t, slc_r, len_s, abs_i, int_i, int_b, min_i, max_i, gcd_i, seq_t, seq_r, r1_i, r2_i, r3_i, a_nm, a_nil, a_cons, vrl_some, vrn_some, put_lget, Option.isSome_some, tru_ref, b_addl, idx_t, idx_r, idx_l, slc_l, len_t, len_r, len_l, tuple_t, tuple_r, tuple_l, list_t, list_r, list_l, app_l, rev_l, pop_l, popat_l, mT_l, seq_l, enu_l, zip_l, rev_i, rev_t, in_t, notin_t, fl_s, fl_i, fl_b, fl_n, inL_nil, inL_ss, inL_ii, List.all_cons, List.all_nil, Bool.and_self, Bool.and_true, Bool.true_and, zip_t, a_t, a_l, sub_l, isTs, isT, Option.map_some, List.length_cons, List.length_nil, Nat.reduceAdd, Nat.reduceSub, Nat.reduceLT, Nat.zero_add, Bool.false_eq_true, Bool.true_eq_false, if_false, if_true, decide_eq_true_eq, Bool.not_true, Bool.not_false, ite_true, ite_false, reduceIte, Bool.not_eq_true', decide_eq_false_iff_not, Int.cast_ofNat_Int, Int.reduceEq, Int.reduceLT, Int.reduceLE, Int.reduceNeg, Int.reduceAdd, Int.reduceSub, Int.reduceMul, Int.reduceToNat, decide_true, decide_false, not_true, not_false, not_true_eq_false, not_false_eq_true, true_and, and_true, eq_self, reduceCtorEq, List.isEmpty_nil, List.isEmpty_cons, List.nil_append, List.cons_append, lit_inj, String.reduceEq, inL_ss, Bool.or_false, Bool.false_or, Bool.or_true, Bool.true_or, opS]
    exact hq
  | .bin .mul a b, m, S, Q, E, h, hq => by
    obtain ⟨m, rfl⟩ : ∃ m', m = m' + 1 := ⟨m - 1, by omega⟩
    refine call_of t_law_derivative rfl ?_
    have h1 : hgt a < m := by unfold hgt at h; omega
    have h2 : hgt b < m := by unfold hgt at h; omega
    simp -dsimp -implicitDefEqProofs only [ent, List.map_cons, List.map_nil, List.length_cons, List.length_nil, Nat.reduceAdd, Nat.reduceSub, Nat.zero_add, List.replicate, List.cons_append, List.nil_append, F_law_derivative, XD]
    simp -dsimp -implicitDefEqProofs only [↓cov3, ↓cov2, ↓cov1, ↓E_var, ↓E_int, ↓E_bl, ↓E_non, ↓E_str, ↓E_glo, ↓E_tup, ↓E_lst, ↓E_bin, ↓E_neg, ↓E_cmp, ↓E_chn, ↓E_and, ↓E_or, ↓E_one, ↓E_not, ↓E_ifx, ↓E_idx, ↓E_slc, ↓E_call, ↓E_bi, ↓E_isi, ↓E_mth, ↓E_lc, ↓Es_nil, ↓Es_cons, ↓O_no, ↓O_some, ↓Q_no, ↓Q_c, ↓C_and, ↓C_or, ↓C_one, ↓C_not, ↓C_cmp, ↓C_chn, ↓C_v, ↓I_seq, ↓I_rng1, ↓I_rng2, ↓I_rng3, ↓I_enu, ↓I_zip, ↓I_rev, ↓S_set, ↓S_asg, ↓S_par2, ↓S_sub, ↓S_expr, ↓S_ret, ↓S_retN, ↓S_ifs, ↓S_for, ↓S_brk, ↓S_cnt, ↓S_pass, ↓S_raise, ↓S_try, ↓S_never, ex_t, ex_f, ↓S_nil, ↓S_cons, ↓kN_nx, ↓kN_rt, ↓kN_bk, ↓kN_ct, ↓kN_ex, ↓kL_nx, ↓kL_rt, ↓kL_bk, ↓kL_ct, ↓kL_ex, ↓kX_nx, ↓kX_rt, ↓kX_bk, ↓kX_ct, ↓kX_ex, ↓kend_nx, ↓kend_rt, ↓kend_bk, ↓kend_ct, ↓kend_ex, vr_some, gt_0, gt_s, stn_0, stn_s, wip_0, wip_s, wips_0, wips_s, neg_i, isi_s, o_i, tru_non, tru_bl, tru_int, tru_tup, tru_rol, c_Eq, c_NotEq, c_Lt, c_LtE, c_Gt, c_GtE, cs_Eq, cs_NotEq, cb_Eq, cb_NotEq, c2_Eq, c2_NotEq, is_non, isnot_non, is_bl, isnot_bl, is_int, isnot_int, is_str, isnot_str, is_tup, isnot_tup, is_rol, isnot_rol, is_ref, isnot_ref, is_b, isnot_b, in_s, notin_s, b_add, b_sub, b_mul, b_fdiv, b_mod, b_pow, b_addt, b_adds, atI0, atI1, atI2, atI3, slc_t, slc_r, len_s, abs_i, int_i, int_b, min_i, max_i, gcd_i, seq_t, seq_r, r1_i, r2_i, r3_i, a_nm, a_nil, a_cons, vrl_some, vrn_some, put_lget, Option.isSome_some, tru_ref, b_addl, idx_t, idx_r, idx_l, slc_l, len_t, len_r, len_l, tuple_t, tuple_r, tuple_l, list_t, list_r, list_l, app_l, rev_l, pop_l, popat_l, mT_l, seq_l, enu_l, zip_l, rev_i, rev_t, in_t, notin_t, fl_s, fl_i, fl_b, fl_n, inL_nil, inL_ss, inL_ii, List.all_cons, List.all_nil, Bool.and_self, Bool.and_true, Bool.true_and, zip_t, a_t, a_l, sub_l, isTs, isT, Option.map_some, List.length_cons, List.length_nil, Nat.reduceAdd, Nat.reduceSub, Nat.reduceLT, Nat.zero_add, Bool.false_eq_true, Bool.true_eq_false, if_false, if_true, decide_eq_true_eq, Bool.not_true, Bool.not_false, ite_true, ite_false, reduceIte, Bool.not_eq_true', decide_eq_false_iff_not, Int.cast_ofNat_Int, Int.reduceEq, Int.reduceLT, Int.reduceLE, Int.reduceNeg, Int.reduceAdd, Int.reduceSub, Int.reduceMul, Int.reduceToNat, decide_true, decide_false, not_true, not_false, not_true_eq_false, not_false_eq_true, true_and, and_true, eq_self, reduceCtorEq, List.isEmpty_nil, List.isEmpty_cons, List.nil_append, List.cons_append, lit_inj, String.reduceEq, inL_ss, Bool.or_false, Bool.false_or, Bool.or_true, Bool.true_or, opS]
    refine lder_ok a m _ _ _ h1 ?_
    simp -dsimp -implicitDefEqProofs only [↓cov3, ↓cov2, ↓cov1, ↓E_var, ↓E_int, ↓E_bl, ↓E_non, ↓E_str, ↓E_glo, ↓E_tup, ↓E_lst, ↓E_bin, ↓E_neg, ↓E_cmp, ↓E_chn, ↓E_and, ↓E_or, ↓E_one, ↓E_not, ↓E_ifx, ↓E_idx, ↓E_slc, ↓E_call, ↓E_bi, ↓E_isi, ↓E_mth, ↓E_lc, ↓Es_nil, ↓Es_cons, ↓O_no, ↓O_some, ↓Q_no, ↓Q_c, ↓C_and, ↓C_or, ↓C_one, ↓C_not, ↓C_cmp, ↓C_chn, ↓C_v, ↓I_seq, ↓I_rng1, ↓I_rng2, ↓I_rng3, ↓I_enu, ↓I_zip, ↓I_rev, ↓S_set, ↓S_asg, ↓S_par2, ↓S_sub, ↓S_expr, ↓S_ret, ↓S_retN, ↓S_ifs, ↓S_for, ↓S_brk, ↓S_cnt, ↓S_pass, ↓S_raise, ↓S_try, ↓S_never, ex_t, ex_f, ↓S_nil, ↓S_cons, ↓kN_nx, ↓kN_rt, ↓kN_bk, ↓kN_ct, ↓kN_ex, ↓kL_nx, ↓kL_rt, ↓kL_bk, ↓kL_ct, ↓kL_ex, ↓kX_nx, ↓kX_rt, ↓kX_bk, ↓kX_ct, ↓kX_ex, ↓kend_nx, ↓kend_rt, ↓kend_bk, ↓kend_ct, ↓kend_ex, vr_some, gt_0, gt_s, stn_0, stn_s, wip_0, wip_s, wips_0, wips_s, neg_i, isi_s, o_i, tru_non, tru_bl, tru_int, tru_tup, tru_rol, c_Eq, c_NotEq, c_Lt, c_LtE, c_Gt, c_GtE, cs_Eq, cs_NotEq, cb_Eq, cb_NotEq, c2_Eq, c2_NotEq, is_non, isnot_non, is_bl, isnot_bl, is_int, isnot_int, is_str, isnot_str, is_tup, isnot_tup, is_rol, isnot_rol, is_ref, isnot_ref, is_b, isnot_b, in_s, notin_s, b_add, b_sub, b_mul, b_fdiv, b_mod, b_pow, b_addt, b_adds, atI0, atI1, atI2, atI3, slc_t, slc_r, len_s, abs_i, int_i, int_b, min_i, max_i, gcd_i, seq_t, seq_r, r1_i, r2_i, r3_i, a_nm, a_nil, a_cons, vrl_some, vrn_some, put_lget, Option.isSome_some, tru_ref, b_addl, idx_t, idx_r, idx_l, slc_l, len_t, len_r, len_l, tuple_t, tuple_r, tuple_l, list_t, list_r, list_l, app_l, rev_l, pop_l, popat_l, mT_l, seq_l, enu_l, zip_l, rev_i, rev_t, in_t, notin_t, fl_s, fl_i, fl_b, fl_n, inL_nil, inL_ss, inL_ii, List.all_cons, List.all_nil, Bool.and_self, Bool.and_true, Bool.true_and, zip_t, a_t, a_l, sub_l, isTs, isT, Option.map_some, List.length_cons, List.length_nil, Nat.reduceAdd, Nat.reduceSub, Nat.reduceLT, Nat.zero_add, Bool.false_eq_true, Bool.true_eq_false, if_false, if_true, decide_eq_true_eq, Bool.not_true, Bool.not_false, ite_true, ite_false, reduceIte, Bool.not_eq_true', decide_eq_false_iff_not, Int.cast_ofNat_Int, Int.reduceEq, Int.reduceLT, Int.reduceLE, Int.reduceNeg, Int.reduceAdd, Int.reduceSub, Int.reduceMul, Int.reduceToNat, decide_true, decide_false, not_true, not_false, not_true_eq_false, not_false_eq_true, true_and, and_true, eq_self, reduceCtorEq, List.isEmpty_nil, List.isEmpty_cons, List.nil_append, List.cons_append, lit_inj, String.reduceEq, inL_ss, Bool.or_false, Bool.false_or, Bool.or_true, Bool.true_or, opS]
    refine lder_ok b m _ _ _ h2 ?_
    simp -dsimp -implicitDefEqProofs only [↓cov3, ↓cov2, ↓cov1, ↓E_var, ↓E_int, ↓E_bl, ↓E_non, ↓E_str, ↓E_glo, ↓E_tup, ↓E_lst, ↓E_bin, ↓E_neg, ↓E_cmp, ↓E_chn, ↓E_and, ↓E_or, ↓E_one, ↓E_not, ↓E_ifx, ↓E_idx, ↓E_slc, ↓E_call, ↓E_bi, ↓E_isi, ↓E_mth, ↓E_lc, ↓Es_nil, ↓Es_cons, ↓O_no, ↓O_some, ↓Q_no, ↓Q_c, ↓C_and, ↓C_or, ↓C_one, ↓C_not, ↓C_cmp, ↓C_chn, ↓C_v, ↓I_seq, ↓I_rng1, ↓I_rng2, ↓I_rng3, ↓I_enu, ↓I_zip, ↓I_rev, ↓S_set, ↓S_asg, ↓S_par2, ↓S_sub, ↓S_expr, ↓S_ret, ↓S_retN, ↓S_ifs, ↓S_for, ↓S_brk, ↓S_cnt, ↓S_pass, ↓S_raise, ↓S_try, ↓S_never, ex_t, ex_f, ↓S_nil, ↓S_cons, ↓kN_nx, ↓kN_rt, ↓kN_bk, ↓kN_ct, ↓kN_ex, ↓kL_nx, ↓kL_rt, ↓kL_bk, ↓kL_ct, ↓kL_ex, ↓kX_nx, ↓kX_rt, ↓kX_bk, ↓kX_ct, ↓kX_ex, ↓kend_nx, ↓kend_rt, ↓kend_bk, ↓kend_ct, ↓kend_ex, vr_some, gt_0, gt_s, stn_0, stn_s, wip_0, wip_s, wips_0, wips_s, neg_i, isi_s, o_i, tru_non, tru_bl, tru_int, tru_tup, tru_rol, c_Eq, c_NotEq, c_Lt, c_LtE, c_Gt, c_GtE, cs_Eq, cs_NotEq, cb_Eq, cb_NotEq, c2_Eq, c2_NotEq, is_non, isnot_non, is_bl, isnot_bl, is_int, isnot_int, is_str, isnot_str, is_tup, isnot_tup, is_rol, isnot_rol, is_ref, isnot_ref, is_b, isnot_b, in_s, notin_s, b_add, b_sub, b_mul, b_fdiv, b_mod, b_pow, b_addt, b_adds, atI0, atI1, atI2, atI3, slc_t, slc_r, len_s, abs_i, int_i, int_b, min_i, max_i, gcd_i, seq_t, seq_r, r1_i, r2_i, r3_i, a_nm, a_nil, a_cons, vrl_some, vrn_some, put_lget, Option.isSome_some, tru_ref, b_addl, idx_t, idx_r, idx_l, slc_l, len_t, len_r, len_l, tuple_t, tuple_r, tuple_l, list_t, list_r, list_l, app_l, rev_l, pop_l, popat_l, mT_l, seq_l, enu_l, zip_l, rev_i, rev_t, in_t, notin_t, fl_s, fl_i, fl_b, fl_n, inL_nil, inL_ss, inL_ii, List.all_cons, List.all_nil, Bool.and_self, Bool.and_true, Bool.true_and, zip_t, a_t, a_l, sub_l, isTs, isT, Option.map_some, List.length_cons, List.length_nil, Nat.reduceAdd, Nat.reduceSub, Nat.reduceLT, Nat.zero_add, Bool.false_eq_true, Bool.true_eq_false, if_false, if_true, decide_eq_true_eq, Bool.not_true, Bool.not_false, ite_true, ite_false, reduceIte, Bool.not_eq_true', decide_eq_false_iff_not, Int.cast_ofNat_Int, Int.reduceEq, Int.reduceLT, Int.reduceLE, Int.reduceNeg, Int.reduceAdd, Int.reduceSub, Int.reduceMul, Int.reduceToNat, decide_true, decide_false, not_true, not_false, not_true_eq_false, not_false_eq_true, true_and, and_true, eq_self, reduceCtorEq, List.isEmpty_nil, List.isEmpty_cons, List.nil_append, List.cons_append, lit_inj, String.reduceEq, inL_ss, Bool.or_false, Bool.false_or, Bool.or_true, Bool.true_or, opS]
    exact hq
  | .bin .div a b, m, S, Q, E, h, hq => by
    obtain ⟨m, rfl⟩ : ∃ m', m = m' + 1 := ⟨m - 1, by omega⟩
    refine call_of t_law_derivative rfl ?_
    have h1 : hgt a < m := by unfold hgt at h; omega
    have h2 : hgt b < m := by unfold hgt at h; omega
    simp -dsimp -implicitDefEqProofs only [ent, List.map_cons, List.map_nil, List.length_cons, List.length_nil, Nat.reduceAdd, Nat.reduceSub, Nat.zero_add, List.replicate, List.cons_append, List.nil_append, F_law_derivative, XD]
    simp -dsimp -implicitDefEqProofs only [↓cov3, ↓cov2, ↓cov1, ↓E_var, ↓E_int, ↓E_bl, ↓E_non, ↓E_str, ↓E_glo, ↓E_tup, ↓E_lst, ↓E_bin, ↓E_neg, ↓E_cmp, ↓E_chn, ↓E_and, ↓E_or, ↓E_one, ↓E_not, ↓E_ifx, ↓E_idx, ↓E_slc, ↓E_call, ↓E_bi, ↓E_isi, ↓E_mth, ↓E_lc, ↓Es_nil, ↓Es_cons, ↓O_no, ↓O_some, ↓Q_no, ↓Q_c, ↓C_and, ↓C_or, ↓C_one, ↓C_not, ↓C_cmp, ↓C_chn, ↓C_v, ↓I_seq, ↓I_rng1, ↓I_rng2, ↓I_rng3, ↓I_enu, ↓I_zip, ↓I_rev, ↓S_set, ↓S_asg, ↓S_par2, ↓S_sub, ↓S_expr, ↓S_ret, ↓S_retN, ↓S_ifs, ↓S_for, ↓S_brk, ↓S_cnt, ↓S_pass, ↓S_raise, ↓S_try, ↓S_never, ex_t, ex_f, ↓S_nil, ↓S_cons, ↓kN_nx, ↓kN_rt, ↓kN_bk, ↓kN_ct, ↓kN_ex, ↓kL_nx, ↓kL_rt, ↓kL_bk, ↓kL_ct, ↓kL_ex, ↓kX_nx, ↓kX_rt, ↓kX_bk, ↓kX_ct, ↓kX_ex, ↓kend_nx, ↓kend_rt, ↓kend_bk, ↓kend_ct, ↓kend_ex, vr_some, gt_0, gt_s, stn_0, stn_s, wip_0, wip_s, wips_0, wips_s, neg_i, isi_s, o_i, tru_non, tru_bl, tru_int, tru_tup, tru_rol, c_Eq, c_NotEq, c_Lt, c_LtE, c_Gt, c_GtE, cs_Eq, cs_NotEq, cb_Eq, cb_NotEq, c2_Eq, c2_NotEq, is_non, isnot_non, is_bl, isnot_bl, is_int, isnot_int, is_str, isnot_str, is_tup, isnot_tup, is_rol, isnot_rol, is_ref, isnot_ref, is_b, isnot_b, in_s, notin_s, b_add, b_sub, b_mul, b_fdiv, b_mod, b_pow, b_addt, b_adds, atI0, atI1, atI2, atI3, slc_t, slc_r, len_s, abs_i, int_i, int_b, min_i, max_i, gcd_i, seq_t, seq_r, r1_i, r2_i, r3_i, a_nm, a_nil, a_cons, vrl_some, vrn_some, put_lget, Option.isSome_some, tru_ref, b_addl, idx_t, idx_r, idx_l, slc_l, len_t, len_r, len_l, tuple_t, tuple_r, tuple_l, list_t, list_r, list_l, app_l, rev_l, pop_l, popat_l, mT_l, seq_l, enu_l, zip_l, rev_i, rev_t, in_t, notin_t, fl_s, fl_i, fl_b, fl_n, inL_nil, inL_ss, inL_ii, List.all_cons, List.all_nil, Bool.and_self, Bool.and_true, Bool.true_and, zip_t, a_t, a_l, sub_l, isTs, isT, Option.map_some, List.length_cons, List.length_nil, Nat.reduceAdd, Nat.reduceSub, Nat.reduceLT, Nat.zero_add, Bool.false_eq_true, Bool.true_eq_false, if_false, if_true, decide_eq_true_eq, Bool.not_true, Bool.not_false, ite_true, ite_false, reduceIte, Bool.not_eq_true', decide_eq_false_iff_not, Int.cast_ofNat_Int, Int.reduceEq, Int.reduceLT, Int.reduceLE, Int.reduceNeg, Int.reduceAdd, Int.reduceSub, Int.reduceMul, Int.reduceToNat, decide_true, decide_false, not_true, not_false, not_true_eq_false, not_false_eq_true, true_and, and_true, eq_self, reduceCtorEq, List.isEmpty_nil, List.isEmpty_cons, List.nil_append, List.cons_append, lit_inj, String.reduceEq, inL_ss, Bool.or_false, Bool.false_or, Bool.or_true, Bool.true_or, opS]
    refine lder_ok a m _ _ _ h1 ?_
    simp -dsimp -implicitDefEqProofs only [↓cov3, ↓cov2, ↓cov1, ↓E_var, ↓E_int, ↓E_bl, ↓E_non, ↓E_str, ↓E_glo, ↓E_tup, ↓E_lst, ↓E_bin, ↓E_neg, ↓E_cmp, ↓E_chn, ↓E_and, ↓E_or, ↓E_one, ↓E_not, ↓E_ifx, ↓E_idx, ↓E_slc, ↓E_call, ↓E_bi, ↓E_isi, ↓E_mth, ↓E_lc, ↓Es_nil, ↓Es_cons, ↓O_no, ↓O_some, ↓Q_no, ↓Q_c, ↓C_and, ↓C_or, ↓C_one, ↓C_not, ↓C_cmp, ↓C_chn, ↓C_v, ↓I_seq, ↓I_rng1, ↓I_rng2, ↓I_rng3, ↓I_enu, ↓I_zip, ↓I_rev, ↓S_set, ↓S_asg, ↓S_par2, ↓S_sub, ↓S_expr, ↓S_ret, ↓S_retN, ↓S_ifs, ↓S_for, ↓S_brk, ↓S_cnt, ↓S_pass, ↓S_raise, ↓S_try, ↓S_never, ex_t, ex_f, ↓S_nil, ↓S_cons, ↓kN_nx, ↓kN_rt, ↓kN_bk, ↓kN_ct, ↓kN_ex, ↓kL_nx, ↓kL_rt, ↓kL_bk, ↓kL_ct, ↓kL_ex, ↓kX_nx, ↓kX_rt, ↓kX_bk, ↓kX_ct, ↓kX_ex, ↓kend_nx, ↓kend_rt, ↓kend_bk, ↓kend_ct, ↓kend_ex, vr_some, gt_0, gt_s, stn_0, stn_s, wip_0, wip_s, wips_0, wips_s, neg_i, isi_s, o_i, tru_non, tru_bl, tru_int, tru_tup, tru_rol, c_Eq, c_NotEq, c_Lt, c_LtE, c_Gt, c_GtE, cs_Eq, cs_NotEq, cb_Eq, cb_NotEq, c2_Eq, c2_NotEq, is_non, isnot_non, is_bl, isnot_bl, is_int, isnot_int, is_str, isnot_str, is_tup, isnot_tup, is_rol, isnot_rol, is_ref, isnot_ref, is_b, isnot_b, in_s, notin_s, b_add, b_sub, b_mul, b_fdiv, b_mod, b_pow, b_addt, b_adds, atI0, atI1, atI2, atI3, slc_t, slc_r, len_s, abs_i, int_i, int_b, min_i, max_i, gcd_i, seq_t, seq_r, r1_i, r2_i, r3_i, a_nm, a_nil, a_cons, vrl_some, vrn_some, put_lget, Option.isSome_some, tru_ref, b_addl, idx_t, idx_r, idx_l, slc_l, len_t, len_r, len_l, tuple_t, tuple_r, tuple_l, list_t, list_r, list_l, app_l, rev_l, pop_l, popat_l, mT_l, seq_l, enu_l, zip_l, rev_i, rev_t, in_t, notin_t, fl_s, fl_i, fl_b, fl_n, inL_nil, inL_ss, inL_ii, List.all_cons, List.all_nil, Bool.and_self, Bool.and_true, Bool.true_and, zip_t, a_t, a_l, sub_l, isTs, isT, Option.map_some, List.length_cons, List.length_nil, Nat.reduceAdd, Nat.reduceSub, Nat.reduceLT, Nat.zero_add, Bool.false_eq_true, Bool.true_eq_false, if_false, if_true, decide_eq_true_eq, Bool.not_true, Bool.not_false, ite_true, ite_false, reduceIte, Bool.not_eq_true', decide_eq_false_iff_not, Int.cast_ofNat_Int, Int.reduceEq, Int.reduceLT, Int.reduceLE, Int.reduceNeg, Int.reduceAdd, Int.reduceSub, Int.reduceMul, Int.reduceToNat, decide_true, decide_false, not_true, not_false, not_true_eq_false, not_false_eq_true, true_and, and_true, eq_self, reduceCtorEq, List.isEmpty_nil, List.isEmpty_cons, List.nil_append, List.cons_append, lit_inj, String.reduceEq, inL_ss, Bool.or_false, Bool.false_or, Bool.or_true, Bool.true_or, opS]
    refine lder_ok b m _ _ _ h2 ?_
    simp -dsimp -implicitDefEqProofs only [↓cov3, ↓cov2, ↓cov1, ↓E_var, ↓E_int, ↓E_bl, ↓E_non, ↓E_str, ↓E_glo, ↓E_tup, ↓E_lst, ↓E_bin, ↓E_neg, ↓E_cmp, ↓E_chn, ↓E_and, ↓E_or, ↓E_one, ↓E_not, ↓E_ifx, ↓E_idx, ↓E_slc, ↓E_call, ↓E_bi, ↓E_isi, ↓E_mth, ↓E_lc, ↓Es_nil, ↓Es_cons, ↓O_no, ↓O_some, ↓Q_no, ↓Q_c, ↓C_and, ↓C_or, ↓C_one, ↓C_not, ↓C_cmp, ↓C_chn, ↓C_v, ↓I_seq, ↓I_rng1, ↓I_rng2, ↓I_rng3, ↓I_enu, ↓I_zip, ↓I_rev, ↓S_set, ↓S_asg, ↓S_par2, ↓S_sub, ↓S_expr, ↓S_ret, ↓S_retN, ↓S_ifs, ↓S_for, ↓S_brk, ↓S_cnt, ↓S_pass, ↓S_raise, ↓S_try, ↓S_never, ex_t, ex_f, ↓S_nil, ↓S_cons, ↓kN_nx, ↓kN_rt, ↓kN_bk, ↓kN_ct, ↓kN_ex, ↓kL_nx, ↓kL_rt, ↓kL_bk, ↓kL_ct, ↓kL_ex, ↓kX_nx, ↓kX_rt, ↓kX_bk, ↓kX_ct, ↓kX_ex, ↓kend_nx, ↓kend_rt, ↓kend_bk, ↓kend_ct, ↓kend_ex, vr_some, gt_0, gt_s, stn_0, stn_s, wip_0, wip_s, wips_0, wips_s, neg_i, isi_s, o_i, tru_non, tru_bl, tru_int, tru_tup, tru_rol, c_Eq, c_NotEq, c_Lt, c_LtE, c_Gt, c_GtE, cs_Eq, cs_NotEq, cb_Eq, cb_NotEq, c2_Eq, c2_NotEq, is_non, isnot_non, is_bl, isnot_bl, is_int, isnot_int, is_str, isnot_str, is_tup, isnot_tup, is_rol, isnot_rol, is_ref, isnot_ref, is_b, isnot_b, in_s, notin_s, b_add, b_sub, b_mul, b_fdiv, b_mod, b_pow, b_addt, b_adds, atI0, atI1, atI2, atI3, slc_t, slc_r, len_s, abs_i, int_i, int_b, min_i, max_i, gcd_i, seq_t, seq_r, r1_i, r2_i, r3_i, a_nm, a_nil, a_cons, vrl_some, vrn_some, put_lget, Option.isSome_some, tru_ref, b_addl, idx_t, idx_r, idx_l, slc_l, len_t, len_r, len_l, tuple_t, tuple_r, tuple_l, list_t, list_r, list_l, app_l, rev_l, pop_l, popat_l, mT_l, seq_l, enu_l, zip_l, rev_i, rev_t, in_t, notin_t, fl_s, fl_i, fl_b, fl_n, inL_nil, inL_ss, inL_ii, List.all_cons, List.all_nil, Bool.and_self, Bool.and_true, Bool.true_and, zip_t, a_t, a_l, sub_l, isTs, isT, Option.map_some, List.length_cons, List.length_nil, Nat.reduceAdd, Nat.reduceSub, Nat.reduceLT, Nat.zero_add, Bool.false_eq_true, Bool.true_eq_false, if_false, if_true, decide_eq_true_eq, Bool.not_true, Bool.not_false, ite_true, ite_false, reduceIte, Bool.not_eq_true', decide_eq_false_iff_not, Int.cast_ofNat_Int, Int.reduceEq, Int.reduceLT, Int.reduceLE, Int.reduceNeg, Int.reduceAdd, Int.reduceSub, Int.reduceMul, Int.reduceToNat, decide_true, decide_false, not_true, not_false, not_true_eq_false, not_false_eq_true, true_and, and_true, eq_self, reduceCtorEq, List.isEmpty_nil, List.isEmpty_cons, List.nil_append, List.cons_append, lit_inj, String.reduceEq, inL_ss, Bool.or_false, Bool.false_or, Bool.or_true, Bool.true_or, opS]
    exact hq
  | .pow a k, m, S, Q, E, h, hq => by
    obtain ⟨m, rfl⟩ : ∃ m', m = m' + 1 := ⟨m - 1, by omega⟩
    refine call_of t_law_derivative rfl ?_
    have h1 : hgt a < m := by unfold hgt at h; omega
    simp -dsimp -implicitDefEqProofs only [ent, List.map_cons, List.map_nil, List.length_cons, List.length_nil, Nat.reduceAdd, Nat.reduceSub, Nat.zero_add, List.replicate, List.cons_append, List.nil_append, F_law_derivative, XD]
    simp -dsimp -implicitDefEqProofs only [↓cov3, ↓cov2, ↓cov1, ↓E_var, ↓E_int, ↓E_bl, ↓E_non, ↓E_str, ↓E_glo, ↓E_tup, ↓E_lst, ↓E_bin, ↓E_neg, ↓E_cmp, ↓E_chn, ↓E_and, ↓E_or, ↓E_one, ↓E_not, ↓E_ifx, ↓E_idx, ↓E_slc, ↓E_call, ↓E_bi, ↓E_isi, ↓E_mth, ↓E_lc, ↓Es_nil, ↓Es_cons, ↓O_no, ↓O_some, ↓Q_no, ↓Q_c, ↓C_and, ↓C_or, ↓C_one, ↓C_not, ↓C_cmp, ↓C_chn, ↓C_v, ↓I_seq, ↓I_rng1, ↓I_rng2, ↓I_rng3, ↓I_enu, ↓I_zip, ↓I_rev, ↓S_set, ↓S_asg, ↓S_par2, ↓S_sub, ↓S_expr, ↓S_ret, ↓S_retN, ↓S_ifs, ↓S_for, ↓S_brk, ↓S_cnt, ↓S_pass, ↓S_raise, ↓S_try, ↓S_never, ex_t, ex_f, ↓S_nil, ↓S_cons, ↓kN_nx, ↓kN_rt, ↓kN_bk, ↓kN_ct, ↓kN_ex, ↓kL_nx, ↓kL_rt, ↓kL_bk, ↓kL_ct, ↓kL_ex, ↓kX_nx, ↓kX_rt, ↓kX_bk, ↓kX_ct, ↓kX_ex, ↓kend_nx, ↓kend_rt, ↓kend_bk, ↓kend_ct, ↓kend_ex, vr_some, gt_0, gt_s, stn_0, stn_s, wip_0, wip_s, wips_0, wips_s, neg_i, isi_s, o_i, tru_non, tru_bl, tru_int, tru_tup, tru_rol, c_Eq, c_NotEq, c_Lt, c_LtE, c_Gt, c_GtE, cs_Eq, cs_NotEq, cb_Eq, cb_NotEq, c2_Eq, c2_NotEq, is_non, isnot_non, is_bl, isnot_bl, is_int, isnot_int, is_str, isnot_str, is_tup, isnot_tup, is_rol, isnot_rol, is_ref, isnot_ref, is_b, isnot_b, in_s, notin_s, b_add, b_sub, b_mul, b_fdiv, b_mod, b_pow, b_addt, b_adds, atI0, atI1, atI2, atI3, slc_t, slc_r, len_s, abs_i, int_i, int_b, min_i, max_i, gcd_i, seq_t, seq_r, r1_i, r2_i, r3_i, a_nm, a_nil, a_cons, vrl_some, vrn_some, put_lget, Option.isSome_some, tru_ref, b_addl, idx_t, idx_r, idx_l, slc_l, len_t, len_r, len_l, tuple_t, tuple_r, tuple_l, list_t, list_r, list_l, app_l, rev_l, pop_l, popat_l, mT_l, seq_l, enu_l, zip_l, rev_i, rev_t, in_t, notin_t, fl_s, fl_i, fl_b, fl_n, inL_nil, inL_ss, inL_ii, List.all_cons, List.all_nil, Bool.and_self, Bool.and_true, Bool.true_and, zip_t, a_t, a_l, sub_l, isTs, isT, Option.map_some, List.length_cons, List.length_nil, Nat.reduceAdd, Nat.reduceSub, Nat.reduceLT, Nat.zero_add, Bool.false_eq_true, Bool.true_eq_false, if_false, if_true, decide_eq_true_eq, Bool.not_true, Bool.not_false, ite_true, ite_false, reduceIte, Bool.not_eq_true', decide_eq_false_iff_not, Int.cast_ofNat_Int, Int.reduceEq, Int.reduceLT, Int.reduceLE, Int.reduceNeg, Int.reduceAdd, Int.reduceSub, Int.reduceMul, Int.reduceToNat, decide_true, decide_false, not_true, not_false, not_true_eq_false, not_false_eq_true, true_and, and_true, eq_self, reduceCtorEq, List.isEmpty_nil, List.isEmpty_cons, List.nil_append, List.cons_append, lit_inj, String.reduceEq, inL_ss, Bool.or_false, Bool.false_or, Bool.or_true, Bool.true_or, opS]
    refine lder_ok a m _ _ _ h1 ?_
    simp -dsimp -implicitDefEqProofs only [↓cov3, ↓cov2, ↓cov1, ↓E_var, ↓E_int, ↓E_bl, ↓E_non, ↓E_str, ↓E_glo, ↓E_tup, ↓E_lst, ↓E_bin, ↓E_neg, ↓E_cmp, ↓E_chn, ↓E_and, ↓E_or, ↓E_one, ↓E_not, ↓E_ifx, ↓E_idx, ↓E_slc, ↓E_call, ↓E_bi, ↓E_isi, ↓E_mth, ↓E_lc, ↓Es_nil, ↓Es_cons, ↓O_no, ↓O_some, ↓Q_no, ↓Q_c, ↓C_and, ↓C_or, ↓C_one, ↓C_not, ↓C_cmp, ↓C_chn, ↓C_v, ↓I_seq, ↓I_rng1, ↓I_rng2, ↓I_rng3, ↓I_enu, ↓I_zip, ↓I_rev, ↓S_set, ↓S_asg, ↓S_par2, ↓S_sub, ↓S_expr, ↓S_ret, ↓S_retN, ↓S_ifs, ↓S_for, ↓S_brk, ↓S_cnt, ↓S_pass, ↓S_raise, ↓S_try, ↓S_never, ex_t, ex_f, ↓S_nil, ↓S_cons, ↓kN_nx, ↓kN_rt, ↓kN_bk, ↓kN_ct, ↓kN_ex, ↓kL_nx, ↓kL_rt, ↓kL_bk, ↓kL_ct, ↓kL_ex, ↓kX_nx, ↓kX_rt, ↓kX_bk, ↓kX_ct, ↓kX_ex, ↓kend_nx, ↓kend_rt, ↓kend_bk, ↓kend_ct, ↓kend_ex, vr_some, gt_0, gt_s, stn_0, stn_s, wip_0, wip_s, wips_0, wips_s, neg_i, isi_s, o_i, tru_non, tru_bl, tru_int, tru_tup, tru_rol, c_Eq, c_NotEq, c_Lt, c_LtE, c_Gt, c_GtE, cs_Eq, cs_NotEq, cb_Eq, cb_NotEq, c2_Eq, c2_NotEq, is_non, isnot_non, is_bl, isnot_bl, is_int, isnot_int, is_str, isnot_str, is_tup, isnot_tup, is_rol, isnot_rol, is_ref, isnot_ref, is_b, isnot_b, in_s, notin_s, b_add, b_sub, b_mul, b_fdiv, b_mod, b_pow, b_addt, b_adds, atI0, atI1, atI2, atI3, slc_t, slc_r, len_s, abs_i, int_i, int_b, min_i, max_i, gcd_i, seq_t, seq_r, r1_i, r2_i, r3_i, a_nm, a_nil, a_cons, vrl_some, vrn_some, put_lget, Option.isSome_some, tru_ref, b_addl, idx_t, idx_r, idx_l, slc_l, len_t, len_r, len_l, tuple_t, tuple_r, tuple_l, list_t, list_r, list_l, app_l, rev_l, pop_l, popat_l, mT_l, seq_l, enu_l, zip_l, rev_i, rev_t, in_t, notin_t, fl_s, fl_i, fl_b, fl_n, inL_nil, inL_ss, inL_ii, List.all_cons, List.all_nil, Bool.and_self, Bool.and_true, Bool.true_and, zip_t, a_t, a_l, sub_l, isTs, isT, Option.map_some, List.length_cons, List.length_nil, Nat.reduceAdd, Nat.reduceSub, Nat.reduceLT, Nat.zero_add, Bool.false_eq_true, Bool.true_eq_false, if_false, if_true, decide_eq_true_eq, Bool.not_true, Bool.not_false, ite_true, ite_false, reduceIte, Bool.not_eq_true', decide_eq_false_iff_not, Int.cast_ofNat_Int, Int.reduceEq, Int.reduceLT, Int.reduceLE, Int.reduceNeg, Int.reduceAdd, Int.reduceSub, Int.reduceMul, Int.reduceToNat, decide_true, decide_false, not_true, not_false, not_true_eq_false, not_false_eq_true, true_and, and_true, eq_self, reduceCtorEq, List.isEmpty_nil, List.isEmpty_cons, List.nil_append, List.cons_append, lit_inj, String.reduceEq, inL_ss, Bool.or_false, Bool.false_or, Bool.or_true, Bool.true_or, opS]
    unfold der at hq
    refine ite2 (fun hk => ?_) fun hk => ?_
    · rw [if_pos hk] at hq
      exact hq
    · rw [if_neg hk] at hq
      exact hq
theorem half_mod {X y : Nat} (hy : 0 < y) (h : y ≤ X) : 2 * (X % y) ≤ X := by
  have h1 := Nat.mod_lt X hy
  have h2 := Nat.div_add_mod X y
  have h3 : 1 ≤ X / y := (Nat.le_div_iff_mul_le hy).mpr (by omega)
  have h4 := Nat.mul_le_mul_left y h3
  omega
theorem fraction_ok {n d : Int} (hd : d ≠ 0) (hb : Bt d 49990) (h : Q (QD (Rat.divInt n d)) S) : semF G T (k + 1) "_law_fraction" [.int n, .int d] S Q E := by
  refine call_of t_law_fraction rfl ?_
  simp -dsimp -implicitDefEqProofs only [ent, List.map_cons, List.map_nil, List.length_cons, List.length_nil, Nat.reduceAdd, Nat.reduceSub, Nat.zero_add, List.replicate, List.cons_append, List.nil_append, F_law_fraction]
  simp -dsimp -implicitDefEqProofs only [↓cov3, ↓cov2, ↓cov1, ↓E_var, ↓E_int, ↓E_bl, ↓E_non, ↓E_str, ↓E_glo, ↓E_tup, ↓E_lst, ↓E_bin, ↓E_neg, ↓E_cmp, ↓E_chn, ↓E_and, ↓E_or, ↓E_one, ↓E_not, ↓E_ifx, ↓E_idx, ↓E_slc, ↓E_call, ↓E_bi, ↓E_isi, ↓E_mth, ↓E_lc, ↓Es_nil, ↓Es_cons, ↓O_no, ↓O_some, ↓Q_no, ↓Q_c, ↓C_and, ↓C_or, ↓C_one, ↓C_not, ↓C_cmp, ↓C_chn, ↓C_v, ↓I_seq, ↓I_rng1, ↓I_rng2, ↓I_rng3, ↓I_enu, ↓I_zip, ↓I_rev, ↓S_set, ↓S_asg, ↓S_par2, ↓S_sub, ↓S_expr, ↓S_ret, ↓S_retN, ↓S_for, ↓S_brk, ↓S_cnt, ↓S_pass, ↓S_raise, ↓S_never, ex_t, ex_f, ↓S_nil, ↓S_cons, ↓kN_nx, ↓kN_rt, ↓kN_bk, ↓kN_ct, ↓kN_ex, ↓kL_nx, ↓kL_rt, ↓kL_bk, ↓kL_ct, ↓kL_ex, ↓kX_nx, ↓kX_rt, ↓kX_bk, ↓kX_ct, ↓kX_ex, ↓kend_nx, ↓kend_rt, ↓kend_bk, ↓kend_ct, ↓kend_ex, vr_some, gt_0, gt_s, stn_0, stn_s, wip_0, wip_s, wips_0, wips_s, neg_i, isi_s, o_i, tru_non, tru_bl, tru_int, tru_tup, tru_rol, c_Eq, c_NotEq, c_Lt, c_LtE, c_Gt, c_GtE, cs_Eq, cs_NotEq, cb_Eq, cb_NotEq, c2_Eq, c2_NotEq, is_non, isnot_non, is_bl, isnot_bl, is_int, isnot_int, is_str, isnot_str, is_tup, isnot_tup, is_rol, isnot_rol, is_ref, isnot_ref, is_b, isnot_b, in_s, notin_s, b_add, b_sub, b_mul, b_fdiv, b_mod, b_pow, b_addt, b_adds, atI0, atI1, atI2, atI3, slc_t, slc_r, len_s, abs_i, int_i, int_b, min_i, max_i, gcd_i, seq_t, seq_r, r1_i, r2_i, r3_i, a_nm, a_nil, a_cons, vrl_some, vrn_some, put_lget, Option.isSome_some, tru_ref, b_addl, idx_t, idx_r, idx_l, slc_l, len_t, len_r, len_l, tuple_t, tuple_r, tuple_l, list_t, list_r, list_l, app_l, rev_l, pop_l, popat_l, mT_l, seq_l, enu_l, zip_l, rev_i, rev_t, in_t, notin_t, fl_s, fl_i, fl_b, fl_n, inL_nil, inL_ss, inL_ii, List.all_cons, List.all_nil, Bool.and_self, Bool.and_true, Bool.true_and, zip_t, a_t, a_l, sub_l, isTs, isT, Option.map_some, List.length_cons, List.length_nil, Nat.reduceAdd, Nat.reduceSub, Nat.reduceLT, Nat.zero_add, Bool.false_eq_true, Bool.true_eq_false, if_false, if_true, decide_eq_true_eq, Bool.not_true, Bool.not_false, ite_true, ite_false, reduceIte, Bool.not_eq_true', decide_eq_false_iff_not, Int.cast_ofNat_Int, Int.reduceEq, Int.reduceLT, Int.reduceLE, Int.reduceNeg, Int.reduceAdd, Int.reduceSub, Int.reduceMul, Int.reduceToNat, decide_true, decide_false, not_true, not_false, not_true_eq_false, not_false_eq_true, true_and, and_true, eq_self, reduceCtorEq, List.isEmpty_nil, List.isEmpty_cons, List.nil_append, List.cons_append]
  have key : ∀ n' d' : Int, 0 < d' → Bt d' 49990 → Rat.divInt n' d' = Rat.divInt n d → ∀ kt : Kt, kt.rt = Q → semSs G (semF G T k) (.cons (.par2 3 4 (.bi .abs (.cons (.var 0) .nil)) (.var 1)) (.cons (.for_ (.nm 2) (.rng1 (.int 100000)) (.cons (.ifs (.cmp .Eq (.var 4) (.int 0)) (.cons .brk .nil) .nil) (.cons (.par2 3 4 (.var 4) (.bin .Mod (.var 3) (.var 4))) .nil))) (.cons (.ret (.tup (.cons (.bin .FloorDiv (.var 0) (.var 3)) (.cons (.bin .FloorDiv (.var 1) (.var 3)) .nil)))) .nil)))
      kt [some (.int n'), some (.int d'), none, none, none] S := by
    intro n' d' hd' hb' e kt hk
    obtain ⟨b, rfl⟩ := Int.eq_ofNat_of_zero_le (Int.le_of_lt hd')
    have hb' : b < 2 ^ 49990 := by unfold Bt at hb'; exact hb'
    simp -dsimp -implicitDefEqProofs only [↓cov3, ↓cov2, ↓cov1, ↓E_var, ↓E_int, ↓E_bl, ↓E_non, ↓E_str, ↓E_glo, ↓E_tup, ↓E_lst, ↓E_bin, ↓E_neg, ↓E_cmp, ↓E_chn, ↓E_and, ↓E_or, ↓E_one, ↓E_not, ↓E_ifx, ↓E_idx, ↓E_slc, ↓E_call, ↓E_bi, ↓E_isi, ↓E_mth, ↓E_lc, ↓Es_nil, ↓Es_cons, ↓O_no, ↓O_some, ↓Q_no, ↓Q_c, ↓C_and, ↓C_or, ↓C_one, ↓C_not, ↓C_cmp, ↓C_chn, ↓C_v, ↓I_seq, ↓I_rng1, ↓I_rng2, ↓I_rng3, ↓I_enu, ↓I_zip, ↓I_rev, ↓S_set, ↓S_asg, ↓S_par2, ↓S_sub, ↓S_expr, ↓S_ret, ↓S_retN, ↓S_ifs, ↓S_for, ↓S_brk, ↓S_cnt, ↓S_pass, ↓S_raise, ↓S_try, ↓S_never, ex_t, ex_f, ↓S_nil, ↓S_cons, ↓kN_nx, ↓kN_rt, ↓kN_bk, ↓kN_ct, ↓kN_ex, ↓kL_nx, ↓kL_rt, ↓kL_bk, ↓kL_ct, ↓kL_ex, ↓kX_nx, ↓kX_rt, ↓kX_bk, ↓kX_ct, ↓kX_ex, ↓kend_nx, ↓kend_rt, ↓kend_bk, ↓kend_ct, ↓kend_ex, vr_some, gt_0, gt_s, stn_0, stn_s, wip_0, wip_s, wips_0, wips_s, neg_i, isi_s, o_i, tru_non, tru_bl, tru_int, tru_tup, tru_rol, c_Eq, c_NotEq, c_Lt, c_LtE, c_Gt, c_GtE, cs_Eq, cs_NotEq, cb_Eq, cb_NotEq, c2_Eq, c2_NotEq, is_non, isnot_non, is_bl, isnot_bl, is_int, isnot_int, is_str, isnot_str, is_tup, isnot_tup, is_rol, isnot_rol, is_ref, isnot_ref, is_b, isnot_b, in_s, notin_s, b_add, b_sub, b_mul, b_fdiv, b_mod, b_pow, b_addt, b_adds, atI0, atI1, atI2, atI3, slc_t, slc_r, len_s, abs_i, int_i, int_b, min_i, max_i, gcd_i, seq_t, seq_r, r1_i, r2_i, r3_i, a_nm, a_nil, a_cons, vrl_some, vrn_some, put_lget, Option.isSome_some, tru_ref, b_addl, idx_t, idx_r, idx_l, slc_l, len_t, len_r, len_l, tuple_t, tuple_r, tuple_l, list_t, list_r, list_l, app_l, rev_l, pop_l, popat_l, mT_l, seq_l, enu_l, zip_l, rev_i, rev_t, in_t, notin_t, fl_s, fl_i, fl_b, fl_n, inL_nil, inL_ss, inL_ii, List.all_cons, List.all_nil, Bool.and_self, Bool.and_true, Bool.true_and, zip_t, a_t, a_l, sub_l, isTs, isT, Option.map_some, List.length_cons, List.length_nil, Nat.reduceAdd, Nat.reduceSub, Nat.reduceLT, Nat.zero_add, Bool.false_eq_true, Bool.true_eq_false, if_false, if_true, decide_eq_true_eq, Bool.not_true, Bool.not_false, ite_true, ite_false, reduceIte, Bool.not_eq_true', decide_eq_false_iff_not, Int.cast_ofNat_Int, Int.reduceEq, Int.reduceLT, Int.reduceLE, Int.reduceNeg, Int.reduceAdd, Int.reduceSub, Int.reduceMul, Int.reduceToNat, decide_true, decide_false, not_true, not_false, not_true_eq_false, not_false_eq_true, true_and, and_true, eq_self, reduceCtorEq, List.isEmpty_nil, List.isEmpty_cons, List.nil_append, List.cons_append]
    rw [show (if n' < 0 then -n' else n') = (n'.natAbs : Int) by split <;> omega]
    refine ⟨by decide, by decide, ?_⟩
    have fin : ∀ X : Nat, Nat.gcd X 0 = Nat.gcd n'.natAbs b → FdOk G.PY n' X ∧ FdOk G.PY b X ∧ Q (.tup [.int (n'.fdiv X), .int ((b : Int).fdiv X)]) S := by
      intro X hX
      rw [Nat.gcd_zero_right] at hX
      obtain ⟨h0, e1, e2⟩ := ratio (n := n') (d := (b : Int)) (by omega) (X : Int) (by rw [if_neg (by omega), hX]; rfl)
      refine ⟨⟨h0, .inr trivial⟩, ⟨h0, .inr trivial⟩, ?_⟩
      rw [e1, e2, e]
      exact h
    refine for_rng (fun i σ S' => S' = S ∧ ∃ (X y : Nat) (w : Option D), σ = [some (.int n'), some (.int b), w, some (.int X), some (.int y)] ∧ Nat.gcd X y = Nat.gcd n'.natAbs b ∧
      ((i = 0 ∧ y = b) ∨ (1 ≤ i ∧ y ≤ X ∧ X * y * 2 ^ i ≤ 2 ^ 99981))) ⟨rfl, n'.natAbs, b, none, rfl, rfl, .inl ⟨rfl, rfl⟩⟩ ?_ ?_
    · rintro i σ S' N hi ⟨rfl, X, y, w, rfl, hg, hI⟩ hN
      simp -dsimp -implicitDefEqProofs only [↓cov3, ↓cov2, ↓cov1, ↓E_var, ↓E_int, ↓E_bl, ↓E_non, ↓E_str, ↓E_glo, ↓E_tup, ↓E_lst, ↓E_bin, ↓E_neg, ↓E_cmp, ↓E_chn, ↓E_and, ↓E_or, ↓E_one, ↓E_not, ↓E_ifx, ↓E_idx, ↓E_slc, ↓E_call, ↓E_bi, ↓E_isi, ↓E_mth, ↓E_lc, ↓Es_nil, ↓Es_cons, ↓O_no, ↓O_some, ↓Q_no, ↓Q_c, ↓C_and, ↓C_or, ↓C_one, ↓C_not, ↓C_cmp, ↓C_chn, ↓C_v, ↓I_seq, ↓I_rng1, ↓I_rng2, ↓I_rng3, ↓I_enu, ↓I_zip, ↓I_rev, ↓S_set, ↓S_asg, ↓S_par2, ↓S_sub, ↓S_expr, ↓S_ret, ↓S_retN, ↓S_ifs, ↓S_for, ↓S_brk, ↓S_cnt, ↓S_pass, ↓S_raise, ↓S_try, ↓S_never, ex_t, ex_f, ↓S_nil, ↓S_cons, ↓kN_nx, ↓kN_rt, ↓kN_bk, ↓kN_ct, ↓kN_ex, ↓kL_nx, ↓kL_rt, ↓kL_bk, ↓kL_ct, ↓kL_ex, ↓kX_nx, ↓kX_rt, ↓kX_bk, ↓kX_ct, ↓kX_ex, ↓kend_nx, ↓kend_rt, ↓kend_bk, ↓kend_ct, ↓kend_ex, vr_some, gt_0, gt_s, stn_0, stn_s, wip_0, wip_s, wips_0, wips_s, neg_i, isi_s, o_i, tru_non, tru_bl, tru_int, tru_tup, tru_rol, c_Eq, c_NotEq, c_Lt, c_LtE, c_Gt, c_GtE, cs_Eq, cs_NotEq, cb_Eq, cb_NotEq, c2_Eq, c2_NotEq, is_non, isnot_non, is_bl, isnot_bl, is_int, isnot_int, is_str, isnot_str, is_tup, isnot_tup, is_rol, isnot_rol, is_ref, isnot_ref, is_b, isnot_b, in_s, notin_s, b_add, b_sub, b_mul, b_fdiv, b_mod, b_pow, b_addt, b_adds, atI0, atI1, atI2, atI3, slc_t, slc_r, len_s, abs_i, int_i, int_b, min_i, max_i, gcd_i, seq_t, seq_r, r1_i, r2_i, r3_i, a_nm, a_nil, a_cons, vrl_some, vrn_some, put_lget, Option.isSome_some, tru_ref, b_addl, idx_t, idx_r, idx_l, slc_l, len_t, len_r, len_l, tuple_t, tuple_r, tuple_l, list_t, list_r, list_l, app_l, rev_l, pop_l, popat_l, mT_l, seq_l, enu_l, zip_l, rev_i, rev_t, in_t, notin_t, fl_s, fl_i, fl_b, fl_n, inL_nil, inL_ss, inL_ii, List.all_cons, List.all_nil, Bool.and_self, Bool.and_true, Bool.true_and, zip_t, a_t, a_l, sub_l, isTs, isT, Option.map_some, List.length_cons, List.length_nil, Nat.reduceAdd, Nat.reduceSub, Nat.reduceLT, Nat.zero_add, Bool.false_eq_true, Bool.true_eq_false, if_false, if_true, decide_eq_true_eq, Bool.not_true, Bool.not_false, ite_true, ite_false, reduceIte, Bool.not_eq_true', decide_eq_false_iff_not, Int.cast_ofNat_Int, Int.reduceEq, Int.reduceLT, Int.reduceLE, Int.reduceNeg, Int.reduceAdd, Int.reduceSub, Int.reduceMul, Int.reduceToNat, decide_true, decide_false, not_true, not_false, not_true_eq_false, not_false_eq_true, true_and, and_true, eq_self, reduceCtorEq, List.isEmpty_nil, List.isEmpty_cons, List.nil_append, List.cons_append]
      refine ite2 (fun hy => ?_) fun hy => ?_
      · have : y = 0 := by omega
        subst this
        rw [hk]
        exact fin X hg
      · have hy : y ≠ 0 := by omega
        have em : (X : Int).fmod y = ((X % y : Nat) : Int) := by rw [Int.fmod_eq_emod_of_nonneg _ (by omega)]; rfl
        rw [em]
        have hlt := Nat.mod_lt X (show 0 < y by omega)
        refine ⟨by omega, hN _ _ ⟨rfl, y, X % y, _, rfl, by rw [← hg, Nat.gcd_comm X y, Nat.gcd_rec y X, Nat.gcd_comm], .inr ⟨by omega, by omega, ?_⟩⟩⟩
        rcases hI with ⟨rfl, rfl⟩ | ⟨_, hX, hp⟩
        · have h1 : y * (X % y) ≤ 2 ^ 49990 * 2 ^ 49990 := Nat.mul_le_mul (by omega) (by omega)
          have h2 := Nat.mul_le_mul_right (2 ^ (0 + 1)) h1
          refine Nat.le_trans h2 ?_
          rw [← Nat.pow_add, ← Nat.pow_add]
          exact Nat.le_refl _
        · have h2 := half_mod (by omega) hX
          refine Nat.le_trans ?_ hp
          rw [Nat.pow_succ]
          have h3 := Nat.mul_le_mul_left (y * 2 ^ i) h2
          have e5 : y * (X % y) * (2 ^ i * 2) = y * 2 ^ i * (2 * (X % y)) := by
            rw [Nat.mul_mul_mul_comm, Nat.mul_comm (X % y) 2]
          have e6 : X * y * 2 ^ i = y * 2 ^ i * X := by
            rw [Nat.mul_comm X y, Nat.mul_assoc, Nat.mul_comm X, Nat.mul_assoc]
          rw [e5, e6]
          exact h3
    · rintro σ S' ⟨rfl, X, y, w, rfl, hg, hI⟩
      have : y = 0 := by
        rcases hI with ⟨z, _⟩ | ⟨_, hX, hp⟩
        · exact absurd z (by decide)
        · refine Decidable.byContradiction fun hy => ?_
          have h1 : 1 ≤ X * y := Nat.mul_pos (by omega) (by omega)
          have h2 := Nat.mul_le_mul_right (2 ^ (100000 : Int).toNat) h1
          rw [Nat.one_mul] at h2
          have h3 := (Nat.pow_le_pow_iff_right (show 1 < 2 by decide)).mp (Nat.le_trans h2 hp)
          exact absurd h3 (by decide)
      subst this
      simp -dsimp -implicitDefEqProofs only [↓cov3, ↓cov2, ↓cov1, ↓E_var, ↓E_int, ↓E_bl, ↓E_non, ↓E_str, ↓E_glo, ↓E_tup, ↓E_lst, ↓E_bin, ↓E_neg, ↓E_cmp, ↓E_chn, ↓E_and, ↓E_or, ↓E_one, ↓E_not, ↓E_ifx, ↓E_idx, ↓E_slc, ↓E_call, ↓E_bi, ↓E_isi, ↓E_mth, ↓E_lc, ↓Es_nil, ↓Es_cons, ↓O_no, ↓O_some, ↓Q_no, ↓Q_c, ↓C_and, ↓C_or, ↓C_one, ↓C_not, ↓C_cmp, ↓C_chn, ↓C_v, ↓I_seq, ↓I_rng1, ↓I_rng2, ↓I_rng3, ↓I_enu, ↓I_zip, ↓I_rev, ↓S_set, ↓S_asg, ↓S_par2, ↓S_sub, ↓S_expr, ↓S_ret, ↓S_retN, ↓S_ifs, ↓S_for, ↓S_brk, ↓S_cnt, ↓S_pass, ↓S_raise, ↓S_try, ↓S_never, ex_t, ex_f, ↓S_nil, ↓S_cons, ↓kN_nx, ↓kN_rt, ↓kN_bk, ↓kN_ct, ↓kN_ex, ↓kL_nx, ↓kL_rt, ↓kL_bk, ↓kL_ct, ↓kL_ex, ↓kX_nx, ↓kX_rt, ↓kX_bk, ↓kX_ct, ↓kX_ex, ↓kend_nx, ↓kend_rt, ↓kend_bk, ↓kend_ct, ↓kend_ex, vr_some, gt_0, gt_s, stn_0, stn_s, wip_0, wip_s, wips_0, wips_s, neg_i, isi_s, o_i, tru_non, tru_bl, tru_int, tru_tup, tru_rol, c_Eq, c_NotEq, c_Lt, c_LtE, c_Gt, c_GtE, cs_Eq, cs_NotEq, cb_Eq, cb_NotEq, c2_Eq, c2_NotEq, is_non, isnot_non, is_bl, isnot_bl, is_int, isnot_int, is_str, isnot_str, is_tup, isnot_tup, is_rol, isnot_rol, is_ref, isnot_ref, is_b, isnot_b, in_s, notin_s, b_add, b_sub, b_mul, b_fdiv, b_mod, b_pow, b_addt, b_adds, atI0, atI1, atI2, atI3, slc_t, slc_r, len_s, abs_i, int_i, int_b, min_i, max_i, gcd_i, seq_t, seq_r, r1_i, r2_i, r3_i, a_nm, a_nil, a_cons, vrl_some, vrn_some, put_lget, Option.isSome_some, tru_ref, b_addl, idx_t, idx_r, idx_l, slc_l, len_t, len_r, len_l, tuple_t, tuple_r, tuple_l, list_t, list_r, list_l, app_l, rev_l, pop_l, popat_l, mT_l, seq_l, enu_l, zip_l, rev_i, rev_t, in_t, notin_t, fl_s, fl_i, fl_b, fl_n, inL_nil, inL_ss, inL_ii, List.all_cons, List.all_nil, Bool.and_self, Bool.and_true, Bool.true_and, zip_t, a_t, a_l, sub_l, isTs, isT, Option.map_some, List.length_cons, List.length_nil, Nat.reduceAdd, Nat.reduceSub, Nat.reduceLT, Nat.zero_add, Bool.false_eq_true, Bool.true_eq_false, if_false, if_true, decide_eq_true_eq, Bool.not_true, Bool.not_false, ite_true, ite_false, reduceIte, Bool.not_eq_true', decide_eq_false_iff_not, Int.cast_ofNat_Int, Int.reduceEq, Int.reduceLT, Int.reduceLE, Int.reduceNeg, Int.reduceAdd, Int.reduceSub, Int.reduceMul, Int.reduceToNat, decide_true, decide_false, not_true, not_false, not_true_eq_false, not_false_eq_true, true_and, and_true, eq_self, reduceCtorEq, List.isEmpty_nil, List.isEmpty_cons, List.nil_append, List.cons_append]
      rw [hk]
      exact fin X hg
  refine join (fun σ' S' => S' = S ∧ ∃ n' d' : Int, 0 < d' ∧ Bt d' 49990 ∧ Rat.divInt n' d' = Rat.divInt n d ∧ σ' = [some (.int n'), some (.int d'), none, none, none]) ?_ ?_
  · rintro σ' S' ⟨rfl, n', d', h1, h2, h3, rfl⟩
    exact key n' d' h1 h2 h3 (kend Q E) rfl
  · intro N hN
    simp -dsimp -implicitDefEqProofs only [↓cov3, ↓cov2, ↓cov1, ↓E_var, ↓E_int, ↓E_bl, ↓E_non, ↓E_str, ↓E_glo, ↓E_tup, ↓E_lst, ↓E_bin, ↓E_neg, ↓E_cmp, ↓E_chn, ↓E_and, ↓E_or, ↓E_one, ↓E_not, ↓E_ifx, ↓E_idx, ↓E_slc, ↓E_call, ↓E_bi, ↓E_isi, ↓E_mth, ↓E_lc, ↓Es_nil, ↓Es_cons, ↓O_no, ↓O_some, ↓Q_no, ↓Q_c, ↓C_and, ↓C_or, ↓C_one, ↓C_not, ↓C_cmp, ↓C_chn, ↓C_v, ↓I_seq, ↓I_rng1, ↓I_rng2, ↓I_rng3, ↓I_enu, ↓I_zip, ↓I_rev, ↓S_set, ↓S_asg, ↓S_par2, ↓S_sub, ↓S_expr, ↓S_ret, ↓S_retN, ↓S_ifs, ↓S_for, ↓S_brk, ↓S_cnt, ↓S_pass, ↓S_raise, ↓S_try, ↓S_never, ex_t, ex_f, ↓S_nil, ↓S_cons, ↓kN_nx, ↓kN_rt, ↓kN_bk, ↓kN_ct, ↓kN_ex, ↓kL_nx, ↓kL_rt, ↓kL_bk, ↓kL_ct, ↓kL_ex, ↓kX_nx, ↓kX_rt, ↓kX_bk, ↓kX_ct, ↓kX_ex, ↓kend_nx, ↓kend_rt, ↓kend_bk, ↓kend_ct, ↓kend_ex, vr_some, gt_0, gt_s, stn_0, stn_s, wip_0, wip_s, wips_0, wips_s, neg_i, isi_s, o_i, tru_non, tru_bl, tru_int, tru_tup, tru_rol, c_Eq, c_NotEq, c_Lt, c_LtE, c_Gt, c_GtE, cs_Eq, cs_NotEq, cb_Eq, cb_NotEq, c2_Eq, c2_NotEq, is_non, isnot_non, is_bl, isnot_bl, is_int, isnot_int, is_str, isnot_str, is_tup, isnot_tup, is_rol, isnot_rol, is_ref, isnot_ref, is_b, isnot_b, in_s, notin_s, b_add, b_sub, b_mul, b_fdiv, b_mod, b_pow, b_addt, b_adds, atI0, atI1, atI2, atI3, slc_t, slc_r, len_s, abs_i, int_i, int_b, min_i, max_i, gcd_i, seq_t, seq_r, r1_i, r2_i, r3_i, a_nm, a_nil, a_cons, vrl_some, vrn_some, put_lget, Option.isSome_some, tru_ref, b_addl, idx_t, idx_r, idx_l, slc_l, len_t, len_r, len_l, tuple_t, tuple_r, tuple_l, list_t, list_r, list_l, app_l, rev_l, pop_l, popat_l, mT_l, seq_l, enu_l, zip_l, rev_i, rev_t, in_t, notin_t, fl_s, fl_i, fl_b, fl_n, inL_nil, inL_ss, inL_ii, List.all_cons, List.all_nil, Bool.and_self, Bool.and_true, Bool.true_and, zip_t, a_t, a_l, sub_l, isTs, isT, Option.map_some, List.length_cons, List.length_nil, Nat.reduceAdd, Nat.reduceSub, Nat.reduceLT, Nat.zero_add, Bool.false_eq_true, Bool.true_eq_false, if_false, if_true, decide_eq_true_eq, Bool.not_true, Bool.not_false, ite_true, ite_false, reduceIte, Bool.not_eq_true', decide_eq_false_iff_not, Int.cast_ofNat_Int, Int.reduceEq, Int.reduceLT, Int.reduceLE, Int.reduceNeg, Int.reduceAdd, Int.reduceSub, Int.reduceMul, Int.reduceToNat, decide_true, decide_false, not_true, not_false, not_true_eq_false, not_false_eq_true, true_and, and_true, eq_self, reduceCtorEq, List.isEmpty_nil, List.isEmpty_cons, List.nil_append, List.cons_append]
    refine ite2 (fun hn => ?_) fun hn => ?_
    · exact hN _ _ ⟨rfl, -n, -d, by omega, hb.neg, (divInt_flip n d).symm, rfl⟩
    · exact hN _ _ ⟨rfl, n, d, by omega, hb, rfl, rfl⟩
theorem add_ok {a b : Rat} {m n : Nat} (ha : QB a m) (hb : QB b n) (hmn : m + n ≤ 49990) (h : Q (QD (a + b)) S) : semF G T (k + 2) "_law_add" [QD a, QD b] S Q E := by
  refine call_of t_law_add rfl ?_
  simp -dsimp -implicitDefEqProofs only [ent, List.map_cons, List.map_nil, List.length_cons, List.length_nil, Nat.reduceAdd, Nat.reduceSub, Nat.zero_add, List.replicate, List.cons_append, List.nil_append, F_law_add]
  simp -dsimp -implicitDefEqProofs only [↓cov3, ↓cov2, ↓cov1, ↓E_var, ↓E_int, ↓E_bl, ↓E_non, ↓E_str, ↓E_glo, ↓E_tup, ↓E_lst, ↓E_bin, ↓E_neg, ↓E_cmp, ↓E_chn, ↓E_and, ↓E_or, ↓E_one, ↓E_not, ↓E_ifx, ↓E_idx, ↓E_slc, ↓E_call, ↓E_bi, ↓E_isi, ↓E_mth, ↓E_lc, ↓Es_nil, ↓Es_cons, ↓O_no, ↓O_some, ↓Q_no, ↓Q_c, ↓C_and, ↓C_or, ↓C_one, ↓C_not, ↓C_cmp, ↓C_chn, ↓C_v, ↓I_seq, ↓I_rng1, ↓I_rng2, ↓I_rng3, ↓I_enu, ↓I_zip, ↓I_rev, ↓S_set, ↓S_asg, ↓S_par2, ↓S_sub, ↓S_expr, ↓S_ret, ↓S_retN, ↓S_ifs, ↓S_for, ↓S_brk, ↓S_cnt, ↓S_pass, ↓S_raise, ↓S_try, ↓S_never, ex_t, ex_f, ↓S_nil, ↓S_cons, ↓kN_nx, ↓kN_rt, ↓kN_bk, ↓kN_ct, ↓kN_ex, ↓kL_nx, ↓kL_rt, ↓kL_bk, ↓kL_ct, ↓kL_ex, ↓kX_nx, ↓kX_rt, ↓kX_bk, ↓kX_ct, ↓kX_ex, ↓kend_nx, ↓kend_rt, ↓kend_bk, ↓kend_ct, ↓kend_ex, vr_some, gt_0, gt_s, stn_0, stn_s, wip_0, wip_s, wips_0, wips_s, neg_i, isi_s, o_i, tru_non, tru_bl, tru_int, tru_tup, tru_rol, c_Eq, c_NotEq, c_Lt, c_LtE, c_Gt, c_GtE, cs_Eq, cs_NotEq, cb_Eq, cb_NotEq, c2_Eq, c2_NotEq, is_non, isnot_non, is_bl, isnot_bl, is_int, isnot_int, is_str, isnot_str, is_tup, isnot_tup, is_rol, isnot_rol, is_ref, isnot_ref, is_b, isnot_b, in_s, notin_s, b_add, b_sub, b_mul, b_fdiv, b_mod, b_pow, b_addt, b_adds, atI0, atI1, atI2, atI3, slc_t, slc_r, len_s, abs_i, int_i, int_b, min_i, max_i, gcd_i, seq_t, seq_r, r1_i, r2_i, r3_i, a_nm, a_nil, a_cons, vrl_some, vrn_some, put_lget, Option.isSome_some, tru_ref, b_addl, idx_t, idx_r, idx_l, slc_l, len_t, len_r, len_l, tuple_t, tuple_r, tuple_l, list_t, list_r, list_l, app_l, rev_l, pop_l, popat_l, mT_l, seq_l, enu_l, zip_l, rev_i, rev_t, in_t, notin_t, fl_s, fl_i, fl_b, fl_n, inL_nil, inL_ss, inL_ii, List.all_cons, List.all_nil, Bool.and_self, Bool.and_true, Bool.true_and, zip_t, a_t, a_l, sub_l, isTs, isT, Option.map_some, List.length_cons, List.length_nil, Nat.reduceAdd, Nat.reduceSub, Nat.reduceLT, Nat.zero_add, Bool.false_eq_true, Bool.true_eq_false, if_false, if_true, decide_eq_true_eq, Bool.not_true, Bool.not_false, ite_true, ite_false, reduceIte, Bool.not_eq_true', decide_eq_false_iff_not, Int.cast_ofNat_Int, Int.reduceEq, Int.reduceLT, Int.reduceLE, Int.reduceNeg, Int.reduceAdd, Int.reduceSub, Int.reduceMul, Int.reduceToNat, decide_true, decide_false, not_true, not_false, not_true_eq_false, not_false_eq_true, true_and, and_true, eq_self, reduceCtorEq, List.isEmpty_nil, List.isEmpty_cons, List.nil_append, List.cons_append, idx_Q0, idx_Q1]
  refine ⟨ha.num.mulOk hb.den (by omega), hb.num.mulOk ha.den (by omega), ha.den.mulOk hb.den (by omega), fraction_ok (Int.ne_of_gt (Int.mul_pos (den_pos a) (den_pos b))) ((ha.den.mul hb.den).le hmn) ?_⟩
  rw [add_is]
  exact h
theorem mul_ok {a b : Rat} {m n : Nat} (ha : QB a m) (hb : QB b n) (hmn : m + n ≤ 49990) (h : Q (QD (a * b)) S) : semF G T (k + 2) "_law_mul" [QD a, QD b] S Q E := by
  refine call_of t_law_mul rfl ?_
  simp -dsimp -implicitDefEqProofs only [ent, List.map_cons, List.map_nil, List.length_cons, List.length_nil, Nat.reduceAdd, Nat.reduceSub, Nat.zero_add, List.replicate, List.cons_append, List.nil_append, F_law_mul]
  simp -dsimp -implicitDefEqProofs only [↓cov3, ↓cov2, ↓cov1, ↓E_var, ↓E_int, ↓E_bl, ↓E_non, ↓E_str, ↓E_glo, ↓E_tup, ↓E_lst, ↓E_bin, ↓E_neg, ↓E_cmp, ↓E_chn, ↓E_and, ↓E_or, ↓E_one, ↓E_not, ↓E_ifx, ↓E_idx, ↓E_slc, ↓E_call, ↓E_bi, ↓E_isi, ↓E_mth, ↓E_lc, ↓Es_nil, ↓Es_cons, ↓O_no, ↓O_some, ↓Q_no, ↓Q_c, ↓C_and, ↓C_or, ↓C_one, ↓C_not, ↓C_cmp, ↓C_chn, ↓C_v, ↓I_seq, ↓I_rng1, ↓I_rng2, ↓I_rng3, ↓I_enu, ↓I_zip, ↓I_rev, ↓S_set, ↓S_asg, ↓S_par2, ↓S_sub, ↓S_expr, ↓S_ret, ↓S_retN, ↓S_ifs, ↓S_for, ↓S_brk, ↓S_cnt, ↓S_pass, ↓S_raise, ↓S_try, ↓S_never, ex_t, ex_f, ↓S_nil, ↓S_cons, ↓kN_nx, ↓kN_rt, ↓kN_bk, ↓kN_ct, ↓kN_ex, ↓kL_nx, ↓kL_rt, ↓kL_bk, ↓kL_ct, ↓kL_ex, ↓kX_nx, ↓kX_rt, ↓kX_bk, ↓kX_ct, ↓kX_ex, ↓kend_nx, ↓kend_rt, ↓kend_bk, ↓kend_ct, ↓kend_ex, vr_some, gt_0, gt_s, stn_0, stn_s, wip_0, wip_s, wips_0, wips_s, neg_i, isi_s, o_i, tru_non, tru_bl, tru_int, tru_tup, tru_rol, c_Eq, c_NotEq, c_Lt, c_LtE, c_Gt, c_GtE, cs_Eq, cs_NotEq, cb_Eq, cb_NotEq, c2_Eq, c2_NotEq, is_non, isnot_non, is_bl, isnot_bl, is_int, isnot_int, is_str, isnot_str, is_tup, isnot_tup, is_rol, isnot_rol, is_ref, isnot_ref, is_b, isnot_b, in_s, notin_s, b_add, b_sub, b_mul, b_fdiv, b_mod, b_pow, b_addt, b_adds, atI0, atI1, atI2, atI3, slc_t, slc_r, len_s, abs_i, int_i, int_b, min_i, max_i, gcd_i, seq_t, seq_r, r1_i, r2_i, r3_i, a_nm, a_nil, a_cons, vrl_some, vrn_some, put_lget, Option.isSome_some, tru_ref, b_addl, idx_t, idx_r, idx_l, slc_l, len_t, len_r, len_l, tuple_t, tuple_r, tuple_l, list_t, list_r, list_l, app_l, rev_l, pop_l, popat_l, mT_l, seq_l, enu_l, zip_l, rev_i, rev_t, in_t, notin_t, fl_s, fl_i, fl_b, fl_n, inL_nil, inL_ss, inL_ii, List.all_cons, List.all_nil, Bool.and_self, Bool.and_true, Bool.true_and, zip_t, a_t, a_l, sub_l, isTs, isT, Option.map_some, List.length_cons, List.length_nil, Nat.reduceAdd, Nat.reduceSub, Nat.reduceLT, Nat.zero_add, Bool.false_eq_true, Bool.true_eq_false, if_false, if_true, decide_eq_true_eq, Bool.not_true, Bool.not_false, ite_true, ite_false, reduceIte, Bool.not_eq_true', decide_eq_false_iff_not, Int.cast_ofNat_Int, Int.reduceEq, Int.reduceLT, Int.reduceLE, Int.reduceNeg, Int.reduceAdd, Int.reduceSub, Int.reduceMul, Int.reduceToNat, decide_true, decide_false, not_true, not_false, not_true_eq_false, not_false_eq_true, true_and, and_true, eq_self, reduceCtorEq, List.isEmpty_nil, List.isEmpty_cons, List.nil_append, List.cons_append, idx_Q0, idx_Q1]
  refine ⟨ha.num.mulOk hb.num (by omega), ha.den.mulOk hb.den (by omega), fraction_ok (Int.ne_of_gt (Int.mul_pos (den_pos a) (den_pos b))) ((ha.den.mul hb.den).le hmn) ?_⟩
  rw [mul_is]
  exact h
theorem inverse_ok {a : Rat} {m : Nat} (ha : QB a m) (hm : m ≤ 49990) (h0 : a ≠ 0) (h : Q (QD a⁻¹) S) : semF G T (k + 2) "_law_inverse" [QD a] S Q E := by
  refine call_of t_law_inverse rfl ?_
  simp -dsimp -implicitDefEqProofs only [ent, List.map_cons, List.map_nil, List.length_cons, List.length_nil, Nat.reduceAdd, Nat.reduceSub, Nat.zero_add, List.replicate, List.cons_append, List.nil_append, F_law_inverse]
  simp -dsimp -implicitDefEqProofs only [↓cov3, ↓cov2, ↓cov1, ↓E_var, ↓E_int, ↓E_bl, ↓E_non, ↓E_str, ↓E_glo, ↓E_tup, ↓E_lst, ↓E_bin, ↓E_neg, ↓E_cmp, ↓E_chn, ↓E_and, ↓E_or, ↓E_one, ↓E_not, ↓E_ifx, ↓E_idx, ↓E_slc, ↓E_call, ↓E_bi, ↓E_isi, ↓E_mth, ↓E_lc, ↓Es_nil, ↓Es_cons, ↓O_no, ↓O_some, ↓Q_no, ↓Q_c, ↓C_and, ↓C_or, ↓C_one, ↓C_not, ↓C_cmp, ↓C_chn, ↓C_v, ↓I_seq, ↓I_rng1, ↓I_rng2, ↓I_rng3, ↓I_enu, ↓I_zip, ↓I_rev, ↓S_set, ↓S_asg, ↓S_par2, ↓S_sub, ↓S_expr, ↓S_ret, ↓S_retN, ↓S_ifs, ↓S_for, ↓S_brk, ↓S_cnt, ↓S_pass, ↓S_raise, ↓S_try, ↓S_never, ex_t, ex_f, ↓S_nil, ↓S_cons, ↓kN_nx, ↓kN_rt, ↓kN_bk, ↓kN_ct, ↓kN_ex, ↓kL_nx, ↓kL_rt, ↓kL_bk, ↓kL_ct, ↓kL_ex, ↓kX_nx, ↓kX_rt, ↓kX_bk, ↓kX_ct, ↓kX_ex, ↓kend_nx, ↓kend_rt, ↓kend_bk, ↓kend_ct, ↓kend_ex, vr_some, gt_0, gt_s, stn_0, stn_s, wip_0, wip_s, wips_0, wips_s, neg_i, isi_s, o_i, tru_non, tru_bl, tru_int, tru_tup, tru_rol, c_Eq, c_NotEq, c_Lt, c_LtE, c_Gt, c_GtE, cs_Eq, cs_NotEq, cb_Eq, cb_NotEq, c2_Eq, c2_NotEq, is_non, isnot_non, is_bl, isnot_bl, is_int, isnot_int, is_str, isnot_str, is_tup, isnot_tup, is_rol, isnot_rol, is_ref, isnot_ref, is_b, isnot_b, in_s, notin_s, b_add, b_sub, b_mul, b_fdiv, b_mod, b_pow, b_addt, b_adds, atI0, atI1, atI2, atI3, slc_t, slc_r, len_s, abs_i, int_i, int_b, min_i, max_i, gcd_i, seq_t, seq_r, r1_i, r2_i, r3_i, a_nm, a_nil, a_cons, vrl_some, vrn_some, put_lget, Option.isSome_some, tru_ref, b_addl, idx_t, idx_r, idx_l, slc_l, len_t, len_r, len_l, tuple_t, tuple_r, tuple_l, list_t, list_r, list_l, app_l, rev_l, pop_l, popat_l, mT_l, seq_l, enu_l, zip_l, rev_i, rev_t, in_t, notin_t, fl_s, fl_i, fl_b, fl_n, inL_nil, inL_ss, inL_ii, List.all_cons, List.all_nil, Bool.and_self, Bool.and_true, Bool.true_and, zip_t, a_t, a_l, sub_l, isTs, isT, Option.map_some, List.length_cons, List.length_nil, Nat.reduceAdd, Nat.reduceSub, Nat.reduceLT, Nat.zero_add, Bool.false_eq_true, Bool.true_eq_false, if_false, if_true, decide_eq_true_eq, Bool.not_true, Bool.not_false, ite_true, ite_false, reduceIte, Bool.not_eq_true', decide_eq_false_iff_not, Int.cast_ofNat_Int, Int.reduceEq, Int.reduceLT, Int.reduceLE, Int.reduceNeg, Int.reduceAdd, Int.reduceSub, Int.reduceMul, Int.reduceToNat, decide_true, decide_false, not_true, not_false, not_true_eq_false, not_false_eq_true, true_and, and_true, eq_self, reduceCtorEq, List.isEmpty_nil, List.isEmpty_cons, List.nil_append, List.cons_append, idx_Q0, idx_Q1]
  refine fraction_ok (num_ne h0) (ha.num.le hm) ?_
  rw [inv_is]
  exact h
theorem inv_pow (a : Rat) : ∀ n : Nat, (a⁻¹) ^ n = (a ^ n)⁻¹
  | 0 => by rw [Rat.pow_zero, Rat.pow_zero]; decide +kernel
  | n + 1 => by rw [Rat.pow_succ, Rat.pow_succ, inv_pow a n, Rat.inv_mul_rev, Rat.mul_comm]
theorem QB.one : QB 1 1 := ⟨by show (1 : Int).natAbs < 2 ^ 1; decide, by show ((1 : Nat) : Int).natAbs < 2 ^ 1; decide⟩
theorem QB_pow {a : Rat} {m : Nat} (h : QB a m) : ∀ j : Nat, QB (a ^ j) (m * j + 1)
  | 0 => by
    rw [Rat.pow_zero]
    exact QB.one.le (by omega)
  | j + 1 => by
    rw [Rat.pow_succ]
    refine QB.mul (QB_pow h j) h ?_
    rw [Nat.mul_succ]
    omega
theorem power_ok {a : Rat} {z : Int} {m : Nat} (ha : QB a m) (hm : m ≤ 5000) (hz : z.natAbs ≤ 5) (h0 : z < 0 → a ≠ 0) (h : Q (QD (pw a z)) S) : semF G T (k + 3) "_law_power" [QD a, .int z] S Q E := by
  refine call_of t_law_power rfl ?_
  simp -dsimp -implicitDefEqProofs only [ent, List.map_cons, List.map_nil, List.length_cons, List.length_nil, Nat.reduceAdd, Nat.reduceSub, Nat.zero_add, List.replicate, List.cons_append, List.nil_append, F_law_power]
  simp -dsimp -implicitDefEqProofs only [↓cov3, ↓cov2, ↓cov1, ↓E_var, ↓E_int, ↓E_bl, ↓E_non, ↓E_str, ↓E_glo, ↓E_tup, ↓E_lst, ↓E_bin, ↓E_neg, ↓E_cmp, ↓E_chn, ↓E_and, ↓E_or, ↓E_one, ↓E_not, ↓E_ifx, ↓E_idx, ↓E_slc, ↓E_call, ↓E_bi, ↓E_isi, ↓E_mth, ↓E_lc, ↓Es_nil, ↓Es_cons, ↓O_no, ↓O_some, ↓Q_no, ↓Q_c, ↓C_and, ↓C_or, ↓C_one, ↓C_not, ↓C_cmp, ↓C_chn, ↓C_v, ↓I_seq, ↓I_rng1, ↓I_rng2, ↓I_rng3, ↓I_enu, ↓I_zip, ↓I_rev, ↓S_set, ↓S_asg, ↓S_par2, ↓S_sub, ↓S_expr, ↓S_ret, ↓S_retN, ↓S_for, ↓S_brk, ↓S_cnt, ↓S_pass, ↓S_raise, ↓S_never, ex_t, ex_f, ↓S_nil, ↓S_cons, ↓kN_nx, ↓kN_rt, ↓kN_bk, ↓kN_ct, ↓kN_ex, ↓kL_nx, ↓kL_rt, ↓kL_bk, ↓kL_ct, ↓kL_ex, ↓kX_nx, ↓kX_rt, ↓kX_bk, ↓kX_ct, ↓kX_ex, ↓kend_nx, ↓kend_rt, ↓kend_bk, ↓kend_ct, ↓kend_ex, vr_some, gt_0, gt_s, stn_0, stn_s, wip_0, wip_s, wips_0, wips_s, neg_i, isi_s, o_i, tru_non, tru_bl, tru_int, tru_tup, tru_rol, c_Eq, c_NotEq, c_Lt, c_LtE, c_Gt, c_GtE, cs_Eq, cs_NotEq, cb_Eq, cb_NotEq, c2_Eq, c2_NotEq, is_non, isnot_non, is_bl, isnot_bl, is_int, isnot_int, is_str, isnot_str, is_tup, isnot_tup, is_rol, isnot_rol, is_ref, isnot_ref, is_b, isnot_b, in_s, notin_s, b_add, b_sub, b_mul, b_fdiv, b_mod, b_pow, b_addt, b_adds, atI0, atI1, atI2, atI3, slc_t, slc_r, len_s, abs_i, int_i, int_b, min_i, max_i, gcd_i, seq_t, seq_r, r1_i, r2_i, r3_i, a_nm, a_nil, a_cons, vrl_some, vrn_some, put_lget, Option.isSome_some, tru_ref, b_addl, idx_t, idx_r, idx_l, slc_l, len_t, len_r, len_l, tuple_t, tuple_r, tuple_l, list_t, list_r, list_l, app_l, rev_l, pop_l, popat_l, mT_l, seq_l, enu_l, zip_l, rev_i, rev_t, in_t, notin_t, fl_s, fl_i, fl_b, fl_n, inL_nil, inL_ss, inL_ii, List.all_cons, List.all_nil, Bool.and_self, Bool.and_true, Bool.true_and, zip_t, a_t, a_l, sub_l, isTs, isT, Option.map_some, List.length_cons, List.length_nil, Nat.reduceAdd, Nat.reduceSub, Nat.reduceLT, Nat.zero_add, Bool.false_eq_true, Bool.true_eq_false, if_false, if_true, decide_eq_true_eq, Bool.not_true, Bool.not_false, ite_true, ite_false, reduceIte, Bool.not_eq_true', decide_eq_false_iff_not, Int.cast_ofNat_Int, Int.reduceEq, Int.reduceLT, Int.reduceLE, Int.reduceNeg, Int.reduceAdd, Int.reduceSub, Int.reduceMul, Int.reduceToNat, decide_true, decide_false, not_true, not_false, not_true_eq_false, not_false_eq_true, true_and, and_true, eq_self, reduceCtorEq, List.isEmpty_nil, List.isEmpty_cons, List.nil_append, List.cons_append]
  refine join (fun σ' S' => S' = S ∧ ∃ (b : Rat) (n : Nat), n ≤ 5 ∧ QB b m ∧ pw a z = b ^ n ∧ σ' = [some (QD b), some (.int n), some (QD 1), none]) ?_ ?_
  · rintro σ' S' ⟨rfl, b, n, hn, hb, e, rfl⟩
    simp -dsimp -implicitDefEqProofs only [↓cov3, ↓cov2, ↓cov1, ↓E_var, ↓E_int, ↓E_bl, ↓E_non, ↓E_str, ↓E_glo, ↓E_tup, ↓E_lst, ↓E_bin, ↓E_neg, ↓E_cmp, ↓E_chn, ↓E_and, ↓E_or, ↓E_one, ↓E_not, ↓E_ifx, ↓E_idx, ↓E_slc, ↓E_call, ↓E_bi, ↓E_isi, ↓E_mth, ↓E_lc, ↓Es_nil, ↓Es_cons, ↓O_no, ↓O_some, ↓Q_no, ↓Q_c, ↓C_and, ↓C_or, ↓C_one, ↓C_not, ↓C_cmp, ↓C_chn, ↓C_v, ↓I_seq, ↓I_rng1, ↓I_rng2, ↓I_rng3, ↓I_enu, ↓I_zip, ↓I_rev, ↓S_set, ↓S_asg, ↓S_par2, ↓S_sub, ↓S_expr, ↓S_ret, ↓S_retN, ↓S_ifs, ↓S_for, ↓S_brk, ↓S_cnt, ↓S_pass, ↓S_raise, ↓S_try, ↓S_never, ex_t, ex_f, ↓S_nil, ↓S_cons, ↓kN_nx, ↓kN_rt, ↓kN_bk, ↓kN_ct, ↓kN_ex, ↓kL_nx, ↓kL_rt, ↓kL_bk, ↓kL_ct, ↓kL_ex, ↓kX_nx, ↓kX_rt, ↓kX_bk, ↓kX_ct, ↓kX_ex, ↓kend_nx, ↓kend_rt, ↓kend_bk, ↓kend_ct, ↓kend_ex, vr_some, gt_0, gt_s, stn_0, stn_s, wip_0, wip_s, wips_0, wips_s, neg_i, isi_s, o_i, tru_non, tru_bl, tru_int, tru_tup, tru_rol, c_Eq, c_NotEq, c_Lt, c_LtE, c_Gt, c_GtE, cs_Eq, cs_NotEq, cb_Eq, cb_NotEq, c2_Eq, c2_NotEq, is_non, isnot_non, is_bl, isnot_bl, is_int, isnot_int, is_str, isnot_str, is_tup, isnot_tup, is_rol, isnot_rol, is_ref, isnot_ref, is_b, isnot_b, in_s, notin_s, b_add, b_sub, b_mul, b_fdiv, b_mod, b_pow, b_addt, b_adds, atI0, atI1, atI2, atI3, slc_t, slc_r, len_s, abs_i, int_i, int_b, min_i, max_i, gcd_i, seq_t, seq_r, r1_i, r2_i, r3_i, a_nm, a_nil, a_cons, vrl_some, vrn_some, put_lget, Option.isSome_some, tru_ref, b_addl, idx_t, idx_r, idx_l, slc_l, len_t, len_r, len_l, tuple_t, tuple_r, tuple_l, list_t, list_r, list_l, app_l, rev_l, pop_l, popat_l, mT_l, seq_l, enu_l, zip_l, rev_i, rev_t, in_t, notin_t, fl_s, fl_i, fl_b, fl_n, inL_nil, inL_ss, inL_ii, List.all_cons, List.all_nil, Bool.and_self, Bool.and_true, Bool.true_and, zip_t, a_t, a_l, sub_l, isTs, isT, Option.map_some, List.length_cons, List.length_nil, Nat.reduceAdd, Nat.reduceSub, Nat.reduceLT, Nat.zero_add, Bool.false_eq_true, Bool.true_eq_false, if_false, if_true, decide_eq_true_eq, Bool.not_true, Bool.not_false, ite_true, ite_false, reduceIte, Bool.not_eq_true', decide_eq_false_iff_not, Int.cast_ofNat_Int, Int.reduceEq, Int.reduceLT, Int.reduceLE, Int.reduceNeg, Int.reduceAdd, Int.reduceSub, Int.reduceMul, Int.reduceToNat, decide_true, decide_false, not_true, not_false, not_true_eq_false, not_false_eq_true, true_and, and_true, eq_self, reduceCtorEq, List.isEmpty_nil, List.isEmpty_cons, List.nil_append, List.cons_append]
    refine ⟨by omega, by omega, ?_⟩
    rw [Int.toNat_natCast]
    refine for_rng (fun i σ S2 => S2 = S' ∧ ∃ w, σ = [some (QD b), some (.int n), some (QD (b ^ i)), w]) ⟨rfl, _, by rw [Rat.pow_zero]⟩ ?_ ?_
    · rintro i σ S2 N hi ⟨rfl, w, rfl⟩ hN
      have hmi : m * i ≤ 5000 * 5 := Nat.mul_le_mul hm (by omega)
      simp -dsimp -implicitDefEqProofs only [↓cov3, ↓cov2, ↓cov1, ↓E_var, ↓E_int, ↓E_bl, ↓E_non, ↓E_str, ↓E_glo, ↓E_tup, ↓E_lst, ↓E_bin, ↓E_neg, ↓E_cmp, ↓E_chn, ↓E_and, ↓E_or, ↓E_one, ↓E_not, ↓E_ifx, ↓E_idx, ↓E_slc, ↓E_call, ↓E_bi, ↓E_isi, ↓E_mth, ↓E_lc, ↓Es_nil, ↓Es_cons, ↓O_no, ↓O_some, ↓Q_no, ↓Q_c, ↓C_and, ↓C_or, ↓C_one, ↓C_not, ↓C_cmp, ↓C_chn, ↓C_v, ↓I_seq, ↓I_rng1, ↓I_rng2, ↓I_rng3, ↓I_enu, ↓I_zip, ↓I_rev, ↓S_set, ↓S_asg, ↓S_par2, ↓S_sub, ↓S_expr, ↓S_ret, ↓S_retN, ↓S_ifs, ↓S_for, ↓S_brk, ↓S_cnt, ↓S_pass, ↓S_raise, ↓S_try, ↓S_never, ex_t, ex_f, ↓S_nil, ↓S_cons, ↓kN_nx, ↓kN_rt, ↓kN_bk, ↓kN_ct, ↓kN_ex, ↓kL_nx, ↓kL_rt, ↓kL_bk, ↓kL_ct, ↓kL_ex, ↓kX_nx, ↓kX_rt, ↓kX_bk, ↓kX_ct, ↓kX_ex, ↓kend_nx, ↓kend_rt, ↓kend_bk, ↓kend_ct, ↓kend_ex, vr_some, gt_0, gt_s, stn_0, stn_s, wip_0, wip_s, wips_0, wips_s, neg_i, isi_s, o_i, tru_non, tru_bl, tru_int, tru_tup, tru_rol, c_Eq, c_NotEq, c_Lt, c_LtE, c_Gt, c_GtE, cs_Eq, cs_NotEq, cb_Eq, cb_NotEq, c2_Eq, c2_NotEq, is_non, isnot_non, is_bl, isnot_bl, is_int, isnot_int, is_str, isnot_str, is_tup, isnot_tup, is_rol, isnot_rol, is_ref, isnot_ref, is_b, isnot_b, in_s, notin_s, b_add, b_sub, b_mul, b_fdiv, b_mod, b_pow, b_addt, b_adds, atI0, atI1, atI2, atI3, slc_t, slc_r, len_s, abs_i, int_i, int_b, min_i, max_i, gcd_i, seq_t, seq_r, r1_i, r2_i, r3_i, a_nm, a_nil, a_cons, vrl_some, vrn_some, put_lget, Option.isSome_some, tru_ref, b_addl, idx_t, idx_r, idx_l, slc_l, len_t, len_r, len_l, tuple_t, tuple_r, tuple_l, list_t, list_r, list_l, app_l, rev_l, pop_l, popat_l, mT_l, seq_l, enu_l, zip_l, rev_i, rev_t, in_t, notin_t, fl_s, fl_i, fl_b, fl_n, inL_nil, inL_ss, inL_ii, List.all_cons, List.all_nil, Bool.and_self, Bool.and_true, Bool.true_and, zip_t, a_t, a_l, sub_l, isTs, isT, Option.map_some, List.length_cons, List.length_nil, Nat.reduceAdd, Nat.reduceSub, Nat.reduceLT, Nat.zero_add, Bool.false_eq_true, Bool.true_eq_false, if_false, if_true, decide_eq_true_eq, Bool.not_true, Bool.not_false, ite_true, ite_false, reduceIte, Bool.not_eq_true', decide_eq_false_iff_not, Int.cast_ofNat_Int, Int.reduceEq, Int.reduceLT, Int.reduceLE, Int.reduceNeg, Int.reduceAdd, Int.reduceSub, Int.reduceMul, Int.reduceToNat, decide_true, decide_false, not_true, not_false, not_true_eq_false, not_false_eq_true, true_and, and_true, eq_self, reduceCtorEq, List.isEmpty_nil, List.isEmpty_cons, List.nil_append, List.cons_append]
      refine mul_ok (QB_pow hb i) hb (by omega) ?_
      rw [← Rat.pow_succ]
      simp -dsimp -implicitDefEqProofs only [↓cov3, ↓cov2, ↓cov1, ↓E_var, ↓E_int, ↓E_bl, ↓E_non, ↓E_str, ↓E_glo, ↓E_tup, ↓E_lst, ↓E_bin, ↓E_neg, ↓E_cmp, ↓E_chn, ↓E_and, ↓E_or, ↓E_one, ↓E_not, ↓E_ifx, ↓E_idx, ↓E_slc, ↓E_call, ↓E_bi, ↓E_isi, ↓E_mth, ↓E_lc, ↓Es_nil, ↓Es_cons, ↓O_no, ↓O_some, ↓Q_no, ↓Q_c, ↓C_and, ↓C_or, ↓C_one, ↓C_not, ↓C_cmp, ↓C_chn, ↓C_v, ↓I_seq, ↓I_rng1, ↓I_rng2, ↓I_rng3, ↓I_enu, ↓I_zip, ↓I_rev, ↓S_set, ↓S_asg, ↓S_par2, ↓S_sub, ↓S_expr, ↓S_ret, ↓S_retN, ↓S_ifs, ↓S_for, ↓S_brk, ↓S_cnt, ↓S_pass, ↓S_raise, ↓S_try, ↓S_never, ex_t, ex_f, ↓S_nil, ↓S_cons, ↓kN_nx, ↓kN_rt, ↓kN_bk, ↓kN_ct, ↓kN_ex, ↓kL_nx, ↓kL_rt, ↓kL_bk, ↓kL_ct, ↓kL_ex, ↓kX_nx, ↓kX_rt, ↓kX_bk, ↓kX_ct, ↓kX_ex, ↓kend_nx, ↓kend_rt, ↓kend_bk, ↓kend_ct, ↓kend_ex, vr_some, gt_0, gt_s, stn_0, stn_s, wip_0, wip_s, wips_0, wips_s, neg_i, isi_s, o_i, tru_non, tru_bl, tru_int, tru_tup, tru_rol, c_Eq, c_NotEq, c_Lt, c_LtE, c_Gt, c_GtE, cs_Eq, cs_NotEq, cb_Eq, cb_NotEq, c2_Eq, c2_NotEq, is_non, isnot_non, is_bl, isnot_bl, is_int, isnot_int, is_str, isnot_str, is_tup, isnot_tup, is_rol, isnot_rol, is_ref, isnot_ref, is_b, isnot_b, in_s, notin_s, b_add, b_sub, b_mul, b_fdiv, b_mod, b_pow, b_addt, b_adds, atI0, atI1, atI2, atI3, slc_t, slc_r, len_s, abs_i, int_i, int_b, min_i, max_i, gcd_i, seq_t, seq_r, r1_i, r2_i, r3_i, a_nm, a_nil, a_cons, vrl_some, vrn_some, put_lget, Option.isSome_some, tru_ref, b_addl, idx_t, idx_r, idx_l, slc_l, len_t, len_r, len_l, tuple_t, tuple_r, tuple_l, list_t, list_r, list_l, app_l, rev_l, pop_l, popat_l, mT_l, seq_l, enu_l, zip_l, rev_i, rev_t, in_t, notin_t, fl_s, fl_i, fl_b, fl_n, inL_nil, inL_ss, inL_ii, List.all_cons, List.all_nil, Bool.and_self, Bool.and_true, Bool.true_and, zip_t, a_t, a_l, sub_l, isTs, isT, Option.map_some, List.length_cons, List.length_nil, Nat.reduceAdd, Nat.reduceSub, Nat.reduceLT, Nat.zero_add, Bool.false_eq_true, Bool.true_eq_false, if_false, if_true, decide_eq_true_eq, Bool.not_true, Bool.not_false, ite_true, ite_false, reduceIte, Bool.not_eq_true', decide_eq_false_iff_not, Int.cast_ofNat_Int, Int.reduceEq, Int.reduceLT, Int.reduceLE, Int.reduceNeg, Int.reduceAdd, Int.reduceSub, Int.reduceMul, Int.reduceToNat, decide_true, decide_false, not_true, not_false, not_true_eq_false, not_false_eq_true, true_and, and_true, eq_self, reduceCtorEq, List.isEmpty_nil, List.isEmpty_cons, List.nil_append, List.cons_append]
      exact hN _ _ ⟨rfl, _, rfl⟩
    · rintro σ S2 ⟨rfl, w, rfl⟩
      rw [e] at h
      simp -dsimp -implicitDefEqProofs only [↓cov3, ↓cov2, ↓cov1, ↓E_var, ↓E_int, ↓E_bl, ↓E_non, ↓E_str, ↓E_glo, ↓E_tup, ↓E_lst, ↓E_bin, ↓E_neg, ↓E_cmp, ↓E_chn, ↓E_and, ↓E_or, ↓E_one, ↓E_not, ↓E_ifx, ↓E_idx, ↓E_slc, ↓E_call, ↓E_bi, ↓E_isi, ↓E_mth, ↓E_lc, ↓Es_nil, ↓Es_cons, ↓O_no, ↓O_some, ↓Q_no, ↓Q_c, ↓C_and, ↓C_or, ↓C_one, ↓C_not, ↓C_cmp, ↓C_chn, ↓C_v, ↓I_seq, ↓I_rng1, ↓I_rng2, ↓I_rng3, ↓I_enu, ↓I_zip, ↓I_rev, ↓S_set, ↓S_asg, ↓S_par2, ↓S_sub, ↓S_expr, ↓S_ret, ↓S_retN, ↓S_ifs, ↓S_for, ↓S_brk, ↓S_cnt, ↓S_pass, ↓S_raise, ↓S_try, ↓S_never, ex_t, ex_f, ↓S_nil, ↓S_cons, ↓kN_nx, ↓kN_rt, ↓kN_bk, ↓kN_ct, ↓kN_ex, ↓kL_nx, ↓kL_rt, ↓kL_bk, ↓kL_ct, ↓kL_ex, ↓kX_nx, ↓kX_rt, ↓kX_bk, ↓kX_ct, ↓kX_ex, ↓kend_nx, ↓kend_rt, ↓kend_bk, ↓kend_ct, ↓kend_ex, vr_some, gt_0, gt_s, stn_0, stn_s, wip_0, wip_s, wips_0, wips_s, neg_i, isi_s, o_i, tru_non, tru_bl, tru_int, tru_tup, tru_rol, c_Eq, c_NotEq, c_Lt, c_LtE, c_Gt, c_GtE, cs_Eq, cs_NotEq, cb_Eq, cb_NotEq, c2_Eq, c2_NotEq, is_non, isnot_non, is_bl, isnot_bl, is_int, isnot_int, is_str, isnot_str, is_tup, isnot_tup, is_rol, isnot_rol, is_ref, isnot_ref, is_b, isnot_b, in_s, notin_s, b_add, b_sub, b_mul, b_fdiv, b_mod, b_pow, b_addt, b_adds, atI0, atI1, atI2, atI3, slc_t, slc_r, len_s, abs_i, int_i, int_b, min_i, max_i, gcd_i, seq_t, seq_r, r1_i, r2_i, r3_i, a_nm, a_nil, a_cons, vrl_some, vrn_some, put_lget, Option.isSome_some, tru_ref, b_addl, idx_t, idx_r, idx_l, slc_l, len_t, len_r, len_l, tuple_t, tuple_r, tuple_l, list_t, list_r, list_l, app_l, rev_l, pop_l, popat_l, mT_l, seq_l, enu_l, zip_l, rev_i, rev_t, in_t, notin_t, fl_s, fl_i, fl_b, fl_n, inL_nil, inL_ss, inL_ii, List.all_cons, List.all_nil, Bool.and_self, Bool.and_true, Bool.true_and, zip_t, a_t, a_l, sub_l, isTs, isT, Option.map_some, List.length_cons, List.length_nil, Nat.reduceAdd, Nat.reduceSub, Nat.reduceLT, Nat.zero_add, Bool.false_eq_true, Bool.true_eq_false, if_false, if_true, decide_eq_true_eq, Bool.not_true, Bool.not_false, ite_true, ite_false, reduceIte, Bool.not_eq_true', decide_eq_false_iff_not, Int.cast_ofNat_Int, Int.reduceEq, Int.reduceLT, Int.reduceLE, Int.reduceNeg, Int.reduceAdd, Int.reduceSub, Int.reduceMul, Int.reduceToNat, decide_true, decide_false, not_true, not_false, not_true_eq_false, not_false_eq_true, true_and, and_true, eq_self, reduceCtorEq, List.isEmpty_nil, List.isEmpty_cons, List.nil_append, List.cons_append]
      exact h
  · intro N hN
    simp -dsimp -implicitDefEqProofs only [↓cov3, ↓cov2, ↓cov1, ↓E_var, ↓E_int, ↓E_bl, ↓E_non, ↓E_str, ↓E_glo, ↓E_tup, ↓E_lst, ↓E_bin, ↓E_neg, ↓E_cmp, ↓E_chn, ↓E_and, ↓E_or, ↓E_one, ↓E_not, ↓E_ifx, ↓E_idx, ↓E_slc, ↓E_call, ↓E_bi, ↓E_isi, ↓E_mth, ↓E_lc, ↓Es_nil, ↓Es_cons, ↓O_no, ↓O_some, ↓Q_no, ↓Q_c, ↓C_and, ↓C_or, ↓C_one, ↓C_not, ↓C_cmp, ↓C_chn, ↓C_v, ↓I_seq, ↓I_rng1, ↓I_rng2, ↓I_rng3, ↓I_enu, ↓I_zip, ↓I_rev, ↓S_set, ↓S_asg, ↓S_par2, ↓S_sub, ↓S_expr, ↓S_ret, ↓S_retN, ↓S_ifs, ↓S_for, ↓S_brk, ↓S_cnt, ↓S_pass, ↓S_raise, ↓S_try, ↓S_never, ex_t, ex_f, ↓S_nil, ↓S_cons, ↓kN_nx, ↓kN_rt, ↓kN_bk, ↓kN_ct, ↓kN_ex, ↓kL_nx, ↓kL_rt, ↓kL_bk, ↓kL_ct, ↓kL_ex, ↓kX_nx, ↓kX_rt, ↓kX_bk, ↓kX_ct, ↓kX_ex, ↓kend_nx, ↓kend_rt, ↓kend_bk, ↓kend_ct, ↓kend_ex, vr_some, gt_0, gt_s, stn_0, stn_s, wip_0, wip_s, wips_0, wips_s, neg_i, isi_s, o_i, tru_non, tru_bl, tru_int, tru_tup, tru_rol, c_Eq, c_NotEq, c_Lt, c_LtE, c_Gt, c_GtE, cs_Eq, cs_NotEq, cb_Eq, cb_NotEq, c2_Eq, c2_NotEq, is_non, isnot_non, is_bl, isnot_bl, is_int, isnot_int, is_str, isnot_str, is_tup, isnot_tup, is_rol, isnot_rol, is_ref, isnot_ref, is_b, isnot_b, in_s, notin_s, b_add, b_sub, b_mul, b_fdiv, b_mod, b_pow, b_addt, b_adds, atI0, atI1, atI2, atI3, slc_t, slc_r, len_s, abs_i, int_i, int_b, min_i, max_i, gcd_i, seq_t, seq_r, r1_i, r2_i, r3_i, a_nm, a_nil, a_cons, vrl_some, vrn_some, put_lget, Option.isSome_some, tru_ref, b_addl, idx_t, idx_r, idx_l, slc_l, len_t, len_r, len_l, tuple_t, tuple_r, tuple_l, list_t, list_r, list_l, app_l, rev_l, pop_l, popat_l, mT_l, seq_l, enu_l, zip_l, rev_i, rev_t, in_t, notin_t, fl_s, fl_i, fl_b, fl_n, inL_nil, inL_ss, inL_ii, List.all_cons, List.all_nil, Bool.and_self, Bool.and_true, Bool.true_and, zip_t, a_t, a_l, sub_l, isTs, isT, Option.map_some, List.length_cons, List.length_nil, Nat.reduceAdd, Nat.reduceSub, Nat.reduceLT, Nat.zero_add, Bool.false_eq_true, Bool.true_eq_false, if_false, if_true, decide_eq_true_eq, Bool.not_true, Bool.not_false, ite_true, ite_false, reduceIte, Bool.not_eq_true', decide_eq_false_iff_not, Int.cast_ofNat_Int, Int.reduceEq, Int.reduceLT, Int.reduceLE, Int.reduceNeg, Int.reduceAdd, Int.reduceSub, Int.reduceMul, Int.reduceToNat, decide_true, decide_false, not_true, not_false, not_true_eq_false, not_false_eq_true, true_and, and_true, eq_self, reduceCtorEq, List.isEmpty_nil, List.isEmpty_cons, List.nil_append, List.cons_append]
    refine ite2 (fun hn => ?_) fun hn => ?_
    · refine inverse_ok ha (by omega) (h0 hn) ?_
      simp -dsimp -implicitDefEqProofs only [↓cov3, ↓cov2, ↓cov1, ↓E_var, ↓E_int, ↓E_bl, ↓E_non, ↓E_str, ↓E_glo, ↓E_tup, ↓E_lst, ↓E_bin, ↓E_neg, ↓E_cmp, ↓E_chn, ↓E_and, ↓E_or, ↓E_one, ↓E_not, ↓E_ifx, ↓E_idx, ↓E_slc, ↓E_call, ↓E_bi, ↓E_isi, ↓E_mth, ↓E_lc, ↓Es_nil, ↓Es_cons, ↓O_no, ↓O_some, ↓Q_no, ↓Q_c, ↓C_and, ↓C_or, ↓C_one, ↓C_not, ↓C_cmp, ↓C_chn, ↓C_v, ↓I_seq, ↓I_rng1, ↓I_rng2, ↓I_rng3, ↓I_enu, ↓I_zip, ↓I_rev, ↓S_set, ↓S_asg, ↓S_par2, ↓S_sub, ↓S_expr, ↓S_ret, ↓S_retN, ↓S_ifs, ↓S_for, ↓S_brk, ↓S_cnt, ↓S_pass, ↓S_raise, ↓S_try, ↓S_never, ex_t, ex_f, ↓S_nil, ↓S_cons, ↓kN_nx, ↓kN_rt, ↓kN_bk, ↓kN_ct, ↓kN_ex, ↓kL_nx, ↓kL_rt, ↓kL_bk, ↓kL_ct, ↓kL_ex, ↓kX_nx, ↓kX_rt, ↓kX_bk, ↓kX_ct, ↓kX_ex, ↓kend_nx, ↓kend_rt, ↓kend_bk, ↓kend_ct, ↓kend_ex, vr_some, gt_0, gt_s, stn_0, stn_s, wip_0, wip_s, wips_0, wips_s, neg_i, isi_s, o_i, tru_non, tru_bl, tru_int, tru_tup, tru_rol, c_Eq, c_NotEq, c_Lt, c_LtE, c_Gt, c_GtE, cs_Eq, cs_NotEq, cb_Eq, cb_NotEq, c2_Eq, c2_NotEq, is_non, isnot_non, is_bl, isnot_bl, is_int, isnot_int, is_str, isnot_str, is_tup, isnot_tup, is_rol, isnot_rol, is_ref, isnot_ref, is_b, isnot_b, in_s, notin_s, b_add, b_sub, b_mul, b_fdiv, b_mod, b_pow, b_addt, b_adds, atI0, atI1, atI2, atI3, slc_t, slc_r, len_s, abs_i, int_i, int_b, min_i, max_i, gcd_i, seq_t, seq_r, r1_i, r2_i, r3_i, a_nm, a_nil, a_cons, vrl_some, vrn_some, put_lget, Option.isSome_some, tru_ref, b_addl, idx_t, idx_r, idx_l, slc_l, len_t, len_r, len_l, tuple_t, tuple_r, tuple_l, list_t, list_r, list_l, app_l, rev_l, pop_l, popat_l, mT_l, seq_l, enu_l, zip_l, rev_i, rev_t, in_t, notin_t, fl_s, fl_i, fl_b, fl_n, inL_nil, inL_ss, inL_ii, List.all_cons, List.all_nil, Bool.and_self, Bool.and_true, Bool.true_and, zip_t, a_t, a_l, sub_l, isTs, isT, Option.map_some, List.length_cons, List.length_nil, Nat.reduceAdd, Nat.reduceSub, Nat.reduceLT, Nat.zero_add, Bool.false_eq_true, Bool.true_eq_false, if_false, if_true, decide_eq_true_eq, Bool.not_true, Bool.not_false, ite_true, ite_false, reduceIte, Bool.not_eq_true', decide_eq_false_iff_not, Int.cast_ofNat_Int, Int.reduceEq, Int.reduceLT, Int.reduceLE, Int.reduceNeg, Int.reduceAdd, Int.reduceSub, Int.reduceMul, Int.reduceToNat, decide_true, decide_false, not_true, not_false, not_true_eq_false, not_false_eq_true, true_and, and_true, eq_self, reduceCtorEq, List.isEmpty_nil, List.isEmpty_cons, List.nil_append, List.cons_append]
      refine hN _ _ ⟨rfl, a⁻¹, z.natAbs, hz, ha.inv (num_ne (h0 hn)), ?_, ?_⟩
      · unfold pw
        rw [if_pos hn, inv_pow]
      · rw [show (-z) = (z.natAbs : Int) by omega]
        rfl
    · refine hN _ _ ⟨rfl, a, z.natAbs, hz, ha, ?_, ?_⟩
      · unfold pw
        rw [if_neg hn]
      · have : z = (z.natAbs : Int) := by omega
        conv => lhs; rw [this]
        rfl
/-- only the numbers at r have moved, besides what is new -/
def Mn (r : Addr) (S S' : Sto) : Prop := (∀ b o, b ≠ r → S b = some o → S' b = some o) ∧ ∃ row : List Int, S' r = some (.lst (row.map D.int))
theorem Mn.refl {r : Addr} {S : Sto} {row : List Int} (h : S r = some (.lst (row.map D.int))) : Mn r S S := ⟨fun _ _ _ h => h, row, h⟩
theorem Mn.trans {r : Addr} {A B C : Sto} (h : Mn r A B) (g : Mn r B C) : Mn r A C := ⟨fun b o n e => g.1 b o n (h.1 b o n e), g.2⟩
theorem Mn.new {r a : Addr} {S S' : Sto} {o : Ob} (h : Mn r S S') (n : S' a = none) : Mn r S (put S' a o) := by
  obtain ⟨h1, row, h2⟩ := h
  have na : r ≠ a := fun e => by rw [e, n] at h2; cases h2
  refine ⟨fun b o' hb e => ?_, row, by rw [put_ne na]; exact h2⟩
  have := h1 b o' hb e
  have nb : b ≠ a := fun e => by rw [e, n] at this; cases this
  rw [put_ne nb]
  exact this
theorem next_ok {r : Addr} {row : List Int} {m : Int} (hr : S r = some (.lst (row.map D.int))) (hm : 0 < m) (h : ∀ v S', 0 ≤ v → v < m → Mn r S S' → Q (.int v) S') : semF G T (k + 1) "_law_next" [.ref r, .int m] S Q E := by
  refine call_of t_law_next rfl ?_
  simp -dsimp -implicitDefEqProofs only [ent, List.map_cons, List.map_nil, List.length_cons, List.length_nil, Nat.reduceAdd, Nat.reduceSub, Nat.zero_add, List.replicate, List.cons_append, List.nil_append, F_law_next]
  simp -dsimp -implicitDefEqProofs only [↓cov3, ↓cov2, ↓cov1, ↓E_var, ↓E_int, ↓E_bl, ↓E_non, ↓E_str, ↓E_glo, ↓E_tup, ↓E_lst, ↓E_bin, ↓E_neg, ↓E_cmp, ↓E_chn, ↓E_and, ↓E_or, ↓E_one, ↓E_not, ↓E_ifx, ↓E_idx, ↓E_slc, ↓E_call, ↓E_bi, ↓E_isi, ↓E_mth, ↓E_lc, ↓Es_nil, ↓Es_cons, ↓O_no, ↓O_some, ↓Q_no, ↓Q_c, ↓C_and, ↓C_or, ↓C_one, ↓C_not, ↓C_cmp, ↓C_chn, ↓C_v, ↓I_seq, ↓I_rng1, ↓I_rng2, ↓I_rng3, ↓I_enu, ↓I_zip, ↓I_rev, ↓S_set, ↓S_asg, ↓S_par2, ↓S_sub, ↓S_expr, ↓S_ret, ↓S_retN, ↓S_ifs, ↓S_for, ↓S_brk, ↓S_cnt, ↓S_pass, ↓S_raise, ↓S_try, ↓S_never, ex_t, ex_f, ↓S_nil, ↓S_cons, ↓kN_nx, ↓kN_rt, ↓kN_bk, ↓kN_ct, ↓kN_ex, ↓kL_nx, ↓kL_rt, ↓kL_bk, ↓kL_ct, ↓kL_ex, ↓kX_nx, ↓kX_rt, ↓kX_bk, ↓kX_ct, ↓kX_ex, ↓kend_nx, ↓kend_rt, ↓kend_bk, ↓kend_ct, ↓kend_ex, vr_some, gt_0, gt_s, stn_0, stn_s, wip_0, wip_s, wips_0, wips_s, neg_i, isi_s, o_i, tru_non, tru_bl, tru_int, tru_tup, tru_rol, c_Eq, c_NotEq, c_Lt, c_LtE, c_Gt, c_GtE, cs_Eq, cs_NotEq, cb_Eq, cb_NotEq, c2_Eq, c2_NotEq, is_non, isnot_non, is_bl, isnot_bl, is_int, isnot_int, is_str, isnot_str, is_tup, isnot_tup, is_rol, isnot_rol, is_ref, isnot_ref, is_b, isnot_b, in_s, notin_s, b_add, b_sub, b_mul, b_fdiv, b_mod, b_pow, b_addt, b_adds, atI0, atI1, atI2, atI3, slc_t, slc_r, len_s, abs_i, int_i, int_b, min_i, max_i, gcd_i, seq_t, seq_r, r1_i, r2_i, r3_i, a_nm, a_nil, a_cons, vrl_some, vrn_some, put_lget, Option.isSome_some, tru_ref, b_addl, idx_t, idx_r, idx_l, slc_l, len_t, len_r, len_l, tuple_t, tuple_r, tuple_l, list_t, list_r, list_l, app_l, rev_l, pop_l, popat_l, mT_l, seq_l, enu_l, zip_l, rev_i, rev_t, in_t, notin_t, fl_s, fl_i, fl_b, fl_n, inL_nil, inL_ss, inL_ii, List.all_cons, List.all_nil, Bool.and_self, Bool.and_true, Bool.true_and, zip_t, a_t, a_l, sub_l, isTs, isT, Option.map_some, List.length_cons, List.length_nil, Nat.reduceAdd, Nat.reduceSub, Nat.reduceLT, Nat.zero_add, Bool.false_eq_true, Bool.true_eq_false, if_false, if_true, decide_eq_true_eq, Bool.not_true, Bool.not_false, ite_true, ite_false, reduceIte, Bool.not_eq_true', decide_eq_false_iff_not, Int.cast_ofNat_Int, Int.reduceEq, Int.reduceLT, Int.reduceLE, Int.reduceNeg, Int.reduceAdd, Int.reduceSub, Int.reduceMul, Int.reduceToNat, decide_true, decide_false, not_true, not_false, not_true_eq_false, not_false_eq_true, true_and, and_true, eq_self, reduceCtorEq, List.isEmpty_nil, List.isEmpty_cons, List.nil_append, List.cons_append, lget_of hr, List.length_map]
  cases row with
  | nil =>
    simp -dsimp -implicitDefEqProofs only [↓cov3, ↓cov2, ↓cov1, ↓E_var, ↓E_int, ↓E_bl, ↓E_non, ↓E_str, ↓E_glo, ↓E_tup, ↓E_lst, ↓E_bin, ↓E_neg, ↓E_cmp, ↓E_chn, ↓E_and, ↓E_or, ↓E_one, ↓E_not, ↓E_ifx, ↓E_idx, ↓E_slc, ↓E_call, ↓E_bi, ↓E_isi, ↓E_mth, ↓E_lc, ↓Es_nil, ↓Es_cons, ↓O_no, ↓O_some, ↓Q_no, ↓Q_c, ↓C_and, ↓C_or, ↓C_one, ↓C_not, ↓C_cmp, ↓C_chn, ↓C_v, ↓I_seq, ↓I_rng1, ↓I_rng2, ↓I_rng3, ↓I_enu, ↓I_zip, ↓I_rev, ↓S_set, ↓S_asg, ↓S_par2, ↓S_sub, ↓S_expr, ↓S_ret, ↓S_retN, ↓S_ifs, ↓S_for, ↓S_brk, ↓S_cnt, ↓S_pass, ↓S_raise, ↓S_try, ↓S_never, ex_t, ex_f, ↓S_nil, ↓S_cons, ↓kN_nx, ↓kN_rt, ↓kN_bk, ↓kN_ct, ↓kN_ex, ↓kL_nx, ↓kL_rt, ↓kL_bk, ↓kL_ct, ↓kL_ex, ↓kX_nx, ↓kX_rt, ↓kX_bk, ↓kX_ct, ↓kX_ex, ↓kend_nx, ↓kend_rt, ↓kend_bk, ↓kend_ct, ↓kend_ex, vr_some, gt_0, gt_s, stn_0, stn_s, wip_0, wip_s, wips_0, wips_s, neg_i, isi_s, o_i, tru_non, tru_bl, tru_int, tru_tup, tru_rol, c_Eq, c_NotEq, c_Lt, c_LtE, c_Gt, c_GtE, cs_Eq, cs_NotEq, cb_Eq, cb_NotEq, c2_Eq, c2_NotEq, is_non, isnot_non, is_bl, isnot_bl, is_int, isnot_int, is_str, isnot_str, is_tup, isnot_tup, is_rol, isnot_rol, is_ref, isnot_ref, is_b, isnot_b, in_s, notin_s, b_add, b_sub, b_mul, b_fdiv, b_mod, b_pow, b_addt, b_adds, atI0, atI1, atI2, atI3, slc_t, slc_r, len_s, abs_i, int_i, int_b, min_i, max_i, gcd_i, seq_t, seq_r, r1_i, r2_i, r3_i, a_nm, a_nil, a_cons, vrl_some, vrn_some, put_lget, Option.isSome_some, tru_ref, b_addl, idx_t, idx_r, idx_l, slc_l, len_t, len_r, len_l, tuple_t, tuple_r, tuple_l, list_t, list_r, list_l, app_l, rev_l, pop_l, popat_l, mT_l, seq_l, enu_l, zip_l, rev_i, rev_t, in_t, notin_t, fl_s, fl_i, fl_b, fl_n, inL_nil, inL_ss, inL_ii, List.all_cons, List.all_nil, Bool.and_self, Bool.and_true, Bool.true_and, zip_t, a_t, a_l, sub_l, isTs, isT, Option.map_some, List.length_cons, List.length_nil, Nat.reduceAdd, Nat.reduceSub, Nat.reduceLT, Nat.zero_add, Bool.false_eq_true, Bool.true_eq_false, if_false, if_true, decide_eq_true_eq, Bool.not_true, Bool.not_false, ite_true, ite_false, reduceIte, Bool.not_eq_true', decide_eq_false_iff_not, Int.cast_ofNat_Int, Int.reduceEq, Int.reduceLT, Int.reduceLE, Int.reduceNeg, Int.reduceAdd, Int.reduceSub, Int.reduceMul, Int.reduceToNat, decide_true, decide_false, not_true, not_false, not_true_eq_false, not_false_eq_true, true_and, and_true, eq_self, reduceCtorEq, List.isEmpty_nil, List.isEmpty_cons, List.nil_append, List.cons_append]
    exact h 0 S (by decide) hm (Mn.refl hr)
  | cons z row =>
    rw [if_neg (by rw [List.length_cons]; omega)]
    have e : seqIndex? 0 (row.length + 1) = some 0 := by
      unfold seqIndex?
      simp
    have e1 : (List.map D.int (z :: row))[0]? = some (.int z) := rfl
    simp -dsimp -implicitDefEqProofs only [↓cov3, ↓cov2, ↓cov1, ↓E_var, ↓E_int, ↓E_bl, ↓E_non, ↓E_str, ↓E_glo, ↓E_tup, ↓E_lst, ↓E_bin, ↓E_neg, ↓E_cmp, ↓E_chn, ↓E_and, ↓E_or, ↓E_one, ↓E_not, ↓E_ifx, ↓E_idx, ↓E_slc, ↓E_call, ↓E_bi, ↓E_isi, ↓E_mth, ↓E_lc, ↓Es_nil, ↓Es_cons, ↓O_no, ↓O_some, ↓Q_no, ↓Q_c, ↓C_and, ↓C_or, ↓C_one, ↓C_not, ↓C_cmp, ↓C_chn, ↓C_v, ↓I_seq, ↓I_rng1, ↓I_rng2, ↓I_rng3, ↓I_enu, ↓I_zip, ↓I_rev, ↓S_set, ↓S_asg, ↓S_par2, ↓S_sub, ↓S_expr, ↓S_ret, ↓S_retN, ↓S_ifs, ↓S_for, ↓S_brk, ↓S_cnt, ↓S_pass, ↓S_raise, ↓S_try, ↓S_never, ex_t, ex_f, ↓S_nil, ↓S_cons, ↓kN_nx, ↓kN_rt, ↓kN_bk, ↓kN_ct, ↓kN_ex, ↓kL_nx, ↓kL_rt, ↓kL_bk, ↓kL_ct, ↓kL_ex, ↓kX_nx, ↓kX_rt, ↓kX_bk, ↓kX_ct, ↓kX_ex, ↓kend_nx, ↓kend_rt, ↓kend_bk, ↓kend_ct, ↓kend_ex, vr_some, gt_0, gt_s, stn_0, stn_s, wip_0, wip_s, wips_0, wips_s, neg_i, isi_s, o_i, tru_non, tru_bl, tru_int, tru_tup, tru_rol, c_Eq, c_NotEq, c_Lt, c_LtE, c_Gt, c_GtE, cs_Eq, cs_NotEq, cb_Eq, cb_NotEq, c2_Eq, c2_NotEq, is_non, isnot_non, is_bl, isnot_bl, is_int, isnot_int, is_str, isnot_str, is_tup, isnot_tup, is_rol, isnot_rol, is_ref, isnot_ref, is_b, isnot_b, in_s, notin_s, b_add, b_sub, b_mul, b_fdiv, b_mod, b_pow, b_addt, b_adds, atI0, atI1, atI2, atI3, slc_t, slc_r, len_s, abs_i, int_i, int_b, min_i, max_i, gcd_i, seq_t, seq_r, r1_i, r2_i, r3_i, a_nm, a_nil, a_cons, vrl_some, vrn_some, put_lget, Option.isSome_some, tru_ref, b_addl, idx_t, idx_r, idx_l, slc_l, len_t, len_r, len_l, tuple_t, tuple_r, tuple_l, list_t, list_r, list_l, app_l, rev_l, pop_l, popat_l, mT_l, seq_l, enu_l, zip_l, rev_i, rev_t, in_t, notin_t, fl_s, fl_i, fl_b, fl_n, inL_nil, inL_ss, inL_ii, List.all_cons, List.all_nil, Bool.and_self, Bool.and_true, Bool.true_and, zip_t, a_t, a_l, sub_l, isTs, isT, Option.map_some, List.length_cons, List.length_nil, Nat.reduceAdd, Nat.reduceSub, Nat.reduceLT, Nat.zero_add, Bool.false_eq_true, Bool.true_eq_false, if_false, if_true, decide_eq_true_eq, Bool.not_true, Bool.not_false, ite_true, ite_false, reduceIte, Bool.not_eq_true', decide_eq_false_iff_not, Int.cast_ofNat_Int, Int.reduceEq, Int.reduceLT, Int.reduceLE, Int.reduceNeg, Int.reduceAdd, Int.reduceSub, Int.reduceMul, Int.reduceToNat, decide_true, decide_false, not_true, not_false, not_true_eq_false, not_false_eq_true, true_and, and_true, eq_self, reduceCtorEq, List.isEmpty_nil, List.isEmpty_cons, List.nil_append, List.cons_append, e, e1]
    refine ⟨by decide, by decide, by omega, ?_⟩
    exact h (z.fmod m) _ (Int.fmod_nonneg_of_pos _ hm) (Int.fmod_lt_of_pos _ hm) ⟨fun b o n e => by rw [put_ne n]; exact e, row, by rw [put_same]; rfl⟩
theorem numbers_ok {ns : List Int} (hl : ns.length ≤ 63) (h : ∀ (row : List Int) r S', S' r = some (.lst (row.map D.int)) → Q (.ref r) S') : semF G T (k + 1) "_law_numbers" [.rol (ns.map D.int)] S Q E := by
  refine call_of t_law_numbers rfl ?_
  simp -dsimp -implicitDefEqProofs only [ent, List.map_cons, List.map_nil, List.length_cons, List.length_nil, Nat.reduceAdd, Nat.reduceSub, Nat.zero_add, List.replicate, List.cons_append, List.nil_append, F_law_numbers]
  simp -dsimp -implicitDefEqProofs only [↓cov3, ↓cov2, ↓cov1, ↓E_var, ↓E_int, ↓E_bl, ↓E_non, ↓E_str, ↓E_glo, ↓E_tup, ↓E_lst, ↓E_bin, ↓E_neg, ↓E_cmp, ↓E_chn, ↓E_and, ↓E_or, ↓E_one, ↓E_not, ↓E_ifx, ↓E_idx, ↓E_slc, ↓E_call, ↓E_bi, ↓E_isi, ↓E_mth, ↓E_lc, ↓Es_nil, ↓Es_cons, ↓O_no, ↓O_some, ↓Q_no, ↓Q_c, ↓C_and, ↓C_or, ↓C_one, ↓C_not, ↓C_cmp, ↓C_chn, ↓C_v, ↓I_seq, ↓I_rng1, ↓I_rng2, ↓I_rng3, ↓I_enu, ↓I_zip, ↓I_rev, ↓S_set, ↓S_asg, ↓S_par2, ↓S_sub, ↓S_expr, ↓S_ret, ↓S_retN, ↓S_ifs, ↓S_for, ↓S_brk, ↓S_cnt, ↓S_pass, ↓S_raise, ↓S_try, ↓S_never, ex_t, ex_f, ↓S_nil, ↓S_cons, ↓kN_nx, ↓kN_rt, ↓kN_bk, ↓kN_ct, ↓kN_ex, ↓kL_nx, ↓kL_rt, ↓kL_bk, ↓kL_ct, ↓kL_ex, ↓kX_nx, ↓kX_rt, ↓kX_bk, ↓kX_ct, ↓kX_ex, ↓kend_nx, ↓kend_rt, ↓kend_bk, ↓kend_ct, ↓kend_ex, vr_some, gt_0, gt_s, stn_0, stn_s, wip_0, wip_s, wips_0, wips_s, neg_i, isi_s, o_i, tru_non, tru_bl, tru_int, tru_tup, tru_rol, c_Eq, c_NotEq, c_Lt, c_LtE, c_Gt, c_GtE, cs_Eq, cs_NotEq, cb_Eq, cb_NotEq, c2_Eq, c2_NotEq, is_non, isnot_non, is_bl, isnot_bl, is_int, isnot_int, is_str, isnot_str, is_tup, isnot_tup, is_rol, isnot_rol, is_ref, isnot_ref, is_b, isnot_b, in_s, notin_s, b_add, b_sub, b_mul, b_fdiv, b_mod, b_pow, b_addt, b_adds, atI0, atI1, atI2, atI3, slc_t, slc_r, len_s, abs_i, int_i, int_b, min_i, max_i, gcd_i, seq_t, seq_r, r1_i, r2_i, r3_i, a_nm, a_nil, a_cons, vrl_some, vrn_some, put_lget, Option.isSome_some, tru_ref, b_addl, idx_t, idx_r, idx_l, slc_l, len_t, len_r, len_l, tuple_t, tuple_r, tuple_l, list_t, list_r, list_l, app_l, rev_l, pop_l, popat_l, mT_l, seq_l, enu_l, zip_l, rev_i, rev_t, in_t, notin_t, fl_s, fl_i, fl_b, fl_n, inL_nil, inL_ss, inL_ii, List.all_cons, List.all_nil, Bool.and_self, Bool.and_true, Bool.true_and, zip_t, a_t, a_l, sub_l, isTs, isT, Option.map_some, List.length_cons, List.length_nil, Nat.reduceAdd, Nat.reduceSub, Nat.reduceLT, Nat.zero_add, Bool.false_eq_true, Bool.true_eq_false, if_false, if_true, decide_eq_true_eq, Bool.not_true, Bool.not_false, ite_true, ite_false, reduceIte, Bool.not_eq_true', decide_eq_false_iff_not, Int.cast_ofNat_Int, Int.reduceEq, Int.reduceLT, Int.reduceLE, Int.reduceNeg, Int.reduceAdd, Int.reduceSub, Int.reduceMul, Int.reduceToNat, decide_true, decide_false, not_true, not_false, not_true_eq_false, not_false_eq_true, true_and, and_true, eq_self, reduceCtorEq, List.isEmpty_nil, List.isEmpty_cons, List.nil_append, List.cons_append, List.length_map]
  intro r nr
  refine ⟨by split <;> omega, by split <;> omega, ?_⟩
  have h10 : CPow 10 18 := ⟨by decide, by decide, by decide⟩
  refine for_rng (fun i σ S' => ∃ (row : List Int) (e2 e3 e4 e5 : Option D), σ = [some (.rol (ns.map D.int)), some (.ref r), e2, e3, e4, e5] ∧ row.length ≤ 60 * i ∧ S' r = some (.lst (row.map D.int)))
    ⟨[], _, _, _, _, rfl, by decide, put_same⟩ ?_ ?_
  · rintro i σ S' N hi ⟨row, e2, e3, e4, e5, rfl, hrow, hr⟩ hN
    have hi2 : i < ns.length ∧ i < 63 := by
      split at hi <;> omega
    have ei := atI_map hi2.1
    rw [← Int.zero_add (i : Int)] at ei
    simp -dsimp -implicitDefEqProofs only [↓cov3, ↓cov2, ↓cov1, ↓E_var, ↓E_int, ↓E_bl, ↓E_non, ↓E_str, ↓E_glo, ↓E_tup, ↓E_lst, ↓E_bin, ↓E_neg, ↓E_cmp, ↓E_chn, ↓E_and, ↓E_or, ↓E_one, ↓E_not, ↓E_ifx, ↓E_idx, ↓E_slc, ↓E_call, ↓E_bi, ↓E_isi, ↓E_mth, ↓E_lc, ↓Es_nil, ↓Es_cons, ↓O_no, ↓O_some, ↓Q_no, ↓Q_c, ↓C_and, ↓C_or, ↓C_one, ↓C_not, ↓C_cmp, ↓C_chn, ↓C_v, ↓I_seq, ↓I_rng1, ↓I_rng2, ↓I_rng3, ↓I_enu, ↓I_zip, ↓I_rev, ↓S_set, ↓S_asg, ↓S_par2, ↓S_sub, ↓S_expr, ↓S_ret, ↓S_retN, ↓S_ifs, ↓S_for, ↓S_brk, ↓S_cnt, ↓S_pass, ↓S_raise, ↓S_try, ↓S_never, ex_t, ex_f, ↓S_nil, ↓S_cons, ↓kN_nx, ↓kN_rt, ↓kN_bk, ↓kN_ct, ↓kN_ex, ↓kL_nx, ↓kL_rt, ↓kL_bk, ↓kL_ct, ↓kL_ex, ↓kX_nx, ↓kX_rt, ↓kX_bk, ↓kX_ct, ↓kX_ex, ↓kend_nx, ↓kend_rt, ↓kend_bk, ↓kend_ct, ↓kend_ex, vr_some, gt_0, gt_s, stn_0, stn_s, wip_0, wip_s, wips_0, wips_s, neg_i, isi_s, o_i, tru_non, tru_bl, tru_int, tru_tup, tru_rol, c_Eq, c_NotEq, c_Lt, c_LtE, c_Gt, c_GtE, cs_Eq, cs_NotEq, cb_Eq, cb_NotEq, c2_Eq, c2_NotEq, is_non, isnot_non, is_bl, isnot_bl, is_int, isnot_int, is_str, isnot_str, is_tup, isnot_tup, is_rol, isnot_rol, is_ref, isnot_ref, is_b, isnot_b, in_s, notin_s, b_add, b_sub, b_mul, b_fdiv, b_mod, b_pow, b_addt, b_adds, atI0, atI1, atI2, atI3, slc_t, slc_r, len_s, abs_i, int_i, int_b, min_i, max_i, gcd_i, seq_t, seq_r, r1_i, r2_i, r3_i, a_nm, a_nil, a_cons, vrl_some, vrn_some, put_lget, Option.isSome_some, tru_ref, b_addl, idx_t, idx_r, idx_l, slc_l, len_t, len_r, len_l, tuple_t, tuple_r, tuple_l, list_t, list_r, list_l, app_l, rev_l, pop_l, popat_l, mT_l, seq_l, enu_l, zip_l, rev_i, rev_t, in_t, notin_t, fl_s, fl_i, fl_b, fl_n, inL_nil, inL_ss, inL_ii, List.all_cons, List.all_nil, Bool.and_self, Bool.and_true, Bool.true_and, zip_t, a_t, a_l, sub_l, isTs, isT, Option.map_some, List.length_cons, List.length_nil, Nat.reduceAdd, Nat.reduceSub, Nat.reduceLT, Nat.zero_add, Bool.false_eq_true, Bool.true_eq_false, if_false, if_true, decide_eq_true_eq, Bool.not_true, Bool.not_false, ite_true, ite_false, reduceIte, Bool.not_eq_true', decide_eq_false_iff_not, Int.cast_ofNat_Int, Int.reduceEq, Int.reduceLT, Int.reduceLE, Int.reduceNeg, Int.reduceAdd, Int.reduceSub, Int.reduceMul, Int.reduceToNat, decide_true, decide_false, not_true, not_false, not_true_eq_false, not_false_eq_true, true_and, and_true, eq_self, reduceCtorEq, List.isEmpty_nil, List.isEmpty_cons, List.nil_append, List.cons_append, ei]
    refine ⟨h10, ite2 (fun hbig => ?_) fun _ => ?_⟩
    · refine ⟨by decide, by decide, ?_⟩
      refine for_rng (fun j σ S2 => ∃ (row : List Int) (c : Int) (e2 e4 e5 : Option D), σ = [some (.rol (ns.map D.int)), some (.ref r), e2, some (.int c), e4, e5] ∧ row.length ≤ 60 * i + j ∧ S2 r = some (.lst (row.map D.int)))
        ⟨row, _, _, _, _, rfl, by omega, hr⟩ ?_ ?_
      · rintro j σ S2 N2 hj ⟨row, c, e2, e4, e5, rfl, hrow, hr⟩ hN2
        have hj : j < 60 := hj
        simp -dsimp -implicitDefEqProofs only [↓cov3, ↓cov2, ↓cov1, ↓E_var, ↓E_int, ↓E_bl, ↓E_non, ↓E_str, ↓E_glo, ↓E_tup, ↓E_lst, ↓E_bin, ↓E_neg, ↓E_cmp, ↓E_chn, ↓E_and, ↓E_or, ↓E_one, ↓E_not, ↓E_ifx, ↓E_idx, ↓E_slc, ↓E_call, ↓E_bi, ↓E_isi, ↓E_mth, ↓E_lc, ↓Es_nil, ↓Es_cons, ↓O_no, ↓O_some, ↓Q_no, ↓Q_c, ↓C_and, ↓C_or, ↓C_one, ↓C_not, ↓C_cmp, ↓C_chn, ↓C_v, ↓I_seq, ↓I_rng1, ↓I_rng2, ↓I_rng3, ↓I_enu, ↓I_zip, ↓I_rev, ↓S_set, ↓S_asg, ↓S_par2, ↓S_sub, ↓S_expr, ↓S_ret, ↓S_retN, ↓S_ifs, ↓S_for, ↓S_brk, ↓S_cnt, ↓S_pass, ↓S_raise, ↓S_try, ↓S_never, ex_t, ex_f, ↓S_nil, ↓S_cons, ↓kN_nx, ↓kN_rt, ↓kN_bk, ↓kN_ct, ↓kN_ex, ↓kL_nx, ↓kL_rt, ↓kL_bk, ↓kL_ct, ↓kL_ex, ↓kX_nx, ↓kX_rt, ↓kX_bk, ↓kX_ct, ↓kX_ex, ↓kend_nx, ↓kend_rt, ↓kend_bk, ↓kend_ct, ↓kend_ex, vr_some, gt_0, gt_s, stn_0, stn_s, wip_0, wip_s, wips_0, wips_s, neg_i, isi_s, o_i, tru_non, tru_bl, tru_int, tru_tup, tru_rol, c_Eq, c_NotEq, c_Lt, c_LtE, c_Gt, c_GtE, cs_Eq, cs_NotEq, cb_Eq, cb_NotEq, c2_Eq, c2_NotEq, is_non, isnot_non, is_bl, isnot_bl, is_int, isnot_int, is_str, isnot_str, is_tup, isnot_tup, is_rol, isnot_rol, is_ref, isnot_ref, is_b, isnot_b, in_s, notin_s, b_add, b_sub, b_mul, b_fdiv, b_mod, b_pow, b_addt, b_adds, atI0, atI1, atI2, atI3, slc_t, slc_r, len_s, abs_i, int_i, int_b, min_i, max_i, gcd_i, seq_t, seq_r, r1_i, r2_i, r3_i, a_nm, a_nil, a_cons, vrl_some, vrn_some, put_lget, Option.isSome_some, tru_ref, b_addl, idx_t, idx_r, idx_l, slc_l, len_t, len_r, len_l, tuple_t, tuple_r, tuple_l, list_t, list_r, list_l, app_l, rev_l, pop_l, popat_l, mT_l, seq_l, enu_l, zip_l, rev_i, rev_t, in_t, notin_t, fl_s, fl_i, fl_b, fl_n, inL_nil, inL_ss, inL_ii, List.all_cons, List.all_nil, Bool.and_self, Bool.and_true, Bool.true_and, zip_t, a_t, a_l, sub_l, isTs, isT, Option.map_some, List.length_cons, List.length_nil, Nat.reduceAdd, Nat.reduceSub, Nat.reduceLT, Nat.zero_add, Bool.false_eq_true, Bool.true_eq_false, if_false, if_true, decide_eq_true_eq, Bool.not_true, Bool.not_false, ite_true, ite_false, reduceIte, Bool.not_eq_true', decide_eq_false_iff_not, Int.cast_ofNat_Int, Int.reduceEq, Int.reduceLT, Int.reduceLE, Int.reduceNeg, Int.reduceAdd, Int.reduceSub, Int.reduceMul, Int.reduceToNat, decide_true, decide_false, not_true, not_false, not_true_eq_false, not_false_eq_true, true_and, and_true, eq_self, reduceCtorEq, List.isEmpty_nil, List.isEmpty_cons, List.nil_append, List.cons_append, lget_of hr]
        refine ite2 (fun hc => ?_) fun hc => ?_
        · refine ⟨by decide, szl' (by rw [List.length_map]; omega), fdS (by decide) (by decide), ?_⟩
          exact hN2 _ _ ⟨row ++ [_], _, _, _, _, rfl, by rw [List.length_append]; simp; omega, by rw [put_same, List.map_append]; rfl⟩
        · exact hN2 _ _ ⟨row, _, _, _, _, rfl, by omega, hr⟩
      · rintro σ S2 ⟨row, c, e2, e4, e5, rfl, hrow, hr⟩
        have hrow : row.length ≤ 60 * i + 60 := hrow
        exact hN _ _ ⟨row, _, _, _, _, rfl, by omega, hr⟩
    · refine ⟨by decide, by decide, ?_⟩
      refine for_rng (fun j σ S2 => ∃ (row : List Int) (c : Int) (e4 e5 : Option D), σ = [some (.rol (ns.map D.int)), some (.ref r), some (.int (0 + (i : Int))), some (.int c), e4, e5] ∧ row.length ≤ 60 * i + j ∧ S2 r = some (.lst (row.map D.int)))
        ⟨row, _, _, _, rfl, by omega, hr⟩ ?_ ?_
      · rintro j σ S2 N2 hj ⟨row, c, e4, e5, rfl, hrow, hr⟩ hN2
        have hj : j < 6 := hj
        simp -dsimp -implicitDefEqProofs only [↓cov3, ↓cov2, ↓cov1, ↓E_var, ↓E_int, ↓E_bl, ↓E_non, ↓E_str, ↓E_glo, ↓E_tup, ↓E_lst, ↓E_bin, ↓E_neg, ↓E_cmp, ↓E_chn, ↓E_and, ↓E_or, ↓E_one, ↓E_not, ↓E_ifx, ↓E_idx, ↓E_slc, ↓E_call, ↓E_bi, ↓E_isi, ↓E_mth, ↓E_lc, ↓Es_nil, ↓Es_cons, ↓O_no, ↓O_some, ↓Q_no, ↓Q_c, ↓C_and, ↓C_or, ↓C_one, ↓C_not, ↓C_cmp, ↓C_chn, ↓C_v, ↓I_seq, ↓I_rng1, ↓I_rng2, ↓I_rng3, ↓I_enu, ↓I_zip, ↓I_rev, ↓S_set, ↓S_asg, ↓S_par2, ↓S_sub, ↓S_expr, ↓S_ret, ↓S_retN, ↓S_ifs, ↓S_for, ↓S_brk, ↓S_cnt, ↓S_pass, ↓S_raise, ↓S_try, ↓S_never, ex_t, ex_f, ↓S_nil, ↓S_cons, ↓kN_nx, ↓kN_rt, ↓kN_bk, ↓kN_ct, ↓kN_ex, ↓kL_nx, ↓kL_rt, ↓kL_bk, ↓kL_ct, ↓kL_ex, ↓kX_nx, ↓kX_rt, ↓kX_bk, ↓kX_ct, ↓kX_ex, ↓kend_nx, ↓kend_rt, ↓kend_bk, ↓kend_ct, ↓kend_ex, vr_some, gt_0, gt_s, stn_0, stn_s, wip_0, wip_s, wips_0, wips_s, neg_i, isi_s, o_i, tru_non, tru_bl, tru_int, tru_tup, tru_rol, c_Eq, c_NotEq, c_Lt, c_LtE, c_Gt, c_GtE, cs_Eq, cs_NotEq, cb_Eq, cb_NotEq, c2_Eq, c2_NotEq, is_non, isnot_non, is_bl, isnot_bl, is_int, isnot_int, is_str, isnot_str, is_tup, isnot_tup, is_rol, isnot_rol, is_ref, isnot_ref, is_b, isnot_b, in_s, notin_s, b_add, b_sub, b_mul, b_fdiv, b_mod, b_pow, b_addt, b_adds, atI0, atI1, atI2, atI3, slc_t, slc_r, len_s, abs_i, int_i, int_b, min_i, max_i, gcd_i, seq_t, seq_r, r1_i, r2_i, r3_i, a_nm, a_nil, a_cons, vrl_some, vrn_some, put_lget, Option.isSome_some, tru_ref, b_addl, idx_t, idx_r, idx_l, slc_l, len_t, len_r, len_l, tuple_t, tuple_r, tuple_l, list_t, list_r, list_l, app_l, rev_l, pop_l, popat_l, mT_l, seq_l, enu_l, zip_l, rev_i, rev_t, in_t, notin_t, fl_s, fl_i, fl_b, fl_n, inL_nil, inL_ss, inL_ii, List.all_cons, List.all_nil, Bool.and_self, Bool.and_true, Bool.true_and, zip_t, a_t, a_l, sub_l, isTs, isT, Option.map_some, List.length_cons, List.length_nil, Nat.reduceAdd, Nat.reduceSub, Nat.reduceLT, Nat.zero_add, Bool.false_eq_true, Bool.true_eq_false, if_false, if_true, decide_eq_true_eq, Bool.not_true, Bool.not_false, ite_true, ite_false, reduceIte, Bool.not_eq_true', decide_eq_false_iff_not, Int.cast_ofNat_Int, Int.reduceEq, Int.reduceLT, Int.reduceLE, Int.reduceNeg, Int.reduceAdd, Int.reduceSub, Int.reduceMul, Int.reduceToNat, decide_true, decide_false, not_true, not_false, not_true_eq_false, not_false_eq_true, true_and, and_true, eq_self, reduceCtorEq, List.isEmpty_nil, List.isEmpty_cons, List.nil_append, List.cons_append, lget_of hr]
        refine ⟨mulR (by decide) (by decide), mulL (by decide) (by decide), mulL (by decide) (by decide), by decide, mulR (by decide) (by decide), fdS (by decide) (by decide), by decide, by decide, szl' (by rw [List.length_map]; omega), ?_⟩
        exact hN2 _ _ ⟨row ++ [_], _, _, _, rfl, by rw [List.length_append]; simp; omega, by rw [put_same, List.map_append]; rfl⟩
      · rintro σ S2 ⟨row, c, e4, e5, rfl, hrow, hr⟩
        have hrow : row.length ≤ 60 * i + 6 := hrow
        exact hN _ _ ⟨row, _, _, _, _, rfl, by omega, hr⟩
  · rintro σ S' ⟨row, e2, e3, e4, e5, rfl, hrow, hr⟩
    exact h row r S' hr
/-- the trees that the law draws -/
def wt : Nat → Ex → Prop
  | 0, _ => False
  | n + 1, .num q => QB q 10
  | n + 1, .x => True
  | n + 1, .bin _ a b => wt n a ∧ wt n b
  | n + 1, .neg a => wt n a
  | n + 1, .exp a => wt n a
  | n + 1, .log a => wt n a
  | n + 1, .pow a k => wt n a ∧ k.natAbs ≤ 4
/-! == of trees -/
theorem lget_nm : ∀ e : Ex, ∃ xs, XD e = .tup xs
  | .num _ => ⟨_, rfl⟩
  | .x => ⟨_, rfl⟩
  | .bin _ _ _ => ⟨_, rfl⟩
  | .neg _ => ⟨_, rfl⟩
  | .exp _ => ⟨_, rfl⟩
  | .log _ => ⟨_, rfl⟩
  | .pow _ _ => ⟨_, rfl⟩
theorem pureX : ∀ e : Ex, pure_ (XD e) = true
  | .num _ => rfl
  | .x => rfl
  | .bin _ a b => by simp [XD, pure_, pures, pureX a, pureX b]
  | .neg a => by simp [XD, pure_, pures, pureX a]
  | .exp a => by simp [XD, pure_, pures, pureX a]
  | .log a => by simp [XD, pure_, pures, pureX a]
  | .pow a _ => by simp [XD, pure_, pures, pureX a]
theorem sokO : ∀ o : Op, PyData.strOk (opS o) = true := by
  intro o
  cases o <;> decide +kernel
theorem sok1 : PyData.strOk (Str.ofString "num") = true := by decide +kernel
theorem sok2 : PyData.strOk (Str.ofString "x") = true := by decide +kernel
theorem sok3 : PyData.strOk (Str.ofString "neg") = true := by decide +kernel
theorem sok4 : PyData.strOk (Str.ofString "exp") = true := by decide +kernel
theorem sok5 : PyData.strOk (Str.ofString "log") = true := by decide +kernel
theorem sok6 : PyData.strOk (Str.ofString "pow") = true := by decide +kernel
theorem layX : ∀ e : Ex, PyData.canLay0 (pd (XD e)) = true
  | .num _ => by simp [XD, pd, pds, PyData.canLay0, PyData.canLayAll0, sokO, sok1, sok2, sok3, sok4, sok5, sok6]
  | .x => by simp [XD, pd, pds, PyData.canLay0, PyData.canLayAll0, sokO, sok1, sok2, sok3, sok4, sok5, sok6]
  | .bin _ a b => by simp [XD, pd, pds, PyData.canLay0, PyData.canLayAll0, sokO, sok1, sok2, sok3, sok4, sok5, sok6, layX a, layX b]
  | .neg a => by simp [XD, pd, pds, PyData.canLay0, PyData.canLayAll0, sokO, sok1, sok2, sok3, sok4, sok5, sok6, layX a]
  | .exp a => by simp [XD, pd, pds, PyData.canLay0, PyData.canLayAll0, sokO, sok1, sok2, sok3, sok4, sok5, sok6, layX a]
  | .log a => by simp [XD, pd, pds, PyData.canLay0, PyData.canLayAll0, sokO, sok1, sok2, sok3, sok4, sok5, sok6, layX a]
  | .pow a _ => by simp [XD, pd, pds, PyData.canLay0, PyData.canLayAll0, sokO, sok1, sok2, sok3, sok4, sok5, sok6, layX a]
theorem depX : ∀ e : Ex, PyData.depth (pd (XD e)) ≤ hgt e
  | .num _ => by simp [XD, pd, pds, PyData.depth, PyData.depthAll, hgt]
  | .x => by simp [XD, pd, pds, PyData.depth, PyData.depthAll, hgt]
  | .bin _ a b => by have := depX a; have := depX b; simp [XD, pd, pds, PyData.depth, PyData.depthAll, hgt]; omega
  | .neg a => by have := depX a; simp [XD, pd, pds, PyData.depth, PyData.depthAll, hgt]; omega
  | .exp a => by have := depX a; simp [XD, pd, pds, PyData.depth, PyData.depthAll, hgt]; omega
  | .log a => by have := depX a; simp [XD, pd, pds, PyData.depth, PyData.depthAll, hgt]; omega
  | .pow a _ => by have := depX a; simp [XD, pd, pds, PyData.depth, PyData.depthAll, hgt]; omega
theorem eqvX : ∀ e : Ex, PyData.eqv (pd (XD e)) (pd (XD e)) = true
  | .num _ => by simp [XD, pd, pds, PyData.eqv, PyData.eqvAll]
  | .x => by simp [XD, pd, pds, PyData.eqv, PyData.eqvAll]
  | .bin _ a b => by simp [XD, pd, pds, PyData.eqv, PyData.eqvAll, eqvX a, eqvX b]
  | .neg a => by simp [XD, pd, pds, PyData.eqv, PyData.eqvAll, eqvX a]
  | .exp a => by simp [XD, pd, pds, PyData.eqv, PyData.eqvAll, eqvX a]
  | .log a => by simp [XD, pd, pds, PyData.eqv, PyData.eqvAll, eqvX a]
  | .pow a _ => by simp [XD, pd, pds, PyData.eqv, PyData.eqvAll, eqvX a]
theorem treq {e : Ex} (h : hgt e ≤ 64) {R : Bool → Prop} : cmpS .NotEq (XD e) (XD e) S R = R false := by
  have sh : SeqAt.shaped (pd (XD e)) = true := by
    unfold SeqAt.shaped
    rw [Bool.and_eq_true]
    have := depX e
    exact ⟨layX e, decide_eq_true (by omega)⟩
  have k : eqS (XD e) (XD e) S (fun k => R (!k)) = eqG (XD e) (XD e) S (fun k => R (!k)) := by
    obtain ⟨xs, hx⟩ := lget_nm e
    rw [hx]
    rfl
  show eqS (XD e) (XD e) S (fun k => R (!k)) = _
  rw [k, eqG_pure (pureX e) (pureX e) sh sh, eqvX]
  rfl
/-! the drawn trees -/
theorem number_ok {n d : Int} (hd : d ≠ 0) (hb : Bt d 49990) (h : Q (XD (.num (Rat.divInt n d))) S) : semF G T (k + 2) "_law_number" [.int n, .int d] S Q E := by
  refine call_of t_law_number rfl ?_
  simp -dsimp -implicitDefEqProofs only [ent, List.map_cons, List.map_nil, List.length_cons, List.length_nil, Nat.reduceAdd, Nat.reduceSub, Nat.zero_add, List.replicate, List.cons_append, List.nil_append, F_law_number]
  simp -dsimp -implicitDefEqProofs only [↓cov3, ↓cov2, ↓cov1, ↓E_var, ↓E_int, ↓E_bl, ↓E_non, ↓E_str, ↓E_glo, ↓E_tup, ↓E_lst, ↓E_bin, ↓E_neg, ↓E_cmp, ↓E_chn, ↓E_and, ↓E_or, ↓E_one, ↓E_not, ↓E_ifx, ↓E_idx, ↓E_slc, ↓E_call, ↓E_bi, ↓E_isi, ↓E_mth, ↓E_lc, ↓Es_nil, ↓Es_cons, ↓O_no, ↓O_some, ↓Q_no, ↓Q_c, ↓C_and, ↓C_or, ↓C_one, ↓C_not, ↓C_cmp, ↓C_chn, ↓C_v, ↓I_seq, ↓I_rng1, ↓I_rng2, ↓I_rng3, ↓I_enu, ↓I_zip, ↓I_rev, ↓S_set, ↓S_asg, ↓S_par2, ↓S_sub, ↓S_expr, ↓S_ret, ↓S_retN, ↓S_ifs, ↓S_for, ↓S_brk, ↓S_cnt, ↓S_pass, ↓S_raise, ↓S_try, ↓S_never, ex_t, ex_f, ↓S_nil, ↓S_cons, ↓kN_nx, ↓kN_rt, ↓kN_bk, ↓kN_ct, ↓kN_ex, ↓kL_nx, ↓kL_rt, ↓kL_bk, ↓kL_ct, ↓kL_ex, ↓kX_nx, ↓kX_rt, ↓kX_bk, ↓kX_ct, ↓kX_ex, ↓kend_nx, ↓kend_rt, ↓kend_bk, ↓kend_ct, ↓kend_ex, vr_some, gt_0, gt_s, stn_0, stn_s, wip_0, wip_s, wips_0, wips_s, neg_i, isi_s, o_i, tru_non, tru_bl, tru_int, tru_tup, tru_rol, c_Eq, c_NotEq, c_Lt, c_LtE, c_Gt, c_GtE, cs_Eq, cs_NotEq, cb_Eq, cb_NotEq, c2_Eq, c2_NotEq, is_non, isnot_non, is_bl, isnot_bl, is_int, isnot_int, is_str, isnot_str, is_tup, isnot_tup, is_rol, isnot_rol, is_ref, isnot_ref, is_b, isnot_b, in_s, notin_s, b_add, b_sub, b_mul, b_fdiv, b_mod, b_pow, b_addt, b_adds, atI0, atI1, atI2, atI3, slc_t, slc_r, len_s, abs_i, int_i, int_b, min_i, max_i, gcd_i, seq_t, seq_r, r1_i, r2_i, r3_i, a_nm, a_nil, a_cons, vrl_some, vrn_some, put_lget, Option.isSome_some, tru_ref, b_addl, idx_t, idx_r, idx_l, slc_l, len_t, len_r, len_l, tuple_t, tuple_r, tuple_l, list_t, list_r, list_l, app_l, rev_l, pop_l, popat_l, mT_l, seq_l, enu_l, zip_l, rev_i, rev_t, in_t, notin_t, fl_s, fl_i, fl_b, fl_n, inL_nil, inL_ss, inL_ii, List.all_cons, List.all_nil, Bool.and_self, Bool.and_true, Bool.true_and, zip_t, a_t, a_l, sub_l, isTs, isT, Option.map_some, List.length_cons, List.length_nil, Nat.reduceAdd, Nat.reduceSub, Nat.reduceLT, Nat.zero_add, Bool.false_eq_true, Bool.true_eq_false, if_false, if_true, decide_eq_true_eq, Bool.not_true, Bool.not_false, ite_true, ite_false, reduceIte, Bool.not_eq_true', decide_eq_false_iff_not, Int.cast_ofNat_Int, Int.reduceEq, Int.reduceLT, Int.reduceLE, Int.reduceNeg, Int.reduceAdd, Int.reduceSub, Int.reduceMul, Int.reduceToNat, decide_true, decide_false, not_true, not_false, not_true_eq_false, not_false_eq_true, true_and, and_true, eq_self, reduceCtorEq, List.isEmpty_nil, List.isEmpty_cons, List.nil_append, List.cons_append]
  refine fraction_ok hd hb ?_
  simp -dsimp -implicitDefEqProofs only [↓cov3, ↓cov2, ↓cov1, ↓E_var, ↓E_int, ↓E_bl, ↓E_non, ↓E_str, ↓E_glo, ↓E_tup, ↓E_lst, ↓E_bin, ↓E_neg, ↓E_cmp, ↓E_chn, ↓E_and, ↓E_or, ↓E_one, ↓E_not, ↓E_ifx, ↓E_idx, ↓E_slc, ↓E_call, ↓E_bi, ↓E_isi, ↓E_mth, ↓E_lc, ↓Es_nil, ↓Es_cons, ↓O_no, ↓O_some, ↓Q_no, ↓Q_c, ↓C_and, ↓C_or, ↓C_one, ↓C_not, ↓C_cmp, ↓C_chn, ↓C_v, ↓I_seq, ↓I_rng1, ↓I_rng2, ↓I_rng3, ↓I_enu, ↓I_zip, ↓I_rev, ↓S_set, ↓S_asg, ↓S_par2, ↓S_sub, ↓S_expr, ↓S_ret, ↓S_retN, ↓S_ifs, ↓S_for, ↓S_brk, ↓S_cnt, ↓S_pass, ↓S_raise, ↓S_try, ↓S_never, ex_t, ex_f, ↓S_nil, ↓S_cons, ↓kN_nx, ↓kN_rt, ↓kN_bk, ↓kN_ct, ↓kN_ex, ↓kL_nx, ↓kL_rt, ↓kL_bk, ↓kL_ct, ↓kL_ex, ↓kX_nx, ↓kX_rt, ↓kX_bk, ↓kX_ct, ↓kX_ex, ↓kend_nx, ↓kend_rt, ↓kend_bk, ↓kend_ct, ↓kend_ex, vr_some, gt_0, gt_s, stn_0, stn_s, wip_0, wip_s, wips_0, wips_s, neg_i, isi_s, o_i, tru_non, tru_bl, tru_int, tru_tup, tru_rol, c_Eq, c_NotEq, c_Lt, c_LtE, c_Gt, c_GtE, cs_Eq, cs_NotEq, cb_Eq, cb_NotEq, c2_Eq, c2_NotEq, is_non, isnot_non, is_bl, isnot_bl, is_int, isnot_int, is_str, isnot_str, is_tup, isnot_tup, is_rol, isnot_rol, is_ref, isnot_ref, is_b, isnot_b, in_s, notin_s, b_add, b_sub, b_mul, b_fdiv, b_mod, b_pow, b_addt, b_adds, atI0, atI1, atI2, atI3, slc_t, slc_r, len_s, abs_i, int_i, int_b, min_i, max_i, gcd_i, seq_t, seq_r, r1_i, r2_i, r3_i, a_nm, a_nil, a_cons, vrl_some, vrn_some, put_lget, Option.isSome_some, tru_ref, b_addl, idx_t, idx_r, idx_l, slc_l, len_t, len_r, len_l, tuple_t, tuple_r, tuple_l, list_t, list_r, list_l, app_l, rev_l, pop_l, popat_l, mT_l, seq_l, enu_l, zip_l, rev_i, rev_t, in_t, notin_t, fl_s, fl_i, fl_b, fl_n, inL_nil, inL_ss, inL_ii, List.all_cons, List.all_nil, Bool.and_self, Bool.and_true, Bool.true_and, zip_t, a_t, a_l, sub_l, isTs, isT, Option.map_some, List.length_cons, List.length_nil, Nat.reduceAdd, Nat.reduceSub, Nat.reduceLT, Nat.zero_add, Bool.false_eq_true, Bool.true_eq_false, if_false, if_true, decide_eq_true_eq, Bool.not_true, Bool.not_false, ite_true, ite_false, reduceIte, Bool.not_eq_true', decide_eq_false_iff_not, Int.cast_ofNat_Int, Int.reduceEq, Int.reduceLT, Int.reduceLE, Int.reduceNeg, Int.reduceAdd, Int.reduceSub, Int.reduceMul, Int.reduceToNat, decide_true, decide_false, not_true, not_false, not_true_eq_false, not_false_eq_true, true_and, and_true, eq_self, reduceCtorEq, List.isEmpty_nil, List.isEmpty_cons, List.nil_append, List.cons_append, idx_Q0, idx_Q1]
  exact h
theorem QB_small {n d : Int} (hn : n.natAbs < 1024) (hd : d.natAbs < 1024) (h0 : d ≠ 0) : QB (Rat.divInt n d) 10 := QB.of hn hd h0
theorem leaf_ok {r : Addr} {row : List Int} (hr : S r = some (.lst (row.map D.int))) (h : ∀ e S', (∀ m, wt (m + 1) e) → Mn r S S' → Q (XD e) S') : semF G T (k + 3) "_law_leaf" [.ref r] S Q E := by
  refine call_of t_law_leaf rfl ?_
  simp -dsimp -implicitDefEqProofs only [ent, List.map_cons, List.map_nil, List.length_cons, List.length_nil, Nat.reduceAdd, Nat.reduceSub, Nat.zero_add, List.replicate, List.cons_append, List.nil_append, F_law_leaf]
  simp -dsimp -implicitDefEqProofs only [↓cov3, ↓cov2, ↓cov1, ↓E_var, ↓E_int, ↓E_bl, ↓E_non, ↓E_str, ↓E_glo, ↓E_tup, ↓E_lst, ↓E_bin, ↓E_neg, ↓E_cmp, ↓E_chn, ↓E_and, ↓E_or, ↓E_one, ↓E_not, ↓E_ifx, ↓E_idx, ↓E_slc, ↓E_call, ↓E_bi, ↓E_isi, ↓E_mth, ↓E_lc, ↓Es_nil, ↓Es_cons, ↓O_no, ↓O_some, ↓Q_no, ↓Q_c, ↓C_and, ↓C_or, ↓C_one, ↓C_not, ↓C_cmp, ↓C_chn, ↓C_v, ↓I_seq, ↓I_rng1, ↓I_rng2, ↓I_rng3, ↓I_enu, ↓I_zip, ↓I_rev, ↓S_set, ↓S_asg, ↓S_par2, ↓S_sub, ↓S_expr, ↓S_ret, ↓S_retN, ↓S_ifs, ↓S_for, ↓S_brk, ↓S_cnt, ↓S_pass, ↓S_raise, ↓S_try, ↓S_never, ex_t, ex_f, ↓S_nil, ↓S_cons, ↓kN_nx, ↓kN_rt, ↓kN_bk, ↓kN_ct, ↓kN_ex, ↓kL_nx, ↓kL_rt, ↓kL_bk, ↓kL_ct, ↓kL_ex, ↓kX_nx, ↓kX_rt, ↓kX_bk, ↓kX_ct, ↓kX_ex, ↓kend_nx, ↓kend_rt, ↓kend_bk, ↓kend_ct, ↓kend_ex, vr_some, gt_0, gt_s, stn_0, stn_s, wip_0, wip_s, wips_0, wips_s, neg_i, isi_s, o_i, tru_non, tru_bl, tru_int, tru_tup, tru_rol, c_Eq, c_NotEq, c_Lt, c_LtE, c_Gt, c_GtE, cs_Eq, cs_NotEq, cb_Eq, cb_NotEq, c2_Eq, c2_NotEq, is_non, isnot_non, is_bl, isnot_bl, is_int, isnot_int, is_str, isnot_str, is_tup, isnot_tup, is_rol, isnot_rol, is_ref, isnot_ref, is_b, isnot_b, in_s, notin_s, b_add, b_sub, b_mul, b_fdiv, b_mod, b_pow, b_addt, b_adds, atI0, atI1, atI2, atI3, slc_t, slc_r, len_s, abs_i, int_i, int_b, min_i, max_i, gcd_i, seq_t, seq_r, r1_i, r2_i, r3_i, a_nm, a_nil, a_cons, vrl_some, vrn_some, put_lget, Option.isSome_some, tru_ref, b_addl, idx_t, idx_r, idx_l, slc_l, len_t, len_r, len_l, tuple_t, tuple_r, tuple_l, list_t, list_r, list_l, app_l, rev_l, pop_l, popat_l, mT_l, seq_l, enu_l, zip_l, rev_i, rev_t, in_t, notin_t, fl_s, fl_i, fl_b, fl_n, inL_nil, inL_ss, inL_ii, List.all_cons, List.all_nil, Bool.and_self, Bool.and_true, Bool.true_and, zip_t, a_t, a_l, sub_l, isTs, isT, Option.map_some, List.length_cons, List.length_nil, Nat.reduceAdd, Nat.reduceSub, Nat.reduceLT, Nat.zero_add, Bool.false_eq_true, Bool.true_eq_false, if_false, if_true, decide_eq_true_eq, Bool.not_true, Bool.not_false, ite_true, ite_false, reduceIte, Bool.not_eq_true', decide_eq_false_iff_not, Int.cast_ofNat_Int, Int.reduceEq, Int.reduceLT, Int.reduceLE, Int.reduceNeg, Int.reduceAdd, Int.reduceSub, Int.reduceMul, Int.reduceToNat, decide_true, decide_false, not_true, not_false, not_true_eq_false, not_false_eq_true, true_and, and_true, eq_self, reduceCtorEq, List.isEmpty_nil, List.isEmpty_cons, List.nil_append, List.cons_append]
  refine next_ok hr (by decide) fun p S1 p0 p1 m1 => ?_
  simp -dsimp -implicitDefEqProofs only [↓cov3, ↓cov2, ↓cov1, ↓E_var, ↓E_int, ↓E_bl, ↓E_non, ↓E_str, ↓E_glo, ↓E_tup, ↓E_lst, ↓E_bin, ↓E_neg, ↓E_cmp, ↓E_chn, ↓E_and, ↓E_or, ↓E_one, ↓E_not, ↓E_ifx, ↓E_idx, ↓E_slc, ↓E_call, ↓E_bi, ↓E_isi, ↓E_mth, ↓E_lc, ↓Es_nil, ↓Es_cons, ↓O_no, ↓O_some, ↓Q_no, ↓Q_c, ↓C_and, ↓C_or, ↓C_one, ↓C_not, ↓C_cmp, ↓C_chn, ↓C_v, ↓I_seq, ↓I_rng1, ↓I_rng2, ↓I_rng3, ↓I_enu, ↓I_zip, ↓I_rev, ↓S_set, ↓S_asg, ↓S_par2, ↓S_sub, ↓S_expr, ↓S_ret, ↓S_retN, ↓S_ifs, ↓S_for, ↓S_brk, ↓S_cnt, ↓S_pass, ↓S_raise, ↓S_try, ↓S_never, ex_t, ex_f, ↓S_nil, ↓S_cons, ↓kN_nx, ↓kN_rt, ↓kN_bk, ↓kN_ct, ↓kN_ex, ↓kL_nx, ↓kL_rt, ↓kL_bk, ↓kL_ct, ↓kL_ex, ↓kX_nx, ↓kX_rt, ↓kX_bk, ↓kX_ct, ↓kX_ex, ↓kend_nx, ↓kend_rt, ↓kend_bk, ↓kend_ct, ↓kend_ex, vr_some, gt_0, gt_s, stn_0, stn_s, wip_0, wip_s, wips_0, wips_s, neg_i, isi_s, o_i, tru_non, tru_bl, tru_int, tru_tup, tru_rol, c_Eq, c_NotEq, c_Lt, c_LtE, c_Gt, c_GtE, cs_Eq, cs_NotEq, cb_Eq, cb_NotEq, c2_Eq, c2_NotEq, is_non, isnot_non, is_bl, isnot_bl, is_int, isnot_int, is_str, isnot_str, is_tup, isnot_tup, is_rol, isnot_rol, is_ref, isnot_ref, is_b, isnot_b, in_s, notin_s, b_add, b_sub, b_mul, b_fdiv, b_mod, b_pow, b_addt, b_adds, atI0, atI1, atI2, atI3, slc_t, slc_r, len_s, abs_i, int_i, int_b, min_i, max_i, gcd_i, seq_t, seq_r, r1_i, r2_i, r3_i, a_nm, a_nil, a_cons, vrl_some, vrn_some, put_lget, Option.isSome_some, tru_ref, b_addl, idx_t, idx_r, idx_l, slc_l, len_t, len_r, len_l, tuple_t, tuple_r, tuple_l, list_t, list_r, list_l, app_l, rev_l, pop_l, popat_l, mT_l, seq_l, enu_l, zip_l, rev_i, rev_t, in_t, notin_t, fl_s, fl_i, fl_b, fl_n, inL_nil, inL_ss, inL_ii, List.all_cons, List.all_nil, Bool.and_self, Bool.and_true, Bool.true_and, zip_t, a_t, a_l, sub_l, isTs, isT, Option.map_some, List.length_cons, List.length_nil, Nat.reduceAdd, Nat.reduceSub, Nat.reduceLT, Nat.zero_add, Bool.false_eq_true, Bool.true_eq_false, if_false, if_true, decide_eq_true_eq, Bool.not_true, Bool.not_false, ite_true, ite_false, reduceIte, Bool.not_eq_true', decide_eq_false_iff_not, Int.cast_ofNat_Int, Int.reduceEq, Int.reduceLT, Int.reduceLE, Int.reduceNeg, Int.reduceAdd, Int.reduceSub, Int.reduceMul, Int.reduceToNat, decide_true, decide_false, not_true, not_false, not_true_eq_false, not_false_eq_true, true_and, and_true, eq_self, reduceCtorEq, List.isEmpty_nil, List.isEmpty_cons, List.nil_append, List.cons_append]
  refine ite2 (fun hp => ?_) fun hp => ?_
  · exact h .x S1 (fun _ => trivial) m1
  · obtain ⟨row1, hr1⟩ := m1.2
    refine next_ok hr1 (by decide) fun n S2 n0 n1 m2 => ?_
    simp -dsimp -implicitDefEqProofs only [↓cov3, ↓cov2, ↓cov1, ↓E_var, ↓E_int, ↓E_bl, ↓E_non, ↓E_str, ↓E_glo, ↓E_tup, ↓E_lst, ↓E_bin, ↓E_neg, ↓E_cmp, ↓E_chn, ↓E_and, ↓E_or, ↓E_one, ↓E_not, ↓E_ifx, ↓E_idx, ↓E_slc, ↓E_call, ↓E_bi, ↓E_isi, ↓E_mth, ↓E_lc, ↓Es_nil, ↓Es_cons, ↓O_no, ↓O_some, ↓Q_no, ↓Q_c, ↓C_and, ↓C_or, ↓C_one, ↓C_not, ↓C_cmp, ↓C_chn, ↓C_v, ↓I_seq, ↓I_rng1, ↓I_rng2, ↓I_rng3, ↓I_enu, ↓I_zip, ↓I_rev, ↓S_set, ↓S_asg, ↓S_par2, ↓S_sub, ↓S_expr, ↓S_ret, ↓S_retN, ↓S_ifs, ↓S_for, ↓S_brk, ↓S_cnt, ↓S_pass, ↓S_raise, ↓S_try, ↓S_never, ex_t, ex_f, ↓S_nil, ↓S_cons, ↓kN_nx, ↓kN_rt, ↓kN_bk, ↓kN_ct, ↓kN_ex, ↓kL_nx, ↓kL_rt, ↓kL_bk, ↓kL_ct, ↓kL_ex, ↓kX_nx, ↓kX_rt, ↓kX_bk, ↓kX_ct, ↓kX_ex, ↓kend_nx, ↓kend_rt, ↓kend_bk, ↓kend_ct, ↓kend_ex, vr_some, gt_0, gt_s, stn_0, stn_s, wip_0, wip_s, wips_0, wips_s, neg_i, isi_s, o_i, tru_non, tru_bl, tru_int, tru_tup, tru_rol, c_Eq, c_NotEq, c_Lt, c_LtE, c_Gt, c_GtE, cs_Eq, cs_NotEq, cb_Eq, cb_NotEq, c2_Eq, c2_NotEq, is_non, isnot_non, is_bl, isnot_bl, is_int, isnot_int, is_str, isnot_str, is_tup, isnot_tup, is_rol, isnot_rol, is_ref, isnot_ref, is_b, isnot_b, in_s, notin_s, b_add, b_sub, b_mul, b_fdiv, b_mod, b_pow, b_addt, b_adds, atI0, atI1, atI2, atI3, slc_t, slc_r, len_s, abs_i, int_i, int_b, min_i, max_i, gcd_i, seq_t, seq_r, r1_i, r2_i, r3_i, a_nm, a_nil, a_cons, vrl_some, vrn_some, put_lget, Option.isSome_some, tru_ref, b_addl, idx_t, idx_r, idx_l, slc_l, len_t, len_r, len_l, tuple_t, tuple_r, tuple_l, list_t, list_r, list_l, app_l, rev_l, pop_l, popat_l, mT_l, seq_l, enu_l, zip_l, rev_i, rev_t, in_t, notin_t, fl_s, fl_i, fl_b, fl_n, inL_nil, inL_ss, inL_ii, List.all_cons, List.all_nil, Bool.and_self, Bool.and_true, Bool.true_and, zip_t, a_t, a_l, sub_l, isTs, isT, Option.map_some, List.length_cons, List.length_nil, Nat.reduceAdd, Nat.reduceSub, Nat.reduceLT, Nat.zero_add, Bool.false_eq_true, Bool.true_eq_false, if_false, if_true, decide_eq_true_eq, Bool.not_true, Bool.not_false, ite_true, ite_false, reduceIte, Bool.not_eq_true', decide_eq_false_iff_not, Int.cast_ofNat_Int, Int.reduceEq, Int.reduceLT, Int.reduceLE, Int.reduceNeg, Int.reduceAdd, Int.reduceSub, Int.reduceMul, Int.reduceToNat, decide_true, decide_false, not_true, not_false, not_true_eq_false, not_false_eq_true, true_and, and_true, eq_self, reduceCtorEq, List.isEmpty_nil, List.isEmpty_cons, List.nil_append, List.cons_append]
    have m12 := m1.trans m2
    obtain ⟨row2, hr2⟩ := m2.2
    refine ite2 (fun hp3 => ?_) fun hp3 => ?_
    · try simp -dsimp -implicitDefEqProofs only [↓cov3, ↓cov2, ↓cov1, ↓E_var, ↓E_int, ↓E_bl, ↓E_non, ↓E_str, ↓E_glo, ↓E_tup, ↓E_lst, ↓E_bin, ↓E_neg, ↓E_cmp, ↓E_chn, ↓E_and, ↓E_or, ↓E_one, ↓E_not, ↓E_ifx, ↓E_idx, ↓E_slc, ↓E_call, ↓E_bi, ↓E_isi, ↓E_mth, ↓E_lc, ↓Es_nil, ↓Es_cons, ↓O_no, ↓O_some, ↓Q_no, ↓Q_c, ↓C_and, ↓C_or, ↓C_one, ↓C_not, ↓C_cmp, ↓C_chn, ↓C_v, ↓I_seq, ↓I_rng1, ↓I_rng2, ↓I_rng3, ↓I_enu, ↓I_zip, ↓I_rev, ↓S_set, ↓S_asg, ↓S_par2, ↓S_sub, ↓S_expr, ↓S_ret, ↓S_retN, ↓S_ifs, ↓S_for, ↓S_brk, ↓S_cnt, ↓S_pass, ↓S_raise, ↓S_try, ↓S_never, ex_t, ex_f, ↓S_nil, ↓S_cons, ↓kN_nx, ↓kN_rt, ↓kN_bk, ↓kN_ct, ↓kN_ex, ↓kL_nx, ↓kL_rt, ↓kL_bk, ↓kL_ct, ↓kL_ex, ↓kX_nx, ↓kX_rt, ↓kX_bk, ↓kX_ct, ↓kX_ex, ↓kend_nx, ↓kend_rt, ↓kend_bk, ↓kend_ct, ↓kend_ex, vr_some, gt_0, gt_s, stn_0, stn_s, wip_0, wip_s, wips_0, wips_s, neg_i, isi_s, o_i, tru_non, tru_bl, tru_int, tru_tup, tru_rol, c_Eq, c_NotEq, c_Lt, c_LtE, c_Gt, c_GtE, cs_Eq, cs_NotEq, cb_Eq, cb_NotEq, c2_Eq, c2_NotEq, is_non, isnot_non, is_bl, isnot_bl, is_int, isnot_int, is_str, isnot_str, is_tup, isnot_tup, is_rol, isnot_rol, is_ref, isnot_ref, is_b, isnot_b, in_s, notin_s, b_add, b_sub, b_mul, b_fdiv, b_mod, b_pow, b_addt, b_adds, atI0, atI1, atI2, atI3, slc_t, slc_r, len_s, abs_i, int_i, int_b, min_i, max_i, gcd_i, seq_t, seq_r, r1_i, r2_i, r3_i, a_nm, a_nil, a_cons, vrl_some, vrn_some, put_lget, Option.isSome_some, tru_ref, b_addl, idx_t, idx_r, idx_l, slc_l, len_t, len_r, len_l, tuple_t, tuple_r, tuple_l, list_t, list_r, list_l, app_l, rev_l, pop_l, popat_l, mT_l, seq_l, enu_l, zip_l, rev_i, rev_t, in_t, notin_t, fl_s, fl_i, fl_b, fl_n, inL_nil, inL_ss, inL_ii, List.all_cons, List.all_nil, Bool.and_self, Bool.and_true, Bool.true_and, zip_t, a_t, a_l, sub_l, isTs, isT, Option.map_some, List.length_cons, List.length_nil, Nat.reduceAdd, Nat.reduceSub, Nat.reduceLT, Nat.zero_add, Bool.false_eq_true, Bool.true_eq_false, if_false, if_true, decide_eq_true_eq, Bool.not_true, Bool.not_false, ite_true, ite_false, reduceIte, Bool.not_eq_true', decide_eq_false_iff_not, Int.cast_ofNat_Int, Int.reduceEq, Int.reduceLT, Int.reduceLE, Int.reduceNeg, Int.reduceAdd, Int.reduceSub, Int.reduceMul, Int.reduceToNat, decide_true, decide_false, not_true, not_false, not_true_eq_false, not_false_eq_true, true_and, and_true, eq_self, reduceCtorEq, List.isEmpty_nil, List.isEmpty_cons, List.nil_append, List.cons_append]
      refine next_ok hr2 (by decide) fun d S3 d0 d1 m3 => ?_
      simp -dsimp -implicitDefEqProofs only [↓cov3, ↓cov2, ↓cov1, ↓E_var, ↓E_int, ↓E_bl, ↓E_non, ↓E_str, ↓E_glo, ↓E_tup, ↓E_lst, ↓E_bin, ↓E_neg, ↓E_cmp, ↓E_chn, ↓E_and, ↓E_or, ↓E_one, ↓E_not, ↓E_ifx, ↓E_idx, ↓E_slc, ↓E_call, ↓E_bi, ↓E_isi, ↓E_mth, ↓E_lc, ↓Es_nil, ↓Es_cons, ↓O_no, ↓O_some, ↓Q_no, ↓Q_c, ↓C_and, ↓C_or, ↓C_one, ↓C_not, ↓C_cmp, ↓C_chn, ↓C_v, ↓I_seq, ↓I_rng1, ↓I_rng2, ↓I_rng3, ↓I_enu, ↓I_zip, ↓I_rev, ↓S_set, ↓S_asg, ↓S_par2, ↓S_sub, ↓S_expr, ↓S_ret, ↓S_retN, ↓S_ifs, ↓S_for, ↓S_brk, ↓S_cnt, ↓S_pass, ↓S_raise, ↓S_try, ↓S_never, ex_t, ex_f, ↓S_nil, ↓S_cons, ↓kN_nx, ↓kN_rt, ↓kN_bk, ↓kN_ct, ↓kN_ex, ↓kL_nx, ↓kL_rt, ↓kL_bk, ↓kL_ct, ↓kL_ex, ↓kX_nx, ↓kX_rt, ↓kX_bk, ↓kX_ct, ↓kX_ex, ↓kend_nx, ↓kend_rt, ↓kend_bk, ↓kend_ct, ↓kend_ex, vr_some, gt_0, gt_s, stn_0, stn_s, wip_0, wip_s, wips_0, wips_s, neg_i, isi_s, o_i, tru_non, tru_bl, tru_int, tru_tup, tru_rol, c_Eq, c_NotEq, c_Lt, c_LtE, c_Gt, c_GtE, cs_Eq, cs_NotEq, cb_Eq, cb_NotEq, c2_Eq, c2_NotEq, is_non, isnot_non, is_bl, isnot_bl, is_int, isnot_int, is_str, isnot_str, is_tup, isnot_tup, is_rol, isnot_rol, is_ref, isnot_ref, is_b, isnot_b, in_s, notin_s, b_add, b_sub, b_mul, b_fdiv, b_mod, b_pow, b_addt, b_adds, atI0, atI1, atI2, atI3, slc_t, slc_r, len_s, abs_i, int_i, int_b, min_i, max_i, gcd_i, seq_t, seq_r, r1_i, r2_i, r3_i, a_nm, a_nil, a_cons, vrl_some, vrn_some, put_lget, Option.isSome_some, tru_ref, b_addl, idx_t, idx_r, idx_l, slc_l, len_t, len_r, len_l, tuple_t, tuple_r, tuple_l, list_t, list_r, list_l, app_l, rev_l, pop_l, popat_l, mT_l, seq_l, enu_l, zip_l, rev_i, rev_t, in_t, notin_t, fl_s, fl_i, fl_b, fl_n, inL_nil, inL_ss, inL_ii, List.all_cons, List.all_nil, Bool.and_self, Bool.and_true, Bool.true_and, zip_t, a_t, a_l, sub_l, isTs, isT, Option.map_some, List.length_cons, List.length_nil, Nat.reduceAdd, Nat.reduceSub, Nat.reduceLT, Nat.zero_add, Bool.false_eq_true, Bool.true_eq_false, if_false, if_true, decide_eq_true_eq, Bool.not_true, Bool.not_false, ite_true, ite_false, reduceIte, Bool.not_eq_true', decide_eq_false_iff_not, Int.cast_ofNat_Int, Int.reduceEq, Int.reduceLT, Int.reduceLE, Int.reduceNeg, Int.reduceAdd, Int.reduceSub, Int.reduceMul, Int.reduceToNat, decide_true, decide_false, not_true, not_false, not_true_eq_false, not_false_eq_true, true_and, and_true, eq_self, reduceCtorEq, List.isEmpty_nil, List.isEmpty_cons, List.nil_append, List.cons_append]
      refine number_ok (by omega) (by unfold Bt; exact Nat.lt_of_lt_of_le (show (1 + d).natAbs < 2 ^ 10 by omega) (Nat.pow_le_pow_right (by decide) (by decide))) ?_
      exact h _ _ (fun _ => QB_small (by omega) (by omega) (by omega)) (m12.trans m3)
    · try simp -dsimp -implicitDefEqProofs only [↓cov3, ↓cov2, ↓cov1, ↓E_var, ↓E_int, ↓E_bl, ↓E_non, ↓E_str, ↓E_glo, ↓E_tup, ↓E_lst, ↓E_bin, ↓E_neg, ↓E_cmp, ↓E_chn, ↓E_and, ↓E_or, ↓E_one, ↓E_not, ↓E_ifx, ↓E_idx, ↓E_slc, ↓E_call, ↓E_bi, ↓E_isi, ↓E_mth, ↓E_lc, ↓Es_nil, ↓Es_cons, ↓O_no, ↓O_some, ↓Q_no, ↓Q_c, ↓C_and, ↓C_or, ↓C_one, ↓C_not, ↓C_cmp, ↓C_chn, ↓C_v, ↓I_seq, ↓I_rng1, ↓I_rng2, ↓I_rng3, ↓I_enu, ↓I_zip, ↓I_rev, ↓S_set, ↓S_asg, ↓S_par2, ↓S_sub, ↓S_expr, ↓S_ret, ↓S_retN, ↓S_ifs, ↓S_for, ↓S_brk, ↓S_cnt, ↓S_pass, ↓S_raise, ↓S_try, ↓S_never, ex_t, ex_f, ↓S_nil, ↓S_cons, ↓kN_nx, ↓kN_rt, ↓kN_bk, ↓kN_ct, ↓kN_ex, ↓kL_nx, ↓kL_rt, ↓kL_bk, ↓kL_ct, ↓kL_ex, ↓kX_nx, ↓kX_rt, ↓kX_bk, ↓kX_ct, ↓kX_ex, ↓kend_nx, ↓kend_rt, ↓kend_bk, ↓kend_ct, ↓kend_ex, vr_some, gt_0, gt_s, stn_0, stn_s, wip_0, wip_s, wips_0, wips_s, neg_i, isi_s, o_i, tru_non, tru_bl, tru_int, tru_tup, tru_rol, c_Eq, c_NotEq, c_Lt, c_LtE, c_Gt, c_GtE, cs_Eq, cs_NotEq, cb_Eq, cb_NotEq, c2_Eq, c2_NotEq, is_non, isnot_non, is_bl, isnot_bl, is_int, isnot_int, is_str, isnot_str, is_tup, isnot_tup, is_rol, isnot_rol, is_ref, isnot_ref, is_b, isnot_b, in_s, notin_s, b_add, b_sub, b_mul, b_fdiv, b_mod, b_pow, b_addt, b_adds, atI0, atI1, atI2, atI3, slc_t, slc_r, len_s, abs_i, int_i, int_b, min_i, max_i, gcd_i, seq_t, seq_r, r1_i, r2_i, r3_i, a_nm, a_nil, a_cons, vrl_some, vrn_some, put_lget, Option.isSome_some, tru_ref, b_addl, idx_t, idx_r, idx_l, slc_l, len_t, len_r, len_l, tuple_t, tuple_r, tuple_l, list_t, list_r, list_l, app_l, rev_l, pop_l, popat_l, mT_l, seq_l, enu_l, zip_l, rev_i, rev_t, in_t, notin_t, fl_s, fl_i, fl_b, fl_n, inL_nil, inL_ss, inL_ii, List.all_cons, List.all_nil, Bool.and_self, Bool.and_true, Bool.true_and, zip_t, a_t, a_l, sub_l, isTs, isT, Option.map_some, List.length_cons, List.length_nil, Nat.reduceAdd, Nat.reduceSub, Nat.reduceLT, Nat.zero_add, Bool.false_eq_true, Bool.true_eq_false, if_false, if_true, decide_eq_true_eq, Bool.not_true, Bool.not_false, ite_true, ite_false, reduceIte, Bool.not_eq_true', decide_eq_false_iff_not, Int.cast_ofNat_Int, Int.reduceEq, Int.reduceLT, Int.reduceLE, Int.reduceNeg, Int.reduceAdd, Int.reduceSub, Int.reduceMul, Int.reduceToNat, decide_true, decide_false, not_true, not_false, not_true_eq_false, not_false_eq_true, true_and, and_true, eq_self, reduceCtorEq, List.isEmpty_nil, List.isEmpty_cons, List.nil_append, List.cons_append]
      refine ite2 (fun hp4 => ?_) fun hp4 => ?_
      · try simp -dsimp -implicitDefEqProofs only [↓cov3, ↓cov2, ↓cov1, ↓E_var, ↓E_int, ↓E_bl, ↓E_non, ↓E_str, ↓E_glo, ↓E_tup, ↓E_lst, ↓E_bin, ↓E_neg, ↓E_cmp, ↓E_chn, ↓E_and, ↓E_or, ↓E_one, ↓E_not, ↓E_ifx, ↓E_idx, ↓E_slc, ↓E_call, ↓E_bi, ↓E_isi, ↓E_mth, ↓E_lc, ↓Es_nil, ↓Es_cons, ↓O_no, ↓O_some, ↓Q_no, ↓Q_c, ↓C_and, ↓C_or, ↓C_one, ↓C_not, ↓C_cmp, ↓C_chn, ↓C_v, ↓I_seq, ↓I_rng1, ↓I_rng2, ↓I_rng3, ↓I_enu, ↓I_zip, ↓I_rev, ↓S_set, ↓S_asg, ↓S_par2, ↓S_sub, ↓S_expr, ↓S_ret, ↓S_retN, ↓S_ifs, ↓S_for, ↓S_brk, ↓S_cnt, ↓S_pass, ↓S_raise, ↓S_try, ↓S_never, ex_t, ex_f, ↓S_nil, ↓S_cons, ↓kN_nx, ↓kN_rt, ↓kN_bk, ↓kN_ct, ↓kN_ex, ↓kL_nx, ↓kL_rt, ↓kL_bk, ↓kL_ct, ↓kL_ex, ↓kX_nx, ↓kX_rt, ↓kX_bk, ↓kX_ct, ↓kX_ex, ↓kend_nx, ↓kend_rt, ↓kend_bk, ↓kend_ct, ↓kend_ex, vr_some, gt_0, gt_s, stn_0, stn_s, wip_0, wip_s, wips_0, wips_s, neg_i, isi_s, o_i, tru_non, tru_bl, tru_int, tru_tup, tru_rol, c_Eq, c_NotEq, c_Lt, c_LtE, c_Gt, c_GtE, cs_Eq, cs_NotEq, cb_Eq, cb_NotEq, c2_Eq, c2_NotEq, is_non, isnot_non, is_bl, isnot_bl, is_int, isnot_int, is_str, isnot_str, is_tup, isnot_tup, is_rol, isnot_rol, is_ref, isnot_ref, is_b, isnot_b, in_s, notin_s, b_add, b_sub, b_mul, b_fdiv, b_mod, b_pow, b_addt, b_adds, atI0, atI1, atI2, atI3, slc_t, slc_r, len_s, abs_i, int_i, int_b, min_i, max_i, gcd_i, seq_t, seq_r, r1_i, r2_i, r3_i, a_nm, a_nil, a_cons, vrl_some, vrn_some, put_lget, Option.isSome_some, tru_ref, b_addl, idx_t, idx_r, idx_l, slc_l, len_t, len_r, len_l, tuple_t, tuple_r, tuple_l, list_t, list_r, list_l, app_l, rev_l, pop_l, popat_l, mT_l, seq_l, enu_l, zip_l, rev_i, rev_t, in_t, notin_t, fl_s, fl_i, fl_b, fl_n, inL_nil, inL_ss, inL_ii, List.all_cons, List.all_nil, Bool.and_self, Bool.and_true, Bool.true_and, zip_t, a_t, a_l, sub_l, isTs, isT, Option.map_some, List.length_cons, List.length_nil, Nat.reduceAdd, Nat.reduceSub, Nat.reduceLT, Nat.zero_add, Bool.false_eq_true, Bool.true_eq_false, if_false, if_true, decide_eq_true_eq, Bool.not_true, Bool.not_false, ite_true, ite_false, reduceIte, Bool.not_eq_true', decide_eq_false_iff_not, Int.cast_ofNat_Int, Int.reduceEq, Int.reduceLT, Int.reduceLE, Int.reduceNeg, Int.reduceAdd, Int.reduceSub, Int.reduceMul, Int.reduceToNat, decide_true, decide_false, not_true, not_false, not_true_eq_false, not_false_eq_true, true_and, and_true, eq_self, reduceCtorEq, List.isEmpty_nil, List.isEmpty_cons, List.nil_append, List.cons_append]
        refine next_ok hr2 (by decide) fun t S3 t0 t1 m3 => ?_
        simp -dsimp -implicitDefEqProofs only [↓cov3, ↓cov2, ↓cov1, ↓E_var, ↓E_int, ↓E_bl, ↓E_non, ↓E_str, ↓E_glo, ↓E_tup, ↓E_lst, ↓E_bin, ↓E_neg, ↓E_cmp, ↓E_chn, ↓E_and, ↓E_or, ↓E_one, ↓E_not, ↓E_ifx, ↓E_idx, ↓E_slc, ↓E_call, ↓E_bi, ↓E_isi, ↓E_mth, ↓E_lc, ↓Es_nil, ↓Es_cons, ↓O_no, ↓O_some, ↓Q_no, ↓Q_c, ↓C_and, ↓C_or, ↓C_one, ↓C_not, ↓C_cmp, ↓C_chn, ↓C_v, ↓I_seq, ↓I_rng1, ↓I_rng2, ↓I_rng3, ↓I_enu, ↓I_zip, ↓I_rev, ↓S_set, ↓S_asg, ↓S_par2, ↓S_sub, ↓S_expr, ↓S_ret, ↓S_retN, ↓S_ifs, ↓S_for, ↓S_brk, ↓S_cnt, ↓S_pass, ↓S_raise, ↓S_try, ↓S_never, ex_t, ex_f, ↓S_nil, ↓S_cons, ↓kN_nx, ↓kN_rt, ↓kN_bk, ↓kN_ct, ↓kN_ex, ↓kL_nx, ↓kL_rt, ↓kL_bk, ↓kL_ct, ↓kL_ex, ↓kX_nx, ↓kX_rt, ↓kX_bk, ↓kX_ct, ↓kX_ex, ↓kend_nx, ↓kend_rt, ↓kend_bk, ↓kend_ct, ↓kend_ex, vr_some, gt_0, gt_s, stn_0, stn_s, wip_0, wip_s, wips_0, wips_s, neg_i, isi_s, o_i, tru_non, tru_bl, tru_int, tru_tup, tru_rol, c_Eq, c_NotEq, c_Lt, c_LtE, c_Gt, c_GtE, cs_Eq, cs_NotEq, cb_Eq, cb_NotEq, c2_Eq, c2_NotEq, is_non, isnot_non, is_bl, isnot_bl, is_int, isnot_int, is_str, isnot_str, is_tup, isnot_tup, is_rol, isnot_rol, is_ref, isnot_ref, is_b, isnot_b, in_s, notin_s, b_add, b_sub, b_mul, b_fdiv, b_mod, b_pow, b_addt, b_adds, atI0, atI1, atI2, atI3, slc_t, slc_r, len_s, abs_i, int_i, int_b, min_i, max_i, gcd_i, seq_t, seq_r, r1_i, r2_i, r3_i, a_nm, a_nil, a_cons, vrl_some, vrn_some, put_lget, Option.isSome_some, tru_ref, b_addl, idx_t, idx_r, idx_l, slc_l, len_t, len_r, len_l, tuple_t, tuple_r, tuple_l, list_t, list_r, list_l, app_l, rev_l, pop_l, popat_l, mT_l, seq_l, enu_l, zip_l, rev_i, rev_t, in_t, notin_t, fl_s, fl_i, fl_b, fl_n, inL_nil, inL_ss, inL_ii, List.all_cons, List.all_nil, Bool.and_self, Bool.and_true, Bool.true_and, zip_t, a_t, a_l, sub_l, isTs, isT, Option.map_some, List.length_cons, List.length_nil, Nat.reduceAdd, Nat.reduceSub, Nat.reduceLT, Nat.zero_add, Bool.false_eq_true, Bool.true_eq_false, if_false, if_true, decide_eq_true_eq, Bool.not_true, Bool.not_false, ite_true, ite_false, reduceIte, Bool.not_eq_true', decide_eq_false_iff_not, Int.cast_ofNat_Int, Int.reduceEq, Int.reduceLT, Int.reduceLE, Int.reduceNeg, Int.reduceAdd, Int.reduceSub, Int.reduceMul, Int.reduceToNat, decide_true, decide_false, not_true, not_false, not_true_eq_false, not_false_eq_true, true_and, and_true, eq_self, reduceCtorEq, List.isEmpty_nil, List.isEmpty_cons, List.nil_append, List.cons_append]
        obtain ⟨row3, hr3⟩ := m3.2
        refine next_ok hr3 (by decide) fun d S4 d0 d1 m4 => ?_
        simp -dsimp -implicitDefEqProofs only [↓cov3, ↓cov2, ↓cov1, ↓E_var, ↓E_int, ↓E_bl, ↓E_non, ↓E_str, ↓E_glo, ↓E_tup, ↓E_lst, ↓E_bin, ↓E_neg, ↓E_cmp, ↓E_chn, ↓E_and, ↓E_or, ↓E_one, ↓E_not, ↓E_ifx, ↓E_idx, ↓E_slc, ↓E_call, ↓E_bi, ↓E_isi, ↓E_mth, ↓E_lc, ↓Es_nil, ↓Es_cons, ↓O_no, ↓O_some, ↓Q_no, ↓Q_c, ↓C_and, ↓C_or, ↓C_one, ↓C_not, ↓C_cmp, ↓C_chn, ↓C_v, ↓I_seq, ↓I_rng1, ↓I_rng2, ↓I_rng3, ↓I_enu, ↓I_zip, ↓I_rev, ↓S_set, ↓S_asg, ↓S_par2, ↓S_sub, ↓S_expr, ↓S_ret, ↓S_retN, ↓S_ifs, ↓S_for, ↓S_brk, ↓S_cnt, ↓S_pass, ↓S_raise, ↓S_try, ↓S_never, ex_t, ex_f, ↓S_nil, ↓S_cons, ↓kN_nx, ↓kN_rt, ↓kN_bk, ↓kN_ct, ↓kN_ex, ↓kL_nx, ↓kL_rt, ↓kL_bk, ↓kL_ct, ↓kL_ex, ↓kX_nx, ↓kX_rt, ↓kX_bk, ↓kX_ct, ↓kX_ex, ↓kend_nx, ↓kend_rt, ↓kend_bk, ↓kend_ct, ↓kend_ex, vr_some, gt_0, gt_s, stn_0, stn_s, wip_0, wip_s, wips_0, wips_s, neg_i, isi_s, o_i, tru_non, tru_bl, tru_int, tru_tup, tru_rol, c_Eq, c_NotEq, c_Lt, c_LtE, c_Gt, c_GtE, cs_Eq, cs_NotEq, cb_Eq, cb_NotEq, c2_Eq, c2_NotEq, is_non, isnot_non, is_bl, isnot_bl, is_int, isnot_int, is_str, isnot_str, is_tup, isnot_tup, is_rol, isnot_rol, is_ref, isnot_ref, is_b, isnot_b, in_s, notin_s, b_add, b_sub, b_mul, b_fdiv, b_mod, b_pow, b_addt, b_adds, atI0, atI1, atI2, atI3, slc_t, slc_r, len_s, abs_i, int_i, int_b, min_i, max_i, gcd_i, seq_t, seq_r, r1_i, r2_i, r3_i, a_nm, a_nil, a_cons, vrl_some, vrn_some, put_lget, Option.isSome_some, tru_ref, b_addl, idx_t, idx_r, idx_l, slc_l, len_t, len_r, len_l, tuple_t, tuple_r, tuple_l, list_t, list_r, list_l, app_l, rev_l, pop_l, popat_l, mT_l, seq_l, enu_l, zip_l, rev_i, rev_t, in_t, notin_t, fl_s, fl_i, fl_b, fl_n, inL_nil, inL_ss, inL_ii, List.all_cons, List.all_nil, Bool.and_self, Bool.and_true, Bool.true_and, zip_t, a_t, a_l, sub_l, isTs, isT, Option.map_some, List.length_cons, List.length_nil, Nat.reduceAdd, Nat.reduceSub, Nat.reduceLT, Nat.zero_add, Bool.false_eq_true, Bool.true_eq_false, if_false, if_true, decide_eq_true_eq, Bool.not_true, Bool.not_false, ite_true, ite_false, reduceIte, Bool.not_eq_true', decide_eq_false_iff_not, Int.cast_ofNat_Int, Int.reduceEq, Int.reduceLT, Int.reduceLE, Int.reduceNeg, Int.reduceAdd, Int.reduceSub, Int.reduceMul, Int.reduceToNat, decide_true, decide_false, not_true, not_false, not_true_eq_false, not_false_eq_true, true_and, and_true, eq_self, reduceCtorEq, List.isEmpty_nil, List.isEmpty_cons, List.nil_append, List.cons_append]
        refine number_ok (by omega) (by unfold Bt; exact Nat.lt_of_lt_of_le (show (1 + d).natAbs < 2 ^ 10 by omega) (Nat.pow_le_pow_right (by decide) (by decide))) ?_
        exact h _ _ (fun _ => QB_small (by omega) (by omega) (by omega)) ((m12.trans m3).trans m4)
      · try simp -dsimp -implicitDefEqProofs only [↓cov3, ↓cov2, ↓cov1, ↓E_var, ↓E_int, ↓E_bl, ↓E_non, ↓E_str, ↓E_glo, ↓E_tup, ↓E_lst, ↓E_bin, ↓E_neg, ↓E_cmp, ↓E_chn, ↓E_and, ↓E_or, ↓E_one, ↓E_not, ↓E_ifx, ↓E_idx, ↓E_slc, ↓E_call, ↓E_bi, ↓E_isi, ↓E_mth, ↓E_lc, ↓Es_nil, ↓Es_cons, ↓O_no, ↓O_some, ↓Q_no, ↓Q_c, ↓C_and, ↓C_or, ↓C_one, ↓C_not, ↓C_cmp, ↓C_chn, ↓C_v, ↓I_seq, ↓I_rng1, ↓I_rng2, ↓I_rng3, ↓I_enu, ↓I_zip, ↓I_rev, ↓S_set, ↓S_asg, ↓S_par2, ↓S_sub, ↓S_expr, ↓S_ret, ↓S_retN, ↓S_ifs, ↓S_for, ↓S_brk, ↓S_cnt, ↓S_pass, ↓S_raise, ↓S_try, ↓S_never, ex_t, ex_f, ↓S_nil, ↓S_cons, ↓kN_nx, ↓kN_rt, ↓kN_bk, ↓kN_ct, ↓kN_ex, ↓kL_nx, ↓kL_rt, ↓kL_bk, ↓kL_ct, ↓kL_ex, ↓kX_nx, ↓kX_rt, ↓kX_bk, ↓kX_ct, ↓kX_ex, ↓kend_nx, ↓kend_rt, ↓kend_bk, ↓kend_ct, ↓kend_ex, vr_some, gt_0, gt_s, stn_0, stn_s, wip_0, wip_s, wips_0, wips_s, neg_i, isi_s, o_i, tru_non, tru_bl, tru_int, tru_tup, tru_rol, c_Eq, c_NotEq, c_Lt, c_LtE, c_Gt, c_GtE, cs_Eq, cs_NotEq, cb_Eq, cb_NotEq, c2_Eq, c2_NotEq, is_non, isnot_non, is_bl, isnot_bl, is_int, isnot_int, is_str, isnot_str, is_tup, isnot_tup, is_rol, isnot_rol, is_ref, isnot_ref, is_b, isnot_b, in_s, notin_s, b_add, b_sub, b_mul, b_fdiv, b_mod, b_pow, b_addt, b_adds, atI0, atI1, atI2, atI3, slc_t, slc_r, len_s, abs_i, int_i, int_b, min_i, max_i, gcd_i, seq_t, seq_r, r1_i, r2_i, r3_i, a_nm, a_nil, a_cons, vrl_some, vrn_some, put_lget, Option.isSome_some, tru_ref, b_addl, idx_t, idx_r, idx_l, slc_l, len_t, len_r, len_l, tuple_t, tuple_r, tuple_l, list_t, list_r, list_l, app_l, rev_l, pop_l, popat_l, mT_l, seq_l, enu_l, zip_l, rev_i, rev_t, in_t, notin_t, fl_s, fl_i, fl_b, fl_n, inL_nil, inL_ss, inL_ii, List.all_cons, List.all_nil, Bool.and_self, Bool.and_true, Bool.true_and, zip_t, a_t, a_l, sub_l, isTs, isT, Option.map_some, List.length_cons, List.length_nil, Nat.reduceAdd, Nat.reduceSub, Nat.reduceLT, Nat.zero_add, Bool.false_eq_true, Bool.true_eq_false, if_false, if_true, decide_eq_true_eq, Bool.not_true, Bool.not_false, ite_true, ite_false, reduceIte, Bool.not_eq_true', decide_eq_false_iff_not, Int.cast_ofNat_Int, Int.reduceEq, Int.reduceLT, Int.reduceLE, Int.reduceNeg, Int.reduceAdd, Int.reduceSub, Int.reduceMul, Int.reduceToNat, decide_true, decide_false, not_true, not_false, not_true_eq_false, not_false_eq_true, true_and, and_true, eq_self, reduceCtorEq, List.isEmpty_nil, List.isEmpty_cons, List.nil_append, List.cons_append]
        refine h (.num (n : Rat)) S2 (fun _ => ?_) m12
        refine ⟨?_, by show (1 : Int).natAbs < 2 ^ 10; decide⟩
        show n.natAbs < 2 ^ 10
        omega
theorem word7 {p : Int} (h0 : 2 ≤ p) (h1 : p < 9) : ∃ o : Op, atI [D.str "add", .str "sub", .str "mul", .str "div", .str "add", .str "mul", .str "sub"] (p - 2) = some (.str (opS o)) := by
  have : p = 2 ∨ p = 3 ∨ p = 4 ∨ p = 5 ∨ p = 6 ∨ p = 7 ∨ p = 8 := by omega
  rcases this with rfl | rfl | rfl | rfl | rfl | rfl | rfl
  · exact ⟨.add, rfl⟩
  · exact ⟨.sub, rfl⟩
  · exact ⟨.mul, rfl⟩
  · exact ⟨.div, rfl⟩
  · exact ⟨.add, rfl⟩
  · exact ⟨.mul, rfl⟩
  · exact ⟨.sub, rfl⟩
theorem tree_ok : ∀ (n : Nat) (k : Nat) (S : Sto) (Q : DK) (E : XS) (r : Addr) (row : List Int), S r = some (.lst (row.map D.int)) → (∀ e S', wt (n + 1) e → Mn r S S' → Q (XD e) S') → semF G T (n + k + 4) "_law_tree" [.ref r, .int (n + 1 : Nat), .int 4] S Q E := by
  intro n
  induction n with
  | zero =>
    intro k S Q E r row hr h
    refine call_of t_law_tree rfl ?_
    simp -dsimp -implicitDefEqProofs only [ent, List.map_cons, List.map_nil, List.length_cons, List.length_nil, Nat.reduceAdd, Nat.reduceSub, Nat.zero_add, List.replicate, List.cons_append, List.nil_append, F_law_tree]
    simp -dsimp -implicitDefEqProofs only [↓cov3, ↓cov2, ↓cov1, ↓E_var, ↓E_int, ↓E_bl, ↓E_non, ↓E_str, ↓E_glo, ↓E_tup, ↓E_lst, ↓E_bin, ↓E_neg, ↓E_cmp, ↓E_chn, ↓E_and, ↓E_or, ↓E_one, ↓E_not, ↓E_ifx, ↓E_idx, ↓E_slc, ↓E_call, ↓E_bi, ↓E_isi, ↓E_mth, ↓E_lc, ↓Es_nil, ↓Es_cons, ↓O_no, ↓O_some, ↓Q_no, ↓Q_c, ↓C_and, ↓C_or, ↓C_one, ↓C_not, ↓C_cmp, ↓C_chn, ↓C_v, ↓I_seq, ↓I_rng1, ↓I_rng2, ↓I_rng3, ↓I_enu, ↓I_zip, ↓I_rev, ↓S_set, ↓S_asg, ↓S_par2, ↓S_sub, ↓S_expr, ↓S_ret, ↓S_retN, ↓S_ifs, ↓S_for, ↓S_brk, ↓S_cnt, ↓S_pass, ↓S_raise, ↓S_try, ↓S_never, ex_t, ex_f, ↓S_nil, ↓S_cons, ↓kN_nx, ↓kN_rt, ↓kN_bk, ↓kN_ct, ↓kN_ex, ↓kL_nx, ↓kL_rt, ↓kL_bk, ↓kL_ct, ↓kL_ex, ↓kX_nx, ↓kX_rt, ↓kX_bk, ↓kX_ct, ↓kX_ex, ↓kend_nx, ↓kend_rt, ↓kend_bk, ↓kend_ct, ↓kend_ex, vr_some, gt_0, gt_s, stn_0, stn_s, wip_0, wip_s, wips_0, wips_s, neg_i, isi_s, o_i, tru_non, tru_bl, tru_int, tru_tup, tru_rol, c_Eq, c_NotEq, c_Lt, c_LtE, c_Gt, c_GtE, cs_Eq, cs_NotEq, cb_Eq, cb_NotEq, c2_Eq, c2_NotEq, is_non, isnot_non, is_bl, isnot_bl, is_int, isnot_int, is_str, isnot_str, is_tup, isnot_tup, is_rol, isnot_rol, is_ref, isnot_ref, is_b, isnot_b, in_s, notin_s, b_add, b_sub, b_mul, b_fdiv, b_mod, b_pow, b_addt, b_adds, atI0, atI1, atI2, atI3, slc_t, slc_r, len_s, abs_i, int_i, int_b, min_i, max_i, gcd_i, seq_t, seq_r, r1_i, r2_i, r3_i, a_nm, a_nil, a_cons, vrl_some, vrn_some, put_lget, Option.isSome_some, tru_ref, b_addl, idx_t, idx_r, idx_l, slc_l, len_t, len_r, len_l, tuple_t, tuple_r, tuple_l, list_t, list_r, list_l, app_l, rev_l, pop_l, popat_l, mT_l, seq_l, enu_l, zip_l, rev_i, rev_t, in_t, notin_t, fl_s, fl_i, fl_b, fl_n, inL_nil, inL_ss, inL_ii, List.all_cons, List.all_nil, Bool.and_self, Bool.and_true, Bool.true_and, zip_t, a_t, a_l, sub_l, isTs, isT, Option.map_some, List.length_cons, List.length_nil, Nat.reduceAdd, Nat.reduceSub, Nat.reduceLT, Nat.zero_add, Bool.false_eq_true, Bool.true_eq_false, if_false, if_true, decide_eq_true_eq, Bool.not_true, Bool.not_false, ite_true, ite_false, reduceIte, Bool.not_eq_true', decide_eq_false_iff_not, Int.cast_ofNat_Int, Int.reduceEq, Int.reduceLT, Int.reduceLE, Int.reduceNeg, Int.reduceAdd, Int.reduceSub, Int.reduceMul, Int.reduceToNat, decide_true, decide_false, not_true, not_false, not_true_eq_false, not_false_eq_true, true_and, and_true, eq_self, reduceCtorEq, List.isEmpty_nil, List.isEmpty_cons, List.nil_append, List.cons_append]
    refine next_ok hr (by decide) fun p S1 p0 p1 m1 => ?_
    simp -dsimp -implicitDefEqProofs only [↓cov3, ↓cov2, ↓cov1, ↓E_var, ↓E_int, ↓E_bl, ↓E_non, ↓E_str, ↓E_glo, ↓E_tup, ↓E_lst, ↓E_bin, ↓E_neg, ↓E_cmp, ↓E_chn, ↓E_and, ↓E_or, ↓E_one, ↓E_not, ↓E_ifx, ↓E_idx, ↓E_slc, ↓E_call, ↓E_bi, ↓E_isi, ↓E_mth, ↓E_lc, ↓Es_nil, ↓Es_cons, ↓O_no, ↓O_some, ↓Q_no, ↓Q_c, ↓C_and, ↓C_or, ↓C_one, ↓C_not, ↓C_cmp, ↓C_chn, ↓C_v, ↓I_seq, ↓I_rng1, ↓I_rng2, ↓I_rng3, ↓I_enu, ↓I_zip, ↓I_rev, ↓S_set, ↓S_asg, ↓S_par2, ↓S_sub, ↓S_expr, ↓S_ret, ↓S_retN, ↓S_ifs, ↓S_for, ↓S_brk, ↓S_cnt, ↓S_pass, ↓S_raise, ↓S_try, ↓S_never, ex_t, ex_f, ↓S_nil, ↓S_cons, ↓kN_nx, ↓kN_rt, ↓kN_bk, ↓kN_ct, ↓kN_ex, ↓kL_nx, ↓kL_rt, ↓kL_bk, ↓kL_ct, ↓kL_ex, ↓kX_nx, ↓kX_rt, ↓kX_bk, ↓kX_ct, ↓kX_ex, ↓kend_nx, ↓kend_rt, ↓kend_bk, ↓kend_ct, ↓kend_ex, vr_some, gt_0, gt_s, stn_0, stn_s, wip_0, wip_s, wips_0, wips_s, neg_i, isi_s, o_i, tru_non, tru_bl, tru_int, tru_tup, tru_rol, c_Eq, c_NotEq, c_Lt, c_LtE, c_Gt, c_GtE, cs_Eq, cs_NotEq, cb_Eq, cb_NotEq, c2_Eq, c2_NotEq, is_non, isnot_non, is_bl, isnot_bl, is_int, isnot_int, is_str, isnot_str, is_tup, isnot_tup, is_rol, isnot_rol, is_ref, isnot_ref, is_b, isnot_b, in_s, notin_s, b_add, b_sub, b_mul, b_fdiv, b_mod, b_pow, b_addt, b_adds, atI0, atI1, atI2, atI3, slc_t, slc_r, len_s, abs_i, int_i, int_b, min_i, max_i, gcd_i, seq_t, seq_r, r1_i, r2_i, r3_i, a_nm, a_nil, a_cons, vrl_some, vrn_some, put_lget, Option.isSome_some, tru_ref, b_addl, idx_t, idx_r, idx_l, slc_l, len_t, len_r, len_l, tuple_t, tuple_r, tuple_l, list_t, list_r, list_l, app_l, rev_l, pop_l, popat_l, mT_l, seq_l, enu_l, zip_l, rev_i, rev_t, in_t, notin_t, fl_s, fl_i, fl_b, fl_n, inL_nil, inL_ss, inL_ii, List.all_cons, List.all_nil, Bool.and_self, Bool.and_true, Bool.true_and, zip_t, a_t, a_l, sub_l, isTs, isT, Option.map_some, List.length_cons, List.length_nil, Nat.reduceAdd, Nat.reduceSub, Nat.reduceLT, Nat.zero_add, Bool.false_eq_true, Bool.true_eq_false, if_false, if_true, decide_eq_true_eq, Bool.not_true, Bool.not_false, ite_true, ite_false, reduceIte, Bool.not_eq_true', decide_eq_false_iff_not, Int.cast_ofNat_Int, Int.reduceEq, Int.reduceLT, Int.reduceLE, Int.reduceNeg, Int.reduceAdd, Int.reduceSub, Int.reduceMul, Int.reduceToNat, decide_true, decide_false, not_true, not_false, not_true_eq_false, not_false_eq_true, true_and, and_true, eq_self, reduceCtorEq, List.isEmpty_nil, List.isEmpty_cons, List.nil_append, List.cons_append]
    obtain ⟨row1, hr1⟩ := m1.2
    refine leaf_ok hr1 fun e S' w m => ?_
    exact h e S' (w 0) (m1.trans m)
  | succ n ih =>
    intro k S Q E r row hr h
    rw [show n + 1 + k + 4 = (n + k + 4) + 1 by omega]
    refine call_of t_law_tree rfl ?_
    simp -dsimp -implicitDefEqProofs only [ent, List.map_cons, List.map_nil, List.length_cons, List.length_nil, Nat.reduceAdd, Nat.reduceSub, Nat.zero_add, List.replicate, List.cons_append, List.nil_append, F_law_tree]
    simp -dsimp -implicitDefEqProofs only [↓cov3, ↓cov2, ↓cov1, ↓E_var, ↓E_int, ↓E_bl, ↓E_non, ↓E_str, ↓E_glo, ↓E_tup, ↓E_lst, ↓E_bin, ↓E_neg, ↓E_cmp, ↓E_chn, ↓E_and, ↓E_or, ↓E_one, ↓E_not, ↓E_ifx, ↓E_idx, ↓E_slc, ↓E_call, ↓E_bi, ↓E_isi, ↓E_mth, ↓E_lc, ↓Es_nil, ↓Es_cons, ↓O_no, ↓O_some, ↓Q_no, ↓Q_c, ↓C_and, ↓C_or, ↓C_one, ↓C_not, ↓C_cmp, ↓C_chn, ↓C_v, ↓I_seq, ↓I_rng1, ↓I_rng2, ↓I_rng3, ↓I_enu, ↓I_zip, ↓I_rev, ↓S_set, ↓S_asg, ↓S_par2, ↓S_sub, ↓S_expr, ↓S_ret, ↓S_retN, ↓S_ifs, ↓S_for, ↓S_brk, ↓S_cnt, ↓S_pass, ↓S_raise, ↓S_try, ↓S_never, ex_t, ex_f, ↓S_nil, ↓S_cons, ↓kN_nx, ↓kN_rt, ↓kN_bk, ↓kN_ct, ↓kN_ex, ↓kL_nx, ↓kL_rt, ↓kL_bk, ↓kL_ct, ↓kL_ex, ↓kX_nx, ↓kX_rt, ↓kX_bk, ↓kX_ct, ↓kX_ex, ↓kend_nx, ↓kend_rt, ↓kend_bk, ↓kend_ct, ↓kend_ex, vr_some, gt_0, gt_s, stn_0, stn_s, wip_0, wip_s, wips_0, wips_s, neg_i, isi_s, o_i, tru_non, tru_bl, tru_int, tru_tup, tru_rol, c_Eq, c_NotEq, c_Lt, c_LtE, c_Gt, c_GtE, cs_Eq, cs_NotEq, cb_Eq, cb_NotEq, c2_Eq, c2_NotEq, is_non, isnot_non, is_bl, isnot_bl, is_int, isnot_int, is_str, isnot_str, is_tup, isnot_tup, is_rol, isnot_rol, is_ref, isnot_ref, is_b, isnot_b, in_s, notin_s, b_add, b_sub, b_mul, b_fdiv, b_mod, b_pow, b_addt, b_adds, atI0, atI1, atI2, atI3, slc_t, slc_r, len_s, abs_i, int_i, int_b, min_i, max_i, gcd_i, seq_t, seq_r, r1_i, r2_i, r3_i, a_nm, a_nil, a_cons, vrl_some, vrn_some, put_lget, Option.isSome_some, tru_ref, b_addl, idx_t, idx_r, idx_l, slc_l, len_t, len_r, len_l, tuple_t, tuple_r, tuple_l, list_t, list_r, list_l, app_l, rev_l, pop_l, popat_l, mT_l, seq_l, enu_l, zip_l, rev_i, rev_t, in_t, notin_t, fl_s, fl_i, fl_b, fl_n, inL_nil, inL_ss, inL_ii, List.all_cons, List.all_nil, Bool.and_self, Bool.and_true, Bool.true_and, zip_t, a_t, a_l, sub_l, isTs, isT, Option.map_some, List.length_cons, List.length_nil, Nat.reduceAdd, Nat.reduceSub, Nat.reduceLT, Nat.zero_add, Bool.false_eq_true, Bool.true_eq_false, if_false, if_true, decide_eq_true_eq, Bool.not_true, Bool.not_false, ite_true, ite_false, reduceIte, Bool.not_eq_true', decide_eq_false_iff_not, Int.cast_ofNat_Int, Int.reduceEq, Int.reduceLT, Int.reduceLE, Int.reduceNeg, Int.reduceAdd, Int.reduceSub, Int.reduceMul, Int.reduceToNat, decide_true, decide_false, not_true, not_false, not_true_eq_false, not_false_eq_true, true_and, and_true, eq_self, reduceCtorEq, List.isEmpty_nil, List.isEmpty_cons, List.nil_append, List.cons_append]
    refine next_ok hr (by decide) fun p S1 p0 p1 m1 => ?_
    simp -dsimp -implicitDefEqProofs only [↓cov3, ↓cov2, ↓cov1, ↓E_var, ↓E_int, ↓E_bl, ↓E_non, ↓E_str, ↓E_glo, ↓E_tup, ↓E_lst, ↓E_bin, ↓E_neg, ↓E_cmp, ↓E_chn, ↓E_and, ↓E_or, ↓E_one, ↓E_not, ↓E_ifx, ↓E_idx, ↓E_slc, ↓E_call, ↓E_bi, ↓E_isi, ↓E_mth, ↓E_lc, ↓Es_nil, ↓Es_cons, ↓O_no, ↓O_some, ↓Q_no, ↓Q_c, ↓C_and, ↓C_or, ↓C_one, ↓C_not, ↓C_cmp, ↓C_chn, ↓C_v, ↓I_seq, ↓I_rng1, ↓I_rng2, ↓I_rng3, ↓I_enu, ↓I_zip, ↓I_rev, ↓S_set, ↓S_asg, ↓S_par2, ↓S_sub, ↓S_expr, ↓S_ret, ↓S_retN, ↓S_ifs, ↓S_for, ↓S_brk, ↓S_cnt, ↓S_pass, ↓S_raise, ↓S_try, ↓S_never, ex_t, ex_f, ↓S_nil, ↓S_cons, ↓kN_nx, ↓kN_rt, ↓kN_bk, ↓kN_ct, ↓kN_ex, ↓kL_nx, ↓kL_rt, ↓kL_bk, ↓kL_ct, ↓kL_ex, ↓kX_nx, ↓kX_rt, ↓kX_bk, ↓kX_ct, ↓kX_ex, ↓kend_nx, ↓kend_rt, ↓kend_bk, ↓kend_ct, ↓kend_ex, vr_some, gt_0, gt_s, stn_0, stn_s, wip_0, wip_s, wips_0, wips_s, neg_i, isi_s, o_i, tru_non, tru_bl, tru_int, tru_tup, tru_rol, c_Eq, c_NotEq, c_Lt, c_LtE, c_Gt, c_GtE, cs_Eq, cs_NotEq, cb_Eq, cb_NotEq, c2_Eq, c2_NotEq, is_non, isnot_non, is_bl, isnot_bl, is_int, isnot_int, is_str, isnot_str, is_tup, isnot_tup, is_rol, isnot_rol, is_ref, isnot_ref, is_b, isnot_b, in_s, notin_s, b_add, b_sub, b_mul, b_fdiv, b_mod, b_pow, b_addt, b_adds, atI0, atI1, atI2, atI3, slc_t, slc_r, len_s, abs_i, int_i, int_b, min_i, max_i, gcd_i, seq_t, seq_r, r1_i, r2_i, r3_i, a_nm, a_nil, a_cons, vrl_some, vrn_some, put_lget, Option.isSome_some, tru_ref, b_addl, idx_t, idx_r, idx_l, slc_l, len_t, len_r, len_l, tuple_t, tuple_r, tuple_l, list_t, list_r, list_l, app_l, rev_l, pop_l, popat_l, mT_l, seq_l, enu_l, zip_l, rev_i, rev_t, in_t, notin_t, fl_s, fl_i, fl_b, fl_n, inL_nil, inL_ss, inL_ii, List.all_cons, List.all_nil, Bool.and_self, Bool.and_true, Bool.true_and, zip_t, a_t, a_l, sub_l, isTs, isT, Option.map_some, List.length_cons, List.length_nil, Nat.reduceAdd, Nat.reduceSub, Nat.reduceLT, Nat.zero_add, Bool.false_eq_true, Bool.true_eq_false, if_false, if_true, decide_eq_true_eq, Bool.not_true, Bool.not_false, ite_true, ite_false, reduceIte, Bool.not_eq_true', decide_eq_false_iff_not, Int.cast_ofNat_Int, Int.reduceEq, Int.reduceLT, Int.reduceLE, Int.reduceNeg, Int.reduceAdd, Int.reduceSub, Int.reduceMul, Int.reduceToNat, decide_true, decide_false, not_true, not_false, not_true_eq_false, not_false_eq_true, true_and, and_true, eq_self, reduceCtorEq, List.isEmpty_nil, List.isEmpty_cons, List.nil_append, List.cons_append]
    obtain ⟨row1, hr1⟩ := m1.2
    have leafy : semF G T (n + k + 4) "_law_leaf" [.ref r] S1 Q E := by
      rw [show n + k + 4 = (n + k + 1) + 3 by omega]
      exact leaf_ok hr1 fun e S' w m => h e S' (w _) (m1.trans m)
    rw [if_neg (by omega)]
    refine ite2 (fun hp2 => leafy) fun hp2 => ?_
    simp -dsimp -implicitDefEqProofs only [↓cov3, ↓cov2, ↓cov1, ↓E_var, ↓E_int, ↓E_bl, ↓E_non, ↓E_str, ↓E_glo, ↓E_tup, ↓E_lst, ↓E_bin, ↓E_neg, ↓E_cmp, ↓E_chn, ↓E_and, ↓E_or, ↓E_one, ↓E_not, ↓E_ifx, ↓E_idx, ↓E_slc, ↓E_call, ↓E_bi, ↓E_isi, ↓E_mth, ↓E_lc, ↓Es_nil, ↓Es_cons, ↓O_no, ↓O_some, ↓Q_no, ↓Q_c, ↓C_and, ↓C_or, ↓C_one, ↓C_not, ↓C_cmp, ↓C_chn, ↓C_v, ↓I_seq, ↓I_rng1, ↓I_rng2, ↓I_rng3, ↓I_enu, ↓I_zip, ↓I_rev, ↓S_set, ↓S_asg, ↓S_par2, ↓S_sub, ↓S_expr, ↓S_ret, ↓S_retN, ↓S_ifs, ↓S_for, ↓S_brk, ↓S_cnt, ↓S_pass, ↓S_raise, ↓S_try, ↓S_never, ex_t, ex_f, ↓S_nil, ↓S_cons, ↓kN_nx, ↓kN_rt, ↓kN_bk, ↓kN_ct, ↓kN_ex, ↓kL_nx, ↓kL_rt, ↓kL_bk, ↓kL_ct, ↓kL_ex, ↓kX_nx, ↓kX_rt, ↓kX_bk, ↓kX_ct, ↓kX_ex, ↓kend_nx, ↓kend_rt, ↓kend_bk, ↓kend_ct, ↓kend_ex, vr_some, gt_0, gt_s, stn_0, stn_s, wip_0, wip_s, wips_0, wips_s, neg_i, isi_s, o_i, tru_non, tru_bl, tru_int, tru_tup, tru_rol, c_Eq, c_NotEq, c_Lt, c_LtE, c_Gt, c_GtE, cs_Eq, cs_NotEq, cb_Eq, cb_NotEq, c2_Eq, c2_NotEq, is_non, isnot_non, is_bl, isnot_bl, is_int, isnot_int, is_str, isnot_str, is_tup, isnot_tup, is_rol, isnot_rol, is_ref, isnot_ref, is_b, isnot_b, in_s, notin_s, b_add, b_sub, b_mul, b_fdiv, b_mod, b_pow, b_addt, b_adds, atI0, atI1, atI2, atI3, slc_t, slc_r, len_s, abs_i, int_i, int_b, min_i, max_i, gcd_i, seq_t, seq_r, r1_i, r2_i, r3_i, a_nm, a_nil, a_cons, vrl_some, vrn_some, put_lget, Option.isSome_some, tru_ref, b_addl, idx_t, idx_r, idx_l, slc_l, len_t, len_r, len_l, tuple_t, tuple_r, tuple_l, list_t, list_r, list_l, app_l, rev_l, pop_l, popat_l, mT_l, seq_l, enu_l, zip_l, rev_i, rev_t, in_t, notin_t, fl_s, fl_i, fl_b, fl_n, inL_nil, inL_ss, inL_ii, List.all_cons, List.all_nil, Bool.and_self, Bool.and_true, Bool.true_and, zip_t, a_t, a_l, sub_l, isTs, isT, Option.map_some, List.length_cons, List.length_nil, Nat.reduceAdd, Nat.reduceSub, Nat.reduceLT, Nat.zero_add, Bool.false_eq_true, Bool.true_eq_false, if_false, if_true, decide_eq_true_eq, Bool.not_true, Bool.not_false, ite_true, ite_false, reduceIte, Bool.not_eq_true', decide_eq_false_iff_not, Int.cast_ofNat_Int, Int.reduceEq, Int.reduceLT, Int.reduceLE, Int.reduceNeg, Int.reduceAdd, Int.reduceSub, Int.reduceMul, Int.reduceToNat, decide_true, decide_false, not_true, not_false, not_true_eq_false, not_false_eq_true, true_and, and_true, eq_self, reduceCtorEq, List.isEmpty_nil, List.isEmpty_cons, List.nil_append, List.cons_append, lget_of hr1, List.length_map]
    refine ite2 (fun hp3 => leafy) fun hp3 => ?_
    rw [show ((n + 1 + 1 : Nat) : Int) - 1 = ((n + 1 : Nat) : Int) by omega]
    refine ih k S1 _ _ r row1 hr1 fun e S2 w m2 => ?_
    try simp -dsimp -implicitDefEqProofs only [↓cov3, ↓cov2, ↓cov1, ↓E_var, ↓E_int, ↓E_bl, ↓E_non, ↓E_str, ↓E_glo, ↓E_tup, ↓E_lst, ↓E_bin, ↓E_neg, ↓E_cmp, ↓E_chn, ↓E_and, ↓E_or, ↓E_one, ↓E_not, ↓E_ifx, ↓E_idx, ↓E_slc, ↓E_call, ↓E_bi, ↓E_isi, ↓E_mth, ↓E_lc, ↓Es_nil, ↓Es_cons, ↓O_no, ↓O_some, ↓Q_no, ↓Q_c, ↓C_and, ↓C_or, ↓C_one, ↓C_not, ↓C_cmp, ↓C_chn, ↓C_v, ↓I_seq, ↓I_rng1, ↓I_rng2, ↓I_rng3, ↓I_enu, ↓I_zip, ↓I_rev, ↓S_set, ↓S_asg, ↓S_par2, ↓S_sub, ↓S_expr, ↓S_ret, ↓S_retN, ↓S_ifs, ↓S_for, ↓S_brk, ↓S_cnt, ↓S_pass, ↓S_raise, ↓S_try, ↓S_never, ex_t, ex_f, ↓S_nil, ↓S_cons, ↓kN_nx, ↓kN_rt, ↓kN_bk, ↓kN_ct, ↓kN_ex, ↓kL_nx, ↓kL_rt, ↓kL_bk, ↓kL_ct, ↓kL_ex, ↓kX_nx, ↓kX_rt, ↓kX_bk, ↓kX_ct, ↓kX_ex, ↓kend_nx, ↓kend_rt, ↓kend_bk, ↓kend_ct, ↓kend_ex, vr_some, gt_0, gt_s, stn_0, stn_s, wip_0, wip_s, wips_0, wips_s, neg_i, isi_s, o_i, tru_non, tru_bl, tru_int, tru_tup, tru_rol, c_Eq, c_NotEq, c_Lt, c_LtE, c_Gt, c_GtE, cs_Eq, cs_NotEq, cb_Eq, cb_NotEq, c2_Eq, c2_NotEq, is_non, isnot_non, is_bl, isnot_bl, is_int, isnot_int, is_str, isnot_str, is_tup, isnot_tup, is_rol, isnot_rol, is_ref, isnot_ref, is_b, isnot_b, in_s, notin_s, b_add, b_sub, b_mul, b_fdiv, b_mod, b_pow, b_addt, b_adds, atI0, atI1, atI2, atI3, slc_t, slc_r, len_s, abs_i, int_i, int_b, min_i, max_i, gcd_i, seq_t, seq_r, r1_i, r2_i, r3_i, a_nm, a_nil, a_cons, vrl_some, vrn_some, put_lget, Option.isSome_some, tru_ref, b_addl, idx_t, idx_r, idx_l, slc_l, len_t, len_r, len_l, tuple_t, tuple_r, tuple_l, list_t, list_r, list_l, app_l, rev_l, pop_l, popat_l, mT_l, seq_l, enu_l, zip_l, rev_i, rev_t, in_t, notin_t, fl_s, fl_i, fl_b, fl_n, inL_nil, inL_ss, inL_ii, List.all_cons, List.all_nil, Bool.and_self, Bool.and_true, Bool.true_and, zip_t, a_t, a_l, sub_l, isTs, isT, Option.map_some, List.length_cons, List.length_nil, Nat.reduceAdd, Nat.reduceSub, Nat.reduceLT, Nat.zero_add, Bool.false_eq_true, Bool.true_eq_false, if_false, if_true, decide_eq_true_eq, Bool.not_true, Bool.not_false, ite_true, ite_false, reduceIte, Bool.not_eq_true', decide_eq_false_iff_not, Int.cast_ofNat_Int, Int.reduceEq, Int.reduceLT, Int.reduceLE, Int.reduceNeg, Int.reduceAdd, Int.reduceSub, Int.reduceMul, Int.reduceToNat, decide_true, decide_false, not_true, not_false, not_true_eq_false, not_false_eq_true, true_and, and_true, eq_self, reduceCtorEq, List.isEmpty_nil, List.isEmpty_cons, List.nil_append, List.cons_append]
    have m12 := m1.trans m2
    obtain ⟨row2, hr2⟩ := m2.2
    refine ite2 (fun hp9 => ?_) fun hp9 => ?_
    · obtain ⟨o, ho⟩ := word7 (by omega) hp9
      intro a na
      simp -dsimp -implicitDefEqProofs only [↓cov3, ↓cov2, ↓cov1, ↓E_var, ↓E_int, ↓E_bl, ↓E_non, ↓E_str, ↓E_glo, ↓E_tup, ↓E_lst, ↓E_bin, ↓E_neg, ↓E_cmp, ↓E_chn, ↓E_and, ↓E_or, ↓E_one, ↓E_not, ↓E_ifx, ↓E_idx, ↓E_slc, ↓E_call, ↓E_bi, ↓E_isi, ↓E_mth, ↓E_lc, ↓Es_nil, ↓Es_cons, ↓O_no, ↓O_some, ↓Q_no, ↓Q_c, ↓C_and, ↓C_or, ↓C_one, ↓C_not, ↓C_cmp, ↓C_chn, ↓C_v, ↓I_seq, ↓I_rng1, ↓I_rng2, ↓I_rng3, ↓I_enu, ↓I_zip, ↓I_rev, ↓S_set, ↓S_asg, ↓S_par2, ↓S_sub, ↓S_expr, ↓S_ret, ↓S_retN, ↓S_ifs, ↓S_for, ↓S_brk, ↓S_cnt, ↓S_pass, ↓S_raise, ↓S_try, ↓S_never, ex_t, ex_f, ↓S_nil, ↓S_cons, ↓kN_nx, ↓kN_rt, ↓kN_bk, ↓kN_ct, ↓kN_ex, ↓kL_nx, ↓kL_rt, ↓kL_bk, ↓kL_ct, ↓kL_ex, ↓kX_nx, ↓kX_rt, ↓kX_bk, ↓kX_ct, ↓kX_ex, ↓kend_nx, ↓kend_rt, ↓kend_bk, ↓kend_ct, ↓kend_ex, vr_some, gt_0, gt_s, stn_0, stn_s, wip_0, wip_s, wips_0, wips_s, neg_i, isi_s, o_i, tru_non, tru_bl, tru_int, tru_tup, tru_rol, c_Eq, c_NotEq, c_Lt, c_LtE, c_Gt, c_GtE, cs_Eq, cs_NotEq, cb_Eq, cb_NotEq, c2_Eq, c2_NotEq, is_non, isnot_non, is_bl, isnot_bl, is_int, isnot_int, is_str, isnot_str, is_tup, isnot_tup, is_rol, isnot_rol, is_ref, isnot_ref, is_b, isnot_b, in_s, notin_s, b_add, b_sub, b_mul, b_fdiv, b_mod, b_pow, b_addt, b_adds, atI0, atI1, atI2, atI3, slc_t, slc_r, len_s, abs_i, int_i, int_b, min_i, max_i, gcd_i, seq_t, seq_r, r1_i, r2_i, r3_i, a_nm, a_nil, a_cons, vrl_some, vrn_some, put_lget, Option.isSome_some, tru_ref, b_addl, idx_t, idx_r, idx_l, slc_l, len_t, len_r, len_l, tuple_t, tuple_r, tuple_l, list_t, list_r, list_l, app_l, rev_l, pop_l, popat_l, mT_l, seq_l, enu_l, zip_l, rev_i, rev_t, in_t, notin_t, fl_s, fl_i, fl_b, fl_n, inL_nil, inL_ss, inL_ii, List.all_cons, List.all_nil, Bool.and_self, Bool.and_true, Bool.true_and, zip_t, a_t, a_l, sub_l, isTs, isT, Option.map_some, List.length_cons, List.length_nil, Nat.reduceAdd, Nat.reduceSub, Nat.reduceLT, Nat.zero_add, Bool.false_eq_true, Bool.true_eq_false, if_false, if_true, decide_eq_true_eq, Bool.not_true, Bool.not_false, ite_true, ite_false, reduceIte, Bool.not_eq_true', decide_eq_false_iff_not, Int.cast_ofNat_Int, Int.reduceEq, Int.reduceLT, Int.reduceLE, Int.reduceNeg, Int.reduceAdd, Int.reduceSub, Int.reduceMul, Int.reduceToNat, decide_true, decide_false, not_true, not_false, not_true_eq_false, not_false_eq_true, true_and, and_true, eq_self, reduceCtorEq, List.isEmpty_nil, List.isEmpty_cons, List.nil_append, List.cons_append, ho]
      have ma : Mn r S (put S2 a (.lst [D.str "add", .str "sub", .str "mul", .str "div", .str "add", .str "mul", .str "sub"])) := m12.new na
      obtain ⟨row3, hr3⟩ := ma.2
      rw [show ((n + 1 + 1 : Nat) : Int) - 1 = ((n + 1 : Nat) : Int) by omega]
      refine ih k _ _ _ r row3 hr3 fun e2 S3 w2 m3 => ?_
      exact h (.bin o e e2) S3 ⟨w, w2⟩ (ma.trans m3)
    · refine ite2 (fun hp10 => ?_) fun hp10 => ?_
      · try simp -dsimp -implicitDefEqProofs only [↓cov3, ↓cov2, ↓cov1, ↓E_var, ↓E_int, ↓E_bl, ↓E_non, ↓E_str, ↓E_glo, ↓E_tup, ↓E_lst, ↓E_bin, ↓E_neg, ↓E_cmp, ↓E_chn, ↓E_and, ↓E_or, ↓E_one, ↓E_not, ↓E_ifx, ↓E_idx, ↓E_slc, ↓E_call, ↓E_bi, ↓E_isi, ↓E_mth, ↓E_lc, ↓Es_nil, ↓Es_cons, ↓O_no, ↓O_some, ↓Q_no, ↓Q_c, ↓C_and, ↓C_or, ↓C_one, ↓C_not, ↓C_cmp, ↓C_chn, ↓C_v, ↓I_seq, ↓I_rng1, ↓I_rng2, ↓I_rng3, ↓I_enu, ↓I_zip, ↓I_rev, ↓S_set, ↓S_asg, ↓S_par2, ↓S_sub, ↓S_expr, ↓S_ret, ↓S_retN, ↓S_ifs, ↓S_for, ↓S_brk, ↓S_cnt, ↓S_pass, ↓S_raise, ↓S_try, ↓S_never, ex_t, ex_f, ↓S_nil, ↓S_cons, ↓kN_nx, ↓kN_rt, ↓kN_bk, ↓kN_ct, ↓kN_ex, ↓kL_nx, ↓kL_rt, ↓kL_bk, ↓kL_ct, ↓kL_ex, ↓kX_nx, ↓kX_rt, ↓kX_bk, ↓kX_ct, ↓kX_ex, ↓kend_nx, ↓kend_rt, ↓kend_bk, ↓kend_ct, ↓kend_ex, vr_some, gt_0, gt_s, stn_0, stn_s, wip_0, wip_s, wips_0, wips_s, neg_i, isi_s, o_i, tru_non, tru_bl, tru_int, tru_tup, tru_rol, c_Eq, c_NotEq, c_Lt, c_LtE, c_Gt, c_GtE, cs_Eq, cs_NotEq, cb_Eq, cb_NotEq, c2_Eq, c2_NotEq, is_non, isnot_non, is_bl, isnot_bl, is_int, isnot_int, is_str, isnot_str, is_tup, isnot_tup, is_rol, isnot_rol, is_ref, isnot_ref, is_b, isnot_b, in_s, notin_s, b_add, b_sub, b_mul, b_fdiv, b_mod, b_pow, b_addt, b_adds, atI0, atI1, atI2, atI3, slc_t, slc_r, len_s, abs_i, int_i, int_b, min_i, max_i, gcd_i, seq_t, seq_r, r1_i, r2_i, r3_i, a_nm, a_nil, a_cons, vrl_some, vrn_some, put_lget, Option.isSome_some, tru_ref, b_addl, idx_t, idx_r, idx_l, slc_l, len_t, len_r, len_l, tuple_t, tuple_r, tuple_l, list_t, list_r, list_l, app_l, rev_l, pop_l, popat_l, mT_l, seq_l, enu_l, zip_l, rev_i, rev_t, in_t, notin_t, fl_s, fl_i, fl_b, fl_n, inL_nil, inL_ss, inL_ii, List.all_cons, List.all_nil, Bool.and_self, Bool.and_true, Bool.true_and, zip_t, a_t, a_l, sub_l, isTs, isT, Option.map_some, List.length_cons, List.length_nil, Nat.reduceAdd, Nat.reduceSub, Nat.reduceLT, Nat.zero_add, Bool.false_eq_true, Bool.true_eq_false, if_false, if_true, decide_eq_true_eq, Bool.not_true, Bool.not_false, ite_true, ite_false, reduceIte, Bool.not_eq_true', decide_eq_false_iff_not, Int.cast_ofNat_Int, Int.reduceEq, Int.reduceLT, Int.reduceLE, Int.reduceNeg, Int.reduceAdd, Int.reduceSub, Int.reduceMul, Int.reduceToNat, decide_true, decide_false, not_true, not_false, not_true_eq_false, not_false_eq_true, true_and, and_true, eq_self, reduceCtorEq, List.isEmpty_nil, List.isEmpty_cons, List.nil_append, List.cons_append]
        exact h (.neg e) S2 w m12
      · try simp -dsimp -implicitDefEqProofs only [↓cov3, ↓cov2, ↓cov1, ↓E_var, ↓E_int, ↓E_bl, ↓E_non, ↓E_str, ↓E_glo, ↓E_tup, ↓E_lst, ↓E_bin, ↓E_neg, ↓E_cmp, ↓E_chn, ↓E_and, ↓E_or, ↓E_one, ↓E_not, ↓E_ifx, ↓E_idx, ↓E_slc, ↓E_call, ↓E_bi, ↓E_isi, ↓E_mth, ↓E_lc, ↓Es_nil, ↓Es_cons, ↓O_no, ↓O_some, ↓Q_no, ↓Q_c, ↓C_and, ↓C_or, ↓C_one, ↓C_not, ↓C_cmp, ↓C_chn, ↓C_v, ↓I_seq, ↓I_rng1, ↓I_rng2, ↓I_rng3, ↓I_enu, ↓I_zip, ↓I_rev, ↓S_set, ↓S_asg, ↓S_par2, ↓S_sub, ↓S_expr, ↓S_ret, ↓S_retN, ↓S_ifs, ↓S_for, ↓S_brk, ↓S_cnt, ↓S_pass, ↓S_raise, ↓S_try, ↓S_never, ex_t, ex_f, ↓S_nil, ↓S_cons, ↓kN_nx, ↓kN_rt, ↓kN_bk, ↓kN_ct, ↓kN_ex, ↓kL_nx, ↓kL_rt, ↓kL_bk, ↓kL_ct, ↓kL_ex, ↓kX_nx, ↓kX_rt, ↓kX_bk, ↓kX_ct, ↓kX_ex, ↓kend_nx, ↓kend_rt, ↓kend_bk, ↓kend_ct, ↓kend_ex, vr_some, gt_0, gt_s, stn_0, stn_s, wip_0, wip_s, wips_0, wips_s, neg_i, isi_s, o_i, tru_non, tru_bl, tru_int, tru_tup, tru_rol, c_Eq, c_NotEq, c_Lt, c_LtE, c_Gt, c_GtE, cs_Eq, cs_NotEq, cb_Eq, cb_NotEq, c2_Eq, c2_NotEq, is_non, isnot_non, is_bl, isnot_bl, is_int, isnot_int, is_str, isnot_str, is_tup, isnot_tup, is_rol, isnot_rol, is_ref, isnot_ref, is_b, isnot_b, in_s, notin_s, b_add, b_sub, b_mul, b_fdiv, b_mod, b_pow, b_addt, b_adds, atI0, atI1, atI2, atI3, slc_t, slc_r, len_s, abs_i, int_i, int_b, min_i, max_i, gcd_i, seq_t, seq_r, r1_i, r2_i, r3_i, a_nm, a_nil, a_cons, vrl_some, vrn_some, put_lget, Option.isSome_some, tru_ref, b_addl, idx_t, idx_r, idx_l, slc_l, len_t, len_r, len_l, tuple_t, tuple_r, tuple_l, list_t, list_r, list_l, app_l, rev_l, pop_l, popat_l, mT_l, seq_l, enu_l, zip_l, rev_i, rev_t, in_t, notin_t, fl_s, fl_i, fl_b, fl_n, inL_nil, inL_ss, inL_ii, List.all_cons, List.all_nil, Bool.and_self, Bool.and_true, Bool.true_and, zip_t, a_t, a_l, sub_l, isTs, isT, Option.map_some, List.length_cons, List.length_nil, Nat.reduceAdd, Nat.reduceSub, Nat.reduceLT, Nat.zero_add, Bool.false_eq_true, Bool.true_eq_false, if_false, if_true, decide_eq_true_eq, Bool.not_true, Bool.not_false, ite_true, ite_false, reduceIte, Bool.not_eq_true', decide_eq_false_iff_not, Int.cast_ofNat_Int, Int.reduceEq, Int.reduceLT, Int.reduceLE, Int.reduceNeg, Int.reduceAdd, Int.reduceSub, Int.reduceMul, Int.reduceToNat, decide_true, decide_false, not_true, not_false, not_true_eq_false, not_false_eq_true, true_and, and_true, eq_self, reduceCtorEq, List.isEmpty_nil, List.isEmpty_cons, List.nil_append, List.cons_append]
        refine ite2 (fun hp11 => ?_) fun hp11 => ?_
        · try simp -dsimp -implicitDefEqProofs only [↓cov3, ↓cov2, ↓cov1, ↓E_var, ↓E_int, ↓E_bl, ↓E_non, ↓E_str, ↓E_glo, ↓E_tup, ↓E_lst, ↓E_bin, ↓E_neg, ↓E_cmp, ↓E_chn, ↓E_and, ↓E_or, ↓E_one, ↓E_not, ↓E_ifx, ↓E_idx, ↓E_slc, ↓E_call, ↓E_bi, ↓E_isi, ↓E_mth, ↓E_lc, ↓Es_nil, ↓Es_cons, ↓O_no, ↓O_some, ↓Q_no, ↓Q_c, ↓C_and, ↓C_or, ↓C_one, ↓C_not, ↓C_cmp, ↓C_chn, ↓C_v, ↓I_seq, ↓I_rng1, ↓I_rng2, ↓I_rng3, ↓I_enu, ↓I_zip, ↓I_rev, ↓S_set, ↓S_asg, ↓S_par2, ↓S_sub, ↓S_expr, ↓S_ret, ↓S_retN, ↓S_ifs, ↓S_for, ↓S_brk, ↓S_cnt, ↓S_pass, ↓S_raise, ↓S_try, ↓S_never, ex_t, ex_f, ↓S_nil, ↓S_cons, ↓kN_nx, ↓kN_rt, ↓kN_bk, ↓kN_ct, ↓kN_ex, ↓kL_nx, ↓kL_rt, ↓kL_bk, ↓kL_ct, ↓kL_ex, ↓kX_nx, ↓kX_rt, ↓kX_bk, ↓kX_ct, ↓kX_ex, ↓kend_nx, ↓kend_rt, ↓kend_bk, ↓kend_ct, ↓kend_ex, vr_some, gt_0, gt_s, stn_0, stn_s, wip_0, wip_s, wips_0, wips_s, neg_i, isi_s, o_i, tru_non, tru_bl, tru_int, tru_tup, tru_rol, c_Eq, c_NotEq, c_Lt, c_LtE, c_Gt, c_GtE, cs_Eq, cs_NotEq, cb_Eq, cb_NotEq, c2_Eq, c2_NotEq, is_non, isnot_non, is_bl, isnot_bl, is_int, isnot_int, is_str, isnot_str, is_tup, isnot_tup, is_rol, isnot_rol, is_ref, isnot_ref, is_b, isnot_b, in_s, notin_s, b_add, b_sub, b_mul, b_fdiv, b_mod, b_pow, b_addt, b_adds, atI0, atI1, atI2, atI3, slc_t, slc_r, len_s, abs_i, int_i, int_b, min_i, max_i, gcd_i, seq_t, seq_r, r1_i, r2_i, r3_i, a_nm, a_nil, a_cons, vrl_some, vrn_some, put_lget, Option.isSome_some, tru_ref, b_addl, idx_t, idx_r, idx_l, slc_l, len_t, len_r, len_l, tuple_t, tuple_r, tuple_l, list_t, list_r, list_l, app_l, rev_l, pop_l, popat_l, mT_l, seq_l, enu_l, zip_l, rev_i, rev_t, in_t, notin_t, fl_s, fl_i, fl_b, fl_n, inL_nil, inL_ss, inL_ii, List.all_cons, List.all_nil, Bool.and_self, Bool.and_true, Bool.true_and, zip_t, a_t, a_l, sub_l, isTs, isT, Option.map_some, List.length_cons, List.length_nil, Nat.reduceAdd, Nat.reduceSub, Nat.reduceLT, Nat.zero_add, Bool.false_eq_true, Bool.true_eq_false, if_false, if_true, decide_eq_true_eq, Bool.not_true, Bool.not_false, ite_true, ite_false, reduceIte, Bool.not_eq_true', decide_eq_false_iff_not, Int.cast_ofNat_Int, Int.reduceEq, Int.reduceLT, Int.reduceLE, Int.reduceNeg, Int.reduceAdd, Int.reduceSub, Int.reduceMul, Int.reduceToNat, decide_true, decide_false, not_true, not_false, not_true_eq_false, not_false_eq_true, true_and, and_true, eq_self, reduceCtorEq, List.isEmpty_nil, List.isEmpty_cons, List.nil_append, List.cons_append]
          refine ⟨mulL (by decide) (by decide), ?_⟩
          refine next_ok hr2 (by decide) fun v S3 v0 v1 m3 => ?_
          simp -dsimp -implicitDefEqProofs only [↓cov3, ↓cov2, ↓cov1, ↓E_var, ↓E_int, ↓E_bl, ↓E_non, ↓E_str, ↓E_glo, ↓E_tup, ↓E_lst, ↓E_bin, ↓E_neg, ↓E_cmp, ↓E_chn, ↓E_and, ↓E_or, ↓E_one, ↓E_not, ↓E_ifx, ↓E_idx, ↓E_slc, ↓E_call, ↓E_bi, ↓E_isi, ↓E_mth, ↓E_lc, ↓Es_nil, ↓Es_cons, ↓O_no, ↓O_some, ↓Q_no, ↓Q_c, ↓C_and, ↓C_or, ↓C_one, ↓C_not, ↓C_cmp, ↓C_chn, ↓C_v, ↓I_seq, ↓I_rng1, ↓I_rng2, ↓I_rng3, ↓I_enu, ↓I_zip, ↓I_rev, ↓S_set, ↓S_asg, ↓S_par2, ↓S_sub, ↓S_expr, ↓S_ret, ↓S_retN, ↓S_ifs, ↓S_for, ↓S_brk, ↓S_cnt, ↓S_pass, ↓S_raise, ↓S_try, ↓S_never, ex_t, ex_f, ↓S_nil, ↓S_cons, ↓kN_nx, ↓kN_rt, ↓kN_bk, ↓kN_ct, ↓kN_ex, ↓kL_nx, ↓kL_rt, ↓kL_bk, ↓kL_ct, ↓kL_ex, ↓kX_nx, ↓kX_rt, ↓kX_bk, ↓kX_ct, ↓kX_ex, ↓kend_nx, ↓kend_rt, ↓kend_bk, ↓kend_ct, ↓kend_ex, vr_some, gt_0, gt_s, stn_0, stn_s, wip_0, wip_s, wips_0, wips_s, neg_i, isi_s, o_i, tru_non, tru_bl, tru_int, tru_tup, tru_rol, c_Eq, c_NotEq, c_Lt, c_LtE, c_Gt, c_GtE, cs_Eq, cs_NotEq, cb_Eq, cb_NotEq, c2_Eq, c2_NotEq, is_non, isnot_non, is_bl, isnot_bl, is_int, isnot_int, is_str, isnot_str, is_tup, isnot_tup, is_rol, isnot_rol, is_ref, isnot_ref, is_b, isnot_b, in_s, notin_s, b_add, b_sub, b_mul, b_fdiv, b_mod, b_pow, b_addt, b_adds, atI0, atI1, atI2, atI3, slc_t, slc_r, len_s, abs_i, int_i, int_b, min_i, max_i, gcd_i, seq_t, seq_r, r1_i, r2_i, r3_i, a_nm, a_nil, a_cons, vrl_some, vrn_some, put_lget, Option.isSome_some, tru_ref, b_addl, idx_t, idx_r, idx_l, slc_l, len_t, len_r, len_l, tuple_t, tuple_r, tuple_l, list_t, list_r, list_l, app_l, rev_l, pop_l, popat_l, mT_l, seq_l, enu_l, zip_l, rev_i, rev_t, in_t, notin_t, fl_s, fl_i, fl_b, fl_n, inL_nil, inL_ss, inL_ii, List.all_cons, List.all_nil, Bool.and_self, Bool.and_true, Bool.true_and, zip_t, a_t, a_l, sub_l, isTs, isT, Option.map_some, List.length_cons, List.length_nil, Nat.reduceAdd, Nat.reduceSub, Nat.reduceLT, Nat.zero_add, Bool.false_eq_true, Bool.true_eq_false, if_false, if_true, decide_eq_true_eq, Bool.not_true, Bool.not_false, ite_true, ite_false, reduceIte, Bool.not_eq_true', decide_eq_false_iff_not, Int.cast_ofNat_Int, Int.reduceEq, Int.reduceLT, Int.reduceLE, Int.reduceNeg, Int.reduceAdd, Int.reduceSub, Int.reduceMul, Int.reduceToNat, decide_true, decide_false, not_true, not_false, not_true_eq_false, not_false_eq_true, true_and, and_true, eq_self, reduceCtorEq, List.isEmpty_nil, List.isEmpty_cons, List.nil_append, List.cons_append]
          exact h (.pow e (v - 4)) S3 ⟨w, by omega⟩ (m12.trans m3)
        · try simp -dsimp -implicitDefEqProofs only [↓cov3, ↓cov2, ↓cov1, ↓E_var, ↓E_int, ↓E_bl, ↓E_non, ↓E_str, ↓E_glo, ↓E_tup, ↓E_lst, ↓E_bin, ↓E_neg, ↓E_cmp, ↓E_chn, ↓E_and, ↓E_or, ↓E_one, ↓E_not, ↓E_ifx, ↓E_idx, ↓E_slc, ↓E_call, ↓E_bi, ↓E_isi, ↓E_mth, ↓E_lc, ↓Es_nil, ↓Es_cons, ↓O_no, ↓O_some, ↓Q_no, ↓Q_c, ↓C_and, ↓C_or, ↓C_one, ↓C_not, ↓C_cmp, ↓C_chn, ↓C_v, ↓I_seq, ↓I_rng1, ↓I_rng2, ↓I_rng3, ↓I_enu, ↓I_zip, ↓I_rev, ↓S_set, ↓S_asg, ↓S_par2, ↓S_sub, ↓S_expr, ↓S_ret, ↓S_retN, ↓S_ifs, ↓S_for, ↓S_brk, ↓S_cnt, ↓S_pass, ↓S_raise, ↓S_try, ↓S_never, ex_t, ex_f, ↓S_nil, ↓S_cons, ↓kN_nx, ↓kN_rt, ↓kN_bk, ↓kN_ct, ↓kN_ex, ↓kL_nx, ↓kL_rt, ↓kL_bk, ↓kL_ct, ↓kL_ex, ↓kX_nx, ↓kX_rt, ↓kX_bk, ↓kX_ct, ↓kX_ex, ↓kend_nx, ↓kend_rt, ↓kend_bk, ↓kend_ct, ↓kend_ex, vr_some, gt_0, gt_s, stn_0, stn_s, wip_0, wip_s, wips_0, wips_s, neg_i, isi_s, o_i, tru_non, tru_bl, tru_int, tru_tup, tru_rol, c_Eq, c_NotEq, c_Lt, c_LtE, c_Gt, c_GtE, cs_Eq, cs_NotEq, cb_Eq, cb_NotEq, c2_Eq, c2_NotEq, is_non, isnot_non, is_bl, isnot_bl, is_int, isnot_int, is_str, isnot_str, is_tup, isnot_tup, is_rol, isnot_rol, is_ref, isnot_ref, is_b, isnot_b, in_s, notin_s, b_add, b_sub, b_mul, b_fdiv, b_mod, b_pow, b_addt, b_adds, atI0, atI1, atI2, atI3, slc_t, slc_r, len_s, abs_i, int_i, int_b, min_i, max_i, gcd_i, seq_t, seq_r, r1_i, r2_i, r3_i, a_nm, a_nil, a_cons, vrl_some, vrn_some, put_lget, Option.isSome_some, tru_ref, b_addl, idx_t, idx_r, idx_l, slc_l, len_t, len_r, len_l, tuple_t, tuple_r, tuple_l, list_t, list_r, list_l, app_l, rev_l, pop_l, popat_l, mT_l, seq_l, enu_l, zip_l, rev_i, rev_t, in_t, notin_t, fl_s, fl_i, fl_b, fl_n, inL_nil, inL_ss, inL_ii, List.all_cons, List.all_nil, Bool.and_self, Bool.and_true, Bool.true_and, zip_t, a_t, a_l, sub_l, isTs, isT, Option.map_some, List.length_cons, List.length_nil, Nat.reduceAdd, Nat.reduceSub, Nat.reduceLT, Nat.zero_add, Bool.false_eq_true, Bool.true_eq_false, if_false, if_true, decide_eq_true_eq, Bool.not_true, Bool.not_false, ite_true, ite_false, reduceIte, Bool.not_eq_true', decide_eq_false_iff_not, Int.cast_ofNat_Int, Int.reduceEq, Int.reduceLT, Int.reduceLE, Int.reduceNeg, Int.reduceAdd, Int.reduceSub, Int.reduceMul, Int.reduceToNat, decide_true, decide_false, not_true, not_false, not_true_eq_false, not_false_eq_true, true_and, and_true, eq_self, reduceCtorEq, List.isEmpty_nil, List.isEmpty_cons, List.nil_append, List.cons_append]
          intro a na
          have ma : Mn r S (put S2 a (.lst [D.str "exp", .str "log"])) := m12.new na
          have : p = 11 ∨ p = 12 := by omega
          rcases this with rfl | rfl
          · try simp -dsimp -implicitDefEqProofs only [↓cov3, ↓cov2, ↓cov1, ↓E_var, ↓E_int, ↓E_bl, ↓E_non, ↓E_str, ↓E_glo, ↓E_tup, ↓E_lst, ↓E_bin, ↓E_neg, ↓E_cmp, ↓E_chn, ↓E_and, ↓E_or, ↓E_one, ↓E_not, ↓E_ifx, ↓E_idx, ↓E_slc, ↓E_call, ↓E_bi, ↓E_isi, ↓E_mth, ↓E_lc, ↓Es_nil, ↓Es_cons, ↓O_no, ↓O_some, ↓Q_no, ↓Q_c, ↓C_and, ↓C_or, ↓C_one, ↓C_not, ↓C_cmp, ↓C_chn, ↓C_v, ↓I_seq, ↓I_rng1, ↓I_rng2, ↓I_rng3, ↓I_enu, ↓I_zip, ↓I_rev, ↓S_set, ↓S_asg, ↓S_par2, ↓S_sub, ↓S_expr, ↓S_ret, ↓S_retN, ↓S_ifs, ↓S_for, ↓S_brk, ↓S_cnt, ↓S_pass, ↓S_raise, ↓S_try, ↓S_never, ex_t, ex_f, ↓S_nil, ↓S_cons, ↓kN_nx, ↓kN_rt, ↓kN_bk, ↓kN_ct, ↓kN_ex, ↓kL_nx, ↓kL_rt, ↓kL_bk, ↓kL_ct, ↓kL_ex, ↓kX_nx, ↓kX_rt, ↓kX_bk, ↓kX_ct, ↓kX_ex, ↓kend_nx, ↓kend_rt, ↓kend_bk, ↓kend_ct, ↓kend_ex, vr_some, gt_0, gt_s, stn_0, stn_s, wip_0, wip_s, wips_0, wips_s, neg_i, isi_s, o_i, tru_non, tru_bl, tru_int, tru_tup, tru_rol, c_Eq, c_NotEq, c_Lt, c_LtE, c_Gt, c_GtE, cs_Eq, cs_NotEq, cb_Eq, cb_NotEq, c2_Eq, c2_NotEq, is_non, isnot_non, is_bl, isnot_bl, is_int, isnot_int, is_str, isnot_str, is_tup, isnot_tup, is_rol, isnot_rol, is_ref, isnot_ref, is_b, isnot_b, in_s, notin_s, b_add, b_sub, b_mul, b_fdiv, b_mod, b_pow, b_addt, b_adds, atI0, atI1, atI2, atI3, slc_t, slc_r, len_s, abs_i, int_i, int_b, min_i, max_i, gcd_i, seq_t, seq_r, r1_i, r2_i, r3_i, a_nm, a_nil, a_cons, vrl_some, vrn_some, put_lget, Option.isSome_some, tru_ref, b_addl, idx_t, idx_r, idx_l, slc_l, len_t, len_r, len_l, tuple_t, tuple_r, tuple_l, list_t, list_r, list_l, app_l, rev_l, pop_l, popat_l, mT_l, seq_l, enu_l, zip_l, rev_i, rev_t, in_t, notin_t, fl_s, fl_i, fl_b, fl_n, inL_nil, inL_ss, inL_ii, List.all_cons, List.all_nil, Bool.and_self, Bool.and_true, Bool.true_and, zip_t, a_t, a_l, sub_l, isTs, isT, Option.map_some, List.length_cons, List.length_nil, Nat.reduceAdd, Nat.reduceSub, Nat.reduceLT, Nat.zero_add, Bool.false_eq_true, Bool.true_eq_false, if_false, if_true, decide_eq_true_eq, Bool.not_true, Bool.not_false, ite_true, ite_false, reduceIte, Bool.not_eq_true', decide_eq_false_iff_not, Int.cast_ofNat_Int, Int.reduceEq, Int.reduceLT, Int.reduceLE, Int.reduceNeg, Int.reduceAdd, Int.reduceSub, Int.reduceMul, Int.reduceToNat, decide_true, decide_false, not_true, not_false, not_true_eq_false, not_false_eq_true, true_and, and_true, eq_self, reduceCtorEq, List.isEmpty_nil, List.isEmpty_cons, List.nil_append, List.cons_append]
            exact h (.exp e) _ w ma
          · try simp -dsimp -implicitDefEqProofs only [↓cov3, ↓cov2, ↓cov1, ↓E_var, ↓E_int, ↓E_bl, ↓E_non, ↓E_str, ↓E_glo, ↓E_tup, ↓E_lst, ↓E_bin, ↓E_neg, ↓E_cmp, ↓E_chn, ↓E_and, ↓E_or, ↓E_one, ↓E_not, ↓E_ifx, ↓E_idx, ↓E_slc, ↓E_call, ↓E_bi, ↓E_isi, ↓E_mth, ↓E_lc, ↓Es_nil, ↓Es_cons, ↓O_no, ↓O_some, ↓Q_no, ↓Q_c, ↓C_and, ↓C_or, ↓C_one, ↓C_not, ↓C_cmp, ↓C_chn, ↓C_v, ↓I_seq, ↓I_rng1, ↓I_rng2, ↓I_rng3, ↓I_enu, ↓I_zip, ↓I_rev, ↓S_set, ↓S_asg, ↓S_par2, ↓S_sub, ↓S_expr, ↓S_ret, ↓S_retN, ↓S_ifs, ↓S_for, ↓S_brk, ↓S_cnt, ↓S_pass, ↓S_raise, ↓S_try, ↓S_never, ex_t, ex_f, ↓S_nil, ↓S_cons, ↓kN_nx, ↓kN_rt, ↓kN_bk, ↓kN_ct, ↓kN_ex, ↓kL_nx, ↓kL_rt, ↓kL_bk, ↓kL_ct, ↓kL_ex, ↓kX_nx, ↓kX_rt, ↓kX_bk, ↓kX_ct, ↓kX_ex, ↓kend_nx, ↓kend_rt, ↓kend_bk, ↓kend_ct, ↓kend_ex, vr_some, gt_0, gt_s, stn_0, stn_s, wip_0, wip_s, wips_0, wips_s, neg_i, isi_s, o_i, tru_non, tru_bl, tru_int, tru_tup, tru_rol, c_Eq, c_NotEq, c_Lt, c_LtE, c_Gt, c_GtE, cs_Eq, cs_NotEq, cb_Eq, cb_NotEq, c2_Eq, c2_NotEq, is_non, isnot_non, is_bl, isnot_bl, is_int, isnot_int, is_str, isnot_str, is_tup, isnot_tup, is_rol, isnot_rol, is_ref, isnot_ref, is_b, isnot_b, in_s, notin_s, b_add, b_sub, b_mul, b_fdiv, b_mod, b_pow, b_addt, b_adds, atI0, atI1, atI2, atI3, slc_t, slc_r, len_s, abs_i, int_i, int_b, min_i, max_i, gcd_i, seq_t, seq_r, r1_i, r2_i, r3_i, a_nm, a_nil, a_cons, vrl_some, vrn_some, put_lget, Option.isSome_some, tru_ref, b_addl, idx_t, idx_r, idx_l, slc_l, len_t, len_r, len_l, tuple_t, tuple_r, tuple_l, list_t, list_r, list_l, app_l, rev_l, pop_l, popat_l, mT_l, seq_l, enu_l, zip_l, rev_i, rev_t, in_t, notin_t, fl_s, fl_i, fl_b, fl_n, inL_nil, inL_ss, inL_ii, List.all_cons, List.all_nil, Bool.and_self, Bool.and_true, Bool.true_and, zip_t, a_t, a_l, sub_l, isTs, isT, Option.map_some, List.length_cons, List.length_nil, Nat.reduceAdd, Nat.reduceSub, Nat.reduceLT, Nat.zero_add, Bool.false_eq_true, Bool.true_eq_false, if_false, if_true, decide_eq_true_eq, Bool.not_true, Bool.not_false, ite_true, ite_false, reduceIte, Bool.not_eq_true', decide_eq_false_iff_not, Int.cast_ofNat_Int, Int.reduceEq, Int.reduceLT, Int.reduceLE, Int.reduceNeg, Int.reduceAdd, Int.reduceSub, Int.reduceMul, Int.reduceToNat, decide_true, decide_false, not_true, not_false, not_true_eq_false, not_false_eq_true, true_and, and_true, eq_self, reduceCtorEq, List.isEmpty_nil, List.isEmpty_cons, List.nil_append, List.cons_append]
            exact h (.log e) _ w ma
/-! the program's powers -/
theorem sq_pow (a : Rat) : ∀ m : Nat, (a * a) ^ m = a ^ (2 * m)
  | 0 => by rw [Rat.pow_zero, Nat.mul_zero, Rat.pow_zero]
  | m + 1 => by
    rw [Rat.pow_succ, sq_pow a m, show 2 * (m + 1) = 2 * m + 1 + 1 by omega, Rat.pow_succ, Rat.pow_succ]
    grind
theorem rpow_pos {a : Rat} {n : Nat} (ha : QB a 1048576) (hz : n ≤ 5) (h : Q (QD (a ^ n)) S) : semF G T (k + 3) "rpow" [QD a, .int n] S Q E := by
  refine call_of t_rpow rfl ?_
  simp -dsimp -implicitDefEqProofs only [ent, List.map_cons, List.map_nil, List.length_cons, List.length_nil, Nat.reduceAdd, Nat.reduceSub, Nat.zero_add, List.replicate, List.cons_append, List.nil_append, F_rpow]
  simp -dsimp -implicitDefEqProofs only [↓cov3, ↓cov2, ↓cov1, ↓E_var, ↓E_int, ↓E_bl, ↓E_non, ↓E_str, ↓E_glo, ↓E_tup, ↓E_lst, ↓E_bin, ↓E_neg, ↓E_cmp, ↓E_chn, ↓E_and, ↓E_or, ↓E_one, ↓E_not, ↓E_ifx, ↓E_idx, ↓E_slc, ↓E_call, ↓E_bi, ↓E_isi, ↓E_mth, ↓E_lc, ↓Es_nil, ↓Es_cons, ↓O_no, ↓O_some, ↓Q_no, ↓Q_c, ↓C_and, ↓C_or, ↓C_one, ↓C_not, ↓C_cmp, ↓C_chn, ↓C_v, ↓I_seq, ↓I_rng1, ↓I_rng2, ↓I_rng3, ↓I_enu, ↓I_zip, ↓I_rev, ↓S_set, ↓S_asg, ↓S_par2, ↓S_sub, ↓S_expr, ↓S_ret, ↓S_retN, ↓S_ifs, ↓S_for, ↓S_brk, ↓S_cnt, ↓S_pass, ↓S_raise, ↓S_try, ↓S_never, ex_t, ex_f, ↓S_nil, ↓S_cons, ↓kN_nx, ↓kN_rt, ↓kN_bk, ↓kN_ct, ↓kN_ex, ↓kL_nx, ↓kL_rt, ↓kL_bk, ↓kL_ct, ↓kL_ex, ↓kX_nx, ↓kX_rt, ↓kX_bk, ↓kX_ct, ↓kX_ex, ↓kend_nx, ↓kend_rt, ↓kend_bk, ↓kend_ct, ↓kend_ex, vr_some, gt_0, gt_s, stn_0, stn_s, wip_0, wip_s, wips_0, wips_s, neg_i, isi_s, o_i, tru_non, tru_bl, tru_int, tru_tup, tru_rol, c_Eq, c_NotEq, c_Lt, c_LtE, c_Gt, c_GtE, cs_Eq, cs_NotEq, cb_Eq, cb_NotEq, c2_Eq, c2_NotEq, is_non, isnot_non, is_bl, isnot_bl, is_int, isnot_int, is_str, isnot_str, is_tup, isnot_tup, is_rol, isnot_rol, is_ref, isnot_ref, is_b, isnot_b, in_s, notin_s, b_add, b_sub, b_mul, b_fdiv, b_mod, b_pow, b_addt, b_adds, atI0, atI1, atI2, atI3, slc_t, slc_r, len_s, abs_i, int_i, int_b, min_i, max_i, gcd_i, seq_t, seq_r, r1_i, r2_i, r3_i, a_nm, a_nil, a_cons, vrl_some, vrn_some, put_lget, Option.isSome_some, tru_ref, b_addl, idx_t, idx_r, idx_l, slc_l, len_t, len_r, len_l, tuple_t, tuple_r, tuple_l, list_t, list_r, list_l, app_l, rev_l, pop_l, popat_l, mT_l, seq_l, enu_l, zip_l, rev_i, rev_t, in_t, notin_t, fl_s, fl_i, fl_b, fl_n, inL_nil, inL_ss, inL_ii, List.all_cons, List.all_nil, Bool.and_self, Bool.and_true, Bool.true_and, zip_t, a_t, a_l, sub_l, isTs, isT, Option.map_some, List.length_cons, List.length_nil, Nat.reduceAdd, Nat.reduceSub, Nat.reduceLT, Nat.zero_add, Bool.false_eq_true, Bool.true_eq_false, if_false, if_true, decide_eq_true_eq, Bool.not_true, Bool.not_false, ite_true, ite_false, reduceIte, Bool.not_eq_true', decide_eq_false_iff_not, Int.cast_ofNat_Int, Int.reduceEq, Int.reduceLT, Int.reduceLE, Int.reduceNeg, Int.reduceAdd, Int.reduceSub, Int.reduceMul, Int.reduceToNat, decide_true, decide_false, not_true, not_false, not_true_eq_false, not_false_eq_true, true_and, and_true, eq_self, reduceCtorEq, List.isEmpty_nil, List.isEmpty_cons, List.nil_append, List.cons_append]
  refine ite2 (fun h1 => by omega) fun _ => ?_
  simp -dsimp -implicitDefEqProofs only [↓cov3, ↓cov2, ↓cov1, ↓E_var, ↓E_int, ↓E_bl, ↓E_non, ↓E_str, ↓E_glo, ↓E_tup, ↓E_lst, ↓E_bin, ↓E_neg, ↓E_cmp, ↓E_chn, ↓E_and, ↓E_or, ↓E_one, ↓E_not, ↓E_ifx, ↓E_idx, ↓E_slc, ↓E_call, ↓E_bi, ↓E_isi, ↓E_mth, ↓E_lc, ↓Es_nil, ↓Es_cons, ↓O_no, ↓O_some, ↓Q_no, ↓Q_c, ↓C_and, ↓C_or, ↓C_one, ↓C_not, ↓C_cmp, ↓C_chn, ↓C_v, ↓I_seq, ↓I_rng1, ↓I_rng2, ↓I_rng3, ↓I_enu, ↓I_zip, ↓I_rev, ↓S_set, ↓S_asg, ↓S_par2, ↓S_sub, ↓S_expr, ↓S_ret, ↓S_retN, ↓S_ifs, ↓S_for, ↓S_brk, ↓S_cnt, ↓S_pass, ↓S_raise, ↓S_try, ↓S_never, ex_t, ex_f, ↓S_nil, ↓S_cons, ↓kN_nx, ↓kN_rt, ↓kN_bk, ↓kN_ct, ↓kN_ex, ↓kL_nx, ↓kL_rt, ↓kL_bk, ↓kL_ct, ↓kL_ex, ↓kX_nx, ↓kX_rt, ↓kX_bk, ↓kX_ct, ↓kX_ex, ↓kend_nx, ↓kend_rt, ↓kend_bk, ↓kend_ct, ↓kend_ex, vr_some, gt_0, gt_s, stn_0, stn_s, wip_0, wip_s, wips_0, wips_s, neg_i, isi_s, o_i, tru_non, tru_bl, tru_int, tru_tup, tru_rol, c_Eq, c_NotEq, c_Lt, c_LtE, c_Gt, c_GtE, cs_Eq, cs_NotEq, cb_Eq, cb_NotEq, c2_Eq, c2_NotEq, is_non, isnot_non, is_bl, isnot_bl, is_int, isnot_int, is_str, isnot_str, is_tup, isnot_tup, is_rol, isnot_rol, is_ref, isnot_ref, is_b, isnot_b, in_s, notin_s, b_add, b_sub, b_mul, b_fdiv, b_mod, b_pow, b_addt, b_adds, atI0, atI1, atI2, atI3, slc_t, slc_r, len_s, abs_i, int_i, int_b, min_i, max_i, gcd_i, seq_t, seq_r, r1_i, r2_i, r3_i, a_nm, a_nil, a_cons, vrl_some, vrn_some, put_lget, Option.isSome_some, tru_ref, b_addl, idx_t, idx_r, idx_l, slc_l, len_t, len_r, len_l, tuple_t, tuple_r, tuple_l, list_t, list_r, list_l, app_l, rev_l, pop_l, popat_l, mT_l, seq_l, enu_l, zip_l, rev_i, rev_t, in_t, notin_t, fl_s, fl_i, fl_b, fl_n, inL_nil, inL_ss, inL_ii, List.all_cons, List.all_nil, Bool.and_self, Bool.and_true, Bool.true_and, zip_t, a_t, a_l, sub_l, isTs, isT, Option.map_some, List.length_cons, List.length_nil, Nat.reduceAdd, Nat.reduceSub, Nat.reduceLT, Nat.zero_add, Bool.false_eq_true, Bool.true_eq_false, if_false, if_true, decide_eq_true_eq, Bool.not_true, Bool.not_false, ite_true, ite_false, reduceIte, Bool.not_eq_true', decide_eq_false_iff_not, Int.cast_ofNat_Int, Int.reduceEq, Int.reduceLT, Int.reduceLE, Int.reduceNeg, Int.reduceAdd, Int.reduceSub, Int.reduceMul, Int.reduceToNat, decide_true, decide_false, not_true, not_false, not_true_eq_false, not_false_eq_true, true_and, and_true, eq_self, reduceCtorEq, List.isEmpty_nil, List.isEmpty_cons, List.nil_append, List.cons_append, show G.cs "ONE" = some (.tup [.int 1, .int 1]) from rfl]
  refine whl_by (α := Rat × Rat × Nat) (fun x => [some (QD x.1), some (.int x.2.2), some (QD x.2.1)])
    (fun x S' => S' = S ∧ x.2.1 * x.1 ^ x.2.2 = a ^ n ∧ ∃ i, QB x.1 (1048576 * 2 ^ i) ∧ QB x.2.1 (1048576 * 2 ^ i) ∧ x.2.2 * 2 ^ i ≤ n) (fun x => x.2.2) (a, 1, n) ?_ ⟨rfl, by rw [Rat.one_mul], 0, ha, QB.one.le (by decide), by dsimp only; omega⟩ ?_
  · rfl
  · rintro ⟨b, o, j⟩ S' N ⟨rfl, hI, i, hb, ho, hj⟩ hN
    dsimp only at hI hb ho hj ⊢
    simp -dsimp -implicitDefEqProofs only [↓cov3, ↓cov2, ↓cov1, ↓E_var, ↓E_int, ↓E_bl, ↓E_non, ↓E_str, ↓E_glo, ↓E_tup, ↓E_lst, ↓E_bin, ↓E_neg, ↓E_cmp, ↓E_chn, ↓E_and, ↓E_or, ↓E_one, ↓E_not, ↓E_ifx, ↓E_idx, ↓E_slc, ↓E_call, ↓E_bi, ↓E_isi, ↓E_mth, ↓E_lc, ↓Es_nil, ↓Es_cons, ↓O_no, ↓O_some, ↓Q_no, ↓Q_c, ↓C_and, ↓C_or, ↓C_one, ↓C_not, ↓C_cmp, ↓C_chn, ↓C_v, ↓I_seq, ↓I_rng1, ↓I_rng2, ↓I_rng3, ↓I_enu, ↓I_zip, ↓I_rev, ↓S_set, ↓S_asg, ↓S_par2, ↓S_sub, ↓S_expr, ↓S_ret, ↓S_retN, ↓S_ifs, ↓S_for, ↓S_brk, ↓S_cnt, ↓S_pass, ↓S_raise, ↓S_try, ↓S_never, ex_t, ex_f, ↓S_nil, ↓S_cons, ↓kN_nx, ↓kN_rt, ↓kN_bk, ↓kN_ct, ↓kN_ex, ↓kL_nx, ↓kL_rt, ↓kL_bk, ↓kL_ct, ↓kL_ex, ↓kX_nx, ↓kX_rt, ↓kX_bk, ↓kX_ct, ↓kX_ex, ↓kend_nx, ↓kend_rt, ↓kend_bk, ↓kend_ct, ↓kend_ex, vr_some, gt_0, gt_s, stn_0, stn_s, wip_0, wip_s, wips_0, wips_s, neg_i, isi_s, o_i, tru_non, tru_bl, tru_int, tru_tup, tru_rol, c_Eq, c_NotEq, c_Lt, c_LtE, c_Gt, c_GtE, cs_Eq, cs_NotEq, cb_Eq, cb_NotEq, c2_Eq, c2_NotEq, is_non, isnot_non, is_bl, isnot_bl, is_int, isnot_int, is_str, isnot_str, is_tup, isnot_tup, is_rol, isnot_rol, is_ref, isnot_ref, is_b, isnot_b, in_s, notin_s, b_add, b_sub, b_mul, b_fdiv, b_mod, b_pow, b_addt, b_adds, atI0, atI1, atI2, atI3, slc_t, slc_r, len_s, abs_i, int_i, int_b, min_i, max_i, gcd_i, seq_t, seq_r, r1_i, r2_i, r3_i, a_nm, a_nil, a_cons, vrl_some, vrn_some, put_lget, Option.isSome_some, tru_ref, b_addl, idx_t, idx_r, idx_l, slc_l, len_t, len_r, len_l, tuple_t, tuple_r, tuple_l, list_t, list_r, list_l, app_l, rev_l, pop_l, popat_l, mT_l, seq_l, enu_l, zip_l, rev_i, rev_t, in_t, notin_t, fl_s, fl_i, fl_b, fl_n, inL_nil, inL_ss, inL_ii, List.all_cons, List.all_nil, Bool.and_self, Bool.and_true, Bool.true_and, zip_t, a_t, a_l, sub_l, isTs, isT, Option.map_some, List.length_cons, List.length_nil, Nat.reduceAdd, Nat.reduceSub, Nat.reduceLT, Nat.zero_add, Bool.false_eq_true, Bool.true_eq_false, if_false, if_true, decide_eq_true_eq, Bool.not_true, Bool.not_false, ite_true, ite_false, reduceIte, Bool.not_eq_true', decide_eq_false_iff_not, Int.cast_ofNat_Int, Int.reduceEq, Int.reduceLT, Int.reduceLE, Int.reduceNeg, Int.reduceAdd, Int.reduceSub, Int.reduceMul, Int.reduceToNat, decide_true, decide_false, not_true, not_false, not_true_eq_false, not_false_eq_true, true_and, and_true, eq_self, reduceCtorEq, List.isEmpty_nil, List.isEmpty_cons, List.nil_append, List.cons_append]
    refine ite2 (fun h1 => ?_) fun h1 => ?_
    · have hi : 2 ^ i ≤ 5 := by
        have h1 : 1 ≤ j := by omega
        have := Nat.mul_le_mul_right (2 ^ i) h1
        omega
      have hi2 : 1048576 * 2 ^ i + 1048576 * 2 ^ i ≤ 134217728 := by omega
      have e2 : 1048576 * 2 ^ (i + 1) = 1048576 * 2 ^ i + 1048576 * 2 ^ i := by rw [Nat.pow_succ]; omega
      have em : (j : Int).fmod 2 = ((j % 2 : Nat) : Int) := by rw [Int.fmod_eq_emod_of_nonneg _ (by decide)]; rfl
      have ed : (j : Int).fdiv 2 = ((j / 2 : Nat) : Int) := by rw [Int.fdiv_eq_ediv_of_nonneg _ (by decide)]; rfl
      have hj2 : j / 2 * 2 ^ (i + 1) ≤ n := by
        rw [Nat.pow_succ, Nat.mul_comm (2 ^ i) 2, ← Nat.mul_assoc]
        exact Nat.le_trans (Nat.mul_le_mul_right _ (Nat.div_mul_le_self j 2)) hj
      refine ⟨by decide, ?_⟩
      rw [em]
      refine ite2 (fun h2 => ?_) fun h2 => ?_
      · refine rmul_ok t_rmul t_rational trivial ho hb hi2 ?_
        simp -dsimp -implicitDefEqProofs only [↓cov3, ↓cov2, ↓cov1, ↓E_var, ↓E_int, ↓E_bl, ↓E_non, ↓E_str, ↓E_glo, ↓E_tup, ↓E_lst, ↓E_bin, ↓E_neg, ↓E_cmp, ↓E_chn, ↓E_and, ↓E_or, ↓E_one, ↓E_not, ↓E_ifx, ↓E_idx, ↓E_slc, ↓E_call, ↓E_bi, ↓E_isi, ↓E_mth, ↓E_lc, ↓Es_nil, ↓Es_cons, ↓O_no, ↓O_some, ↓Q_no, ↓Q_c, ↓C_and, ↓C_or, ↓C_one, ↓C_not, ↓C_cmp, ↓C_chn, ↓C_v, ↓I_seq, ↓I_rng1, ↓I_rng2, ↓I_rng3, ↓I_enu, ↓I_zip, ↓I_rev, ↓S_set, ↓S_asg, ↓S_par2, ↓S_sub, ↓S_expr, ↓S_ret, ↓S_retN, ↓S_ifs, ↓S_for, ↓S_brk, ↓S_cnt, ↓S_pass, ↓S_raise, ↓S_try, ↓S_never, ex_t, ex_f, ↓S_nil, ↓S_cons, ↓kN_nx, ↓kN_rt, ↓kN_bk, ↓kN_ct, ↓kN_ex, ↓kL_nx, ↓kL_rt, ↓kL_bk, ↓kL_ct, ↓kL_ex, ↓kX_nx, ↓kX_rt, ↓kX_bk, ↓kX_ct, ↓kX_ex, ↓kend_nx, ↓kend_rt, ↓kend_bk, ↓kend_ct, ↓kend_ex, vr_some, gt_0, gt_s, stn_0, stn_s, wip_0, wip_s, wips_0, wips_s, neg_i, isi_s, o_i, tru_non, tru_bl, tru_int, tru_tup, tru_rol, c_Eq, c_NotEq, c_Lt, c_LtE, c_Gt, c_GtE, cs_Eq, cs_NotEq, cb_Eq, cb_NotEq, c2_Eq, c2_NotEq, is_non, isnot_non, is_bl, isnot_bl, is_int, isnot_int, is_str, isnot_str, is_tup, isnot_tup, is_rol, isnot_rol, is_ref, isnot_ref, is_b, isnot_b, in_s, notin_s, b_add, b_sub, b_mul, b_fdiv, b_mod, b_pow, b_addt, b_adds, atI0, atI1, atI2, atI3, slc_t, slc_r, len_s, abs_i, int_i, int_b, min_i, max_i, gcd_i, seq_t, seq_r, r1_i, r2_i, r3_i, a_nm, a_nil, a_cons, vrl_some, vrn_some, put_lget, Option.isSome_some, tru_ref, b_addl, idx_t, idx_r, idx_l, slc_l, len_t, len_r, len_l, tuple_t, tuple_r, tuple_l, list_t, list_r, list_l, app_l, rev_l, pop_l, popat_l, mT_l, seq_l, enu_l, zip_l, rev_i, rev_t, in_t, notin_t, fl_s, fl_i, fl_b, fl_n, inL_nil, inL_ss, inL_ii, List.all_cons, List.all_nil, Bool.and_self, Bool.and_true, Bool.true_and, zip_t, a_t, a_l, sub_l, isTs, isT, Option.map_some, List.length_cons, List.length_nil, Nat.reduceAdd, Nat.reduceSub, Nat.reduceLT, Nat.zero_add, Bool.false_eq_true, Bool.true_eq_false, if_false, if_true, decide_eq_true_eq, Bool.not_true, Bool.not_false, ite_true, ite_false, reduceIte, Bool.not_eq_true', decide_eq_false_iff_not, Int.cast_ofNat_Int, Int.reduceEq, Int.reduceLT, Int.reduceLE, Int.reduceNeg, Int.reduceAdd, Int.reduceSub, Int.reduceMul, Int.reduceToNat, decide_true, decide_false, not_true, not_false, not_true_eq_false, not_false_eq_true, true_and, and_true, eq_self, reduceCtorEq, List.isEmpty_nil, List.isEmpty_cons, List.nil_append, List.cons_append]
        refine rmul_ok t_rmul t_rational trivial hb hb hi2 ?_
        simp -dsimp -implicitDefEqProofs only [↓cov3, ↓cov2, ↓cov1, ↓E_var, ↓E_int, ↓E_bl, ↓E_non, ↓E_str, ↓E_glo, ↓E_tup, ↓E_lst, ↓E_bin, ↓E_neg, ↓E_cmp, ↓E_chn, ↓E_and, ↓E_or, ↓E_one, ↓E_not, ↓E_ifx, ↓E_idx, ↓E_slc, ↓E_call, ↓E_bi, ↓E_isi, ↓E_mth, ↓E_lc, ↓Es_nil, ↓Es_cons, ↓O_no, ↓O_some, ↓Q_no, ↓Q_c, ↓C_and, ↓C_or, ↓C_one, ↓C_not, ↓C_cmp, ↓C_chn, ↓C_v, ↓I_seq, ↓I_rng1, ↓I_rng2, ↓I_rng3, ↓I_enu, ↓I_zip, ↓I_rev, ↓S_set, ↓S_asg, ↓S_par2, ↓S_sub, ↓S_expr, ↓S_ret, ↓S_retN, ↓S_ifs, ↓S_for, ↓S_brk, ↓S_cnt, ↓S_pass, ↓S_raise, ↓S_try, ↓S_never, ex_t, ex_f, ↓S_nil, ↓S_cons, ↓kN_nx, ↓kN_rt, ↓kN_bk, ↓kN_ct, ↓kN_ex, ↓kL_nx, ↓kL_rt, ↓kL_bk, ↓kL_ct, ↓kL_ex, ↓kX_nx, ↓kX_rt, ↓kX_bk, ↓kX_ct, ↓kX_ex, ↓kend_nx, ↓kend_rt, ↓kend_bk, ↓kend_ct, ↓kend_ex, vr_some, gt_0, gt_s, stn_0, stn_s, wip_0, wip_s, wips_0, wips_s, neg_i, isi_s, o_i, tru_non, tru_bl, tru_int, tru_tup, tru_rol, c_Eq, c_NotEq, c_Lt, c_LtE, c_Gt, c_GtE, cs_Eq, cs_NotEq, cb_Eq, cb_NotEq, c2_Eq, c2_NotEq, is_non, isnot_non, is_bl, isnot_bl, is_int, isnot_int, is_str, isnot_str, is_tup, isnot_tup, is_rol, isnot_rol, is_ref, isnot_ref, is_b, isnot_b, in_s, notin_s, b_add, b_sub, b_mul, b_fdiv, b_mod, b_pow, b_addt, b_adds, atI0, atI1, atI2, atI3, slc_t, slc_r, len_s, abs_i, int_i, int_b, min_i, max_i, gcd_i, seq_t, seq_r, r1_i, r2_i, r3_i, a_nm, a_nil, a_cons, vrl_some, vrn_some, put_lget, Option.isSome_some, tru_ref, b_addl, idx_t, idx_r, idx_l, slc_l, len_t, len_r, len_l, tuple_t, tuple_r, tuple_l, list_t, list_r, list_l, app_l, rev_l, pop_l, popat_l, mT_l, seq_l, enu_l, zip_l, rev_i, rev_t, in_t, notin_t, fl_s, fl_i, fl_b, fl_n, inL_nil, inL_ss, inL_ii, List.all_cons, List.all_nil, Bool.and_self, Bool.and_true, Bool.true_and, zip_t, a_t, a_l, sub_l, isTs, isT, Option.map_some, List.length_cons, List.length_nil, Nat.reduceAdd, Nat.reduceSub, Nat.reduceLT, Nat.zero_add, Bool.false_eq_true, Bool.true_eq_false, if_false, if_true, decide_eq_true_eq, Bool.not_true, Bool.not_false, ite_true, ite_false, reduceIte, Bool.not_eq_true', decide_eq_false_iff_not, Int.cast_ofNat_Int, Int.reduceEq, Int.reduceLT, Int.reduceLE, Int.reduceNeg, Int.reduceAdd, Int.reduceSub, Int.reduceMul, Int.reduceToNat, decide_true, decide_false, not_true, not_false, not_true_eq_false, not_false_eq_true, true_and, and_true, eq_self, reduceCtorEq, List.isEmpty_nil, List.isEmpty_cons, List.nil_append, List.cons_append]
        rw [ed]
        refine ⟨⟨by decide, .inr trivial⟩, hN (b * b, o * b, j / 2) S' ⟨rfl, ?_, i + 1, ?_, ?_, hj2⟩ ?_⟩
        · rw [← hI]
          have ej : j = 2 * (j / 2) + 1 := by omega
          conv => rhs; rw [ej]
          rw [sq_pow, Rat.pow_succ]
          grind
        · exact QB.mul hb hb (by omega)
        · exact QB.mul ho hb (by omega)
        · dsimp only; omega
      · refine rmul_ok t_rmul t_rational trivial hb hb hi2 ?_
        simp -dsimp -implicitDefEqProofs only [↓cov3, ↓cov2, ↓cov1, ↓E_var, ↓E_int, ↓E_bl, ↓E_non, ↓E_str, ↓E_glo, ↓E_tup, ↓E_lst, ↓E_bin, ↓E_neg, ↓E_cmp, ↓E_chn, ↓E_and, ↓E_or, ↓E_one, ↓E_not, ↓E_ifx, ↓E_idx, ↓E_slc, ↓E_call, ↓E_bi, ↓E_isi, ↓E_mth, ↓E_lc, ↓Es_nil, ↓Es_cons, ↓O_no, ↓O_some, ↓Q_no, ↓Q_c, ↓C_and, ↓C_or, ↓C_one, ↓C_not, ↓C_cmp, ↓C_chn, ↓C_v, ↓I_seq, ↓I_rng1, ↓I_rng2, ↓I_rng3, ↓I_enu, ↓I_zip, ↓I_rev, ↓S_set, ↓S_asg, ↓S_par2, ↓S_sub, ↓S_expr, ↓S_ret, ↓S_retN, ↓S_ifs, ↓S_for, ↓S_brk, ↓S_cnt, ↓S_pass, ↓S_raise, ↓S_try, ↓S_never, ex_t, ex_f, ↓S_nil, ↓S_cons, ↓kN_nx, ↓kN_rt, ↓kN_bk, ↓kN_ct, ↓kN_ex, ↓kL_nx, ↓kL_rt, ↓kL_bk, ↓kL_ct, ↓kL_ex, ↓kX_nx, ↓kX_rt, ↓kX_bk, ↓kX_ct, ↓kX_ex, ↓kend_nx, ↓kend_rt, ↓kend_bk, ↓kend_ct, ↓kend_ex, vr_some, gt_0, gt_s, stn_0, stn_s, wip_0, wip_s, wips_0, wips_s, neg_i, isi_s, o_i, tru_non, tru_bl, tru_int, tru_tup, tru_rol, c_Eq, c_NotEq, c_Lt, c_LtE, c_Gt, c_GtE, cs_Eq, cs_NotEq, cb_Eq, cb_NotEq, c2_Eq, c2_NotEq, is_non, isnot_non, is_bl, isnot_bl, is_int, isnot_int, is_str, isnot_str, is_tup, isnot_tup, is_rol, isnot_rol, is_ref, isnot_ref, is_b, isnot_b, in_s, notin_s, b_add, b_sub, b_mul, b_fdiv, b_mod, b_pow, b_addt, b_adds, atI0, atI1, atI2, atI3, slc_t, slc_r, len_s, abs_i, int_i, int_b, min_i, max_i, gcd_i, seq_t, seq_r, r1_i, r2_i, r3_i, a_nm, a_nil, a_cons, vrl_some, vrn_some, put_lget, Option.isSome_some, tru_ref, b_addl, idx_t, idx_r, idx_l, slc_l, len_t, len_r, len_l, tuple_t, tuple_r, tuple_l, list_t, list_r, list_l, app_l, rev_l, pop_l, popat_l, mT_l, seq_l, enu_l, zip_l, rev_i, rev_t, in_t, notin_t, fl_s, fl_i, fl_b, fl_n, inL_nil, inL_ss, inL_ii, List.all_cons, List.all_nil, Bool.and_self, Bool.and_true, Bool.true_and, zip_t, a_t, a_l, sub_l, isTs, isT, Option.map_some, List.length_cons, List.length_nil, Nat.reduceAdd, Nat.reduceSub, Nat.reduceLT, Nat.zero_add, Bool.false_eq_true, Bool.true_eq_false, if_false, if_true, decide_eq_true_eq, Bool.not_true, Bool.not_false, ite_true, ite_false, reduceIte, Bool.not_eq_true', decide_eq_false_iff_not, Int.cast_ofNat_Int, Int.reduceEq, Int.reduceLT, Int.reduceLE, Int.reduceNeg, Int.reduceAdd, Int.reduceSub, Int.reduceMul, Int.reduceToNat, decide_true, decide_false, not_true, not_false, not_true_eq_false, not_false_eq_true, true_and, and_true, eq_self, reduceCtorEq, List.isEmpty_nil, List.isEmpty_cons, List.nil_append, List.cons_append]
        rw [ed]
        refine ⟨⟨by decide, .inr trivial⟩, hN (b * b, o, j / 2) S' ⟨rfl, ?_, i + 1, ?_, ?_, hj2⟩ ?_⟩
        · rw [← hI]
          have ej : j = 2 * (j / 2) := by omega
          conv => rhs; rw [ej]
          rw [sq_pow]
        · exact QB.mul hb hb (by omega)
        · exact ho.le (by omega)
        · dsimp only; omega
    · have : j = 0 := by omega
      subst this
      rw [Rat.pow_zero, Rat.mul_one] at hI
      subst hI
      exact h
theorem rpow_ok {a : Rat} {z : Int} (ha : QB a 1048576) (hz : z.natAbs ≤ 5) (h0 : z < 0 → a ≠ 0) (h : Q (QD (pw a z)) S) : semF G T (k + 4) "rpow" [QD a, .int z] S Q E := by
  unfold pw at h
  by_cases h1 : z < 0
  · rw [if_pos h1] at h
    refine call_of t_rpow rfl ?_
    simp -dsimp -implicitDefEqProofs only [ent, List.map_cons, List.map_nil, List.length_cons, List.length_nil, Nat.reduceAdd, Nat.reduceSub, Nat.zero_add, List.replicate, List.cons_append, List.nil_append, F_rpow]
    simp -dsimp -implicitDefEqProofs only [↓cov3, ↓cov2, ↓cov1, ↓E_var, ↓E_int, ↓E_bl, ↓E_non, ↓E_str, ↓E_glo, ↓E_tup, ↓E_lst, ↓E_bin, ↓E_neg, ↓E_cmp, ↓E_chn, ↓E_and, ↓E_or, ↓E_one, ↓E_not, ↓E_ifx, ↓E_idx, ↓E_slc, ↓E_call, ↓E_bi, ↓E_isi, ↓E_mth, ↓E_lc, ↓Es_nil, ↓Es_cons, ↓O_no, ↓O_some, ↓Q_no, ↓Q_c, ↓C_and, ↓C_or, ↓C_one, ↓C_not, ↓C_cmp, ↓C_chn, ↓C_v, ↓I_seq, ↓I_rng1, ↓I_rng2, ↓I_rng3, ↓I_enu, ↓I_zip, ↓I_rev, ↓S_set, ↓S_asg, ↓S_par2, ↓S_sub, ↓S_expr, ↓S_ret, ↓S_retN, ↓S_ifs, ↓S_for, ↓S_brk, ↓S_cnt, ↓S_pass, ↓S_raise, ↓S_try, ↓S_never, ex_t, ex_f, ↓S_nil, ↓S_cons, ↓kN_nx, ↓kN_rt, ↓kN_bk, ↓kN_ct, ↓kN_ex, ↓kL_nx, ↓kL_rt, ↓kL_bk, ↓kL_ct, ↓kL_ex, ↓kX_nx, ↓kX_rt, ↓kX_bk, ↓kX_ct, ↓kX_ex, ↓kend_nx, ↓kend_rt, ↓kend_bk, ↓kend_ct, ↓kend_ex, vr_some, gt_0, gt_s, stn_0, stn_s, wip_0, wip_s, wips_0, wips_s, neg_i, isi_s, o_i, tru_non, tru_bl, tru_int, tru_tup, tru_rol, c_Eq, c_NotEq, c_Lt, c_LtE, c_Gt, c_GtE, cs_Eq, cs_NotEq, cb_Eq, cb_NotEq, c2_Eq, c2_NotEq, is_non, isnot_non, is_bl, isnot_bl, is_int, isnot_int, is_str, isnot_str, is_tup, isnot_tup, is_rol, isnot_rol, is_ref, isnot_ref, is_b, isnot_b, in_s, notin_s, b_add, b_sub, b_mul, b_fdiv, b_mod, b_pow, b_addt, b_adds, atI0, atI1, atI2, atI3, slc_t, slc_r, len_s, abs_i, int_i, int_b, min_i, max_i, gcd_i, seq_t, seq_r, r1_i, r2_i, r3_i, a_nm, a_nil, a_cons, vrl_some, vrn_some, put_lget, Option.isSome_some, tru_ref, b_addl, idx_t, idx_r, idx_l, slc_l, len_t, len_r, len_l, tuple_t, tuple_r, tuple_l, list_t, list_r, list_l, app_l, rev_l, pop_l, popat_l, mT_l, seq_l, enu_l, zip_l, rev_i, rev_t, in_t, notin_t, fl_s, fl_i, fl_b, fl_n, inL_nil, inL_ss, inL_ii, List.all_cons, List.all_nil, Bool.and_self, Bool.and_true, Bool.true_and, zip_t, a_t, a_l, sub_l, isTs, isT, Option.map_some, List.length_cons, List.length_nil, Nat.reduceAdd, Nat.reduceSub, Nat.reduceLT, Nat.zero_add, Bool.false_eq_true, Bool.true_eq_false, if_false, if_true, decide_eq_true_eq, Bool.not_true, Bool.not_false, ite_true, ite_false, reduceIte, Bool.not_eq_true', decide_eq_false_iff_not, Int.cast_ofNat_Int, Int.reduceEq, Int.reduceLT, Int.reduceLE, Int.reduceNeg, Int.reduceAdd, Int.reduceSub, Int.reduceMul, Int.reduceToNat, decide_true, decide_false, not_true, not_false, not_true_eq_false, not_false_eq_true, true_and, and_true, eq_self, reduceCtorEq, List.isEmpty_nil, List.isEmpty_cons, List.nil_append, List.cons_append]
    rw [if_pos h1]
    have hn := num_ne (h0 h1)
    refine rinv_ok t_rinv t_rational trivial hn ?_
    simp -dsimp -implicitDefEqProofs only [↓cov3, ↓cov2, ↓cov1, ↓E_var, ↓E_int, ↓E_bl, ↓E_non, ↓E_str, ↓E_glo, ↓E_tup, ↓E_lst, ↓E_bin, ↓E_neg, ↓E_cmp, ↓E_chn, ↓E_and, ↓E_or, ↓E_one, ↓E_not, ↓E_ifx, ↓E_idx, ↓E_slc, ↓E_call, ↓E_bi, ↓E_isi, ↓E_mth, ↓E_lc, ↓Es_nil, ↓Es_cons, ↓O_no, ↓O_some, ↓Q_no, ↓Q_c, ↓C_and, ↓C_or, ↓C_one, ↓C_not, ↓C_cmp, ↓C_chn, ↓C_v, ↓I_seq, ↓I_rng1, ↓I_rng2, ↓I_rng3, ↓I_enu, ↓I_zip, ↓I_rev, ↓S_set, ↓S_asg, ↓S_par2, ↓S_sub, ↓S_expr, ↓S_ret, ↓S_retN, ↓S_ifs, ↓S_for, ↓S_brk, ↓S_cnt, ↓S_pass, ↓S_raise, ↓S_try, ↓S_never, ex_t, ex_f, ↓S_nil, ↓S_cons, ↓kN_nx, ↓kN_rt, ↓kN_bk, ↓kN_ct, ↓kN_ex, ↓kL_nx, ↓kL_rt, ↓kL_bk, ↓kL_ct, ↓kL_ex, ↓kX_nx, ↓kX_rt, ↓kX_bk, ↓kX_ct, ↓kX_ex, ↓kend_nx, ↓kend_rt, ↓kend_bk, ↓kend_ct, ↓kend_ex, vr_some, gt_0, gt_s, stn_0, stn_s, wip_0, wip_s, wips_0, wips_s, neg_i, isi_s, o_i, tru_non, tru_bl, tru_int, tru_tup, tru_rol, c_Eq, c_NotEq, c_Lt, c_LtE, c_Gt, c_GtE, cs_Eq, cs_NotEq, cb_Eq, cb_NotEq, c2_Eq, c2_NotEq, is_non, isnot_non, is_bl, isnot_bl, is_int, isnot_int, is_str, isnot_str, is_tup, isnot_tup, is_rol, isnot_rol, is_ref, isnot_ref, is_b, isnot_b, in_s, notin_s, b_add, b_sub, b_mul, b_fdiv, b_mod, b_pow, b_addt, b_adds, atI0, atI1, atI2, atI3, slc_t, slc_r, len_s, abs_i, int_i, int_b, min_i, max_i, gcd_i, seq_t, seq_r, r1_i, r2_i, r3_i, a_nm, a_nil, a_cons, vrl_some, vrn_some, put_lget, Option.isSome_some, tru_ref, b_addl, idx_t, idx_r, idx_l, slc_l, len_t, len_r, len_l, tuple_t, tuple_r, tuple_l, list_t, list_r, list_l, app_l, rev_l, pop_l, popat_l, mT_l, seq_l, enu_l, zip_l, rev_i, rev_t, in_t, notin_t, fl_s, fl_i, fl_b, fl_n, inL_nil, inL_ss, inL_ii, List.all_cons, List.all_nil, Bool.and_self, Bool.and_true, Bool.true_and, zip_t, a_t, a_l, sub_l, isTs, isT, Option.map_some, List.length_cons, List.length_nil, Nat.reduceAdd, Nat.reduceSub, Nat.reduceLT, Nat.zero_add, Bool.false_eq_true, Bool.true_eq_false, if_false, if_true, decide_eq_true_eq, Bool.not_true, Bool.not_false, ite_true, ite_false, reduceIte, Bool.not_eq_true', decide_eq_false_iff_not, Int.cast_ofNat_Int, Int.reduceEq, Int.reduceLT, Int.reduceLE, Int.reduceNeg, Int.reduceAdd, Int.reduceSub, Int.reduceMul, Int.reduceToNat, decide_true, decide_false, not_true, not_false, not_true_eq_false, not_false_eq_true, true_and, and_true, eq_self, reduceCtorEq, List.isEmpty_nil, List.isEmpty_cons, List.nil_append, List.cons_append]
    have e : -z = (z.natAbs : Int) := by omega
    rw [e]
    refine rpow_pos (ha.inv hn) hz ?_
    have e2 : ∀ n : Nat, (a⁻¹) ^ n = (a ^ n)⁻¹ := by
      intro n
      induction n with
      | zero => rw [Rat.pow_zero, Rat.pow_zero]; decide +kernel
      | succ n ih => rw [Rat.pow_succ, Rat.pow_succ, ih, Rat.inv_mul_rev, Rat.mul_comm]
    rw [e2]
    exact h
  · rw [if_neg h1] at h
    have e : z = (z.natAbs : Int) := by omega
    rw [e]
    refine rpow_pos ha hz h

/-! sizes -/
def nbt (q : Rat) : Nat := max (Nat.log2 q.num.natAbs + 1) (Nat.log2 q.den + 1)
theorem QB_nbt (q : Rat) : QB q (nbt q) := ⟨Nat.lt_of_lt_of_le Nat.lt_log2_self (Nat.pow_le_pow_right (by decide) (Nat.le_max_left _ _)), Nat.lt_of_lt_of_le (show ((q.den : Nat) : Int).natAbs < 2 ^ (Nat.log2 q.den + 1) from Nat.lt_log2_self) (Nat.pow_le_pow_right (by decide) (Nat.le_max_right _ _))⟩
theorem nbt_le {q : Rat} {n : Nat} (h : QB q (n + 1)) : nbt q ≤ n + 1 := by
  have key : ∀ x : Nat, x < 2 ^ (n + 1) → Nat.log2 x + 1 ≤ n + 1 := fun x hx => by
    by_cases h0 : x = 0
    · subst h0
      have : Nat.log2 0 = 0 := by decide
      omega
    · have := (Nat.log2_lt h0).mpr hx
      omega
  have h1 := key _ h.num
  have h2 := key q.den h.den
  unfold nbt
  omega
def zb : Ex → Nat
  | .num r => nbt r
  | .x => 4
  | .bin _ a b => zb a + zb b + 1
  | .neg a => zb a
  | .exp a => zb a + 1
  | .log a => zb a + 1
  | .pow a k => zb a * k.natAbs + 1
/-- every node's value is small -/
def zz : Ex → Prop
  | .num _ => True
  | .x => True
  | .bin _ a b => zz a ∧ zz b ∧ zb a + zb b ≤ 1048576
  | .neg a => zz a ∧ True
  | .exp a => zz a ∧ True
  | .log a => zz a ∧ True
  | .pow a _ => zz a ∧ zb a ≤ 1048576
def pk : Ex → Prop
  | .num _ => True
  | .x => True
  | .bin _ a b => pk a ∧ pk b
  | .neg a => pk a
  | .exp a => pk a
  | .log a => pk a
  | .pow a k => pk a ∧ k.natAbs ≤ 5
theorem QB_pw {a : Rat} {m : Nat} (h : QB a m) {k : Int} (h0 : k < 0 → a ≠ 0) : QB (pw a k) (m * k.natAbs + 1) := by
  unfold pw
  by_cases hk : k < 0
  · rw [if_pos hk, ← inv_pow]
    exact QB_pow (h.inv (num_ne (h0 hk))) _
  · rw [if_neg hk]
    exact QB_pow h _
theorem ev_pw {u : Rat} {k : Int} {v : Rat} (h : (if u = 0 ∧ k < 0 then none else some (pw u k)) = some v) : (k < 0 → u ≠ 0) ∧ v = pw u k := by
  by_cases c : u = 0 ∧ k < 0
  · rw [if_pos c] at h; cases h
  · rw [if_neg c] at h
    cases h
    exact ⟨fun hk z => c ⟨z, hk⟩, rfl⟩
theorem ev_bin {q : Rat} {o : Op} {a b : Ex} {v : Rat} (h : ev q (.bin o a b) = some v) : ∃ u w, ev q a = some u ∧ ev q b = some w ∧ (match o with
    | .add => some (u + w)
    | .sub => some (u - w)
    | .mul => some (u * w)
    | .div => if w = 0 then none else some (u / w)) = some v := by
  unfold ev at h
  cases ha : ev q a with
  | none => rw [ha] at h; cases h
  | some u =>
    cases hb : ev q b with
    | none => rw [ha, hb] at h; cases h
    | some w =>
      rw [ha, hb] at h
      refine ⟨u, w, rfl, rfl, ?_⟩
      cases o <;> exact h
theorem ev_one {q : Rat} {a : Ex} {f : Rat → Option Rat} {v : Rat} (h : (ev q a).bind f = some v) : ∃ u, ev q a = some u ∧ f u = some v := by
  cases ha : ev q a with
  | none => rw [ha] at h; cases h
  | some u => rw [ha] at h; exact ⟨u, rfl, h⟩
theorem QB_ev {q : Rat} (hq : QB q 4) : ∀ (e : Ex) (v : Rat), ev q e = some v → QB v (zb e)
  | .num r, v, h => by cases h; exact QB_nbt r
  | .x, v, h => by cases h; exact hq
  | .neg a, v, h => by
    unfold ev at h
    cases ha : ev q a with
    | none => rw [ha] at h; cases h
    | some u => rw [ha] at h; cases h; exact (QB_ev hq a u ha).neg
  | .exp a, v, h => by
    obtain ⟨u, h1, h2⟩ := ev_one h
    split at h2
    · cases h2; exact QB.one.le (by unfold zb; omega)
    · cases h2
  | .log a, v, h => by
    obtain ⟨u, h1, h2⟩ := ev_one h
    split at h2
    · cases h2
      exact QB.le (m := 1) ⟨by show (0 : Int).natAbs < 2 ^ 1; decide, by show ((1 : Nat) : Int).natAbs < 2 ^ 1; decide⟩ (by unfold zb; omega)
    · cases h2
  | .pow a k, v, h => by
    obtain ⟨u, h1, h2⟩ := ev_one h
    obtain ⟨h3, rfl⟩ := ev_pw h2
    exact QB_pw (QB_ev hq a u h1) h3
  | .bin o a b, v, h => by
    obtain ⟨u, w, h1, h2, h3⟩ := ev_bin h
    have q1 := QB_ev hq a u h1
    have q2 := QB_ev hq b w h2
    cases o with
    | add => cases h3; exact q1.add q2 (Nat.le_refl _)
    | sub => cases h3; exact q1.sub q2 (Nat.le_refl _)
    | mul => cases h3; exact q1.mul q2 (show _ ≤ zb a + zb b + 1 by omega)
    | div =>
      have h3 : (if w = 0 then none else some (u / w)) = some v := h3
      split at h3
      · cases h3
      · rename_i hw
        cases h3
        rw [Rat.div_def]
        exact q1.mul (q2.inv (num_ne hw)) (show _ ≤ zb a + zb b + 1 by omega)
theorem gB : G.cs "BINARY" = some (.tup [.str "add", .str "sub", .str "mul", .str "div"]) := rfl
theorem gZ : G.cs "ZERO" = some (QD 0) := rfl
theorem gO : G.cs "ONE" = some (QD 1) := rfl
theorem rneg_ok' {a : Rat} (h : Q (QD (-a)) S) : semF G T (k + 1) "rneg" [QD a] S Q E := rneg_ok t_rneg h
theorem ev_ok {q : Rat} (hq : QB q 4) : ∀ (e : Ex) (m : Nat) (S : Sto) (Q : DK) (E : XS) (v : Rat), hgt e + 6 ≤ m → pk e → zz e → ev q e = some v → Q (QD v) S → semF G T m "evaluate" [XD e, QD q] S Q E
  | .num r, m, S, Q, E, v, hm, hp, hz, hv, h => by
    unfold hgt at hm
    obtain ⟨m, rfl⟩ : ∃ m', m = m' + 7 := ⟨m - 7, by omega⟩
    cases hv
    refine call_of t_evaluate rfl ?_
    simp -dsimp -implicitDefEqProofs only [ent, List.map_cons, List.map_nil, List.length_cons, List.length_nil, Nat.reduceAdd, Nat.reduceSub, Nat.zero_add, List.replicate, List.cons_append, List.nil_append, F_evaluate, XD]
    simp -dsimp -implicitDefEqProofs only [↓cov3, ↓cov2, ↓cov1, ↓E_var, ↓E_int, ↓E_bl, ↓E_non, ↓E_str, ↓E_glo, ↓E_tup, ↓E_lst, ↓E_bin, ↓E_neg, ↓E_cmp, ↓E_chn, ↓E_and, ↓E_or, ↓E_one, ↓E_not, ↓E_ifx, ↓E_idx, ↓E_slc, ↓E_call, ↓E_bi, ↓E_isi, ↓E_mth, ↓E_lc, ↓Es_nil, ↓Es_cons, ↓O_no, ↓O_some, ↓Q_no, ↓Q_c, ↓C_and, ↓C_or, ↓C_one, ↓C_not, ↓C_cmp, ↓C_chn, ↓C_v, ↓I_seq, ↓I_rng1, ↓I_rng2, ↓I_rng3, ↓I_enu, ↓I_zip, ↓I_rev, ↓S_set, ↓S_asg, ↓S_par2, ↓S_sub, ↓S_expr, ↓S_ret, ↓S_retN, ↓S_ifs, ↓S_for, ↓S_brk, ↓S_cnt, ↓S_pass, ↓S_raise, ↓S_try, ↓S_never, ex_t, ex_f, ↓S_nil, ↓S_cons, ↓kN_nx, ↓kN_rt, ↓kN_bk, ↓kN_ct, ↓kN_ex, ↓kL_nx, ↓kL_rt, ↓kL_bk, ↓kL_ct, ↓kL_ex, ↓kX_nx, ↓kX_rt, ↓kX_bk, ↓kX_ct, ↓kX_ex, ↓kend_nx, ↓kend_rt, ↓kend_bk, ↓kend_ct, ↓kend_ex, vr_some, gt_0, gt_s, stn_0, stn_s, wip_0, wip_s, wips_0, wips_s, neg_i, isi_s, o_i, tru_non, tru_bl, tru_int, tru_tup, tru_rol, c_Eq, c_NotEq, c_Lt, c_LtE, c_Gt, c_GtE, cs_Eq, cs_NotEq, cb_Eq, cb_NotEq, c2_Eq, c2_NotEq, is_non, isnot_non, is_bl, isnot_bl, is_int, isnot_int, is_str, isnot_str, is_tup, isnot_tup, is_rol, isnot_rol, is_ref, isnot_ref, is_b, isnot_b, in_s, notin_s, b_add, b_sub, b_mul, b_fdiv, b_mod, b_pow, b_addt, b_adds, atI0, atI1, atI2, atI3, slc_t, slc_r, len_s, abs_i, int_i, int_b, min_i, max_i, gcd_i, seq_t, seq_r, r1_i, r2_i, r3_i, a_nm, a_nil, a_cons, vrl_some, vrn_some, put_lget, Option.isSome_some, tru_ref, b_addl, idx_t, idx_r, idx_l, slc_l, len_t, len_r, len_l, tuple_t, tuple_r, tuple_l, list_t, list_r, list_l, app_l, rev_l, pop_l, popat_l, mT_l, seq_l, enu_l, zip_l, rev_i, rev_t, in_t, notin_t, fl_s, fl_i, fl_b, fl_n, inL_nil, inL_ss, inL_ii, List.all_cons, List.all_nil, Bool.and_self, Bool.and_true, Bool.true_and, zip_t, a_t, a_l, sub_l, isTs, isT, Option.map_some, List.length_cons, List.length_nil, Nat.reduceAdd, Nat.reduceSub, Nat.reduceLT, Nat.zero_add, Bool.false_eq_true, Bool.true_eq_false, if_false, if_true, decide_eq_true_eq, Bool.not_true, Bool.not_false, ite_true, ite_false, reduceIte, Bool.not_eq_true', decide_eq_false_iff_not, Int.cast_ofNat_Int, Int.reduceEq, Int.reduceLT, Int.reduceLE, Int.reduceNeg, Int.reduceAdd, Int.reduceSub, Int.reduceMul, Int.reduceToNat, decide_true, decide_false, not_true, not_false, not_true_eq_false, not_false_eq_true, true_and, and_true, eq_self, reduceCtorEq, List.isEmpty_nil, List.isEmpty_cons, List.nil_append, List.cons_append, lit_inj, String.reduceEq, inL_ss, Bool.or_false, Bool.false_or, Bool.or_true, Bool.true_or, opS]
    exact h
  | .x, m, S, Q, E, v, hm, hp, hz, hv, h => by
    unfold hgt at hm
    obtain ⟨m, rfl⟩ : ∃ m', m = m' + 7 := ⟨m - 7, by omega⟩
    cases hv
    refine call_of t_evaluate rfl ?_
    simp -dsimp -implicitDefEqProofs only [ent, List.map_cons, List.map_nil, List.length_cons, List.length_nil, Nat.reduceAdd, Nat.reduceSub, Nat.zero_add, List.replicate, List.cons_append, List.nil_append, F_evaluate, XD]
    simp -dsimp -implicitDefEqProofs only [↓cov3, ↓cov2, ↓cov1, ↓E_var, ↓E_int, ↓E_bl, ↓E_non, ↓E_str, ↓E_glo, ↓E_tup, ↓E_lst, ↓E_bin, ↓E_neg, ↓E_cmp, ↓E_chn, ↓E_and, ↓E_or, ↓E_one, ↓E_not, ↓E_ifx, ↓E_idx, ↓E_slc, ↓E_call, ↓E_bi, ↓E_isi, ↓E_mth, ↓E_lc, ↓Es_nil, ↓Es_cons, ↓O_no, ↓O_some, ↓Q_no, ↓Q_c, ↓C_and, ↓C_or, ↓C_one, ↓C_not, ↓C_cmp, ↓C_chn, ↓C_v, ↓I_seq, ↓I_rng1, ↓I_rng2, ↓I_rng3, ↓I_enu, ↓I_zip, ↓I_rev, ↓S_set, ↓S_asg, ↓S_par2, ↓S_sub, ↓S_expr, ↓S_ret, ↓S_retN, ↓S_ifs, ↓S_for, ↓S_brk, ↓S_cnt, ↓S_pass, ↓S_raise, ↓S_try, ↓S_never, ex_t, ex_f, ↓S_nil, ↓S_cons, ↓kN_nx, ↓kN_rt, ↓kN_bk, ↓kN_ct, ↓kN_ex, ↓kL_nx, ↓kL_rt, ↓kL_bk, ↓kL_ct, ↓kL_ex, ↓kX_nx, ↓kX_rt, ↓kX_bk, ↓kX_ct, ↓kX_ex, ↓kend_nx, ↓kend_rt, ↓kend_bk, ↓kend_ct, ↓kend_ex, vr_some, gt_0, gt_s, stn_0, stn_s, wip_0, wip_s, wips_0, wips_s, neg_i, isi_s, o_i, tru_non, tru_bl, tru_int, tru_tup, tru_rol, c_Eq, c_NotEq, c_Lt, c_LtE, c_Gt, c_GtE, cs_Eq, cs_NotEq, cb_Eq, cb_NotEq, c2_Eq, c2_NotEq, is_non, isnot_non, is_bl, isnot_bl, is_int, isnot_int, is_str, isnot_str, is_tup, isnot_tup, is_rol, isnot_rol, is_ref, isnot_ref, is_b, isnot_b, in_s, notin_s, b_add, b_sub, b_mul, b_fdiv, b_mod, b_pow, b_addt, b_adds, atI0, atI1, atI2, atI3, slc_t, slc_r, len_s, abs_i, int_i, int_b, min_i, max_i, gcd_i, seq_t, seq_r, r1_i, r2_i, r3_i, a_nm, a_nil, a_cons, vrl_some, vrn_some, put_lget, Option.isSome_some, tru_ref, b_addl, idx_t, idx_r, idx_l, slc_l, len_t, len_r, len_l, tuple_t, tuple_r, tuple_l, list_t, list_r, list_l, app_l, rev_l, pop_l, popat_l, mT_l, seq_l, enu_l, zip_l, rev_i, rev_t, in_t, notin_t, fl_s, fl_i, fl_b, fl_n, inL_nil, inL_ss, inL_ii, List.all_cons, List.all_nil, Bool.and_self, Bool.and_true, Bool.true_and, zip_t, a_t, a_l, sub_l, isTs, isT, Option.map_some, List.length_cons, List.length_nil, Nat.reduceAdd, Nat.reduceSub, Nat.reduceLT, Nat.zero_add, Bool.false_eq_true, Bool.true_eq_false, if_false, if_true, decide_eq_true_eq, Bool.not_true, Bool.not_false, ite_true, ite_false, reduceIte, Bool.not_eq_true', decide_eq_false_iff_not, Int.cast_ofNat_Int, Int.reduceEq, Int.reduceLT, Int.reduceLE, Int.reduceNeg, Int.reduceAdd, Int.reduceSub, Int.reduceMul, Int.reduceToNat, decide_true, decide_false, not_true, not_false, not_true_eq_false, not_false_eq_true, true_and, and_true, eq_self, reduceCtorEq, List.isEmpty_nil, List.isEmpty_cons, List.nil_append, List.cons_append, lit_inj, String.reduceEq, inL_ss, Bool.or_false, Bool.false_or, Bool.or_true, Bool.true_or, opS]
    exact h
  | .neg a, m, S, Q, E, v, hm, hp, hz, hv, h => by
    unfold hgt at hm
    have hz : zz a := hz.1
    unfold ev at hv
    cases ha : ev q a with
    | none => rw [ha] at hv; cases hv
    | some u =>
    rw [ha] at hv
    cases hv
    obtain ⟨m, rfl⟩ : ∃ m', m = m' + 7 := ⟨m - 7, by omega⟩
    refine call_of t_evaluate rfl ?_
    simp -dsimp -implicitDefEqProofs only [ent, List.map_cons, List.map_nil, List.length_cons, List.length_nil, Nat.reduceAdd, Nat.reduceSub, Nat.zero_add, List.replicate, List.cons_append, List.nil_append, F_evaluate, XD]
    simp -dsimp -implicitDefEqProofs only [↓cov3, ↓cov2, ↓cov1, ↓E_var, ↓E_int, ↓E_bl, ↓E_non, ↓E_str, ↓E_glo, ↓E_tup, ↓E_lst, ↓E_bin, ↓E_neg, ↓E_cmp, ↓E_chn, ↓E_and, ↓E_or, ↓E_one, ↓E_not, ↓E_ifx, ↓E_idx, ↓E_slc, ↓E_call, ↓E_bi, ↓E_isi, ↓E_mth, ↓E_lc, ↓Es_nil, ↓Es_cons, ↓O_no, ↓O_some, ↓Q_no, ↓Q_c, ↓C_and, ↓C_or, ↓C_one, ↓C_not, ↓C_cmp, ↓C_chn, ↓C_v, ↓I_seq, ↓I_rng1, ↓I_rng2, ↓I_rng3, ↓I_enu, ↓I_zip, ↓I_rev, ↓S_set, ↓S_asg, ↓S_par2, ↓S_sub, ↓S_expr, ↓S_ret, ↓S_retN, ↓S_ifs, ↓S_for, ↓S_brk, ↓S_cnt, ↓S_pass, ↓S_raise, ↓S_try, ↓S_never, ex_t, ex_f, ↓S_nil, ↓S_cons, ↓kN_nx, ↓kN_rt, ↓kN_bk, ↓kN_ct, ↓kN_ex, ↓kL_nx, ↓kL_rt, ↓kL_bk, ↓kL_ct, ↓kL_ex, ↓kX_nx, ↓kX_rt, ↓kX_bk, ↓kX_ct, ↓kX_ex, ↓kend_nx, ↓kend_rt, ↓kend_bk, ↓kend_ct, ↓kend_ex, vr_some, gt_0, gt_s, stn_0, stn_s, wip_0, wip_s, wips_0, wips_s, neg_i, isi_s, o_i, tru_non, tru_bl, tru_int, tru_tup, tru_rol, c_Eq, c_NotEq, c_Lt, c_LtE, c_Gt, c_GtE, cs_Eq, cs_NotEq, cb_Eq, cb_NotEq, c2_Eq, c2_NotEq, is_non, isnot_non, is_bl, isnot_bl, is_int, isnot_int, is_str, isnot_str, is_tup, isnot_tup, is_rol, isnot_rol, is_ref, isnot_ref, is_b, isnot_b, in_s, notin_s, b_add, b_sub, b_mul, b_fdiv, b_mod, b_pow, b_addt, b_adds, atI0, atI1, atI2, atI3, slc_t, slc_r, len_s, abs_i, int_i, int_b, min_i, max_i, gcd_i, seq_t, seq_r, r1_i, r2_i, r3_i, a_nm, a_nil, a_cons, vrl_some, vrn_some, put_lget, Option.isSome_some, tru_ref, b_addl, idx_t, idx_r, idx_l, slc_l, len_t, len_r, len_l, tuple_t, tuple_r, tuple_l, list_t, list_r, list_l, app_l, rev_l, pop_l, popat_l, mT_l, seq_l, enu_l, zip_l, rev_i, rev_t, in_t, notin_t, fl_s, fl_i, fl_b, fl_n, inL_nil, inL_ss, inL_ii, List.all_cons, List.all_nil, Bool.and_self, Bool.and_true, Bool.true_and, zip_t, a_t, a_l, sub_l, isTs, isT, Option.map_some, List.length_cons, List.length_nil, Nat.reduceAdd, Nat.reduceSub, Nat.reduceLT, Nat.zero_add, Bool.false_eq_true, Bool.true_eq_false, if_false, if_true, decide_eq_true_eq, Bool.not_true, Bool.not_false, ite_true, ite_false, reduceIte, Bool.not_eq_true', decide_eq_false_iff_not, Int.cast_ofNat_Int, Int.reduceEq, Int.reduceLT, Int.reduceLE, Int.reduceNeg, Int.reduceAdd, Int.reduceSub, Int.reduceMul, Int.reduceToNat, decide_true, decide_false, not_true, not_false, not_true_eq_false, not_false_eq_true, true_and, and_true, eq_self, reduceCtorEq, List.isEmpty_nil, List.isEmpty_cons, List.nil_append, List.cons_append, lit_inj, String.reduceEq, inL_ss, Bool.or_false, Bool.false_or, Bool.or_true, Bool.true_or, opS]
    refine ev_ok hq a (m + 6) _ _ _ u (by omega) hp hz ha ?_
    simp -dsimp -implicitDefEqProofs only [↓cov3, ↓cov2, ↓cov1, ↓E_var, ↓E_int, ↓E_bl, ↓E_non, ↓E_str, ↓E_glo, ↓E_tup, ↓E_lst, ↓E_bin, ↓E_neg, ↓E_cmp, ↓E_chn, ↓E_and, ↓E_or, ↓E_one, ↓E_not, ↓E_ifx, ↓E_idx, ↓E_slc, ↓E_call, ↓E_bi, ↓E_isi, ↓E_mth, ↓E_lc, ↓Es_nil, ↓Es_cons, ↓O_no, ↓O_some, ↓Q_no, ↓Q_c, ↓C_and, ↓C_or, ↓C_one, ↓C_not, ↓C_cmp, ↓C_chn, ↓C_v, ↓I_seq, ↓I_rng1, ↓I_rng2, ↓I_rng3, ↓I_enu, ↓I_zip, ↓I_rev, ↓S_set, ↓S_asg, ↓S_par2, ↓S_sub, ↓S_expr, ↓S_ret, ↓S_retN, ↓S_ifs, ↓S_for, ↓S_brk, ↓S_cnt, ↓S_pass, ↓S_raise, ↓S_try, ↓S_never, ex_t, ex_f, ↓S_nil, ↓S_cons, ↓kN_nx, ↓kN_rt, ↓kN_bk, ↓kN_ct, ↓kN_ex, ↓kL_nx, ↓kL_rt, ↓kL_bk, ↓kL_ct, ↓kL_ex, ↓kX_nx, ↓kX_rt, ↓kX_bk, ↓kX_ct, ↓kX_ex, ↓kend_nx, ↓kend_rt, ↓kend_bk, ↓kend_ct, ↓kend_ex, vr_some, gt_0, gt_s, stn_0, stn_s, wip_0, wip_s, wips_0, wips_s, neg_i, isi_s, o_i, tru_non, tru_bl, tru_int, tru_tup, tru_rol, c_Eq, c_NotEq, c_Lt, c_LtE, c_Gt, c_GtE, cs_Eq, cs_NotEq, cb_Eq, cb_NotEq, c2_Eq, c2_NotEq, is_non, isnot_non, is_bl, isnot_bl, is_int, isnot_int, is_str, isnot_str, is_tup, isnot_tup, is_rol, isnot_rol, is_ref, isnot_ref, is_b, isnot_b, in_s, notin_s, b_add, b_sub, b_mul, b_fdiv, b_mod, b_pow, b_addt, b_adds, atI0, atI1, atI2, atI3, slc_t, slc_r, len_s, abs_i, int_i, int_b, min_i, max_i, gcd_i, seq_t, seq_r, r1_i, r2_i, r3_i, a_nm, a_nil, a_cons, vrl_some, vrn_some, put_lget, Option.isSome_some, tru_ref, b_addl, idx_t, idx_r, idx_l, slc_l, len_t, len_r, len_l, tuple_t, tuple_r, tuple_l, list_t, list_r, list_l, app_l, rev_l, pop_l, popat_l, mT_l, seq_l, enu_l, zip_l, rev_i, rev_t, in_t, notin_t, fl_s, fl_i, fl_b, fl_n, inL_nil, inL_ss, inL_ii, List.all_cons, List.all_nil, Bool.and_self, Bool.and_true, Bool.true_and, zip_t, a_t, a_l, sub_l, isTs, isT, Option.map_some, List.length_cons, List.length_nil, Nat.reduceAdd, Nat.reduceSub, Nat.reduceLT, Nat.zero_add, Bool.false_eq_true, Bool.true_eq_false, if_false, if_true, decide_eq_true_eq, Bool.not_true, Bool.not_false, ite_true, ite_false, reduceIte, Bool.not_eq_true', decide_eq_false_iff_not, Int.cast_ofNat_Int, Int.reduceEq, Int.reduceLT, Int.reduceLE, Int.reduceNeg, Int.reduceAdd, Int.reduceSub, Int.reduceMul, Int.reduceToNat, decide_true, decide_false, not_true, not_false, not_true_eq_false, not_false_eq_true, true_and, and_true, eq_self, reduceCtorEq, List.isEmpty_nil, List.isEmpty_cons, List.nil_append, List.cons_append, lit_inj, String.reduceEq, inL_ss, Bool.or_false, Bool.false_or, Bool.or_true, Bool.true_or, opS, gB, gZ, gO, cQ_Eq, cQ_NotEq, inL_nil]
    refine rneg_ok' ?_
    exact h
  | .exp a, m, S, Q, E, v, hm, hp, hz, hv, h => by
    unfold hgt at hm
    have hz : zz a := hz.1
    obtain ⟨u, ha, hu⟩ := ev_one hv
    split at hu
    · rename_i h0
      cases hu
      obtain ⟨m, rfl⟩ : ∃ m', m = m' + 7 := ⟨m - 7, by omega⟩
      refine call_of t_evaluate rfl ?_
      simp -dsimp -implicitDefEqProofs only [ent, List.map_cons, List.map_nil, List.length_cons, List.length_nil, Nat.reduceAdd, Nat.reduceSub, Nat.zero_add, List.replicate, List.cons_append, List.nil_append, F_evaluate, XD]
      simp -dsimp -implicitDefEqProofs only [↓cov3, ↓cov2, ↓cov1, ↓E_var, ↓E_int, ↓E_bl, ↓E_non, ↓E_str, ↓E_glo, ↓E_tup, ↓E_lst, ↓E_bin, ↓E_neg, ↓E_cmp, ↓E_chn, ↓E_and, ↓E_or, ↓E_one, ↓E_not, ↓E_ifx, ↓E_idx, ↓E_slc, ↓E_call, ↓E_bi, ↓E_isi, ↓E_mth, ↓E_lc, ↓Es_nil, ↓Es_cons, ↓O_no, ↓O_some, ↓Q_no, ↓Q_c, ↓C_and, ↓C_or, ↓C_one, ↓C_not, ↓C_cmp, ↓C_chn, ↓C_v, ↓I_seq, ↓I_rng1, ↓I_rng2, ↓I_rng3, ↓I_enu, ↓I_zip, ↓I_rev, ↓S_set, ↓S_asg, ↓S_par2, ↓S_sub, ↓S_expr, ↓S_ret, ↓S_retN, ↓S_ifs, ↓S_for, ↓S_brk, ↓S_cnt, ↓S_pass, ↓S_raise, ↓S_try, ↓S_never, ex_t, ex_f, ↓S_nil, ↓S_cons, ↓kN_nx, ↓kN_rt, ↓kN_bk, ↓kN_ct, ↓kN_ex, ↓kL_nx, ↓kL_rt, ↓kL_bk, ↓kL_ct, ↓kL_ex, ↓kX_nx, ↓kX_rt, ↓kX_bk, ↓kX_ct, ↓kX_ex, ↓kend_nx, ↓kend_rt, ↓kend_bk, ↓kend_ct, ↓kend_ex, vr_some, gt_0, gt_s, stn_0, stn_s, wip_0, wip_s, wips_0, wips_s, neg_i, isi_s, o_i, tru_non, tru_bl, tru_int, tru_tup, tru_rol, c_Eq, c_NotEq, c_Lt, c_LtE, c_Gt, c_GtE, cs_Eq, cs_NotEq, cb_Eq, cb_NotEq, c2_Eq, c2_NotEq, is_non, isnot_non, is_bl, isnot_bl, is_int, isnot_int, is_str, isnot_str, is_tup, isnot_tup, is_rol, isnot_rol, is_ref, isnot_ref, is_b, isnot_b, in_s, notin_s, b_add, b_sub, b_mul, b_fdiv, b_mod, b_pow, b_addt, b_adds, atI0, atI1, atI2, atI3, slc_t, slc_r, len_s, abs_i, int_i, int_b, min_i, max_i, gcd_i, seq_t, seq_r, r1_i, r2_i, r3_i, a_nm, a_nil, a_cons, vrl_some, vrn_some, put_lget, Option.isSome_some, tru_ref, b_addl, idx_t, idx_r, idx_l, slc_l, len_t, len_r, len_l, tuple_t, tuple_r, tuple_l, list_t, list_r, list_l, app_l, rev_l, pop_l, popat_l, mT_l, seq_l, enu_l, zip_l, rev_i, rev_t, in_t, notin_t, fl_s, fl_i, fl_b, fl_n, inL_nil, inL_ss, inL_ii, List.all_cons, List.all_nil, Bool.and_self, Bool.and_true, Bool.true_and, zip_t, a_t, a_l, sub_l, isTs, isT, Option.map_some, List.length_cons, List.length_nil, Nat.reduceAdd, Nat.reduceSub, Nat.reduceLT, Nat.zero_add, Bool.false_eq_true, Bool.true_eq_false, if_false, if_true, decide_eq_true_eq, Bool.not_true, Bool.not_false, ite_true, ite_false, reduceIte, Bool.not_eq_true', decide_eq_false_iff_not, Int.cast_ofNat_Int, Int.reduceEq, Int.reduceLT, Int.reduceLE, Int.reduceNeg, Int.reduceAdd, Int.reduceSub, Int.reduceMul, Int.reduceToNat, decide_true, decide_false, not_true, not_false, not_true_eq_false, not_false_eq_true, true_and, and_true, eq_self, reduceCtorEq, List.isEmpty_nil, List.isEmpty_cons, List.nil_append, List.cons_append, lit_inj, String.reduceEq, inL_ss, Bool.or_false, Bool.false_or, Bool.or_true, Bool.true_or, opS]
      refine ev_ok hq a (m + 6) _ _ _ u (by omega) hp hz ha ?_
      simp -dsimp -implicitDefEqProofs only [↓cov3, ↓cov2, ↓cov1, ↓E_var, ↓E_int, ↓E_bl, ↓E_non, ↓E_str, ↓E_glo, ↓E_tup, ↓E_lst, ↓E_bin, ↓E_neg, ↓E_cmp, ↓E_chn, ↓E_and, ↓E_or, ↓E_one, ↓E_not, ↓E_ifx, ↓E_idx, ↓E_slc, ↓E_call, ↓E_bi, ↓E_isi, ↓E_mth, ↓E_lc, ↓Es_nil, ↓Es_cons, ↓O_no, ↓O_some, ↓Q_no, ↓Q_c, ↓C_and, ↓C_or, ↓C_one, ↓C_not, ↓C_cmp, ↓C_chn, ↓C_v, ↓I_seq, ↓I_rng1, ↓I_rng2, ↓I_rng3, ↓I_enu, ↓I_zip, ↓I_rev, ↓S_set, ↓S_asg, ↓S_par2, ↓S_sub, ↓S_expr, ↓S_ret, ↓S_retN, ↓S_ifs, ↓S_for, ↓S_brk, ↓S_cnt, ↓S_pass, ↓S_raise, ↓S_try, ↓S_never, ex_t, ex_f, ↓S_nil, ↓S_cons, ↓kN_nx, ↓kN_rt, ↓kN_bk, ↓kN_ct, ↓kN_ex, ↓kL_nx, ↓kL_rt, ↓kL_bk, ↓kL_ct, ↓kL_ex, ↓kX_nx, ↓kX_rt, ↓kX_bk, ↓kX_ct, ↓kX_ex, ↓kend_nx, ↓kend_rt, ↓kend_bk, ↓kend_ct, ↓kend_ex, vr_some, gt_0, gt_s, stn_0, stn_s, wip_0, wip_s, wips_0, wips_s, neg_i, isi_s, o_i, tru_non, tru_bl, tru_int, tru_tup, tru_rol, c_Eq, c_NotEq, c_Lt, c_LtE, c_Gt, c_GtE, cs_Eq, cs_NotEq, cb_Eq, cb_NotEq, c2_Eq, c2_NotEq, is_non, isnot_non, is_bl, isnot_bl, is_int, isnot_int, is_str, isnot_str, is_tup, isnot_tup, is_rol, isnot_rol, is_ref, isnot_ref, is_b, isnot_b, in_s, notin_s, b_add, b_sub, b_mul, b_fdiv, b_mod, b_pow, b_addt, b_adds, atI0, atI1, atI2, atI3, slc_t, slc_r, len_s, abs_i, int_i, int_b, min_i, max_i, gcd_i, seq_t, seq_r, r1_i, r2_i, r3_i, a_nm, a_nil, a_cons, vrl_some, vrn_some, put_lget, Option.isSome_some, tru_ref, b_addl, idx_t, idx_r, idx_l, slc_l, len_t, len_r, len_l, tuple_t, tuple_r, tuple_l, list_t, list_r, list_l, app_l, rev_l, pop_l, popat_l, mT_l, seq_l, enu_l, zip_l, rev_i, rev_t, in_t, notin_t, fl_s, fl_i, fl_b, fl_n, inL_nil, inL_ss, inL_ii, List.all_cons, List.all_nil, Bool.and_self, Bool.and_true, Bool.true_and, zip_t, a_t, a_l, sub_l, isTs, isT, Option.map_some, List.length_cons, List.length_nil, Nat.reduceAdd, Nat.reduceSub, Nat.reduceLT, Nat.zero_add, Bool.false_eq_true, Bool.true_eq_false, if_false, if_true, decide_eq_true_eq, Bool.not_true, Bool.not_false, ite_true, ite_false, reduceIte, Bool.not_eq_true', decide_eq_false_iff_not, Int.cast_ofNat_Int, Int.reduceEq, Int.reduceLT, Int.reduceLE, Int.reduceNeg, Int.reduceAdd, Int.reduceSub, Int.reduceMul, Int.reduceToNat, decide_true, decide_false, not_true, not_false, not_true_eq_false, not_false_eq_true, true_and, and_true, eq_self, reduceCtorEq, List.isEmpty_nil, List.isEmpty_cons, List.nil_append, List.cons_append, lit_inj, String.reduceEq, inL_ss, Bool.or_false, Bool.false_or, Bool.or_true, Bool.true_or, opS, gB, gZ, gO, cQ_Eq, cQ_NotEq, inL_nil]
      rw [if_neg (fun z => z h0)]
      exact h
    · cases hu
  | .log a, m, S, Q, E, v, hm, hp, hz, hv, h => by
    unfold hgt at hm
    have hz : zz a := hz.1
    obtain ⟨u, ha, hu⟩ := ev_one hv
    split at hu
    · rename_i h0
      cases hu
      obtain ⟨m, rfl⟩ : ∃ m', m = m' + 7 := ⟨m - 7, by omega⟩
      refine call_of t_evaluate rfl ?_
      simp -dsimp -implicitDefEqProofs only [ent, List.map_cons, List.map_nil, List.length_cons, List.length_nil, Nat.reduceAdd, Nat.reduceSub, Nat.zero_add, List.replicate, List.cons_append, List.nil_append, F_evaluate, XD]
      simp -dsimp -implicitDefEqProofs only [↓cov3, ↓cov2, ↓cov1, ↓E_var, ↓E_int, ↓E_bl, ↓E_non, ↓E_str, ↓E_glo, ↓E_tup, ↓E_lst, ↓E_bin, ↓E_neg, ↓E_cmp, ↓E_chn, ↓E_and, ↓E_or, ↓E_one, ↓E_not, ↓E_ifx, ↓E_idx, ↓E_slc, ↓E_call, ↓E_bi, ↓E_isi, ↓E_mth, ↓E_lc, ↓Es_nil, ↓Es_cons, ↓O_no, ↓O_some, ↓Q_no, ↓Q_c, ↓C_and, ↓C_or, ↓C_one, ↓C_not, ↓C_cmp, ↓C_chn, ↓C_v, ↓I_seq, ↓I_rng1, ↓I_rng2, ↓I_rng3, ↓I_enu, ↓I_zip, ↓I_rev, ↓S_set, ↓S_asg, ↓S_par2, ↓S_sub, ↓S_expr, ↓S_ret, ↓S_retN, ↓S_ifs, ↓S_for, ↓S_brk, ↓S_cnt, ↓S_pass, ↓S_raise, ↓S_try, ↓S_never, ex_t, ex_f, ↓S_nil, ↓S_cons, ↓kN_nx, ↓kN_rt, ↓kN_bk, ↓kN_ct, ↓kN_ex, ↓kL_nx, ↓kL_rt, ↓kL_bk, ↓kL_ct, ↓kL_ex, ↓kX_nx, ↓kX_rt, ↓kX_bk, ↓kX_ct, ↓kX_ex, ↓kend_nx, ↓kend_rt, ↓kend_bk, ↓kend_ct, ↓kend_ex, vr_some, gt_0, gt_s, stn_0, stn_s, wip_0, wip_s, wips_0, wips_s, neg_i, isi_s, o_i, tru_non, tru_bl, tru_int, tru_tup, tru_rol, c_Eq, c_NotEq, c_Lt, c_LtE, c_Gt, c_GtE, cs_Eq, cs_NotEq, cb_Eq, cb_NotEq, c2_Eq, c2_NotEq, is_non, isnot_non, is_bl, isnot_bl, is_int, isnot_int, is_str, isnot_str, is_tup, isnot_tup, is_rol, isnot_rol, is_ref, isnot_ref, is_b, isnot_b, in_s, notin_s, b_add, b_sub, b_mul, b_fdiv, b_mod, b_pow, b_addt, b_adds, atI0, atI1, atI2, atI3, slc_t, slc_r, len_s, abs_i, int_i, int_b, min_i, max_i, gcd_i, seq_t, seq_r, r1_i, r2_i, r3_i, a_nm, a_nil, a_cons, vrl_some, vrn_some, put_lget, Option.isSome_some, tru_ref, b_addl, idx_t, idx_r, idx_l, slc_l, len_t, len_r, len_l, tuple_t, tuple_r, tuple_l, list_t, list_r, list_l, app_l, rev_l, pop_l, popat_l, mT_l, seq_l, enu_l, zip_l, rev_i, rev_t, in_t, notin_t, fl_s, fl_i, fl_b, fl_n, inL_nil, inL_ss, inL_ii, List.all_cons, List.all_nil, Bool.and_self, Bool.and_true, Bool.true_and, zip_t, a_t, a_l, sub_l, isTs, isT, Option.map_some, List.length_cons, List.length_nil, Nat.reduceAdd, Nat.reduceSub, Nat.reduceLT, Nat.zero_add, Bool.false_eq_true, Bool.true_eq_false, if_false, if_true, decide_eq_true_eq, Bool.not_true, Bool.not_false, ite_true, ite_false, reduceIte, Bool.not_eq_true', decide_eq_false_iff_not, Int.cast_ofNat_Int, Int.reduceEq, Int.reduceLT, Int.reduceLE, Int.reduceNeg, Int.reduceAdd, Int.reduceSub, Int.reduceMul, Int.reduceToNat, decide_true, decide_false, not_true, not_false, not_true_eq_false, not_false_eq_true, true_and, and_true, eq_self, reduceCtorEq, List.isEmpty_nil, List.isEmpty_cons, List.nil_append, List.cons_append, lit_inj, String.reduceEq, inL_ss, Bool.or_false, Bool.false_or, Bool.or_true, Bool.true_or, opS]
      refine ev_ok hq a (m + 6) _ _ _ u (by omega) hp hz ha ?_
      simp -dsimp -implicitDefEqProofs only [↓cov3, ↓cov2, ↓cov1, ↓E_var, ↓E_int, ↓E_bl, ↓E_non, ↓E_str, ↓E_glo, ↓E_tup, ↓E_lst, ↓E_bin, ↓E_neg, ↓E_cmp, ↓E_chn, ↓E_and, ↓E_or, ↓E_one, ↓E_not, ↓E_ifx, ↓E_idx, ↓E_slc, ↓E_call, ↓E_bi, ↓E_isi, ↓E_mth, ↓E_lc, ↓Es_nil, ↓Es_cons, ↓O_no, ↓O_some, ↓Q_no, ↓Q_c, ↓C_and, ↓C_or, ↓C_one, ↓C_not, ↓C_cmp, ↓C_chn, ↓C_v, ↓I_seq, ↓I_rng1, ↓I_rng2, ↓I_rng3, ↓I_enu, ↓I_zip, ↓I_rev, ↓S_set, ↓S_asg, ↓S_par2, ↓S_sub, ↓S_expr, ↓S_ret, ↓S_retN, ↓S_ifs, ↓S_for, ↓S_brk, ↓S_cnt, ↓S_pass, ↓S_raise, ↓S_try, ↓S_never, ex_t, ex_f, ↓S_nil, ↓S_cons, ↓kN_nx, ↓kN_rt, ↓kN_bk, ↓kN_ct, ↓kN_ex, ↓kL_nx, ↓kL_rt, ↓kL_bk, ↓kL_ct, ↓kL_ex, ↓kX_nx, ↓kX_rt, ↓kX_bk, ↓kX_ct, ↓kX_ex, ↓kend_nx, ↓kend_rt, ↓kend_bk, ↓kend_ct, ↓kend_ex, vr_some, gt_0, gt_s, stn_0, stn_s, wip_0, wip_s, wips_0, wips_s, neg_i, isi_s, o_i, tru_non, tru_bl, tru_int, tru_tup, tru_rol, c_Eq, c_NotEq, c_Lt, c_LtE, c_Gt, c_GtE, cs_Eq, cs_NotEq, cb_Eq, cb_NotEq, c2_Eq, c2_NotEq, is_non, isnot_non, is_bl, isnot_bl, is_int, isnot_int, is_str, isnot_str, is_tup, isnot_tup, is_rol, isnot_rol, is_ref, isnot_ref, is_b, isnot_b, in_s, notin_s, b_add, b_sub, b_mul, b_fdiv, b_mod, b_pow, b_addt, b_adds, atI0, atI1, atI2, atI3, slc_t, slc_r, len_s, abs_i, int_i, int_b, min_i, max_i, gcd_i, seq_t, seq_r, r1_i, r2_i, r3_i, a_nm, a_nil, a_cons, vrl_some, vrn_some, put_lget, Option.isSome_some, tru_ref, b_addl, idx_t, idx_r, idx_l, slc_l, len_t, len_r, len_l, tuple_t, tuple_r, tuple_l, list_t, list_r, list_l, app_l, rev_l, pop_l, popat_l, mT_l, seq_l, enu_l, zip_l, rev_i, rev_t, in_t, notin_t, fl_s, fl_i, fl_b, fl_n, inL_nil, inL_ss, inL_ii, List.all_cons, List.all_nil, Bool.and_self, Bool.and_true, Bool.true_and, zip_t, a_t, a_l, sub_l, isTs, isT, Option.map_some, List.length_cons, List.length_nil, Nat.reduceAdd, Nat.reduceSub, Nat.reduceLT, Nat.zero_add, Bool.false_eq_true, Bool.true_eq_false, if_false, if_true, decide_eq_true_eq, Bool.not_true, Bool.not_false, ite_true, ite_false, reduceIte, Bool.not_eq_true', decide_eq_false_iff_not, Int.cast_ofNat_Int, Int.reduceEq, Int.reduceLT, Int.reduceLE, Int.reduceNeg, Int.reduceAdd, Int.reduceSub, Int.reduceMul, Int.reduceToNat, decide_true, decide_false, not_true, not_false, not_true_eq_false, not_false_eq_true, true_and, and_true, eq_self, reduceCtorEq, List.isEmpty_nil, List.isEmpty_cons, List.nil_append, List.cons_append, lit_inj, String.reduceEq, inL_ss, Bool.or_false, Bool.false_or, Bool.or_true, Bool.true_or, opS, gB, gZ, gO, cQ_Eq, cQ_NotEq, inL_nil]
      have h1 : ¬ u = 0 := by rw [h0]; decide
      rw [if_neg h1, if_neg (fun z => z h0)]
      exact h
    · cases hu
  | .pow a k, m, S, Q, E, v, hm, hp, hz, hv, h => by
    unfold hgt at hm
    obtain ⟨u, ha, hu⟩ := ev_one hv
    obtain ⟨h0, rfl⟩ := ev_pw hu
    have hz1 := hz.1
    have hp1 := hp.1
    obtain ⟨m, rfl⟩ : ∃ m', m = m' + 7 := ⟨m - 7, by omega⟩
    refine call_of t_evaluate rfl ?_
    simp -dsimp -implicitDefEqProofs only [ent, List.map_cons, List.map_nil, List.length_cons, List.length_nil, Nat.reduceAdd, Nat.reduceSub, Nat.zero_add, List.replicate, List.cons_append, List.nil_append, F_evaluate, XD]
    simp -dsimp -implicitDefEqProofs only [↓cov3, ↓cov2, ↓cov1, ↓E_var, ↓E_int, ↓E_bl, ↓E_non, ↓E_str, ↓E_glo, ↓E_tup, ↓E_lst, ↓E_bin, ↓E_neg, ↓E_cmp, ↓E_chn, ↓E_and, ↓E_or, ↓E_one, ↓E_not, ↓E_ifx, ↓E_idx, ↓E_slc, ↓E_call, ↓E_bi, ↓E_isi, ↓E_mth, ↓E_lc, ↓Es_nil, ↓Es_cons, ↓O_no, ↓O_some, ↓Q_no, ↓Q_c, ↓C_and, ↓C_or, ↓C_one, ↓C_not, ↓C_cmp, ↓C_chn, ↓C_v, ↓I_seq, ↓I_rng1, ↓I_rng2, ↓I_rng3, ↓I_enu, ↓I_zip, ↓I_rev, ↓S_set, ↓S_asg, ↓S_par2, ↓S_sub, ↓S_expr, ↓S_ret, ↓S_retN, ↓S_ifs, ↓S_for, ↓S_brk, ↓S_cnt, ↓S_pass, ↓S_raise, ↓S_try, ↓S_never, ex_t, ex_f, ↓S_nil, ↓S_cons, ↓kN_nx, ↓kN_rt, ↓kN_bk, ↓kN_ct, ↓kN_ex, ↓kL_nx, ↓kL_rt, ↓kL_bk, ↓kL_ct, ↓kL_ex, ↓kX_nx, ↓kX_rt, ↓kX_bk, ↓kX_ct, ↓kX_ex, ↓kend_nx, ↓kend_rt, ↓kend_bk, ↓kend_ct, ↓kend_ex, vr_some, gt_0, gt_s, stn_0, stn_s, wip_0, wip_s, wips_0, wips_s, neg_i, isi_s, o_i, tru_non, tru_bl, tru_int, tru_tup, tru_rol, c_Eq, c_NotEq, c_Lt, c_LtE, c_Gt, c_GtE, cs_Eq, cs_NotEq, cb_Eq, cb_NotEq, c2_Eq, c2_NotEq, is_non, isnot_non, is_bl, isnot_bl, is_int, isnot_int, is_str, isnot_str, is_tup, isnot_tup, is_rol, isnot_rol, is_ref, isnot_ref, is_b, isnot_b, in_s, notin_s, b_add, b_sub, b_mul, b_fdiv, b_mod, b_pow, b_addt, b_adds, atI0, atI1, atI2, atI3, slc_t, slc_r, len_s, abs_i, int_i, int_b, min_i, max_i, gcd_i, seq_t, seq_r, r1_i, r2_i, r3_i, a_nm, a_nil, a_cons, vrl_some, vrn_some, put_lget, Option.isSome_some, tru_ref, b_addl, idx_t, idx_r, idx_l, slc_l, len_t, len_r, len_l, tuple_t, tuple_r, tuple_l, list_t, list_r, list_l, app_l, rev_l, pop_l, popat_l, mT_l, seq_l, enu_l, zip_l, rev_i, rev_t, in_t, notin_t, fl_s, fl_i, fl_b, fl_n, inL_nil, inL_ss, inL_ii, List.all_cons, List.all_nil, Bool.and_self, Bool.and_true, Bool.true_and, zip_t, a_t, a_l, sub_l, isTs, isT, Option.map_some, List.length_cons, List.length_nil, Nat.reduceAdd, Nat.reduceSub, Nat.reduceLT, Nat.zero_add, Bool.false_eq_true, Bool.true_eq_false, if_false, if_true, decide_eq_true_eq, Bool.not_true, Bool.not_false, ite_true, ite_false, reduceIte, Bool.not_eq_true', decide_eq_false_iff_not, Int.cast_ofNat_Int, Int.reduceEq, Int.reduceLT, Int.reduceLE, Int.reduceNeg, Int.reduceAdd, Int.reduceSub, Int.reduceMul, Int.reduceToNat, decide_true, decide_false, not_true, not_false, not_true_eq_false, not_false_eq_true, true_and, and_true, eq_self, reduceCtorEq, List.isEmpty_nil, List.isEmpty_cons, List.nil_append, List.cons_append, lit_inj, String.reduceEq, inL_ss, Bool.or_false, Bool.false_or, Bool.or_true, Bool.true_or, opS]
    refine ev_ok hq a (m + 6) _ _ _ u (by omega) hp1 hz1 ha ?_
    simp -dsimp -implicitDefEqProofs only [↓cov3, ↓cov2, ↓cov1, ↓E_var, ↓E_int, ↓E_bl, ↓E_non, ↓E_str, ↓E_glo, ↓E_tup, ↓E_lst, ↓E_bin, ↓E_neg, ↓E_cmp, ↓E_chn, ↓E_and, ↓E_or, ↓E_one, ↓E_not, ↓E_ifx, ↓E_idx, ↓E_slc, ↓E_call, ↓E_bi, ↓E_isi, ↓E_mth, ↓E_lc, ↓Es_nil, ↓Es_cons, ↓O_no, ↓O_some, ↓Q_no, ↓Q_c, ↓C_and, ↓C_or, ↓C_one, ↓C_not, ↓C_cmp, ↓C_chn, ↓C_v, ↓I_seq, ↓I_rng1, ↓I_rng2, ↓I_rng3, ↓I_enu, ↓I_zip, ↓I_rev, ↓S_set, ↓S_asg, ↓S_par2, ↓S_sub, ↓S_expr, ↓S_ret, ↓S_retN, ↓S_ifs, ↓S_for, ↓S_brk, ↓S_cnt, ↓S_pass, ↓S_raise, ↓S_try, ↓S_never, ex_t, ex_f, ↓S_nil, ↓S_cons, ↓kN_nx, ↓kN_rt, ↓kN_bk, ↓kN_ct, ↓kN_ex, ↓kL_nx, ↓kL_rt, ↓kL_bk, ↓kL_ct, ↓kL_ex, ↓kX_nx, ↓kX_rt, ↓kX_bk, ↓kX_ct, ↓kX_ex, ↓kend_nx, ↓kend_rt, ↓kend_bk, ↓kend_ct, ↓kend_ex, vr_some, gt_0, gt_s, stn_0, stn_s, wip_0, wip_s, wips_0, wips_s, neg_i, isi_s, o_i, tru_non, tru_bl, tru_int, tru_tup, tru_rol, c_Eq, c_NotEq, c_Lt, c_LtE, c_Gt, c_GtE, cs_Eq, cs_NotEq, cb_Eq, cb_NotEq, c2_Eq, c2_NotEq, is_non, isnot_non, is_bl, isnot_bl, is_int, isnot_int, is_str, isnot_str, is_tup, isnot_tup, is_rol, isnot_rol, is_ref, isnot_ref, is_b, isnot_b, in_s, notin_s, b_add, b_sub, b_mul, b_fdiv, b_mod, b_pow, b_addt, b_adds, atI0, atI1, atI2, atI3, slc_t, slc_r, len_s, abs_i, int_i, int_b, min_i, max_i, gcd_i, seq_t, seq_r, r1_i, r2_i, r3_i, a_nm, a_nil, a_cons, vrl_some, vrn_some, put_lget, Option.isSome_some, tru_ref, b_addl, idx_t, idx_r, idx_l, slc_l, len_t, len_r, len_l, tuple_t, tuple_r, tuple_l, list_t, list_r, list_l, app_l, rev_l, pop_l, popat_l, mT_l, seq_l, enu_l, zip_l, rev_i, rev_t, in_t, notin_t, fl_s, fl_i, fl_b, fl_n, inL_nil, inL_ss, inL_ii, List.all_cons, List.all_nil, Bool.and_self, Bool.and_true, Bool.true_and, zip_t, a_t, a_l, sub_l, isTs, isT, Option.map_some, List.length_cons, List.length_nil, Nat.reduceAdd, Nat.reduceSub, Nat.reduceLT, Nat.zero_add, Bool.false_eq_true, Bool.true_eq_false, if_false, if_true, decide_eq_true_eq, Bool.not_true, Bool.not_false, ite_true, ite_false, reduceIte, Bool.not_eq_true', decide_eq_false_iff_not, Int.cast_ofNat_Int, Int.reduceEq, Int.reduceLT, Int.reduceLE, Int.reduceNeg, Int.reduceAdd, Int.reduceSub, Int.reduceMul, Int.reduceToNat, decide_true, decide_false, not_true, not_false, not_true_eq_false, not_false_eq_true, true_and, and_true, eq_self, reduceCtorEq, List.isEmpty_nil, List.isEmpty_cons, List.nil_append, List.cons_append, lit_inj, String.reduceEq, inL_ss, Bool.or_false, Bool.false_or, Bool.or_true, Bool.true_or, opS, gB, gZ, gO, cQ_Eq, cQ_NotEq, inL_nil]
    have fin : semF G T (m + 6) "rpow" [QD u, .int k] S Q E := rpow_ok ((QB_ev hq a u ha).le hz.2) hp.2 h0 h
    refine ite2 (fun hu0 => ite2 (fun hk => h0 hk hu0) fun _ => fin) fun _ => fin
  | .bin o a b, m, S, Q, E, v, hm, hp, hz, hv, h => by
    unfold hgt at hm
    obtain ⟨u, w, ha, hb, hu⟩ := ev_bin hv
    have hz1 := hz.1
    have hz2 := hz.2.1
    have hp1 := hp.1
    have hp2 := hp.2
    obtain ⟨m, rfl⟩ : ∃ m', m = m' + 7 := ⟨m - 7, by omega⟩
    cases o with
    | add =>
      cases hu
      refine call_of t_evaluate rfl ?_
      simp -dsimp -implicitDefEqProofs only [ent, List.map_cons, List.map_nil, List.length_cons, List.length_nil, Nat.reduceAdd, Nat.reduceSub, Nat.zero_add, List.replicate, List.cons_append, List.nil_append, F_evaluate, XD]
      simp -dsimp -implicitDefEqProofs only [↓cov3, ↓cov2, ↓cov1, ↓E_var, ↓E_int, ↓E_bl, ↓E_non, ↓E_str, ↓E_glo, ↓E_tup, ↓E_lst, ↓E_bin, ↓E_neg, ↓E_cmp, ↓E_chn, ↓E_and, ↓E_or, ↓E_one, ↓E_not, ↓E_ifx, ↓E_idx, ↓E_slc, ↓E_call, ↓E_bi, ↓E_isi, ↓E_mth, ↓E_lc, ↓Es_nil, ↓Es_cons, ↓O_no, ↓O_some, ↓Q_no, ↓Q_c, ↓C_and, ↓C_or, ↓C_one, ↓C_not, ↓C_cmp, ↓C_chn, ↓C_v, ↓I_seq, ↓I_rng1, ↓I_rng2, ↓I_rng3, ↓I_enu, ↓I_zip, ↓I_rev, ↓S_set, ↓S_asg, ↓S_par2, ↓S_sub, ↓S_expr, ↓S_ret, ↓S_retN, ↓S_ifs, ↓S_for, ↓S_brk, ↓S_cnt, ↓S_pass, ↓S_raise, ↓S_try, ↓S_never, ex_t, ex_f, ↓S_nil, ↓S_cons, ↓kN_nx, ↓kN_rt, ↓kN_bk, ↓kN_ct, ↓kN_ex, ↓kL_nx, ↓kL_rt, ↓kL_bk, ↓kL_ct, ↓kL_ex, ↓kX_nx, ↓kX_rt, ↓kX_bk, ↓kX_ct, ↓kX_ex, ↓kend_nx, ↓kend_rt, ↓kend_bk, ↓kend_ct, ↓kend_ex, vr_some, gt_0, gt_s, stn_0, stn_s, wip_0, wip_s, wips_0, wips_s, neg_i, isi_s, o_i, tru_non, tru_bl, tru_int, tru_tup, tru_rol, c_Eq, c_NotEq, c_Lt, c_LtE, c_Gt, c_GtE, cs_Eq, cs_NotEq, cb_Eq, cb_NotEq, c2_Eq, c2_NotEq, is_non, isnot_non, is_bl, isnot_bl, is_int, isnot_int, is_str, isnot_str, is_tup, isnot_tup, is_rol, isnot_rol, is_ref, isnot_ref, is_b, isnot_b, in_s, notin_s, b_add, b_sub, b_mul, b_fdiv, b_mod, b_pow, b_addt, b_adds, atI0, atI1, atI2, atI3, slc_t, slc_r, len_s, abs_i, int_i, int_b, min_i, max_i, gcd_i, seq_t, seq_r, r1_i, r2_i, r3_i, a_nm, a_nil, a_cons, vrl_some, vrn_some, put_lget, Option.isSome_some, tru_ref, b_addl, idx_t, idx_r, idx_l, slc_l, len_t, len_r, len_l, tuple_t, tuple_r, tuple_l, list_t, list_r, list_l, app_l, rev_l, pop_l, popat_l, mT_l, seq_l, enu_l, zip_l, rev_i, rev_t, in_t, notin_t, fl_s, fl_i, fl_b, fl_n, inL_nil, inL_ss, inL_ii, List.all_cons, List.all_nil, Bool.and_self, Bool.and_true, Bool.true_and, zip_t, a_t, a_l, sub_l, isTs, isT, Option.map_some, List.length_cons, List.length_nil, Nat.reduceAdd, Nat.reduceSub, Nat.reduceLT, Nat.zero_add, Bool.false_eq_true, Bool.true_eq_false, if_false, if_true, decide_eq_true_eq, Bool.not_true, Bool.not_false, ite_true, ite_false, reduceIte, Bool.not_eq_true', decide_eq_false_iff_not, Int.cast_ofNat_Int, Int.reduceEq, Int.reduceLT, Int.reduceLE, Int.reduceNeg, Int.reduceAdd, Int.reduceSub, Int.reduceMul, Int.reduceToNat, decide_true, decide_false, not_true, not_false, not_true_eq_false, not_false_eq_true, true_and, and_true, eq_self, reduceCtorEq, List.isEmpty_nil, List.isEmpty_cons, List.nil_append, List.cons_append, lit_inj, String.reduceEq, inL_ss, Bool.or_false, Bool.false_or, Bool.or_true, Bool.true_or, opS]
      refine ev_ok hq a (m + 6) _ _ _ u (by omega) hp1 hz1 ha ?_
      simp -dsimp -implicitDefEqProofs only [↓cov3, ↓cov2, ↓cov1, ↓E_var, ↓E_int, ↓E_bl, ↓E_non, ↓E_str, ↓E_glo, ↓E_tup, ↓E_lst, ↓E_bin, ↓E_neg, ↓E_cmp, ↓E_chn, ↓E_and, ↓E_or, ↓E_one, ↓E_not, ↓E_ifx, ↓E_idx, ↓E_slc, ↓E_call, ↓E_bi, ↓E_isi, ↓E_mth, ↓E_lc, ↓Es_nil, ↓Es_cons, ↓O_no, ↓O_some, ↓Q_no, ↓Q_c, ↓C_and, ↓C_or, ↓C_one, ↓C_not, ↓C_cmp, ↓C_chn, ↓C_v, ↓I_seq, ↓I_rng1, ↓I_rng2, ↓I_rng3, ↓I_enu, ↓I_zip, ↓I_rev, ↓S_set, ↓S_asg, ↓S_par2, ↓S_sub, ↓S_expr, ↓S_ret, ↓S_retN, ↓S_ifs, ↓S_for, ↓S_brk, ↓S_cnt, ↓S_pass, ↓S_raise, ↓S_try, ↓S_never, ex_t, ex_f, ↓S_nil, ↓S_cons, ↓kN_nx, ↓kN_rt, ↓kN_bk, ↓kN_ct, ↓kN_ex, ↓kL_nx, ↓kL_rt, ↓kL_bk, ↓kL_ct, ↓kL_ex, ↓kX_nx, ↓kX_rt, ↓kX_bk, ↓kX_ct, ↓kX_ex, ↓kend_nx, ↓kend_rt, ↓kend_bk, ↓kend_ct, ↓kend_ex, vr_some, gt_0, gt_s, stn_0, stn_s, wip_0, wip_s, wips_0, wips_s, neg_i, isi_s, o_i, tru_non, tru_bl, tru_int, tru_tup, tru_rol, c_Eq, c_NotEq, c_Lt, c_LtE, c_Gt, c_GtE, cs_Eq, cs_NotEq, cb_Eq, cb_NotEq, c2_Eq, c2_NotEq, is_non, isnot_non, is_bl, isnot_bl, is_int, isnot_int, is_str, isnot_str, is_tup, isnot_tup, is_rol, isnot_rol, is_ref, isnot_ref, is_b, isnot_b, in_s, notin_s, b_add, b_sub, b_mul, b_fdiv, b_mod, b_pow, b_addt, b_adds, atI0, atI1, atI2, atI3, slc_t, slc_r, len_s, abs_i, int_i, int_b, min_i, max_i, gcd_i, seq_t, seq_r, r1_i, r2_i, r3_i, a_nm, a_nil, a_cons, vrl_some, vrn_some, put_lget, Option.isSome_some, tru_ref, b_addl, idx_t, idx_r, idx_l, slc_l, len_t, len_r, len_l, tuple_t, tuple_r, tuple_l, list_t, list_r, list_l, app_l, rev_l, pop_l, popat_l, mT_l, seq_l, enu_l, zip_l, rev_i, rev_t, in_t, notin_t, fl_s, fl_i, fl_b, fl_n, inL_nil, inL_ss, inL_ii, List.all_cons, List.all_nil, Bool.and_self, Bool.and_true, Bool.true_and, zip_t, a_t, a_l, sub_l, isTs, isT, Option.map_some, List.length_cons, List.length_nil, Nat.reduceAdd, Nat.reduceSub, Nat.reduceLT, Nat.zero_add, Bool.false_eq_true, Bool.true_eq_false, if_false, if_true, decide_eq_true_eq, Bool.not_true, Bool.not_false, ite_true, ite_false, reduceIte, Bool.not_eq_true', decide_eq_false_iff_not, Int.cast_ofNat_Int, Int.reduceEq, Int.reduceLT, Int.reduceLE, Int.reduceNeg, Int.reduceAdd, Int.reduceSub, Int.reduceMul, Int.reduceToNat, decide_true, decide_false, not_true, not_false, not_true_eq_false, not_false_eq_true, true_and, and_true, eq_self, reduceCtorEq, List.isEmpty_nil, List.isEmpty_cons, List.nil_append, List.cons_append, lit_inj, String.reduceEq, inL_ss, Bool.or_false, Bool.false_or, Bool.or_true, Bool.true_or, opS, gB, gZ, gO, cQ_Eq, cQ_NotEq, inL_nil]
      refine ev_ok hq b (m + 6) _ _ _ w (by omega) hp2 hz2 hb ?_
      simp -dsimp -implicitDefEqProofs only [↓cov3, ↓cov2, ↓cov1, ↓E_var, ↓E_int, ↓E_bl, ↓E_non, ↓E_str, ↓E_glo, ↓E_tup, ↓E_lst, ↓E_bin, ↓E_neg, ↓E_cmp, ↓E_chn, ↓E_and, ↓E_or, ↓E_one, ↓E_not, ↓E_ifx, ↓E_idx, ↓E_slc, ↓E_call, ↓E_bi, ↓E_isi, ↓E_mth, ↓E_lc, ↓Es_nil, ↓Es_cons, ↓O_no, ↓O_some, ↓Q_no, ↓Q_c, ↓C_and, ↓C_or, ↓C_one, ↓C_not, ↓C_cmp, ↓C_chn, ↓C_v, ↓I_seq, ↓I_rng1, ↓I_rng2, ↓I_rng3, ↓I_enu, ↓I_zip, ↓I_rev, ↓S_set, ↓S_asg, ↓S_par2, ↓S_sub, ↓S_expr, ↓S_ret, ↓S_retN, ↓S_ifs, ↓S_for, ↓S_brk, ↓S_cnt, ↓S_pass, ↓S_raise, ↓S_try, ↓S_never, ex_t, ex_f, ↓S_nil, ↓S_cons, ↓kN_nx, ↓kN_rt, ↓kN_bk, ↓kN_ct, ↓kN_ex, ↓kL_nx, ↓kL_rt, ↓kL_bk, ↓kL_ct, ↓kL_ex, ↓kX_nx, ↓kX_rt, ↓kX_bk, ↓kX_ct, ↓kX_ex, ↓kend_nx, ↓kend_rt, ↓kend_bk, ↓kend_ct, ↓kend_ex, vr_some, gt_0, gt_s, stn_0, stn_s, wip_0, wip_s, wips_0, wips_s, neg_i, isi_s, o_i, tru_non, tru_bl, tru_int, tru_tup, tru_rol, c_Eq, c_NotEq, c_Lt, c_LtE, c_Gt, c_GtE, cs_Eq, cs_NotEq, cb_Eq, cb_NotEq, c2_Eq, c2_NotEq, is_non, isnot_non, is_bl, isnot_bl, is_int, isnot_int, is_str, isnot_str, is_tup, isnot_tup, is_rol, isnot_rol, is_ref, isnot_ref, is_b, isnot_b, in_s, notin_s, b_add, b_sub, b_mul, b_fdiv, b_mod, b_pow, b_addt, b_adds, atI0, atI1, atI2, atI3, slc_t, slc_r, len_s, abs_i, int_i, int_b, min_i, max_i, gcd_i, seq_t, seq_r, r1_i, r2_i, r3_i, a_nm, a_nil, a_cons, vrl_some, vrn_some, put_lget, Option.isSome_some, tru_ref, b_addl, idx_t, idx_r, idx_l, slc_l, len_t, len_r, len_l, tuple_t, tuple_r, tuple_l, list_t, list_r, list_l, app_l, rev_l, pop_l, popat_l, mT_l, seq_l, enu_l, zip_l, rev_i, rev_t, in_t, notin_t, fl_s, fl_i, fl_b, fl_n, inL_nil, inL_ss, inL_ii, List.all_cons, List.all_nil, Bool.and_self, Bool.and_true, Bool.true_and, zip_t, a_t, a_l, sub_l, isTs, isT, Option.map_some, List.length_cons, List.length_nil, Nat.reduceAdd, Nat.reduceSub, Nat.reduceLT, Nat.zero_add, Bool.false_eq_true, Bool.true_eq_false, if_false, if_true, decide_eq_true_eq, Bool.not_true, Bool.not_false, ite_true, ite_false, reduceIte, Bool.not_eq_true', decide_eq_false_iff_not, Int.cast_ofNat_Int, Int.reduceEq, Int.reduceLT, Int.reduceLE, Int.reduceNeg, Int.reduceAdd, Int.reduceSub, Int.reduceMul, Int.reduceToNat, decide_true, decide_false, not_true, not_false, not_true_eq_false, not_false_eq_true, true_and, and_true, eq_self, reduceCtorEq, List.isEmpty_nil, List.isEmpty_cons, List.nil_append, List.cons_append]
      have qa := QB_ev hq a u ha
      have qb := QB_ev hq b w hb
      have hs := hz.2.2
      refine call_of t_binary_value rfl ?_
      simp -dsimp -implicitDefEqProofs only [ent, List.map_cons, List.map_nil, List.length_cons, List.length_nil, Nat.reduceAdd, Nat.reduceSub, Nat.zero_add, List.replicate, List.cons_append, List.nil_append, F_binary_value]
      simp -dsimp -implicitDefEqProofs only [↓cov3, ↓cov2, ↓cov1, ↓E_var, ↓E_int, ↓E_bl, ↓E_non, ↓E_str, ↓E_glo, ↓E_tup, ↓E_lst, ↓E_bin, ↓E_neg, ↓E_cmp, ↓E_chn, ↓E_and, ↓E_or, ↓E_one, ↓E_not, ↓E_ifx, ↓E_idx, ↓E_slc, ↓E_call, ↓E_bi, ↓E_isi, ↓E_mth, ↓E_lc, ↓Es_nil, ↓Es_cons, ↓O_no, ↓O_some, ↓Q_no, ↓Q_c, ↓C_and, ↓C_or, ↓C_one, ↓C_not, ↓C_cmp, ↓C_chn, ↓C_v, ↓I_seq, ↓I_rng1, ↓I_rng2, ↓I_rng3, ↓I_enu, ↓I_zip, ↓I_rev, ↓S_set, ↓S_asg, ↓S_par2, ↓S_sub, ↓S_expr, ↓S_ret, ↓S_retN, ↓S_ifs, ↓S_for, ↓S_brk, ↓S_cnt, ↓S_pass, ↓S_raise, ↓S_try, ↓S_never, ex_t, ex_f, ↓S_nil, ↓S_cons, ↓kN_nx, ↓kN_rt, ↓kN_bk, ↓kN_ct, ↓kN_ex, ↓kL_nx, ↓kL_rt, ↓kL_bk, ↓kL_ct, ↓kL_ex, ↓kX_nx, ↓kX_rt, ↓kX_bk, ↓kX_ct, ↓kX_ex, ↓kend_nx, ↓kend_rt, ↓kend_bk, ↓kend_ct, ↓kend_ex, vr_some, gt_0, gt_s, stn_0, stn_s, wip_0, wip_s, wips_0, wips_s, neg_i, isi_s, o_i, tru_non, tru_bl, tru_int, tru_tup, tru_rol, c_Eq, c_NotEq, c_Lt, c_LtE, c_Gt, c_GtE, cs_Eq, cs_NotEq, cb_Eq, cb_NotEq, c2_Eq, c2_NotEq, is_non, isnot_non, is_bl, isnot_bl, is_int, isnot_int, is_str, isnot_str, is_tup, isnot_tup, is_rol, isnot_rol, is_ref, isnot_ref, is_b, isnot_b, in_s, notin_s, b_add, b_sub, b_mul, b_fdiv, b_mod, b_pow, b_addt, b_adds, atI0, atI1, atI2, atI3, slc_t, slc_r, len_s, abs_i, int_i, int_b, min_i, max_i, gcd_i, seq_t, seq_r, r1_i, r2_i, r3_i, a_nm, a_nil, a_cons, vrl_some, vrn_some, put_lget, Option.isSome_some, tru_ref, b_addl, idx_t, idx_r, idx_l, slc_l, len_t, len_r, len_l, tuple_t, tuple_r, tuple_l, list_t, list_r, list_l, app_l, rev_l, pop_l, popat_l, mT_l, seq_l, enu_l, zip_l, rev_i, rev_t, in_t, notin_t, fl_s, fl_i, fl_b, fl_n, inL_nil, inL_ss, inL_ii, List.all_cons, List.all_nil, Bool.and_self, Bool.and_true, Bool.true_and, zip_t, a_t, a_l, sub_l, isTs, isT, Option.map_some, List.length_cons, List.length_nil, Nat.reduceAdd, Nat.reduceSub, Nat.reduceLT, Nat.zero_add, Bool.false_eq_true, Bool.true_eq_false, if_false, if_true, decide_eq_true_eq, Bool.not_true, Bool.not_false, ite_true, ite_false, reduceIte, Bool.not_eq_true', decide_eq_false_iff_not, Int.cast_ofNat_Int, Int.reduceEq, Int.reduceLT, Int.reduceLE, Int.reduceNeg, Int.reduceAdd, Int.reduceSub, Int.reduceMul, Int.reduceToNat, decide_true, decide_false, not_true, not_false, not_true_eq_false, not_false_eq_true, true_and, and_true, eq_self, reduceCtorEq, List.isEmpty_nil, List.isEmpty_cons, List.nil_append, List.cons_append, lit_inj, String.reduceEq, inL_ss, Bool.or_false, Bool.false_or, Bool.or_true, Bool.true_or]
      exact radd_ok t_radd t_rational trivial qa qb (by omega) h
    | sub =>
      cases hu
      refine call_of t_evaluate rfl ?_
      simp -dsimp -implicitDefEqProofs only [ent, List.map_cons, List.map_nil, List.length_cons, List.length_nil, Nat.reduceAdd, Nat.reduceSub, Nat.zero_add, List.replicate, List.cons_append, List.nil_append, F_evaluate, XD]
      simp -dsimp -implicitDefEqProofs only [↓cov3, ↓cov2, ↓cov1, ↓E_var, ↓E_int, ↓E_bl, ↓E_non, ↓E_str, ↓E_glo, ↓E_tup, ↓E_lst, ↓E_bin, ↓E_neg, ↓E_cmp, ↓E_chn, ↓E_and, ↓E_or, ↓E_one, ↓E_not, ↓E_ifx, ↓E_idx, ↓E_slc, ↓E_call, ↓E_bi, ↓E_isi, ↓E_mth, ↓E_lc, ↓Es_nil, ↓Es_cons, ↓O_no, ↓O_some, ↓Q_no, ↓Q_c, ↓C_and, ↓C_or, ↓C_one, ↓C_not, ↓C_cmp, ↓C_chn, ↓C_v, ↓I_seq, ↓I_rng1, ↓I_rng2, ↓I_rng3, ↓I_enu, ↓I_zip, ↓I_rev, ↓S_set, ↓S_asg, ↓S_par2, ↓S_sub, ↓S_expr, ↓S_ret, ↓S_retN, ↓S_ifs, ↓S_for, ↓S_brk, ↓S_cnt, ↓S_pass, ↓S_raise, ↓S_try, ↓S_never, ex_t, ex_f, ↓S_nil, ↓S_cons, ↓kN_nx, ↓kN_rt, ↓kN_bk, ↓kN_ct, ↓kN_ex, ↓kL_nx, ↓kL_rt, ↓kL_bk, ↓kL_ct, ↓kL_ex, ↓kX_nx, ↓kX_rt, ↓kX_bk, ↓kX_ct, ↓kX_ex, ↓kend_nx, ↓kend_rt, ↓kend_bk, ↓kend_ct, ↓kend_ex, vr_some, gt_0, gt_s, stn_0, stn_s, wip_0, wip_s, wips_0, wips_s, neg_i, isi_s, o_i, tru_non, tru_bl, tru_int, tru_tup, tru_rol, c_Eq, c_NotEq, c_Lt, c_LtE, c_Gt, c_GtE, cs_Eq, cs_NotEq, cb_Eq, cb_NotEq, c2_Eq, c2_NotEq, is_non, isnot_non, is_bl, isnot_bl, is_int, isnot_int, is_str, isnot_str, is_tup, isnot_tup, is_rol, isnot_rol, is_ref, isnot_ref, is_b, isnot_b, in_s, notin_s, b_add, b_sub, b_mul, b_fdiv, b_mod, b_pow, b_addt, b_adds, atI0, atI1, atI2, atI3, slc_t, slc_r, len_s, abs_i, int_i, int_b, min_i, max_i, gcd_i, seq_t, seq_r, r1_i, r2_i, r3_i, a_nm, a_nil, a_cons, vrl_some, vrn_some, put_lget, Option.isSome_some, tru_ref, b_addl, idx_t, idx_r, idx_l, slc_l, len_t, len_r, len_l, tuple_t, tuple_r, tuple_l, list_t, list_r, list_l, app_l, rev_l, pop_l, popat_l, mT_l, seq_l, enu_l, zip_l, rev_i, rev_t, in_t, notin_t, fl_s, fl_i, fl_b, fl_n, inL_nil, inL_ss, inL_ii, List.all_cons, List.all_nil, Bool.and_self, Bool.and_true, Bool.true_and, zip_t, a_t, a_l, sub_l, isTs, isT, Option.map_some, List.length_cons, List.length_nil, Nat.reduceAdd, Nat.reduceSub, Nat.reduceLT, Nat.zero_add, Bool.false_eq_true, Bool.true_eq_false, if_false, if_true, decide_eq_true_eq, Bool.not_true, Bool.not_false, ite_true, ite_false, reduceIte, Bool.not_eq_true', decide_eq_false_iff_not, Int.cast_ofNat_Int, Int.reduceEq, Int.reduceLT, Int.reduceLE, Int.reduceNeg, Int.reduceAdd, Int.reduceSub, Int.reduceMul, Int.reduceToNat, decide_true, decide_false, not_true, not_false, not_true_eq_false, not_false_eq_true, true_and, and_true, eq_self, reduceCtorEq, List.isEmpty_nil, List.isEmpty_cons, List.nil_append, List.cons_append, lit_inj, String.reduceEq, inL_ss, Bool.or_false, Bool.false_or, Bool.or_true, Bool.true_or, opS]
      refine ev_ok hq a (m + 6) _ _ _ u (by omega) hp1 hz1 ha ?_
      simp -dsimp -implicitDefEqProofs only [↓cov3, ↓cov2, ↓cov1, ↓E_var, ↓E_int, ↓E_bl, ↓E_non, ↓E_str, ↓E_glo, ↓E_tup, ↓E_lst, ↓E_bin, ↓E_neg, ↓E_cmp, ↓E_chn, ↓E_and, ↓E_or, ↓E_one, ↓E_not, ↓E_ifx, ↓E_idx, ↓E_slc, ↓E_call, ↓E_bi, ↓E_isi, ↓E_mth, ↓E_lc, ↓Es_nil, ↓Es_cons, ↓O_no, ↓O_some, ↓Q_no, ↓Q_c, ↓C_and, ↓C_or, ↓C_one, ↓C_not, ↓C_cmp, ↓C_chn, ↓C_v, ↓I_seq, ↓I_rng1, ↓I_rng2, ↓I_rng3, ↓I_enu, ↓I_zip, ↓I_rev, ↓S_set, ↓S_asg, ↓S_par2, ↓S_sub, ↓S_expr, ↓S_ret, ↓S_retN, ↓S_ifs, ↓S_for, ↓S_brk, ↓S_cnt, ↓S_pass, ↓S_raise, ↓S_try, ↓S_never, ex_t, ex_f, ↓S_nil, ↓S_cons, ↓kN_nx, ↓kN_rt, ↓kN_bk, ↓kN_ct, ↓kN_ex, ↓kL_nx, ↓kL_rt, ↓kL_bk, ↓kL_ct, ↓kL_ex, ↓kX_nx, ↓kX_rt, ↓kX_bk, ↓kX_ct, ↓kX_ex, ↓kend_nx, ↓kend_rt, ↓kend_bk, ↓kend_ct, ↓kend_ex, vr_some, gt_0, gt_s, stn_0, stn_s, wip_0, wip_s, wips_0, wips_s, neg_i, isi_s, o_i, tru_non, tru_bl, tru_int, tru_tup, tru_rol, c_Eq, c_NotEq, c_Lt, c_LtE, c_Gt, c_GtE, cs_Eq, cs_NotEq, cb_Eq, cb_NotEq, c2_Eq, c2_NotEq, is_non, isnot_non, is_bl, isnot_bl, is_int, isnot_int, is_str, isnot_str, is_tup, isnot_tup, is_rol, isnot_rol, is_ref, isnot_ref, is_b, isnot_b, in_s, notin_s, b_add, b_sub, b_mul, b_fdiv, b_mod, b_pow, b_addt, b_adds, atI0, atI1, atI2, atI3, slc_t, slc_r, len_s, abs_i, int_i, int_b, min_i, max_i, gcd_i, seq_t, seq_r, r1_i, r2_i, r3_i, a_nm, a_nil, a_cons, vrl_some, vrn_some, put_lget, Option.isSome_some, tru_ref, b_addl, idx_t, idx_r, idx_l, slc_l, len_t, len_r, len_l, tuple_t, tuple_r, tuple_l, list_t, list_r, list_l, app_l, rev_l, pop_l, popat_l, mT_l, seq_l, enu_l, zip_l, rev_i, rev_t, in_t, notin_t, fl_s, fl_i, fl_b, fl_n, inL_nil, inL_ss, inL_ii, List.all_cons, List.all_nil, Bool.and_self, Bool.and_true, Bool.true_and, zip_t, a_t, a_l, sub_l, isTs, isT, Option.map_some, List.length_cons, List.length_nil, Nat.reduceAdd, Nat.reduceSub, Nat.reduceLT, Nat.zero_add, Bool.false_eq_true, Bool.true_eq_false, if_false, if_true, decide_eq_true_eq, Bool.not_true, Bool.not_false, ite_true, ite_false, reduceIte, Bool.not_eq_true', decide_eq_false_iff_not, Int.cast_ofNat_Int, Int.reduceEq, Int.reduceLT, Int.reduceLE, Int.reduceNeg, Int.reduceAdd, Int.reduceSub, Int.reduceMul, Int.reduceToNat, decide_true, decide_false, not_true, not_false, not_true_eq_false, not_false_eq_true, true_and, and_true, eq_self, reduceCtorEq, List.isEmpty_nil, List.isEmpty_cons, List.nil_append, List.cons_append, lit_inj, String.reduceEq, inL_ss, Bool.or_false, Bool.false_or, Bool.or_true, Bool.true_or, opS, gB, gZ, gO, cQ_Eq, cQ_NotEq, inL_nil]
      refine ev_ok hq b (m + 6) _ _ _ w (by omega) hp2 hz2 hb ?_
      simp -dsimp -implicitDefEqProofs only [↓cov3, ↓cov2, ↓cov1, ↓E_var, ↓E_int, ↓E_bl, ↓E_non, ↓E_str, ↓E_glo, ↓E_tup, ↓E_lst, ↓E_bin, ↓E_neg, ↓E_cmp, ↓E_chn, ↓E_and, ↓E_or, ↓E_one, ↓E_not, ↓E_ifx, ↓E_idx, ↓E_slc, ↓E_call, ↓E_bi, ↓E_isi, ↓E_mth, ↓E_lc, ↓Es_nil, ↓Es_cons, ↓O_no, ↓O_some, ↓Q_no, ↓Q_c, ↓C_and, ↓C_or, ↓C_one, ↓C_not, ↓C_cmp, ↓C_chn, ↓C_v, ↓I_seq, ↓I_rng1, ↓I_rng2, ↓I_rng3, ↓I_enu, ↓I_zip, ↓I_rev, ↓S_set, ↓S_asg, ↓S_par2, ↓S_sub, ↓S_expr, ↓S_ret, ↓S_retN, ↓S_ifs, ↓S_for, ↓S_brk, ↓S_cnt, ↓S_pass, ↓S_raise, ↓S_try, ↓S_never, ex_t, ex_f, ↓S_nil, ↓S_cons, ↓kN_nx, ↓kN_rt, ↓kN_bk, ↓kN_ct, ↓kN_ex, ↓kL_nx, ↓kL_rt, ↓kL_bk, ↓kL_ct, ↓kL_ex, ↓kX_nx, ↓kX_rt, ↓kX_bk, ↓kX_ct, ↓kX_ex, ↓kend_nx, ↓kend_rt, ↓kend_bk, ↓kend_ct, ↓kend_ex, vr_some, gt_0, gt_s, stn_0, stn_s, wip_0, wip_s, wips_0, wips_s, neg_i, isi_s, o_i, tru_non, tru_bl, tru_int, tru_tup, tru_rol, c_Eq, c_NotEq, c_Lt, c_LtE, c_Gt, c_GtE, cs_Eq, cs_NotEq, cb_Eq, cb_NotEq, c2_Eq, c2_NotEq, is_non, isnot_non, is_bl, isnot_bl, is_int, isnot_int, is_str, isnot_str, is_tup, isnot_tup, is_rol, isnot_rol, is_ref, isnot_ref, is_b, isnot_b, in_s, notin_s, b_add, b_sub, b_mul, b_fdiv, b_mod, b_pow, b_addt, b_adds, atI0, atI1, atI2, atI3, slc_t, slc_r, len_s, abs_i, int_i, int_b, min_i, max_i, gcd_i, seq_t, seq_r, r1_i, r2_i, r3_i, a_nm, a_nil, a_cons, vrl_some, vrn_some, put_lget, Option.isSome_some, tru_ref, b_addl, idx_t, idx_r, idx_l, slc_l, len_t, len_r, len_l, tuple_t, tuple_r, tuple_l, list_t, list_r, list_l, app_l, rev_l, pop_l, popat_l, mT_l, seq_l, enu_l, zip_l, rev_i, rev_t, in_t, notin_t, fl_s, fl_i, fl_b, fl_n, inL_nil, inL_ss, inL_ii, List.all_cons, List.all_nil, Bool.and_self, Bool.and_true, Bool.true_and, zip_t, a_t, a_l, sub_l, isTs, isT, Option.map_some, List.length_cons, List.length_nil, Nat.reduceAdd, Nat.reduceSub, Nat.reduceLT, Nat.zero_add, Bool.false_eq_true, Bool.true_eq_false, if_false, if_true, decide_eq_true_eq, Bool.not_true, Bool.not_false, ite_true, ite_false, reduceIte, Bool.not_eq_true', decide_eq_false_iff_not, Int.cast_ofNat_Int, Int.reduceEq, Int.reduceLT, Int.reduceLE, Int.reduceNeg, Int.reduceAdd, Int.reduceSub, Int.reduceMul, Int.reduceToNat, decide_true, decide_false, not_true, not_false, not_true_eq_false, not_false_eq_true, true_and, and_true, eq_self, reduceCtorEq, List.isEmpty_nil, List.isEmpty_cons, List.nil_append, List.cons_append]
      have qa := QB_ev hq a u ha
      have qb := QB_ev hq b w hb
      have hs := hz.2.2
      refine call_of t_binary_value rfl ?_
      simp -dsimp -implicitDefEqProofs only [ent, List.map_cons, List.map_nil, List.length_cons, List.length_nil, Nat.reduceAdd, Nat.reduceSub, Nat.zero_add, List.replicate, List.cons_append, List.nil_append, F_binary_value]
      simp -dsimp -implicitDefEqProofs only [↓cov3, ↓cov2, ↓cov1, ↓E_var, ↓E_int, ↓E_bl, ↓E_non, ↓E_str, ↓E_glo, ↓E_tup, ↓E_lst, ↓E_bin, ↓E_neg, ↓E_cmp, ↓E_chn, ↓E_and, ↓E_or, ↓E_one, ↓E_not, ↓E_ifx, ↓E_idx, ↓E_slc, ↓E_call, ↓E_bi, ↓E_isi, ↓E_mth, ↓E_lc, ↓Es_nil, ↓Es_cons, ↓O_no, ↓O_some, ↓Q_no, ↓Q_c, ↓C_and, ↓C_or, ↓C_one, ↓C_not, ↓C_cmp, ↓C_chn, ↓C_v, ↓I_seq, ↓I_rng1, ↓I_rng2, ↓I_rng3, ↓I_enu, ↓I_zip, ↓I_rev, ↓S_set, ↓S_asg, ↓S_par2, ↓S_sub, ↓S_expr, ↓S_ret, ↓S_retN, ↓S_ifs, ↓S_for, ↓S_brk, ↓S_cnt, ↓S_pass, ↓S_raise, ↓S_try, ↓S_never, ex_t, ex_f, ↓S_nil, ↓S_cons, ↓kN_nx, ↓kN_rt, ↓kN_bk, ↓kN_ct, ↓kN_ex, ↓kL_nx, ↓kL_rt, ↓kL_bk, ↓kL_ct, ↓kL_ex, ↓kX_nx, ↓kX_rt, ↓kX_bk, ↓kX_ct, ↓kX_ex, ↓kend_nx, ↓kend_rt, ↓kend_bk, ↓kend_ct, ↓kend_ex, vr_some, gt_0, gt_s, stn_0, stn_s, wip_0, wip_s, wips_0, wips_s, neg_i, isi_s, o_i, tru_non, tru_bl, tru_int, tru_tup, tru_rol, c_Eq, c_NotEq, c_Lt, c_LtE, c_Gt, c_GtE, cs_Eq, cs_NotEq, cb_Eq, cb_NotEq, c2_Eq, c2_NotEq, is_non, isnot_non, is_bl, isnot_bl, is_int, isnot_int, is_str, isnot_str, is_tup, isnot_tup, is_rol, isnot_rol, is_ref, isnot_ref, is_b, isnot_b, in_s, notin_s, b_add, b_sub, b_mul, b_fdiv, b_mod, b_pow, b_addt, b_adds, atI0, atI1, atI2, atI3, slc_t, slc_r, len_s, abs_i, int_i, int_b, min_i, max_i, gcd_i, seq_t, seq_r, r1_i, r2_i, r3_i, a_nm, a_nil, a_cons, vrl_some, vrn_some, put_lget, Option.isSome_some, tru_ref, b_addl, idx_t, idx_r, idx_l, slc_l, len_t, len_r, len_l, tuple_t, tuple_r, tuple_l, list_t, list_r, list_l, app_l, rev_l, pop_l, popat_l, mT_l, seq_l, enu_l, zip_l, rev_i, rev_t, in_t, notin_t, fl_s, fl_i, fl_b, fl_n, inL_nil, inL_ss, inL_ii, List.all_cons, List.all_nil, Bool.and_self, Bool.and_true, Bool.true_and, zip_t, a_t, a_l, sub_l, isTs, isT, Option.map_some, List.length_cons, List.length_nil, Nat.reduceAdd, Nat.reduceSub, Nat.reduceLT, Nat.zero_add, Bool.false_eq_true, Bool.true_eq_false, if_false, if_true, decide_eq_true_eq, Bool.not_true, Bool.not_false, ite_true, ite_false, reduceIte, Bool.not_eq_true', decide_eq_false_iff_not, Int.cast_ofNat_Int, Int.reduceEq, Int.reduceLT, Int.reduceLE, Int.reduceNeg, Int.reduceAdd, Int.reduceSub, Int.reduceMul, Int.reduceToNat, decide_true, decide_false, not_true, not_false, not_true_eq_false, not_false_eq_true, true_and, and_true, eq_self, reduceCtorEq, List.isEmpty_nil, List.isEmpty_cons, List.nil_append, List.cons_append, lit_inj, String.reduceEq, inL_ss, Bool.or_false, Bool.false_or, Bool.or_true, Bool.true_or]
      exact rsub_ok t_rsub t_rational trivial qa qb (by omega) h
    | mul =>
      cases hu
      refine call_of t_evaluate rfl ?_
      simp -dsimp -implicitDefEqProofs only [ent, List.map_cons, List.map_nil, List.length_cons, List.length_nil, Nat.reduceAdd, Nat.reduceSub, Nat.zero_add, List.replicate, List.cons_append, List.nil_append, F_evaluate, XD]
      simp -dsimp -implicitDefEqProofs only [↓cov3, ↓cov2, ↓cov1, ↓E_var, ↓E_int, ↓E_bl, ↓E_non, ↓E_str, ↓E_glo, ↓E_tup, ↓E_lst, ↓E_bin, ↓E_neg, ↓E_cmp, ↓E_chn, ↓E_and, ↓E_or, ↓E_one, ↓E_not, ↓E_ifx, ↓E_idx, ↓E_slc, ↓E_call, ↓E_bi, ↓E_isi, ↓E_mth, ↓E_lc, ↓Es_nil, ↓Es_cons, ↓O_no, ↓O_some, ↓Q_no, ↓Q_c, ↓C_and, ↓C_or, ↓C_one, ↓C_not, ↓C_cmp, ↓C_chn, ↓C_v, ↓I_seq, ↓I_rng1, ↓I_rng2, ↓I_rng3, ↓I_enu, ↓I_zip, ↓I_rev, ↓S_set, ↓S_asg, ↓S_par2, ↓S_sub, ↓S_expr, ↓S_ret, ↓S_retN, ↓S_ifs, ↓S_for, ↓S_brk, ↓S_cnt, ↓S_pass, ↓S_raise, ↓S_try, ↓S_never, ex_t, ex_f, ↓S_nil, ↓S_cons, ↓kN_nx, ↓kN_rt, ↓kN_bk, ↓kN_ct, ↓kN_ex, ↓kL_nx, ↓kL_rt, ↓kL_bk, ↓kL_ct, ↓kL_ex, ↓kX_nx, ↓kX_rt, ↓kX_bk, ↓kX_ct, ↓kX_ex, ↓kend_nx, ↓kend_rt, ↓kend_bk, ↓kend_ct, ↓kend_ex, vr_some, gt_0, gt_s, stn_0, stn_s, wip_0, wip_s, wips_0, wips_s, neg_i, isi_s, o_i, tru_non, tru_bl, tru_int, tru_tup, tru_rol, c_Eq, c_NotEq, c_Lt, c_LtE, c_Gt, c_GtE, cs_Eq, cs_NotEq, cb_Eq, cb_NotEq, c2_Eq, c2_NotEq, is_non, isnot_non, is_bl, isnot_bl, is_int, isnot_int, is_str, isnot_str, is_tup, isnot_tup, is_rol, isnot_rol, is_ref, isnot_ref, is_b, isnot_b, in_s, notin_s, b_add, b_sub, b_mul, b_fdiv, b_mod, b_pow, b_addt, b_adds, atI0, atI1, atI2, atI3, slc_t, slc_r, len_s, abs_i, int_i, int_b, min_i, max_i, gcd_i, seq_t, seq_r, r1_i, r2_i, r3_i, a_nm, a_nil, a_cons, vrl_some, vrn_some, put_lget, Option.isSome_some, tru_ref, b_addl, idx_t, idx_r, idx_l, slc_l, len_t, len_r, len_l, tuple_t, tuple_r, tuple_l, list_t, list_r, list_l, app_l, rev_l, pop_l, popat_l, mT_l, seq_l, enu_l, zip_l, rev_i, rev_t, in_t, notin_t, fl_s, fl_i, fl_b, fl_n, inL_nil, inL_ss, inL_ii, List.all_cons, List.all_nil, Bool.and_self, Bool.and_true, Bool.true_and, zip_t, a_t, a_l, sub_l, isTs, isT, Option.map_some, List.length_cons, List.length_nil, Nat.reduceAdd, Nat.reduceSub, Nat.reduceLT, Nat.zero_add, Bool.false_eq_true, Bool.true_eq_false, if_false, if_true, decide_eq_true_eq, Bool.not_true, Bool.not_false, ite_true, ite_false, reduceIte, Bool.not_eq_true', decide_eq_false_iff_not, Int.cast_ofNat_Int, Int.reduceEq, Int.reduceLT, Int.reduceLE, Int.reduceNeg, Int.reduceAdd, Int.reduceSub, Int.reduceMul, Int.reduceToNat, decide_true, decide_false, not_true, not_false, not_true_eq_false, not_false_eq_true, true_and, and_true, eq_self, reduceCtorEq, List.isEmpty_nil, List.isEmpty_cons, List.nil_append, List.cons_append, lit_inj, String.reduceEq, inL_ss, Bool.or_false, Bool.false_or, Bool.or_true, Bool.true_or, opS]
      refine ev_ok hq a (m + 6) _ _ _ u (by omega) hp1 hz1 ha ?_
      simp -dsimp -implicitDefEqProofs only [↓cov3, ↓cov2, ↓cov1, ↓E_var, ↓E_int, ↓E_bl, ↓E_non, ↓E_str, ↓E_glo, ↓E_tup, ↓E_lst, ↓E_bin, ↓E_neg, ↓E_cmp, ↓E_chn, ↓E_and, ↓E_or, ↓E_one, ↓E_not, ↓E_ifx, ↓E_idx, ↓E_slc, ↓E_call, ↓E_bi, ↓E_isi, ↓E_mth, ↓E_lc, ↓Es_nil, ↓Es_cons, ↓O_no, ↓O_some, ↓Q_no, ↓Q_c, ↓C_and, ↓C_or, ↓C_one, ↓C_not, ↓C_cmp, ↓C_chn, ↓C_v, ↓I_seq, ↓I_rng1, ↓I_rng2, ↓I_rng3, ↓I_enu, ↓I_zip, ↓I_rev, ↓S_set, ↓S_asg, ↓S_par2, ↓S_sub, ↓S_expr, ↓S_ret, ↓S_retN, ↓S_ifs, ↓S_for, ↓S_brk, ↓S_cnt, ↓S_pass, ↓S_raise, ↓S_try, ↓S_never, ex_t, ex_f, ↓S_nil, ↓S_cons, ↓kN_nx, ↓kN_rt, ↓kN_bk, ↓kN_ct, ↓kN_ex, ↓kL_nx, ↓kL_rt, ↓kL_bk, ↓kL_ct, ↓kL_ex, ↓kX_nx, ↓kX_rt, ↓kX_bk, ↓kX_ct, ↓kX_ex, ↓kend_nx, ↓kend_rt, ↓kend_bk, ↓kend_ct, ↓kend_ex, vr_some, gt_0, gt_s, stn_0, stn_s, wip_0, wip_s, wips_0, wips_s, neg_i, isi_s, o_i, tru_non, tru_bl, tru_int, tru_tup, tru_rol, c_Eq, c_NotEq, c_Lt, c_LtE, c_Gt, c_GtE, cs_Eq, cs_NotEq, cb_Eq, cb_NotEq, c2_Eq, c2_NotEq, is_non, isnot_non, is_bl, isnot_bl, is_int, isnot_int, is_str, isnot_str, is_tup, isnot_tup, is_rol, isnot_rol, is_ref, isnot_ref, is_b, isnot_b, in_s, notin_s, b_add, b_sub, b_mul, b_fdiv, b_mod, b_pow, b_addt, b_adds, atI0, atI1, atI2, atI3, slc_t, slc_r, len_s, abs_i, int_i, int_b, min_i, max_i, gcd_i, seq_t, seq_r, r1_i, r2_i, r3_i, a_nm, a_nil, a_cons, vrl_some, vrn_some, put_lget, Option.isSome_some, tru_ref, b_addl, idx_t, idx_r, idx_l, slc_l, len_t, len_r, len_l, tuple_t, tuple_r, tuple_l, list_t, list_r, list_l, app_l, rev_l, pop_l, popat_l, mT_l, seq_l, enu_l, zip_l, rev_i, rev_t, in_t, notin_t, fl_s, fl_i, fl_b, fl_n, inL_nil, inL_ss, inL_ii, List.all_cons, List.all_nil, Bool.and_self, Bool.and_true, Bool.true_and, zip_t, a_t, a_l, sub_l, isTs, isT, Option.map_some, List.length_cons, List.length_nil, Nat.reduceAdd, Nat.reduceSub, Nat.reduceLT, Nat.zero_add, Bool.false_eq_true, Bool.true_eq_false, if_false, if_true, decide_eq_true_eq, Bool.not_true, Bool.not_false, ite_true, ite_false, reduceIte, Bool.not_eq_true', decide_eq_false_iff_not, Int.cast_ofNat_Int, Int.reduceEq, Int.reduceLT, Int.reduceLE, Int.reduceNeg, Int.reduceAdd, Int.reduceSub, Int.reduceMul, Int.reduceToNat, decide_true, decide_false, not_true, not_false, not_true_eq_false, not_false_eq_true, true_and, and_true, eq_self, reduceCtorEq, List.isEmpty_nil, List.isEmpty_cons, List.nil_append, List.cons_append, lit_inj, String.reduceEq, inL_ss, Bool.or_false, Bool.false_or, Bool.or_true, Bool.true_or, opS, gB, gZ, gO, cQ_Eq, cQ_NotEq, inL_nil]
      refine ev_ok hq b (m + 6) _ _ _ w (by omega) hp2 hz2 hb ?_
      simp -dsimp -implicitDefEqProofs only [↓cov3, ↓cov2, ↓cov1, ↓E_var, ↓E_int, ↓E_bl, ↓E_non, ↓E_str, ↓E_glo, ↓E_tup, ↓E_lst, ↓E_bin, ↓E_neg, ↓E_cmp, ↓E_chn, ↓E_and, ↓E_or, ↓E_one, ↓E_not, ↓E_ifx, ↓E_idx, ↓E_slc, ↓E_call, ↓E_bi, ↓E_isi, ↓E_mth, ↓E_lc, ↓Es_nil, ↓Es_cons, ↓O_no, ↓O_some, ↓Q_no, ↓Q_c, ↓C_and, ↓C_or, ↓C_one, ↓C_not, ↓C_cmp, ↓C_chn, ↓C_v, ↓I_seq, ↓I_rng1, ↓I_rng2, ↓I_rng3, ↓I_enu, ↓I_zip, ↓I_rev, ↓S_set, ↓S_asg, ↓S_par2, ↓S_sub, ↓S_expr, ↓S_ret, ↓S_retN, ↓S_ifs, ↓S_for, ↓S_brk, ↓S_cnt, ↓S_pass, ↓S_raise, ↓S_try, ↓S_never, ex_t, ex_f, ↓S_nil, ↓S_cons, ↓kN_nx, ↓kN_rt, ↓kN_bk, ↓kN_ct, ↓kN_ex, ↓kL_nx, ↓kL_rt, ↓kL_bk, ↓kL_ct, ↓kL_ex, ↓kX_nx, ↓kX_rt, ↓kX_bk, ↓kX_ct, ↓kX_ex, ↓kend_nx, ↓kend_rt, ↓kend_bk, ↓kend_ct, ↓kend_ex, vr_some, gt_0, gt_s, stn_0, stn_s, wip_0, wip_s, wips_0, wips_s, neg_i, isi_s, o_i, tru_non, tru_bl, tru_int, tru_tup, tru_rol, c_Eq, c_NotEq, c_Lt, c_LtE, c_Gt, c_GtE, cs_Eq, cs_NotEq, cb_Eq, cb_NotEq, c2_Eq, c2_NotEq, is_non, isnot_non, is_bl, isnot_bl, is_int, isnot_int, is_str, isnot_str, is_tup, isnot_tup, is_rol, isnot_rol, is_ref, isnot_ref, is_b, isnot_b, in_s, notin_s, b_add, b_sub, b_mul, b_fdiv, b_mod, b_pow, b_addt, b_adds, atI0, atI1, atI2, atI3, slc_t, slc_r, len_s, abs_i, int_i, int_b, min_i, max_i, gcd_i, seq_t, seq_r, r1_i, r2_i, r3_i, a_nm, a_nil, a_cons, vrl_some, vrn_some, put_lget, Option.isSome_some, tru_ref, b_addl, idx_t, idx_r, idx_l, slc_l, len_t, len_r, len_l, tuple_t, tuple_r, tuple_l, list_t, list_r, list_l, app_l, rev_l, pop_l, popat_l, mT_l, seq_l, enu_l, zip_l, rev_i, rev_t, in_t, notin_t, fl_s, fl_i, fl_b, fl_n, inL_nil, inL_ss, inL_ii, List.all_cons, List.all_nil, Bool.and_self, Bool.and_true, Bool.true_and, zip_t, a_t, a_l, sub_l, isTs, isT, Option.map_some, List.length_cons, List.length_nil, Nat.reduceAdd, Nat.reduceSub, Nat.reduceLT, Nat.zero_add, Bool.false_eq_true, Bool.true_eq_false, if_false, if_true, decide_eq_true_eq, Bool.not_true, Bool.not_false, ite_true, ite_false, reduceIte, Bool.not_eq_true', decide_eq_false_iff_not, Int.cast_ofNat_Int, Int.reduceEq, Int.reduceLT, Int.reduceLE, Int.reduceNeg, Int.reduceAdd, Int.reduceSub, Int.reduceMul, Int.reduceToNat, decide_true, decide_false, not_true, not_false, not_true_eq_false, not_false_eq_true, true_and, and_true, eq_self, reduceCtorEq, List.isEmpty_nil, List.isEmpty_cons, List.nil_append, List.cons_append]
      have qa := QB_ev hq a u ha
      have qb := QB_ev hq b w hb
      have hs := hz.2.2
      refine call_of t_binary_value rfl ?_
      simp -dsimp -implicitDefEqProofs only [ent, List.map_cons, List.map_nil, List.length_cons, List.length_nil, Nat.reduceAdd, Nat.reduceSub, Nat.zero_add, List.replicate, List.cons_append, List.nil_append, F_binary_value]
      simp -dsimp -implicitDefEqProofs only [↓cov3, ↓cov2, ↓cov1, ↓E_var, ↓E_int, ↓E_bl, ↓E_non, ↓E_str, ↓E_glo, ↓E_tup, ↓E_lst, ↓E_bin, ↓E_neg, ↓E_cmp, ↓E_chn, ↓E_and, ↓E_or, ↓E_one, ↓E_not, ↓E_ifx, ↓E_idx, ↓E_slc, ↓E_call, ↓E_bi, ↓E_isi, ↓E_mth, ↓E_lc, ↓Es_nil, ↓Es_cons, ↓O_no, ↓O_some, ↓Q_no, ↓Q_c, ↓C_and, ↓C_or, ↓C_one, ↓C_not, ↓C_cmp, ↓C_chn, ↓C_v, ↓I_seq, ↓I_rng1, ↓I_rng2, ↓I_rng3, ↓I_enu, ↓I_zip, ↓I_rev, ↓S_set, ↓S_asg, ↓S_par2, ↓S_sub, ↓S_expr, ↓S_ret, ↓S_retN, ↓S_ifs, ↓S_for, ↓S_brk, ↓S_cnt, ↓S_pass, ↓S_raise, ↓S_try, ↓S_never, ex_t, ex_f, ↓S_nil, ↓S_cons, ↓kN_nx, ↓kN_rt, ↓kN_bk, ↓kN_ct, ↓kN_ex, ↓kL_nx, ↓kL_rt, ↓kL_bk, ↓kL_ct, ↓kL_ex, ↓kX_nx, ↓kX_rt, ↓kX_bk, ↓kX_ct, ↓kX_ex, ↓kend_nx, ↓kend_rt, ↓kend_bk, ↓kend_ct, ↓kend_ex, vr_some, gt_0, gt_s, stn_0, stn_s, wip_0, wip_s, wips_0, wips_s, neg_i, isi_s, o_i, tru_non, tru_bl, tru_int, tru_tup, tru_rol, c_Eq, c_NotEq, c_Lt, c_LtE, c_Gt, c_GtE, cs_Eq, cs_NotEq, cb_Eq, cb_NotEq, c2_Eq, c2_NotEq, is_non, isnot_non, is_bl, isnot_bl, is_int, isnot_int, is_str, isnot_str, is_tup, isnot_tup, is_rol, isnot_rol, is_ref, isnot_ref, is_b, isnot_b, in_s, notin_s, b_add, b_sub, b_mul, b_fdiv, b_mod, b_pow, b_addt, b_adds, atI0, atI1, atI2, atI3, slc_t, slc_r, len_s, abs_i, int_i, int_b, min_i, max_i, gcd_i, seq_t, seq_r, r1_i, r2_i, r3_i, a_nm, a_nil, a_cons, vrl_some, vrn_some, put_lget, Option.isSome_some, tru_ref, b_addl, idx_t, idx_r, idx_l, slc_l, len_t, len_r, len_l, tuple_t, tuple_r, tuple_l, list_t, list_r, list_l, app_l, rev_l, pop_l, popat_l, mT_l, seq_l, enu_l, zip_l, rev_i, rev_t, in_t, notin_t, fl_s, fl_i, fl_b, fl_n, inL_nil, inL_ss, inL_ii, List.all_cons, List.all_nil, Bool.and_self, Bool.and_true, Bool.true_and, zip_t, a_t, a_l, sub_l, isTs, isT, Option.map_some, List.length_cons, List.length_nil, Nat.reduceAdd, Nat.reduceSub, Nat.reduceLT, Nat.zero_add, Bool.false_eq_true, Bool.true_eq_false, if_false, if_true, decide_eq_true_eq, Bool.not_true, Bool.not_false, ite_true, ite_false, reduceIte, Bool.not_eq_true', decide_eq_false_iff_not, Int.cast_ofNat_Int, Int.reduceEq, Int.reduceLT, Int.reduceLE, Int.reduceNeg, Int.reduceAdd, Int.reduceSub, Int.reduceMul, Int.reduceToNat, decide_true, decide_false, not_true, not_false, not_true_eq_false, not_false_eq_true, true_and, and_true, eq_self, reduceCtorEq, List.isEmpty_nil, List.isEmpty_cons, List.nil_append, List.cons_append, lit_inj, String.reduceEq, inL_ss, Bool.or_false, Bool.false_or, Bool.or_true, Bool.true_or]
      exact rmul_ok t_rmul t_rational trivial qa qb (by omega) h
    | div =>
      have hu : (if w = 0 then none else some (u / w)) = some v := hu
      split at hu
      · cases hu
      rename_i hw
      cases hu
      refine call_of t_evaluate rfl ?_
      simp -dsimp -implicitDefEqProofs only [ent, List.map_cons, List.map_nil, List.length_cons, List.length_nil, Nat.reduceAdd, Nat.reduceSub, Nat.zero_add, List.replicate, List.cons_append, List.nil_append, F_evaluate, XD]
      simp -dsimp -implicitDefEqProofs only [↓cov3, ↓cov2, ↓cov1, ↓E_var, ↓E_int, ↓E_bl, ↓E_non, ↓E_str, ↓E_glo, ↓E_tup, ↓E_lst, ↓E_bin, ↓E_neg, ↓E_cmp, ↓E_chn, ↓E_and, ↓E_or, ↓E_one, ↓E_not, ↓E_ifx, ↓E_idx, ↓E_slc, ↓E_call, ↓E_bi, ↓E_isi, ↓E_mth, ↓E_lc, ↓Es_nil, ↓Es_cons, ↓O_no, ↓O_some, ↓Q_no, ↓Q_c, ↓C_and, ↓C_or, ↓C_one, ↓C_not, ↓C_cmp, ↓C_chn, ↓C_v, ↓I_seq, ↓I_rng1, ↓I_rng2, ↓I_rng3, ↓I_enu, ↓I_zip, ↓I_rev, ↓S_set, ↓S_asg, ↓S_par2, ↓S_sub, ↓S_expr, ↓S_ret, ↓S_retN, ↓S_ifs, ↓S_for, ↓S_brk, ↓S_cnt, ↓S_pass, ↓S_raise, ↓S_try, ↓S_never, ex_t, ex_f, ↓S_nil, ↓S_cons, ↓kN_nx, ↓kN_rt, ↓kN_bk, ↓kN_ct, ↓kN_ex, ↓kL_nx, ↓kL_rt, ↓kL_bk, ↓kL_ct, ↓kL_ex, ↓kX_nx, ↓kX_rt, ↓kX_bk, ↓kX_ct, ↓kX_ex, ↓kend_nx, ↓kend_rt, ↓kend_bk, ↓kend_ct, ↓kend_ex, vr_some, gt_0, gt_s, stn_0, stn_s, wip_0, wip_s, wips_0, wips_s, neg_i, isi_s, o_i, tru_non, tru_bl, tru_int, tru_tup, tru_rol, c_Eq, c_NotEq, c_Lt, c_LtE, c_Gt, c_GtE, cs_Eq, cs_NotEq, cb_Eq, cb_NotEq, c2_Eq, c2_NotEq, is_non, isnot_non, is_bl, isnot_bl, is_int, isnot_int, is_str, isnot_str, is_tup, isnot_tup, is_rol, isnot_rol, is_ref, isnot_ref, is_b, isnot_b, in_s, notin_s, b_add, b_sub, b_mul, b_fdiv, b_mod, b_pow, b_addt, b_adds, atI0, atI1, atI2, atI3, slc_t, slc_r, len_s, abs_i, int_i, int_b, min_i, max_i, gcd_i, seq_t, seq_r, r1_i, r2_i, r3_i, a_nm, a_nil, a_cons, vrl_some, vrn_some, put_lget, Option.isSome_some, tru_ref, b_addl, idx_t, idx_r, idx_l, slc_l, len_t, len_r, len_l, tuple_t, tuple_r, tuple_l, list_t, list_r, list_l, app_l, rev_l, pop_l, popat_l, mT_l, seq_l, enu_l, zip_l, rev_i, rev_t, in_t, notin_t, fl_s, fl_i, fl_b, fl_n, inL_nil, inL_ss, inL_ii, List.all_cons, List.all_nil, Bool.and_self, Bool.and_true, Bool.true_and, zip_t, a_t, a_l, sub_l, isTs, isT, Option.map_some, List.length_cons, List.length_nil, Nat.reduceAdd, Nat.reduceSub, Nat.reduceLT, Nat.zero_add, Bool.false_eq_true, Bool.true_eq_false, if_false, if_true, decide_eq_true_eq, Bool.not_true, Bool.not_false, ite_true, ite_false, reduceIte, Bool.not_eq_true', decide_eq_false_iff_not, Int.cast_ofNat_Int, Int.reduceEq, Int.reduceLT, Int.reduceLE, Int.reduceNeg, Int.reduceAdd, Int.reduceSub, Int.reduceMul, Int.reduceToNat, decide_true, decide_false, not_true, not_false, not_true_eq_false, not_false_eq_true, true_and, and_true, eq_self, reduceCtorEq, List.isEmpty_nil, List.isEmpty_cons, List.nil_append, List.cons_append, lit_inj, String.reduceEq, inL_ss, Bool.or_false, Bool.false_or, Bool.or_true, Bool.true_or, opS]
      refine ev_ok hq a (m + 6) _ _ _ u (by omega) hp1 hz1 ha ?_
      simp -dsimp -implicitDefEqProofs only [↓cov3, ↓cov2, ↓cov1, ↓E_var, ↓E_int, ↓E_bl, ↓E_non, ↓E_str, ↓E_glo, ↓E_tup, ↓E_lst, ↓E_bin, ↓E_neg, ↓E_cmp, ↓E_chn, ↓E_and, ↓E_or, ↓E_one, ↓E_not, ↓E_ifx, ↓E_idx, ↓E_slc, ↓E_call, ↓E_bi, ↓E_isi, ↓E_mth, ↓E_lc, ↓Es_nil, ↓Es_cons, ↓O_no, ↓O_some, ↓Q_no, ↓Q_c, ↓C_and, ↓C_or, ↓C_one, ↓C_not, ↓C_cmp, ↓C_chn, ↓C_v, ↓I_seq, ↓I_rng1, ↓I_rng2, ↓I_rng3, ↓I_enu, ↓I_zip, ↓I_rev, ↓S_set, ↓S_asg, ↓S_par2, ↓S_sub, ↓S_expr, ↓S_ret, ↓S_retN, ↓S_ifs, ↓S_for, ↓S_brk, ↓S_cnt, ↓S_pass, ↓S_raise, ↓S_try, ↓S_never, ex_t, ex_f, ↓S_nil, ↓S_cons, ↓kN_nx, ↓kN_rt, ↓kN_bk, ↓kN_ct, ↓kN_ex, ↓kL_nx, ↓kL_rt, ↓kL_bk, ↓kL_ct, ↓kL_ex, ↓kX_nx, ↓kX_rt, ↓kX_bk, ↓kX_ct, ↓kX_ex, ↓kend_nx, ↓kend_rt, ↓kend_bk, ↓kend_ct, ↓kend_ex, vr_some, gt_0, gt_s, stn_0, stn_s, wip_0, wip_s, wips_0, wips_s, neg_i, isi_s, o_i, tru_non, tru_bl, tru_int, tru_tup, tru_rol, c_Eq, c_NotEq, c_Lt, c_LtE, c_Gt, c_GtE, cs_Eq, cs_NotEq, cb_Eq, cb_NotEq, c2_Eq, c2_NotEq, is_non, isnot_non, is_bl, isnot_bl, is_int, isnot_int, is_str, isnot_str, is_tup, isnot_tup, is_rol, isnot_rol, is_ref, isnot_ref, is_b, isnot_b, in_s, notin_s, b_add, b_sub, b_mul, b_fdiv, b_mod, b_pow, b_addt, b_adds, atI0, atI1, atI2, atI3, slc_t, slc_r, len_s, abs_i, int_i, int_b, min_i, max_i, gcd_i, seq_t, seq_r, r1_i, r2_i, r3_i, a_nm, a_nil, a_cons, vrl_some, vrn_some, put_lget, Option.isSome_some, tru_ref, b_addl, idx_t, idx_r, idx_l, slc_l, len_t, len_r, len_l, tuple_t, tuple_r, tuple_l, list_t, list_r, list_l, app_l, rev_l, pop_l, popat_l, mT_l, seq_l, enu_l, zip_l, rev_i, rev_t, in_t, notin_t, fl_s, fl_i, fl_b, fl_n, inL_nil, inL_ss, inL_ii, List.all_cons, List.all_nil, Bool.and_self, Bool.and_true, Bool.true_and, zip_t, a_t, a_l, sub_l, isTs, isT, Option.map_some, List.length_cons, List.length_nil, Nat.reduceAdd, Nat.reduceSub, Nat.reduceLT, Nat.zero_add, Bool.false_eq_true, Bool.true_eq_false, if_false, if_true, decide_eq_true_eq, Bool.not_true, Bool.not_false, ite_true, ite_false, reduceIte, Bool.not_eq_true', decide_eq_false_iff_not, Int.cast_ofNat_Int, Int.reduceEq, Int.reduceLT, Int.reduceLE, Int.reduceNeg, Int.reduceAdd, Int.reduceSub, Int.reduceMul, Int.reduceToNat, decide_true, decide_false, not_true, not_false, not_true_eq_false, not_false_eq_true, true_and, and_true, eq_self, reduceCtorEq, List.isEmpty_nil, List.isEmpty_cons, List.nil_append, List.cons_append, lit_inj, String.reduceEq, inL_ss, Bool.or_false, Bool.false_or, Bool.or_true, Bool.true_or, opS, gB, gZ, gO, cQ_Eq, cQ_NotEq, inL_nil]
      refine ev_ok hq b (m + 6) _ _ _ w (by omega) hp2 hz2 hb ?_
      simp -dsimp -implicitDefEqProofs only [↓cov3, ↓cov2, ↓cov1, ↓E_var, ↓E_int, ↓E_bl, ↓E_non, ↓E_str, ↓E_glo, ↓E_tup, ↓E_lst, ↓E_bin, ↓E_neg, ↓E_cmp, ↓E_chn, ↓E_and, ↓E_or, ↓E_one, ↓E_not, ↓E_ifx, ↓E_idx, ↓E_slc, ↓E_call, ↓E_bi, ↓E_isi, ↓E_mth, ↓E_lc, ↓Es_nil, ↓Es_cons, ↓O_no, ↓O_some, ↓Q_no, ↓Q_c, ↓C_and, ↓C_or, ↓C_one, ↓C_not, ↓C_cmp, ↓C_chn, ↓C_v, ↓I_seq, ↓I_rng1, ↓I_rng2, ↓I_rng3, ↓I_enu, ↓I_zip, ↓I_rev, ↓S_set, ↓S_asg, ↓S_par2, ↓S_sub, ↓S_expr, ↓S_ret, ↓S_retN, ↓S_ifs, ↓S_for, ↓S_brk, ↓S_cnt, ↓S_pass, ↓S_raise, ↓S_try, ↓S_never, ex_t, ex_f, ↓S_nil, ↓S_cons, ↓kN_nx, ↓kN_rt, ↓kN_bk, ↓kN_ct, ↓kN_ex, ↓kL_nx, ↓kL_rt, ↓kL_bk, ↓kL_ct, ↓kL_ex, ↓kX_nx, ↓kX_rt, ↓kX_bk, ↓kX_ct, ↓kX_ex, ↓kend_nx, ↓kend_rt, ↓kend_bk, ↓kend_ct, ↓kend_ex, vr_some, gt_0, gt_s, stn_0, stn_s, wip_0, wip_s, wips_0, wips_s, neg_i, isi_s, o_i, tru_non, tru_bl, tru_int, tru_tup, tru_rol, c_Eq, c_NotEq, c_Lt, c_LtE, c_Gt, c_GtE, cs_Eq, cs_NotEq, cb_Eq, cb_NotEq, c2_Eq, c2_NotEq, is_non, isnot_non, is_bl, isnot_bl, is_int, isnot_int, is_str, isnot_str, is_tup, isnot_tup, is_rol, isnot_rol, is_ref, isnot_ref, is_b, isnot_b, in_s, notin_s, b_add, b_sub, b_mul, b_fdiv, b_mod, b_pow, b_addt, b_adds, atI0, atI1, atI2, atI3, slc_t, slc_r, len_s, abs_i, int_i, int_b, min_i, max_i, gcd_i, seq_t, seq_r, r1_i, r2_i, r3_i, a_nm, a_nil, a_cons, vrl_some, vrn_some, put_lget, Option.isSome_some, tru_ref, b_addl, idx_t, idx_r, idx_l, slc_l, len_t, len_r, len_l, tuple_t, tuple_r, tuple_l, list_t, list_r, list_l, app_l, rev_l, pop_l, popat_l, mT_l, seq_l, enu_l, zip_l, rev_i, rev_t, in_t, notin_t, fl_s, fl_i, fl_b, fl_n, inL_nil, inL_ss, inL_ii, List.all_cons, List.all_nil, Bool.and_self, Bool.and_true, Bool.true_and, zip_t, a_t, a_l, sub_l, isTs, isT, Option.map_some, List.length_cons, List.length_nil, Nat.reduceAdd, Nat.reduceSub, Nat.reduceLT, Nat.zero_add, Bool.false_eq_true, Bool.true_eq_false, if_false, if_true, decide_eq_true_eq, Bool.not_true, Bool.not_false, ite_true, ite_false, reduceIte, Bool.not_eq_true', decide_eq_false_iff_not, Int.cast_ofNat_Int, Int.reduceEq, Int.reduceLT, Int.reduceLE, Int.reduceNeg, Int.reduceAdd, Int.reduceSub, Int.reduceMul, Int.reduceToNat, decide_true, decide_false, not_true, not_false, not_true_eq_false, not_false_eq_true, true_and, and_true, eq_self, reduceCtorEq, List.isEmpty_nil, List.isEmpty_cons, List.nil_append, List.cons_append]
      have qa := QB_ev hq a u ha
      have qb := QB_ev hq b w hb
      have hs := hz.2.2
      refine call_of t_binary_value rfl ?_
      simp -dsimp -implicitDefEqProofs only [ent, List.map_cons, List.map_nil, List.length_cons, List.length_nil, Nat.reduceAdd, Nat.reduceSub, Nat.zero_add, List.replicate, List.cons_append, List.nil_append, F_binary_value]
      simp -dsimp -implicitDefEqProofs only [↓cov3, ↓cov2, ↓cov1, ↓E_var, ↓E_int, ↓E_bl, ↓E_non, ↓E_str, ↓E_glo, ↓E_tup, ↓E_lst, ↓E_bin, ↓E_neg, ↓E_cmp, ↓E_chn, ↓E_and, ↓E_or, ↓E_one, ↓E_not, ↓E_ifx, ↓E_idx, ↓E_slc, ↓E_call, ↓E_bi, ↓E_isi, ↓E_mth, ↓E_lc, ↓Es_nil, ↓Es_cons, ↓O_no, ↓O_some, ↓Q_no, ↓Q_c, ↓C_and, ↓C_or, ↓C_one, ↓C_not, ↓C_cmp, ↓C_chn, ↓C_v, ↓I_seq, ↓I_rng1, ↓I_rng2, ↓I_rng3, ↓I_enu, ↓I_zip, ↓I_rev, ↓S_set, ↓S_asg, ↓S_par2, ↓S_sub, ↓S_expr, ↓S_ret, ↓S_retN, ↓S_ifs, ↓S_for, ↓S_brk, ↓S_cnt, ↓S_pass, ↓S_raise, ↓S_try, ↓S_never, ex_t, ex_f, ↓S_nil, ↓S_cons, ↓kN_nx, ↓kN_rt, ↓kN_bk, ↓kN_ct, ↓kN_ex, ↓kL_nx, ↓kL_rt, ↓kL_bk, ↓kL_ct, ↓kL_ex, ↓kX_nx, ↓kX_rt, ↓kX_bk, ↓kX_ct, ↓kX_ex, ↓kend_nx, ↓kend_rt, ↓kend_bk, ↓kend_ct, ↓kend_ex, vr_some, gt_0, gt_s, stn_0, stn_s, wip_0, wip_s, wips_0, wips_s, neg_i, isi_s, o_i, tru_non, tru_bl, tru_int, tru_tup, tru_rol, c_Eq, c_NotEq, c_Lt, c_LtE, c_Gt, c_GtE, cs_Eq, cs_NotEq, cb_Eq, cb_NotEq, c2_Eq, c2_NotEq, is_non, isnot_non, is_bl, isnot_bl, is_int, isnot_int, is_str, isnot_str, is_tup, isnot_tup, is_rol, isnot_rol, is_ref, isnot_ref, is_b, isnot_b, in_s, notin_s, b_add, b_sub, b_mul, b_fdiv, b_mod, b_pow, b_addt, b_adds, atI0, atI1, atI2, atI3, slc_t, slc_r, len_s, abs_i, int_i, int_b, min_i, max_i, gcd_i, seq_t, seq_r, r1_i, r2_i, r3_i, a_nm, a_nil, a_cons, vrl_some, vrn_some, put_lget, Option.isSome_some, tru_ref, b_addl, idx_t, idx_r, idx_l, slc_l, len_t, len_r, len_l, tuple_t, tuple_r, tuple_l, list_t, list_r, list_l, app_l, rev_l, pop_l, popat_l, mT_l, seq_l, enu_l, zip_l, rev_i, rev_t, in_t, notin_t, fl_s, fl_i, fl_b, fl_n, inL_nil, inL_ss, inL_ii, List.all_cons, List.all_nil, Bool.and_self, Bool.and_true, Bool.true_and, zip_t, a_t, a_l, sub_l, isTs, isT, Option.map_some, List.length_cons, List.length_nil, Nat.reduceAdd, Nat.reduceSub, Nat.reduceLT, Nat.zero_add, Bool.false_eq_true, Bool.true_eq_false, if_false, if_true, decide_eq_true_eq, Bool.not_true, Bool.not_false, ite_true, ite_false, reduceIte, Bool.not_eq_true', decide_eq_false_iff_not, Int.cast_ofNat_Int, Int.reduceEq, Int.reduceLT, Int.reduceLE, Int.reduceNeg, Int.reduceAdd, Int.reduceSub, Int.reduceMul, Int.reduceToNat, decide_true, decide_false, not_true, not_false, not_true_eq_false, not_false_eq_true, true_and, and_true, eq_self, reduceCtorEq, List.isEmpty_nil, List.isEmpty_cons, List.nil_append, List.cons_append, lit_inj, String.reduceEq, inL_ss, Bool.or_false, Bool.false_or, Bool.or_true, Bool.true_or, gZ, cQ_Eq]
      rw [if_neg hw]
      exact rdiv_ok t_rdiv t_rational trivial qa qb (by omega) (num_ne hw) h
/-! the law's slopes -/
def Vn : Nat → Nat
  | 0 => 10
  | n + 1 => 4 * Vn n + 1
def Sn : Nat → Nat
  | 0 => 10
  | n + 1 => 2 * Sn n + 6 * Vn n + 10
theorem Vn_ge : ∀ n, 10 ≤ Vn n
  | 0 => Nat.le_refl _
  | n + 1 => by have := Vn_ge n; unfold Vn; omega
theorem Vn_le {n : Nat} (h : n ≤ 5) : Vn n ≤ 10581 ∧ Sn n ≤ 31320 ∧ (n ≤ 4 → Vn n ≤ 2645 ∧ Sn n ≤ 7720) := by
  have : n = 0 ∨ n = 1 ∨ n = 2 ∨ n = 3 ∨ n = 4 ∨ n = 5 := by omega
  rcases this with rfl | rfl | rfl | rfl | rfl | rfl <;> decide
theorem nbt0 : nbt 0 = 1 := by decide +kernel
theorem nbt1 : nbt 1 = 1 := by decide +kernel
theorem nbtk {k : Int} (h : k.natAbs ≤ 4) : nbt (k : Rat) ≤ 3 := nbt_le (n := 2) ⟨by show k.natAbs < 2 ^ 3; omega, by show (1 : Int).natAbs < 2 ^ 3; decide⟩
theorem wt_b : ∀ (n : Nat) (e : Ex), wt n e → zb e ≤ Vn n ∧ zb (der e) ≤ Sn n
  | 0, e, h => by cases e <;> exact h.elim
  | n + 1, .num q, h => by
    have h : QB q 10 := h
    have h1 := nbt_le (n := 9) h
    have h2 := Vn_ge n
    refine ⟨by show nbt q ≤ _; unfold Vn; omega, by show nbt 0 ≤ _; rw [nbt0]; unfold Sn; omega⟩
  | n + 1, .x, h => by
    have h2 := Vn_ge n
    refine ⟨by show 4 ≤ _; unfold Vn; omega, by show nbt 1 ≤ _; rw [nbt1]; unfold Sn; omega⟩
  | n + 1, .neg a, h => by
    obtain ⟨h1, h2⟩ := wt_b n a h
    refine ⟨by show zb a ≤ _; unfold Vn; omega, by show zb (der a) ≤ _; unfold Sn; omega⟩
  | n + 1, .exp a, h => by
    obtain ⟨h1, h2⟩ := wt_b n a h
    have h3 := Vn_ge n
    refine ⟨by show zb a + 1 ≤ _; unfold Vn; omega, by show zb a + 1 + zb (der a) + 1 ≤ _; unfold Sn; omega⟩
  | n + 1, .log a, h => by
    obtain ⟨h1, h2⟩ := wt_b n a h
    have h3 := Vn_ge n
    refine ⟨by show zb a + 1 ≤ _; unfold Vn; omega, by show zb (der a) + zb a + 1 ≤ _; unfold Sn; omega⟩
  | n + 1, .pow a k, h => by
    obtain ⟨h1, h2⟩ := wt_b n a h.1
    have h3 := Vn_ge n
    have h4 : zb a * k.natAbs ≤ Vn n * 4 := Nat.mul_le_mul h1 h.2
    have hk := h.2
    have h5 : zb a * (k - 1).natAbs ≤ Vn n * 5 := Nat.mul_le_mul h1 (by omega)
    have h6 := nbtk h.2
    refine ⟨by show zb a * k.natAbs + 1 ≤ _; unfold Vn; omega, ?_⟩
    unfold der
    by_cases h0 : k = 0
    · rw [if_pos h0]
      show nbt 0 ≤ _
      rw [nbt0]; unfold Sn; omega
    · rw [if_neg h0]
      show nbt (k : Rat) + (zb a * (k - 1).natAbs + 1) + 1 + zb (der a) + 1 ≤ _
      unfold Sn; omega
  | n + 1, .bin o a b, h => by
    obtain ⟨h1, h2⟩ := wt_b n a h.1
    obtain ⟨h3, h4⟩ := wt_b n b h.2
    have h5 := Vn_ge n
    refine ⟨by show zb a + zb b + 1 ≤ _; unfold Vn; omega, ?_⟩
    cases o with
    | add => show zb (der a) + zb (der b) + 1 ≤ _; unfold Sn; omega
    | sub => show zb (der a) + zb (der b) + 1 ≤ _; unfold Sn; omega
    | mul => show zb (der a) + zb b + 1 + (zb a + zb (der b) + 1) + 1 ≤ _; unfold Sn; omega
    | div => show zb (der a) + zb b + 1 + (zb a + zb (der b) + 1) + 1 + (zb b * (2 : Int).natAbs + 1) + 1 ≤ _; unfold Sn; show _ + (zb b * 2 + 1) + 1 ≤ _; omega
theorem wt_z : ∀ (n : Nat) (e : Ex), n ≤ 5 → wt n e → zz e ∧ zz (der e) ∧ pk e ∧ pk (der e) ∧ hgt e ≤ n ∧ hgt (der e) ≤ 3 * n
  | 0, e, _, h => by cases e <;> exact h.elim
  | n + 1, .num q, _, h => ⟨trivial, trivial, trivial, trivial, by show 1 ≤ _; omega, by show 1 ≤ _; omega⟩
  | n + 1, .x, _, h => ⟨trivial, trivial, trivial, trivial, by show 1 ≤ _; omega, by show 1 ≤ _; omega⟩
  | n + 1, .neg a, hn, h => by
    obtain ⟨h1, h2, h3, h4, h5, h6⟩ := wt_z n a (by omega) h
    exact ⟨⟨h1, trivial⟩, ⟨h2, trivial⟩, h3, h4, by show hgt a + 1 ≤ _; omega, by show hgt (der a) + 1 ≤ _; omega⟩
  | n + 1, .exp a, hn, h => by
    obtain ⟨h1, h2, h3, h4, h5, h6⟩ := wt_z n a (by omega) h
    obtain ⟨b1, b2⟩ := wt_b n a h
    obtain ⟨c1, c2, _⟩ := Vn_le (n := n) (by omega)
    exact ⟨⟨h1, trivial⟩, ⟨⟨h1, trivial⟩, h2, by show zb a + 1 + zb (der a) ≤ _; omega⟩, h3, ⟨h3, h4⟩, by show hgt a + 1 ≤ _; omega, by show max (hgt a + 1) (hgt (der a)) + 1 ≤ _; omega⟩
  | n + 1, .log a, hn, h => by
    obtain ⟨h1, h2, h3, h4, h5, h6⟩ := wt_z n a (by omega) h
    obtain ⟨b1, b2⟩ := wt_b n a h
    obtain ⟨c1, c2, _⟩ := Vn_le (n := n) (by omega)
    exact ⟨⟨h1, trivial⟩, ⟨h2, h1, by show zb (der a) + zb a ≤ _; omega⟩, h3, ⟨h4, h3⟩, by show hgt a + 1 ≤ _; omega, by show max (hgt (der a)) (hgt a) + 1 ≤ _; omega⟩
  | n + 1, .pow a k, hn, h => by
    obtain ⟨h1, h2, h3, h4, h5, h6⟩ := wt_z n a (by omega) h.1
    obtain ⟨b1, b2⟩ := wt_b n a h.1
    obtain ⟨c1, c2, _⟩ := Vn_le (n := n) (by omega)
    have hk := h.2
    have e5 : zb a * (k - 1).natAbs ≤ 10581 * 5 := Nat.mul_le_mul (by omega) (by omega)
    have e6 := nbtk h.2
    refine ⟨⟨h1, by omega⟩, ?_, ⟨h3, by omega⟩, ?_, by show hgt a + 1 ≤ _; omega, ?_⟩
    · unfold der
      by_cases h0 : k = 0
      · rw [if_pos h0]; trivial
      · rw [if_neg h0]
        refine ⟨⟨trivial, ⟨h1, by omega⟩, ?_⟩, h2, ?_⟩
        · show nbt (k : Rat) + (zb a * (k - 1).natAbs + 1) ≤ _; omega
        · show nbt (k : Rat) + (zb a * (k - 1).natAbs + 1) + 1 + zb (der a) ≤ _; omega
    · unfold der
      by_cases h0 : k = 0
      · rw [if_pos h0]; trivial
      · rw [if_neg h0]
        exact ⟨⟨trivial, h3, by omega⟩, h4⟩
    · unfold der
      by_cases h0 : k = 0
      · rw [if_pos h0]; show 1 ≤ _; omega
      · rw [if_neg h0]
        show max (max 1 (hgt a + 1) + 1) (hgt (der a)) + 1 ≤ _
        have : hgt a = 0 ∨ 1 ≤ n := by omega
        cases n with
        | zero => cases a <;> exact h.1.elim
        | succ n => omega
  | n + 1, .bin o a b, hn, h => by
    obtain ⟨h1, h2, h3, h4, h5, h6⟩ := wt_z n a (by omega) h.1
    obtain ⟨g1, g2, g3, g4, g5, g6⟩ := wt_z n b (by omega) h.2
    obtain ⟨b1, b2⟩ := wt_b n a h.1
    obtain ⟨d1, d2⟩ := wt_b n b h.2
    obtain ⟨c1, c2, _⟩ := Vn_le (n := n) (by omega)
    have n1 : 1 ≤ n := by
      cases n with
      | zero => cases a <;> exact h.1.elim
      | succ n => omega
    refine ⟨⟨h1, g1, by omega⟩, ?_, ⟨h3, g3⟩, ?_, by show max (hgt a) (hgt b) + 1 ≤ _; omega, ?_⟩
    · cases o with
      | add => exact ⟨h2, g2, by omega⟩
      | sub => exact ⟨h2, g2, by omega⟩
      | mul => exact ⟨⟨h2, g1, by omega⟩, ⟨h1, g2, by omega⟩, by show zb (der a) + zb b + 1 + (zb a + zb (der b) + 1) ≤ _; omega⟩
      | div => exact ⟨⟨⟨h2, g1, by omega⟩, ⟨h1, g2, by omega⟩, by show zb (der a) + zb b + 1 + (zb a + zb (der b) + 1) ≤ _; omega⟩, ⟨g1, by omega⟩, by show zb (der a) + zb b + 1 + (zb a + zb (der b) + 1) + 1 + (zb b * 2 + 1) ≤ _; omega⟩
    · cases o with
      | add => exact ⟨h4, g4⟩
      | sub => exact ⟨h4, g4⟩
      | mul => exact ⟨⟨h4, g3⟩, h3, g4⟩
      | div => exact ⟨⟨⟨h4, g3⟩, h3, g4⟩, g3, by decide⟩
    · cases o with
      | add => show max (hgt (der a)) (hgt (der b)) + 1 ≤ _; omega
      | sub => show max (hgt (der a)) (hgt (der b)) + 1 ≤ _; omega
      | mul => show max (max (hgt (der a)) (hgt b) + 1) (max (hgt a) (hgt (der b)) + 1) + 1 ≤ _; omega
      | div => show max (max (max (hgt (der a)) (hgt b) + 1) (max (hgt a) (hgt (der b)) + 1) + 1) (hgt b + 1) + 1 ≤ _; omega
def SD : Option (Rat × Rat) → D
  | none => .non
  | some (v, s) => .tup [QD v, QD s]
/-- the law's step at a node of two -/
def two (o : Op) (u : Rat × Rat) : Option (Rat × Rat) → Option (Rat × Rat)
  | none => none
  | some v => match o with
    | .add => some (u.1 + v.1, u.2 + v.2)
    | .sub => some (u.1 + -v.1, u.2 + -v.2)
    | .mul => some (u.1 * v.1, u.1 * v.2 + u.2 * v.1)
    | .div => if v.1 = 0 then none else some (u.1 * v.1⁻¹, (u.2 * v.1 + -(u.1 * v.2)) * (v.1⁻¹ * v.1⁻¹))
theorem two_ok {o : Op} {u : Rat × Rat} {w : Option (Rat × Rat)} (hu : QB u.1 2645 ∧ QB u.2 7720) (hw : ∀ v, w = some v → QB v.1 2645 ∧ QB v.2 7720) (h : Q (SD (two o u w)) S) : semF G T (k + 3) "_law_slope_of_two" [.str (opS o), SD (some u), SD w] S Q E := by
  obtain ⟨a, da⟩ := u
  refine call_of t_law_slope_of_two rfl ?_
  cases w with
  | none =>
    simp -dsimp -implicitDefEqProofs only [ent, List.map_cons, List.map_nil, List.length_cons, List.length_nil, Nat.reduceAdd, Nat.reduceSub, Nat.zero_add, List.replicate, List.cons_append, List.nil_append, F_law_slope_of_two, SD]
    simp -dsimp -implicitDefEqProofs only [↓cov3, ↓cov2, ↓cov1, ↓E_var, ↓E_int, ↓E_bl, ↓E_non, ↓E_str, ↓E_glo, ↓E_tup, ↓E_lst, ↓E_bin, ↓E_neg, ↓E_cmp, ↓E_chn, ↓E_and, ↓E_or, ↓E_one, ↓E_not, ↓E_ifx, ↓E_idx, ↓E_slc, ↓E_call, ↓E_bi, ↓E_isi, ↓E_mth, ↓E_lc, ↓Es_nil, ↓Es_cons, ↓O_no, ↓O_some, ↓Q_no, ↓Q_c, ↓C_and, ↓C_or, ↓C_one, ↓C_not, ↓C_cmp, ↓C_chn, ↓C_v, ↓I_seq, ↓I_rng1, ↓I_rng2, ↓I_rng3, ↓I_enu, ↓I_zip, ↓I_rev, ↓S_set, ↓S_asg, ↓S_par2, ↓S_sub, ↓S_expr, ↓S_ret, ↓S_retN, ↓S_ifs, ↓S_for, ↓S_brk, ↓S_cnt, ↓S_pass, ↓S_raise, ↓S_try, ↓S_never, ex_t, ex_f, ↓S_nil, ↓S_cons, ↓kN_nx, ↓kN_rt, ↓kN_bk, ↓kN_ct, ↓kN_ex, ↓kL_nx, ↓kL_rt, ↓kL_bk, ↓kL_ct, ↓kL_ex, ↓kX_nx, ↓kX_rt, ↓kX_bk, ↓kX_ct, ↓kX_ex, ↓kend_nx, ↓kend_rt, ↓kend_bk, ↓kend_ct, ↓kend_ex, vr_some, gt_0, gt_s, stn_0, stn_s, wip_0, wip_s, wips_0, wips_s, neg_i, isi_s, o_i, tru_non, tru_bl, tru_int, tru_tup, tru_rol, c_Eq, c_NotEq, c_Lt, c_LtE, c_Gt, c_GtE, cs_Eq, cs_NotEq, cb_Eq, cb_NotEq, c2_Eq, c2_NotEq, is_non, isnot_non, is_bl, isnot_bl, is_int, isnot_int, is_str, isnot_str, is_tup, isnot_tup, is_rol, isnot_rol, is_ref, isnot_ref, is_b, isnot_b, in_s, notin_s, b_add, b_sub, b_mul, b_fdiv, b_mod, b_pow, b_addt, b_adds, atI0, atI1, atI2, atI3, slc_t, slc_r, len_s, abs_i, int_i, int_b, min_i, max_i, gcd_i, seq_t, seq_r, r1_i, r2_i, r3_i, a_nm, a_nil, a_cons, vrl_some, vrn_some, put_lget, Option.isSome_some, tru_ref, b_addl, idx_t, idx_r, idx_l, slc_l, len_t, len_r, len_l, tuple_t, tuple_r, tuple_l, list_t, list_r, list_l, app_l, rev_l, pop_l, popat_l, mT_l, seq_l, enu_l, zip_l, rev_i, rev_t, in_t, notin_t, fl_s, fl_i, fl_b, fl_n, inL_nil, inL_ss, inL_ii, List.all_cons, List.all_nil, Bool.and_self, Bool.and_true, Bool.true_and, zip_t, a_t, a_l, sub_l, isTs, isT, Option.map_some, List.length_cons, List.length_nil, Nat.reduceAdd, Nat.reduceSub, Nat.reduceLT, Nat.zero_add, Bool.false_eq_true, Bool.true_eq_false, if_false, if_true, decide_eq_true_eq, Bool.not_true, Bool.not_false, ite_true, ite_false, reduceIte, Bool.not_eq_true', decide_eq_false_iff_not, Int.cast_ofNat_Int, Int.reduceEq, Int.reduceLT, Int.reduceLE, Int.reduceNeg, Int.reduceAdd, Int.reduceSub, Int.reduceMul, Int.reduceToNat, decide_true, decide_false, not_true, not_false, not_true_eq_false, not_false_eq_true, true_and, and_true, eq_self, reduceCtorEq, List.isEmpty_nil, List.isEmpty_cons, List.nil_append, List.cons_append]
    exact h
  | some v =>
    obtain ⟨b, db⟩ := v
    obtain ⟨hb, hdb⟩ := hw _ rfl
    obtain ⟨ha, hda⟩ := hu
    dsimp only at ha hda hb hdb
    cases o with
    | add =>
      simp -dsimp -implicitDefEqProofs only [ent, List.map_cons, List.map_nil, List.length_cons, List.length_nil, Nat.reduceAdd, Nat.reduceSub, Nat.zero_add, List.replicate, List.cons_append, List.nil_append, F_law_slope_of_two, SD]
      simp -dsimp -implicitDefEqProofs only [↓cov3, ↓cov2, ↓cov1, ↓E_var, ↓E_int, ↓E_bl, ↓E_non, ↓E_str, ↓E_glo, ↓E_tup, ↓E_lst, ↓E_bin, ↓E_neg, ↓E_cmp, ↓E_chn, ↓E_and, ↓E_or, ↓E_one, ↓E_not, ↓E_ifx, ↓E_idx, ↓E_slc, ↓E_call, ↓E_bi, ↓E_isi, ↓E_mth, ↓E_lc, ↓Es_nil, ↓Es_cons, ↓O_no, ↓O_some, ↓Q_no, ↓Q_c, ↓C_and, ↓C_or, ↓C_one, ↓C_not, ↓C_cmp, ↓C_chn, ↓C_v, ↓I_seq, ↓I_rng1, ↓I_rng2, ↓I_rng3, ↓I_enu, ↓I_zip, ↓I_rev, ↓S_set, ↓S_asg, ↓S_par2, ↓S_sub, ↓S_expr, ↓S_ret, ↓S_retN, ↓S_ifs, ↓S_for, ↓S_brk, ↓S_cnt, ↓S_pass, ↓S_raise, ↓S_try, ↓S_never, ex_t, ex_f, ↓S_nil, ↓S_cons, ↓kN_nx, ↓kN_rt, ↓kN_bk, ↓kN_ct, ↓kN_ex, ↓kL_nx, ↓kL_rt, ↓kL_bk, ↓kL_ct, ↓kL_ex, ↓kX_nx, ↓kX_rt, ↓kX_bk, ↓kX_ct, ↓kX_ex, ↓kend_nx, ↓kend_rt, ↓kend_bk, ↓kend_ct, ↓kend_ex, vr_some, gt_0, gt_s, stn_0, stn_s, wip_0, wip_s, wips_0, wips_s, neg_i, isi_s, o_i, tru_non, tru_bl, tru_int, tru_tup, tru_rol, c_Eq, c_NotEq, c_Lt, c_LtE, c_Gt, c_GtE, cs_Eq, cs_NotEq, cb_Eq, cb_NotEq, c2_Eq, c2_NotEq, is_non, isnot_non, is_bl, isnot_bl, is_int, isnot_int, is_str, isnot_str, is_tup, isnot_tup, is_rol, isnot_rol, is_ref, isnot_ref, is_b, isnot_b, in_s, notin_s, b_add, b_sub, b_mul, b_fdiv, b_mod, b_pow, b_addt, b_adds, atI0, atI1, atI2, atI3, slc_t, slc_r, len_s, abs_i, int_i, int_b, min_i, max_i, gcd_i, seq_t, seq_r, r1_i, r2_i, r3_i, a_nm, a_nil, a_cons, vrl_some, vrn_some, put_lget, Option.isSome_some, tru_ref, b_addl, idx_t, idx_r, idx_l, slc_l, len_t, len_r, len_l, tuple_t, tuple_r, tuple_l, list_t, list_r, list_l, app_l, rev_l, pop_l, popat_l, mT_l, seq_l, enu_l, zip_l, rev_i, rev_t, in_t, notin_t, fl_s, fl_i, fl_b, fl_n, inL_nil, inL_ss, inL_ii, List.all_cons, List.all_nil, Bool.and_self, Bool.and_true, Bool.true_and, zip_t, a_t, a_l, sub_l, isTs, isT, Option.map_some, List.length_cons, List.length_nil, Nat.reduceAdd, Nat.reduceSub, Nat.reduceLT, Nat.zero_add, Bool.false_eq_true, Bool.true_eq_false, if_false, if_true, decide_eq_true_eq, Bool.not_true, Bool.not_false, ite_true, ite_false, reduceIte, Bool.not_eq_true', decide_eq_false_iff_not, Int.cast_ofNat_Int, Int.reduceEq, Int.reduceLT, Int.reduceLE, Int.reduceNeg, Int.reduceAdd, Int.reduceSub, Int.reduceMul, Int.reduceToNat, decide_true, decide_false, not_true, not_false, not_true_eq_false, not_false_eq_true, true_and, and_true, eq_self, reduceCtorEq, List.isEmpty_nil, List.isEmpty_cons, List.nil_append, List.cons_append, lit_inj, String.reduceEq, inL_ss, Bool.or_false, Bool.false_or, Bool.or_true, Bool.true_or, opS]
      refine add_ok ha hb (by omega) ?_
      simp -dsimp -implicitDefEqProofs only [↓cov3, ↓cov2, ↓cov1, ↓E_var, ↓E_int, ↓E_bl, ↓E_non, ↓E_str, ↓E_glo, ↓E_tup, ↓E_lst, ↓E_bin, ↓E_neg, ↓E_cmp, ↓E_chn, ↓E_and, ↓E_or, ↓E_one, ↓E_not, ↓E_ifx, ↓E_idx, ↓E_slc, ↓E_call, ↓E_bi, ↓E_isi, ↓E_mth, ↓E_lc, ↓Es_nil, ↓Es_cons, ↓O_no, ↓O_some, ↓Q_no, ↓Q_c, ↓C_and, ↓C_or, ↓C_one, ↓C_not, ↓C_cmp, ↓C_chn, ↓C_v, ↓I_seq, ↓I_rng1, ↓I_rng2, ↓I_rng3, ↓I_enu, ↓I_zip, ↓I_rev, ↓S_set, ↓S_asg, ↓S_par2, ↓S_sub, ↓S_expr, ↓S_ret, ↓S_retN, ↓S_ifs, ↓S_for, ↓S_brk, ↓S_cnt, ↓S_pass, ↓S_raise, ↓S_try, ↓S_never, ex_t, ex_f, ↓S_nil, ↓S_cons, ↓kN_nx, ↓kN_rt, ↓kN_bk, ↓kN_ct, ↓kN_ex, ↓kL_nx, ↓kL_rt, ↓kL_bk, ↓kL_ct, ↓kL_ex, ↓kX_nx, ↓kX_rt, ↓kX_bk, ↓kX_ct, ↓kX_ex, ↓kend_nx, ↓kend_rt, ↓kend_bk, ↓kend_ct, ↓kend_ex, vr_some, gt_0, gt_s, stn_0, stn_s, wip_0, wip_s, wips_0, wips_s, neg_i, isi_s, o_i, tru_non, tru_bl, tru_int, tru_tup, tru_rol, c_Eq, c_NotEq, c_Lt, c_LtE, c_Gt, c_GtE, cs_Eq, cs_NotEq, cb_Eq, cb_NotEq, c2_Eq, c2_NotEq, is_non, isnot_non, is_bl, isnot_bl, is_int, isnot_int, is_str, isnot_str, is_tup, isnot_tup, is_rol, isnot_rol, is_ref, isnot_ref, is_b, isnot_b, in_s, notin_s, b_add, b_sub, b_mul, b_fdiv, b_mod, b_pow, b_addt, b_adds, atI0, atI1, atI2, atI3, slc_t, slc_r, len_s, abs_i, int_i, int_b, min_i, max_i, gcd_i, seq_t, seq_r, r1_i, r2_i, r3_i, a_nm, a_nil, a_cons, vrl_some, vrn_some, put_lget, Option.isSome_some, tru_ref, b_addl, idx_t, idx_r, idx_l, slc_l, len_t, len_r, len_l, tuple_t, tuple_r, tuple_l, list_t, list_r, list_l, app_l, rev_l, pop_l, popat_l, mT_l, seq_l, enu_l, zip_l, rev_i, rev_t, in_t, notin_t, fl_s, fl_i, fl_b, fl_n, inL_nil, inL_ss, inL_ii, List.all_cons, List.all_nil, Bool.and_self, Bool.and_true, Bool.true_and, zip_t, a_t, a_l, sub_l, isTs, isT, Option.map_some, List.length_cons, List.length_nil, Nat.reduceAdd, Nat.reduceSub, Nat.reduceLT, Nat.zero_add, Bool.false_eq_true, Bool.true_eq_false, if_false, if_true, decide_eq_true_eq, Bool.not_true, Bool.not_false, ite_true, ite_false, reduceIte, Bool.not_eq_true', decide_eq_false_iff_not, Int.cast_ofNat_Int, Int.reduceEq, Int.reduceLT, Int.reduceLE, Int.reduceNeg, Int.reduceAdd, Int.reduceSub, Int.reduceMul, Int.reduceToNat, decide_true, decide_false, not_true, not_false, not_true_eq_false, not_false_eq_true, true_and, and_true, eq_self, reduceCtorEq, List.isEmpty_nil, List.isEmpty_cons, List.nil_append, List.cons_append]
      refine add_ok hda hdb (by omega) ?_
      exact h
    | sub =>
      simp -dsimp -implicitDefEqProofs only [ent, List.map_cons, List.map_nil, List.length_cons, List.length_nil, Nat.reduceAdd, Nat.reduceSub, Nat.zero_add, List.replicate, List.cons_append, List.nil_append, F_law_slope_of_two, SD]
      simp -dsimp -implicitDefEqProofs only [↓cov3, ↓cov2, ↓cov1, ↓E_var, ↓E_int, ↓E_bl, ↓E_non, ↓E_str, ↓E_glo, ↓E_tup, ↓E_lst, ↓E_bin, ↓E_neg, ↓E_cmp, ↓E_chn, ↓E_and, ↓E_or, ↓E_one, ↓E_not, ↓E_ifx, ↓E_idx, ↓E_slc, ↓E_call, ↓E_bi, ↓E_isi, ↓E_mth, ↓E_lc, ↓Es_nil, ↓Es_cons, ↓O_no, ↓O_some, ↓Q_no, ↓Q_c, ↓C_and, ↓C_or, ↓C_one, ↓C_not, ↓C_cmp, ↓C_chn, ↓C_v, ↓I_seq, ↓I_rng1, ↓I_rng2, ↓I_rng3, ↓I_enu, ↓I_zip, ↓I_rev, ↓S_set, ↓S_asg, ↓S_par2, ↓S_sub, ↓S_expr, ↓S_ret, ↓S_retN, ↓S_ifs, ↓S_for, ↓S_brk, ↓S_cnt, ↓S_pass, ↓S_raise, ↓S_try, ↓S_never, ex_t, ex_f, ↓S_nil, ↓S_cons, ↓kN_nx, ↓kN_rt, ↓kN_bk, ↓kN_ct, ↓kN_ex, ↓kL_nx, ↓kL_rt, ↓kL_bk, ↓kL_ct, ↓kL_ex, ↓kX_nx, ↓kX_rt, ↓kX_bk, ↓kX_ct, ↓kX_ex, ↓kend_nx, ↓kend_rt, ↓kend_bk, ↓kend_ct, ↓kend_ex, vr_some, gt_0, gt_s, stn_0, stn_s, wip_0, wip_s, wips_0, wips_s, neg_i, isi_s, o_i, tru_non, tru_bl, tru_int, tru_tup, tru_rol, c_Eq, c_NotEq, c_Lt, c_LtE, c_Gt, c_GtE, cs_Eq, cs_NotEq, cb_Eq, cb_NotEq, c2_Eq, c2_NotEq, is_non, isnot_non, is_bl, isnot_bl, is_int, isnot_int, is_str, isnot_str, is_tup, isnot_tup, is_rol, isnot_rol, is_ref, isnot_ref, is_b, isnot_b, in_s, notin_s, b_add, b_sub, b_mul, b_fdiv, b_mod, b_pow, b_addt, b_adds, atI0, atI1, atI2, atI3, slc_t, slc_r, len_s, abs_i, int_i, int_b, min_i, max_i, gcd_i, seq_t, seq_r, r1_i, r2_i, r3_i, a_nm, a_nil, a_cons, vrl_some, vrn_some, put_lget, Option.isSome_some, tru_ref, b_addl, idx_t, idx_r, idx_l, slc_l, len_t, len_r, len_l, tuple_t, tuple_r, tuple_l, list_t, list_r, list_l, app_l, rev_l, pop_l, popat_l, mT_l, seq_l, enu_l, zip_l, rev_i, rev_t, in_t, notin_t, fl_s, fl_i, fl_b, fl_n, inL_nil, inL_ss, inL_ii, List.all_cons, List.all_nil, Bool.and_self, Bool.and_true, Bool.true_and, zip_t, a_t, a_l, sub_l, isTs, isT, Option.map_some, List.length_cons, List.length_nil, Nat.reduceAdd, Nat.reduceSub, Nat.reduceLT, Nat.zero_add, Bool.false_eq_true, Bool.true_eq_false, if_false, if_true, decide_eq_true_eq, Bool.not_true, Bool.not_false, ite_true, ite_false, reduceIte, Bool.not_eq_true', decide_eq_false_iff_not, Int.cast_ofNat_Int, Int.reduceEq, Int.reduceLT, Int.reduceLE, Int.reduceNeg, Int.reduceAdd, Int.reduceSub, Int.reduceMul, Int.reduceToNat, decide_true, decide_false, not_true, not_false, not_true_eq_false, not_false_eq_true, true_and, and_true, eq_self, reduceCtorEq, List.isEmpty_nil, List.isEmpty_cons, List.nil_append, List.cons_append, lit_inj, String.reduceEq, inL_ss, Bool.or_false, Bool.false_or, Bool.or_true, Bool.true_or, opS, idx_Q0, idx_Q1]
      refine add_ok (b := -b) ha hb.neg (by omega) ?_
      simp -dsimp -implicitDefEqProofs only [↓cov3, ↓cov2, ↓cov1, ↓E_var, ↓E_int, ↓E_bl, ↓E_non, ↓E_str, ↓E_glo, ↓E_tup, ↓E_lst, ↓E_bin, ↓E_neg, ↓E_cmp, ↓E_chn, ↓E_and, ↓E_or, ↓E_one, ↓E_not, ↓E_ifx, ↓E_idx, ↓E_slc, ↓E_call, ↓E_bi, ↓E_isi, ↓E_mth, ↓E_lc, ↓Es_nil, ↓Es_cons, ↓O_no, ↓O_some, ↓Q_no, ↓Q_c, ↓C_and, ↓C_or, ↓C_one, ↓C_not, ↓C_cmp, ↓C_chn, ↓C_v, ↓I_seq, ↓I_rng1, ↓I_rng2, ↓I_rng3, ↓I_enu, ↓I_zip, ↓I_rev, ↓S_set, ↓S_asg, ↓S_par2, ↓S_sub, ↓S_expr, ↓S_ret, ↓S_retN, ↓S_ifs, ↓S_for, ↓S_brk, ↓S_cnt, ↓S_pass, ↓S_raise, ↓S_try, ↓S_never, ex_t, ex_f, ↓S_nil, ↓S_cons, ↓kN_nx, ↓kN_rt, ↓kN_bk, ↓kN_ct, ↓kN_ex, ↓kL_nx, ↓kL_rt, ↓kL_bk, ↓kL_ct, ↓kL_ex, ↓kX_nx, ↓kX_rt, ↓kX_bk, ↓kX_ct, ↓kX_ex, ↓kend_nx, ↓kend_rt, ↓kend_bk, ↓kend_ct, ↓kend_ex, vr_some, gt_0, gt_s, stn_0, stn_s, wip_0, wip_s, wips_0, wips_s, neg_i, isi_s, o_i, tru_non, tru_bl, tru_int, tru_tup, tru_rol, c_Eq, c_NotEq, c_Lt, c_LtE, c_Gt, c_GtE, cs_Eq, cs_NotEq, cb_Eq, cb_NotEq, c2_Eq, c2_NotEq, is_non, isnot_non, is_bl, isnot_bl, is_int, isnot_int, is_str, isnot_str, is_tup, isnot_tup, is_rol, isnot_rol, is_ref, isnot_ref, is_b, isnot_b, in_s, notin_s, b_add, b_sub, b_mul, b_fdiv, b_mod, b_pow, b_addt, b_adds, atI0, atI1, atI2, atI3, slc_t, slc_r, len_s, abs_i, int_i, int_b, min_i, max_i, gcd_i, seq_t, seq_r, r1_i, r2_i, r3_i, a_nm, a_nil, a_cons, vrl_some, vrn_some, put_lget, Option.isSome_some, tru_ref, b_addl, idx_t, idx_r, idx_l, slc_l, len_t, len_r, len_l, tuple_t, tuple_r, tuple_l, list_t, list_r, list_l, app_l, rev_l, pop_l, popat_l, mT_l, seq_l, enu_l, zip_l, rev_i, rev_t, in_t, notin_t, fl_s, fl_i, fl_b, fl_n, inL_nil, inL_ss, inL_ii, List.all_cons, List.all_nil, Bool.and_self, Bool.and_true, Bool.true_and, zip_t, a_t, a_l, sub_l, isTs, isT, Option.map_some, List.length_cons, List.length_nil, Nat.reduceAdd, Nat.reduceSub, Nat.reduceLT, Nat.zero_add, Bool.false_eq_true, Bool.true_eq_false, if_false, if_true, decide_eq_true_eq, Bool.not_true, Bool.not_false, ite_true, ite_false, reduceIte, Bool.not_eq_true', decide_eq_false_iff_not, Int.cast_ofNat_Int, Int.reduceEq, Int.reduceLT, Int.reduceLE, Int.reduceNeg, Int.reduceAdd, Int.reduceSub, Int.reduceMul, Int.reduceToNat, decide_true, decide_false, not_true, not_false, not_true_eq_false, not_false_eq_true, true_and, and_true, eq_self, reduceCtorEq, List.isEmpty_nil, List.isEmpty_cons, List.nil_append, List.cons_append, idx_Q0, idx_Q1]
      refine add_ok (b := -db) hda hdb.neg (by omega) ?_
      exact h
    | mul =>
      simp -dsimp -implicitDefEqProofs only [ent, List.map_cons, List.map_nil, List.length_cons, List.length_nil, Nat.reduceAdd, Nat.reduceSub, Nat.zero_add, List.replicate, List.cons_append, List.nil_append, F_law_slope_of_two, SD]
      simp -dsimp -implicitDefEqProofs only [↓cov3, ↓cov2, ↓cov1, ↓E_var, ↓E_int, ↓E_bl, ↓E_non, ↓E_str, ↓E_glo, ↓E_tup, ↓E_lst, ↓E_bin, ↓E_neg, ↓E_cmp, ↓E_chn, ↓E_and, ↓E_or, ↓E_one, ↓E_not, ↓E_ifx, ↓E_idx, ↓E_slc, ↓E_call, ↓E_bi, ↓E_isi, ↓E_mth, ↓E_lc, ↓Es_nil, ↓Es_cons, ↓O_no, ↓O_some, ↓Q_no, ↓Q_c, ↓C_and, ↓C_or, ↓C_one, ↓C_not, ↓C_cmp, ↓C_chn, ↓C_v, ↓I_seq, ↓I_rng1, ↓I_rng2, ↓I_rng3, ↓I_enu, ↓I_zip, ↓I_rev, ↓S_set, ↓S_asg, ↓S_par2, ↓S_sub, ↓S_expr, ↓S_ret, ↓S_retN, ↓S_ifs, ↓S_for, ↓S_brk, ↓S_cnt, ↓S_pass, ↓S_raise, ↓S_try, ↓S_never, ex_t, ex_f, ↓S_nil, ↓S_cons, ↓kN_nx, ↓kN_rt, ↓kN_bk, ↓kN_ct, ↓kN_ex, ↓kL_nx, ↓kL_rt, ↓kL_bk, ↓kL_ct, ↓kL_ex, ↓kX_nx, ↓kX_rt, ↓kX_bk, ↓kX_ct, ↓kX_ex, ↓kend_nx, ↓kend_rt, ↓kend_bk, ↓kend_ct, ↓kend_ex, vr_some, gt_0, gt_s, stn_0, stn_s, wip_0, wip_s, wips_0, wips_s, neg_i, isi_s, o_i, tru_non, tru_bl, tru_int, tru_tup, tru_rol, c_Eq, c_NotEq, c_Lt, c_LtE, c_Gt, c_GtE, cs_Eq, cs_NotEq, cb_Eq, cb_NotEq, c2_Eq, c2_NotEq, is_non, isnot_non, is_bl, isnot_bl, is_int, isnot_int, is_str, isnot_str, is_tup, isnot_tup, is_rol, isnot_rol, is_ref, isnot_ref, is_b, isnot_b, in_s, notin_s, b_add, b_sub, b_mul, b_fdiv, b_mod, b_pow, b_addt, b_adds, atI0, atI1, atI2, atI3, slc_t, slc_r, len_s, abs_i, int_i, int_b, min_i, max_i, gcd_i, seq_t, seq_r, r1_i, r2_i, r3_i, a_nm, a_nil, a_cons, vrl_some, vrn_some, put_lget, Option.isSome_some, tru_ref, b_addl, idx_t, idx_r, idx_l, slc_l, len_t, len_r, len_l, tuple_t, tuple_r, tuple_l, list_t, list_r, list_l, app_l, rev_l, pop_l, popat_l, mT_l, seq_l, enu_l, zip_l, rev_i, rev_t, in_t, notin_t, fl_s, fl_i, fl_b, fl_n, inL_nil, inL_ss, inL_ii, List.all_cons, List.all_nil, Bool.and_self, Bool.and_true, Bool.true_and, zip_t, a_t, a_l, sub_l, isTs, isT, Option.map_some, List.length_cons, List.length_nil, Nat.reduceAdd, Nat.reduceSub, Nat.reduceLT, Nat.zero_add, Bool.false_eq_true, Bool.true_eq_false, if_false, if_true, decide_eq_true_eq, Bool.not_true, Bool.not_false, ite_true, ite_false, reduceIte, Bool.not_eq_true', decide_eq_false_iff_not, Int.cast_ofNat_Int, Int.reduceEq, Int.reduceLT, Int.reduceLE, Int.reduceNeg, Int.reduceAdd, Int.reduceSub, Int.reduceMul, Int.reduceToNat, decide_true, decide_false, not_true, not_false, not_true_eq_false, not_false_eq_true, true_and, and_true, eq_self, reduceCtorEq, List.isEmpty_nil, List.isEmpty_cons, List.nil_append, List.cons_append, lit_inj, String.reduceEq, inL_ss, Bool.or_false, Bool.false_or, Bool.or_true, Bool.true_or, opS]
      refine mul_ok ha hb (by omega) ?_
      simp -dsimp -implicitDefEqProofs only [↓cov3, ↓cov2, ↓cov1, ↓E_var, ↓E_int, ↓E_bl, ↓E_non, ↓E_str, ↓E_glo, ↓E_tup, ↓E_lst, ↓E_bin, ↓E_neg, ↓E_cmp, ↓E_chn, ↓E_and, ↓E_or, ↓E_one, ↓E_not, ↓E_ifx, ↓E_idx, ↓E_slc, ↓E_call, ↓E_bi, ↓E_isi, ↓E_mth, ↓E_lc, ↓Es_nil, ↓Es_cons, ↓O_no, ↓O_some, ↓Q_no, ↓Q_c, ↓C_and, ↓C_or, ↓C_one, ↓C_not, ↓C_cmp, ↓C_chn, ↓C_v, ↓I_seq, ↓I_rng1, ↓I_rng2, ↓I_rng3, ↓I_enu, ↓I_zip, ↓I_rev, ↓S_set, ↓S_asg, ↓S_par2, ↓S_sub, ↓S_expr, ↓S_ret, ↓S_retN, ↓S_ifs, ↓S_for, ↓S_brk, ↓S_cnt, ↓S_pass, ↓S_raise, ↓S_try, ↓S_never, ex_t, ex_f, ↓S_nil, ↓S_cons, ↓kN_nx, ↓kN_rt, ↓kN_bk, ↓kN_ct, ↓kN_ex, ↓kL_nx, ↓kL_rt, ↓kL_bk, ↓kL_ct, ↓kL_ex, ↓kX_nx, ↓kX_rt, ↓kX_bk, ↓kX_ct, ↓kX_ex, ↓kend_nx, ↓kend_rt, ↓kend_bk, ↓kend_ct, ↓kend_ex, vr_some, gt_0, gt_s, stn_0, stn_s, wip_0, wip_s, wips_0, wips_s, neg_i, isi_s, o_i, tru_non, tru_bl, tru_int, tru_tup, tru_rol, c_Eq, c_NotEq, c_Lt, c_LtE, c_Gt, c_GtE, cs_Eq, cs_NotEq, cb_Eq, cb_NotEq, c2_Eq, c2_NotEq, is_non, isnot_non, is_bl, isnot_bl, is_int, isnot_int, is_str, isnot_str, is_tup, isnot_tup, is_rol, isnot_rol, is_ref, isnot_ref, is_b, isnot_b, in_s, notin_s, b_add, b_sub, b_mul, b_fdiv, b_mod, b_pow, b_addt, b_adds, atI0, atI1, atI2, atI3, slc_t, slc_r, len_s, abs_i, int_i, int_b, min_i, max_i, gcd_i, seq_t, seq_r, r1_i, r2_i, r3_i, a_nm, a_nil, a_cons, vrl_some, vrn_some, put_lget, Option.isSome_some, tru_ref, b_addl, idx_t, idx_r, idx_l, slc_l, len_t, len_r, len_l, tuple_t, tuple_r, tuple_l, list_t, list_r, list_l, app_l, rev_l, pop_l, popat_l, mT_l, seq_l, enu_l, zip_l, rev_i, rev_t, in_t, notin_t, fl_s, fl_i, fl_b, fl_n, inL_nil, inL_ss, inL_ii, List.all_cons, List.all_nil, Bool.and_self, Bool.and_true, Bool.true_and, zip_t, a_t, a_l, sub_l, isTs, isT, Option.map_some, List.length_cons, List.length_nil, Nat.reduceAdd, Nat.reduceSub, Nat.reduceLT, Nat.zero_add, Bool.false_eq_true, Bool.true_eq_false, if_false, if_true, decide_eq_true_eq, Bool.not_true, Bool.not_false, ite_true, ite_false, reduceIte, Bool.not_eq_true', decide_eq_false_iff_not, Int.cast_ofNat_Int, Int.reduceEq, Int.reduceLT, Int.reduceLE, Int.reduceNeg, Int.reduceAdd, Int.reduceSub, Int.reduceMul, Int.reduceToNat, decide_true, decide_false, not_true, not_false, not_true_eq_false, not_false_eq_true, true_and, and_true, eq_self, reduceCtorEq, List.isEmpty_nil, List.isEmpty_cons, List.nil_append, List.cons_append]
      refine mul_ok ha hdb (by omega) ?_
      simp -dsimp -implicitDefEqProofs only [↓cov3, ↓cov2, ↓cov1, ↓E_var, ↓E_int, ↓E_bl, ↓E_non, ↓E_str, ↓E_glo, ↓E_tup, ↓E_lst, ↓E_bin, ↓E_neg, ↓E_cmp, ↓E_chn, ↓E_and, ↓E_or, ↓E_one, ↓E_not, ↓E_ifx, ↓E_idx, ↓E_slc, ↓E_call, ↓E_bi, ↓E_isi, ↓E_mth, ↓E_lc, ↓Es_nil, ↓Es_cons, ↓O_no, ↓O_some, ↓Q_no, ↓Q_c, ↓C_and, ↓C_or, ↓C_one, ↓C_not, ↓C_cmp, ↓C_chn, ↓C_v, ↓I_seq, ↓I_rng1, ↓I_rng2, ↓I_rng3, ↓I_enu, ↓I_zip, ↓I_rev, ↓S_set, ↓S_asg, ↓S_par2, ↓S_sub, ↓S_expr, ↓S_ret, ↓S_retN, ↓S_ifs, ↓S_for, ↓S_brk, ↓S_cnt, ↓S_pass, ↓S_raise, ↓S_try, ↓S_never, ex_t, ex_f, ↓S_nil, ↓S_cons, ↓kN_nx, ↓kN_rt, ↓kN_bk, ↓kN_ct, ↓kN_ex, ↓kL_nx, ↓kL_rt, ↓kL_bk, ↓kL_ct, ↓kL_ex, ↓kX_nx, ↓kX_rt, ↓kX_bk, ↓kX_ct, ↓kX_ex, ↓kend_nx, ↓kend_rt, ↓kend_bk, ↓kend_ct, ↓kend_ex, vr_some, gt_0, gt_s, stn_0, stn_s, wip_0, wip_s, wips_0, wips_s, neg_i, isi_s, o_i, tru_non, tru_bl, tru_int, tru_tup, tru_rol, c_Eq, c_NotEq, c_Lt, c_LtE, c_Gt, c_GtE, cs_Eq, cs_NotEq, cb_Eq, cb_NotEq, c2_Eq, c2_NotEq, is_non, isnot_non, is_bl, isnot_bl, is_int, isnot_int, is_str, isnot_str, is_tup, isnot_tup, is_rol, isnot_rol, is_ref, isnot_ref, is_b, isnot_b, in_s, notin_s, b_add, b_sub, b_mul, b_fdiv, b_mod, b_pow, b_addt, b_adds, atI0, atI1, atI2, atI3, slc_t, slc_r, len_s, abs_i, int_i, int_b, min_i, max_i, gcd_i, seq_t, seq_r, r1_i, r2_i, r3_i, a_nm, a_nil, a_cons, vrl_some, vrn_some, put_lget, Option.isSome_some, tru_ref, b_addl, idx_t, idx_r, idx_l, slc_l, len_t, len_r, len_l, tuple_t, tuple_r, tuple_l, list_t, list_r, list_l, app_l, rev_l, pop_l, popat_l, mT_l, seq_l, enu_l, zip_l, rev_i, rev_t, in_t, notin_t, fl_s, fl_i, fl_b, fl_n, inL_nil, inL_ss, inL_ii, List.all_cons, List.all_nil, Bool.and_self, Bool.and_true, Bool.true_and, zip_t, a_t, a_l, sub_l, isTs, isT, Option.map_some, List.length_cons, List.length_nil, Nat.reduceAdd, Nat.reduceSub, Nat.reduceLT, Nat.zero_add, Bool.false_eq_true, Bool.true_eq_false, if_false, if_true, decide_eq_true_eq, Bool.not_true, Bool.not_false, ite_true, ite_false, reduceIte, Bool.not_eq_true', decide_eq_false_iff_not, Int.cast_ofNat_Int, Int.reduceEq, Int.reduceLT, Int.reduceLE, Int.reduceNeg, Int.reduceAdd, Int.reduceSub, Int.reduceMul, Int.reduceToNat, decide_true, decide_false, not_true, not_false, not_true_eq_false, not_false_eq_true, true_and, and_true, eq_self, reduceCtorEq, List.isEmpty_nil, List.isEmpty_cons, List.nil_append, List.cons_append]
      refine mul_ok hda hb (by omega) ?_
      simp -dsimp -implicitDefEqProofs only [↓cov3, ↓cov2, ↓cov1, ↓E_var, ↓E_int, ↓E_bl, ↓E_non, ↓E_str, ↓E_glo, ↓E_tup, ↓E_lst, ↓E_bin, ↓E_neg, ↓E_cmp, ↓E_chn, ↓E_and, ↓E_or, ↓E_one, ↓E_not, ↓E_ifx, ↓E_idx, ↓E_slc, ↓E_call, ↓E_bi, ↓E_isi, ↓E_mth, ↓E_lc, ↓Es_nil, ↓Es_cons, ↓O_no, ↓O_some, ↓Q_no, ↓Q_c, ↓C_and, ↓C_or, ↓C_one, ↓C_not, ↓C_cmp, ↓C_chn, ↓C_v, ↓I_seq, ↓I_rng1, ↓I_rng2, ↓I_rng3, ↓I_enu, ↓I_zip, ↓I_rev, ↓S_set, ↓S_asg, ↓S_par2, ↓S_sub, ↓S_expr, ↓S_ret, ↓S_retN, ↓S_ifs, ↓S_for, ↓S_brk, ↓S_cnt, ↓S_pass, ↓S_raise, ↓S_try, ↓S_never, ex_t, ex_f, ↓S_nil, ↓S_cons, ↓kN_nx, ↓kN_rt, ↓kN_bk, ↓kN_ct, ↓kN_ex, ↓kL_nx, ↓kL_rt, ↓kL_bk, ↓kL_ct, ↓kL_ex, ↓kX_nx, ↓kX_rt, ↓kX_bk, ↓kX_ct, ↓kX_ex, ↓kend_nx, ↓kend_rt, ↓kend_bk, ↓kend_ct, ↓kend_ex, vr_some, gt_0, gt_s, stn_0, stn_s, wip_0, wip_s, wips_0, wips_s, neg_i, isi_s, o_i, tru_non, tru_bl, tru_int, tru_tup, tru_rol, c_Eq, c_NotEq, c_Lt, c_LtE, c_Gt, c_GtE, cs_Eq, cs_NotEq, cb_Eq, cb_NotEq, c2_Eq, c2_NotEq, is_non, isnot_non, is_bl, isnot_bl, is_int, isnot_int, is_str, isnot_str, is_tup, isnot_tup, is_rol, isnot_rol, is_ref, isnot_ref, is_b, isnot_b, in_s, notin_s, b_add, b_sub, b_mul, b_fdiv, b_mod, b_pow, b_addt, b_adds, atI0, atI1, atI2, atI3, slc_t, slc_r, len_s, abs_i, int_i, int_b, min_i, max_i, gcd_i, seq_t, seq_r, r1_i, r2_i, r3_i, a_nm, a_nil, a_cons, vrl_some, vrn_some, put_lget, Option.isSome_some, tru_ref, b_addl, idx_t, idx_r, idx_l, slc_l, len_t, len_r, len_l, tuple_t, tuple_r, tuple_l, list_t, list_r, list_l, app_l, rev_l, pop_l, popat_l, mT_l, seq_l, enu_l, zip_l, rev_i, rev_t, in_t, notin_t, fl_s, fl_i, fl_b, fl_n, inL_nil, inL_ss, inL_ii, List.all_cons, List.all_nil, Bool.and_self, Bool.and_true, Bool.true_and, zip_t, a_t, a_l, sub_l, isTs, isT, Option.map_some, List.length_cons, List.length_nil, Nat.reduceAdd, Nat.reduceSub, Nat.reduceLT, Nat.zero_add, Bool.false_eq_true, Bool.true_eq_false, if_false, if_true, decide_eq_true_eq, Bool.not_true, Bool.not_false, ite_true, ite_false, reduceIte, Bool.not_eq_true', decide_eq_false_iff_not, Int.cast_ofNat_Int, Int.reduceEq, Int.reduceLT, Int.reduceLE, Int.reduceNeg, Int.reduceAdd, Int.reduceSub, Int.reduceMul, Int.reduceToNat, decide_true, decide_false, not_true, not_false, not_true_eq_false, not_false_eq_true, true_and, and_true, eq_self, reduceCtorEq, List.isEmpty_nil, List.isEmpty_cons, List.nil_append, List.cons_append]
      refine add_ok (QB.mul ha hdb (Nat.le_refl _)) (QB.mul hda hb (Nat.le_refl _)) (by omega) ?_
      exact h
    | div =>
      simp -dsimp -implicitDefEqProofs only [ent, List.map_cons, List.map_nil, List.length_cons, List.length_nil, Nat.reduceAdd, Nat.reduceSub, Nat.zero_add, List.replicate, List.cons_append, List.nil_append, F_law_slope_of_two, SD]
      simp -dsimp -implicitDefEqProofs only [↓cov3, ↓cov2, ↓cov1, ↓E_var, ↓E_int, ↓E_bl, ↓E_non, ↓E_str, ↓E_glo, ↓E_tup, ↓E_lst, ↓E_bin, ↓E_neg, ↓E_cmp, ↓E_chn, ↓E_and, ↓E_or, ↓E_one, ↓E_not, ↓E_ifx, ↓E_idx, ↓E_slc, ↓E_call, ↓E_bi, ↓E_isi, ↓E_mth, ↓E_lc, ↓Es_nil, ↓Es_cons, ↓O_no, ↓O_some, ↓Q_no, ↓Q_c, ↓C_and, ↓C_or, ↓C_one, ↓C_not, ↓C_cmp, ↓C_chn, ↓C_v, ↓I_seq, ↓I_rng1, ↓I_rng2, ↓I_rng3, ↓I_enu, ↓I_zip, ↓I_rev, ↓S_set, ↓S_asg, ↓S_par2, ↓S_sub, ↓S_expr, ↓S_ret, ↓S_retN, ↓S_ifs, ↓S_for, ↓S_brk, ↓S_cnt, ↓S_pass, ↓S_raise, ↓S_try, ↓S_never, ex_t, ex_f, ↓S_nil, ↓S_cons, ↓kN_nx, ↓kN_rt, ↓kN_bk, ↓kN_ct, ↓kN_ex, ↓kL_nx, ↓kL_rt, ↓kL_bk, ↓kL_ct, ↓kL_ex, ↓kX_nx, ↓kX_rt, ↓kX_bk, ↓kX_ct, ↓kX_ex, ↓kend_nx, ↓kend_rt, ↓kend_bk, ↓kend_ct, ↓kend_ex, vr_some, gt_0, gt_s, stn_0, stn_s, wip_0, wip_s, wips_0, wips_s, neg_i, isi_s, o_i, tru_non, tru_bl, tru_int, tru_tup, tru_rol, c_Eq, c_NotEq, c_Lt, c_LtE, c_Gt, c_GtE, cs_Eq, cs_NotEq, cb_Eq, cb_NotEq, c2_Eq, c2_NotEq, is_non, isnot_non, is_bl, isnot_bl, is_int, isnot_int, is_str, isnot_str, is_tup, isnot_tup, is_rol, isnot_rol, is_ref, isnot_ref, is_b, isnot_b, in_s, notin_s, b_add, b_sub, b_mul, b_fdiv, b_mod, b_pow, b_addt, b_adds, atI0, atI1, atI2, atI3, slc_t, slc_r, len_s, abs_i, int_i, int_b, min_i, max_i, gcd_i, seq_t, seq_r, r1_i, r2_i, r3_i, a_nm, a_nil, a_cons, vrl_some, vrn_some, put_lget, Option.isSome_some, tru_ref, b_addl, idx_t, idx_r, idx_l, slc_l, len_t, len_r, len_l, tuple_t, tuple_r, tuple_l, list_t, list_r, list_l, app_l, rev_l, pop_l, popat_l, mT_l, seq_l, enu_l, zip_l, rev_i, rev_t, in_t, notin_t, fl_s, fl_i, fl_b, fl_n, inL_nil, inL_ss, inL_ii, List.all_cons, List.all_nil, Bool.and_self, Bool.and_true, Bool.true_and, zip_t, a_t, a_l, sub_l, isTs, isT, Option.map_some, List.length_cons, List.length_nil, Nat.reduceAdd, Nat.reduceSub, Nat.reduceLT, Nat.zero_add, Bool.false_eq_true, Bool.true_eq_false, if_false, if_true, decide_eq_true_eq, Bool.not_true, Bool.not_false, ite_true, ite_false, reduceIte, Bool.not_eq_true', decide_eq_false_iff_not, Int.cast_ofNat_Int, Int.reduceEq, Int.reduceLT, Int.reduceLE, Int.reduceNeg, Int.reduceAdd, Int.reduceSub, Int.reduceMul, Int.reduceToNat, decide_true, decide_false, not_true, not_false, not_true_eq_false, not_false_eq_true, true_and, and_true, eq_self, reduceCtorEq, List.isEmpty_nil, List.isEmpty_cons, List.nil_append, List.cons_append, lit_inj, String.reduceEq, inL_ss, Bool.or_false, Bool.false_or, Bool.or_true, Bool.true_or, opS, idx_Q0, idx_Q1]
      have h : Q (SD (if b = 0 then none else some (a * b⁻¹, (da * b + -(a * db)) * (b⁻¹ * b⁻¹)))) S := h
      refine ite2 (fun h0 => ?_) fun h0 => ?_
      · rw [if_pos (Rat.num_eq_zero.mp h0)] at h
        exact h
      · have hb0 : b ≠ 0 := fun z => h0 (by rw [z]; rfl)
        rw [if_neg hb0] at h
        have inv := hb.inv (num_ne hb0)
        refine mul_ok ha hdb (by omega) ?_
        simp -dsimp -implicitDefEqProofs only [↓cov3, ↓cov2, ↓cov1, ↓E_var, ↓E_int, ↓E_bl, ↓E_non, ↓E_str, ↓E_glo, ↓E_tup, ↓E_lst, ↓E_bin, ↓E_neg, ↓E_cmp, ↓E_chn, ↓E_and, ↓E_or, ↓E_one, ↓E_not, ↓E_ifx, ↓E_idx, ↓E_slc, ↓E_call, ↓E_bi, ↓E_isi, ↓E_mth, ↓E_lc, ↓Es_nil, ↓Es_cons, ↓O_no, ↓O_some, ↓Q_no, ↓Q_c, ↓C_and, ↓C_or, ↓C_one, ↓C_not, ↓C_cmp, ↓C_chn, ↓C_v, ↓I_seq, ↓I_rng1, ↓I_rng2, ↓I_rng3, ↓I_enu, ↓I_zip, ↓I_rev, ↓S_set, ↓S_asg, ↓S_par2, ↓S_sub, ↓S_expr, ↓S_ret, ↓S_retN, ↓S_ifs, ↓S_for, ↓S_brk, ↓S_cnt, ↓S_pass, ↓S_raise, ↓S_try, ↓S_never, ex_t, ex_f, ↓S_nil, ↓S_cons, ↓kN_nx, ↓kN_rt, ↓kN_bk, ↓kN_ct, ↓kN_ex, ↓kL_nx, ↓kL_rt, ↓kL_bk, ↓kL_ct, ↓kL_ex, ↓kX_nx, ↓kX_rt, ↓kX_bk, ↓kX_ct, ↓kX_ex, ↓kend_nx, ↓kend_rt, ↓kend_bk, ↓kend_ct, ↓kend_ex, vr_some, gt_0, gt_s, stn_0, stn_s, wip_0, wip_s, wips_0, wips_s, neg_i, isi_s, o_i, tru_non, tru_bl, tru_int, tru_tup, tru_rol, c_Eq, c_NotEq, c_Lt, c_LtE, c_Gt, c_GtE, cs_Eq, cs_NotEq, cb_Eq, cb_NotEq, c2_Eq, c2_NotEq, is_non, isnot_non, is_bl, isnot_bl, is_int, isnot_int, is_str, isnot_str, is_tup, isnot_tup, is_rol, isnot_rol, is_ref, isnot_ref, is_b, isnot_b, in_s, notin_s, b_add, b_sub, b_mul, b_fdiv, b_mod, b_pow, b_addt, b_adds, atI0, atI1, atI2, atI3, slc_t, slc_r, len_s, abs_i, int_i, int_b, min_i, max_i, gcd_i, seq_t, seq_r, r1_i, r2_i, r3_i, a_nm, a_nil, a_cons, vrl_some, vrn_some, put_lget, Option.isSome_some, tru_ref, b_addl, idx_t, idx_r, idx_l, slc_l, len_t, len_r, len_l, tuple_t, tuple_r, tuple_l, list_t, list_r, list_l, app_l, rev_l, pop_l, popat_l, mT_l, seq_l, enu_l, zip_l, rev_i, rev_t, in_t, notin_t, fl_s, fl_i, fl_b, fl_n, inL_nil, inL_ss, inL_ii, List.all_cons, List.all_nil, Bool.and_self, Bool.and_true, Bool.true_and, zip_t, a_t, a_l, sub_l, isTs, isT, Option.map_some, List.length_cons, List.length_nil, Nat.reduceAdd, Nat.reduceSub, Nat.reduceLT, Nat.zero_add, Bool.false_eq_true, Bool.true_eq_false, if_false, if_true, decide_eq_true_eq, Bool.not_true, Bool.not_false, ite_true, ite_false, reduceIte, Bool.not_eq_true', decide_eq_false_iff_not, Int.cast_ofNat_Int, Int.reduceEq, Int.reduceLT, Int.reduceLE, Int.reduceNeg, Int.reduceAdd, Int.reduceSub, Int.reduceMul, Int.reduceToNat, decide_true, decide_false, not_true, not_false, not_true_eq_false, not_false_eq_true, true_and, and_true, eq_self, reduceCtorEq, List.isEmpty_nil, List.isEmpty_cons, List.nil_append, List.cons_append, idx_Q0, idx_Q1]
        refine mul_ok hda hb (by omega) ?_
        simp -dsimp -implicitDefEqProofs only [↓cov3, ↓cov2, ↓cov1, ↓E_var, ↓E_int, ↓E_bl, ↓E_non, ↓E_str, ↓E_glo, ↓E_tup, ↓E_lst, ↓E_bin, ↓E_neg, ↓E_cmp, ↓E_chn, ↓E_and, ↓E_or, ↓E_one, ↓E_not, ↓E_ifx, ↓E_idx, ↓E_slc, ↓E_call, ↓E_bi, ↓E_isi, ↓E_mth, ↓E_lc, ↓Es_nil, ↓Es_cons, ↓O_no, ↓O_some, ↓Q_no, ↓Q_c, ↓C_and, ↓C_or, ↓C_one, ↓C_not, ↓C_cmp, ↓C_chn, ↓C_v, ↓I_seq, ↓I_rng1, ↓I_rng2, ↓I_rng3, ↓I_enu, ↓I_zip, ↓I_rev, ↓S_set, ↓S_asg, ↓S_par2, ↓S_sub, ↓S_expr, ↓S_ret, ↓S_retN, ↓S_ifs, ↓S_for, ↓S_brk, ↓S_cnt, ↓S_pass, ↓S_raise, ↓S_try, ↓S_never, ex_t, ex_f, ↓S_nil, ↓S_cons, ↓kN_nx, ↓kN_rt, ↓kN_bk, ↓kN_ct, ↓kN_ex, ↓kL_nx, ↓kL_rt, ↓kL_bk, ↓kL_ct, ↓kL_ex, ↓kX_nx, ↓kX_rt, ↓kX_bk, ↓kX_ct, ↓kX_ex, ↓kend_nx, ↓kend_rt, ↓kend_bk, ↓kend_ct, ↓kend_ex, vr_some, gt_0, gt_s, stn_0, stn_s, wip_0, wip_s, wips_0, wips_s, neg_i, isi_s, o_i, tru_non, tru_bl, tru_int, tru_tup, tru_rol, c_Eq, c_NotEq, c_Lt, c_LtE, c_Gt, c_GtE, cs_Eq, cs_NotEq, cb_Eq, cb_NotEq, c2_Eq, c2_NotEq, is_non, isnot_non, is_bl, isnot_bl, is_int, isnot_int, is_str, isnot_str, is_tup, isnot_tup, is_rol, isnot_rol, is_ref, isnot_ref, is_b, isnot_b, in_s, notin_s, b_add, b_sub, b_mul, b_fdiv, b_mod, b_pow, b_addt, b_adds, atI0, atI1, atI2, atI3, slc_t, slc_r, len_s, abs_i, int_i, int_b, min_i, max_i, gcd_i, seq_t, seq_r, r1_i, r2_i, r3_i, a_nm, a_nil, a_cons, vrl_some, vrn_some, put_lget, Option.isSome_some, tru_ref, b_addl, idx_t, idx_r, idx_l, slc_l, len_t, len_r, len_l, tuple_t, tuple_r, tuple_l, list_t, list_r, list_l, app_l, rev_l, pop_l, popat_l, mT_l, seq_l, enu_l, zip_l, rev_i, rev_t, in_t, notin_t, fl_s, fl_i, fl_b, fl_n, inL_nil, inL_ss, inL_ii, List.all_cons, List.all_nil, Bool.and_self, Bool.and_true, Bool.true_and, zip_t, a_t, a_l, sub_l, isTs, isT, Option.map_some, List.length_cons, List.length_nil, Nat.reduceAdd, Nat.reduceSub, Nat.reduceLT, Nat.zero_add, Bool.false_eq_true, Bool.true_eq_false, if_false, if_true, decide_eq_true_eq, Bool.not_true, Bool.not_false, ite_true, ite_false, reduceIte, Bool.not_eq_true', decide_eq_false_iff_not, Int.cast_ofNat_Int, Int.reduceEq, Int.reduceLT, Int.reduceLE, Int.reduceNeg, Int.reduceAdd, Int.reduceSub, Int.reduceMul, Int.reduceToNat, decide_true, decide_false, not_true, not_false, not_true_eq_false, not_false_eq_true, true_and, and_true, eq_self, reduceCtorEq, List.isEmpty_nil, List.isEmpty_cons, List.nil_append, List.cons_append, idx_Q0, idx_Q1]
        have q1 : QB (a * db) 10365 := QB.mul ha hdb (by omega)
        have q2 : QB (da * b) 10365 := QB.mul hda hb (by omega)
        refine add_ok (b := -(a * db)) q2 q1.neg (by omega) ?_
        have q3 : QB (da * b + -(a * db)) 20731 := QB.add q2 q1.neg (by omega)
        simp -dsimp -implicitDefEqProofs only [↓cov3, ↓cov2, ↓cov1, ↓E_var, ↓E_int, ↓E_bl, ↓E_non, ↓E_str, ↓E_glo, ↓E_tup, ↓E_lst, ↓E_bin, ↓E_neg, ↓E_cmp, ↓E_chn, ↓E_and, ↓E_or, ↓E_one, ↓E_not, ↓E_ifx, ↓E_idx, ↓E_slc, ↓E_call, ↓E_bi, ↓E_isi, ↓E_mth, ↓E_lc, ↓Es_nil, ↓Es_cons, ↓O_no, ↓O_some, ↓Q_no, ↓Q_c, ↓C_and, ↓C_or, ↓C_one, ↓C_not, ↓C_cmp, ↓C_chn, ↓C_v, ↓I_seq, ↓I_rng1, ↓I_rng2, ↓I_rng3, ↓I_enu, ↓I_zip, ↓I_rev, ↓S_set, ↓S_asg, ↓S_par2, ↓S_sub, ↓S_expr, ↓S_ret, ↓S_retN, ↓S_ifs, ↓S_for, ↓S_brk, ↓S_cnt, ↓S_pass, ↓S_raise, ↓S_try, ↓S_never, ex_t, ex_f, ↓S_nil, ↓S_cons, ↓kN_nx, ↓kN_rt, ↓kN_bk, ↓kN_ct, ↓kN_ex, ↓kL_nx, ↓kL_rt, ↓kL_bk, ↓kL_ct, ↓kL_ex, ↓kX_nx, ↓kX_rt, ↓kX_bk, ↓kX_ct, ↓kX_ex, ↓kend_nx, ↓kend_rt, ↓kend_bk, ↓kend_ct, ↓kend_ex, vr_some, gt_0, gt_s, stn_0, stn_s, wip_0, wip_s, wips_0, wips_s, neg_i, isi_s, o_i, tru_non, tru_bl, tru_int, tru_tup, tru_rol, c_Eq, c_NotEq, c_Lt, c_LtE, c_Gt, c_GtE, cs_Eq, cs_NotEq, cb_Eq, cb_NotEq, c2_Eq, c2_NotEq, is_non, isnot_non, is_bl, isnot_bl, is_int, isnot_int, is_str, isnot_str, is_tup, isnot_tup, is_rol, isnot_rol, is_ref, isnot_ref, is_b, isnot_b, in_s, notin_s, b_add, b_sub, b_mul, b_fdiv, b_mod, b_pow, b_addt, b_adds, atI0, atI1, atI2, atI3, slc_t, slc_r, len_s, abs_i, int_i, int_b, min_i, max_i, gcd_i, seq_t, seq_r, r1_i, r2_i, r3_i, a_nm, a_nil, a_cons, vrl_some, vrn_some, put_lget, Option.isSome_some, tru_ref, b_addl, idx_t, idx_r, idx_l, slc_l, len_t, len_r, len_l, tuple_t, tuple_r, tuple_l, list_t, list_r, list_l, app_l, rev_l, pop_l, popat_l, mT_l, seq_l, enu_l, zip_l, rev_i, rev_t, in_t, notin_t, fl_s, fl_i, fl_b, fl_n, inL_nil, inL_ss, inL_ii, List.all_cons, List.all_nil, Bool.and_self, Bool.and_true, Bool.true_and, zip_t, a_t, a_l, sub_l, isTs, isT, Option.map_some, List.length_cons, List.length_nil, Nat.reduceAdd, Nat.reduceSub, Nat.reduceLT, Nat.zero_add, Bool.false_eq_true, Bool.true_eq_false, if_false, if_true, decide_eq_true_eq, Bool.not_true, Bool.not_false, ite_true, ite_false, reduceIte, Bool.not_eq_true', decide_eq_false_iff_not, Int.cast_ofNat_Int, Int.reduceEq, Int.reduceLT, Int.reduceLE, Int.reduceNeg, Int.reduceAdd, Int.reduceSub, Int.reduceMul, Int.reduceToNat, decide_true, decide_false, not_true, not_false, not_true_eq_false, not_false_eq_true, true_and, and_true, eq_self, reduceCtorEq, List.isEmpty_nil, List.isEmpty_cons, List.nil_append, List.cons_append, idx_Q0, idx_Q1]
        refine inverse_ok hb (by omega) hb0 ?_
        simp -dsimp -implicitDefEqProofs only [↓cov3, ↓cov2, ↓cov1, ↓E_var, ↓E_int, ↓E_bl, ↓E_non, ↓E_str, ↓E_glo, ↓E_tup, ↓E_lst, ↓E_bin, ↓E_neg, ↓E_cmp, ↓E_chn, ↓E_and, ↓E_or, ↓E_one, ↓E_not, ↓E_ifx, ↓E_idx, ↓E_slc, ↓E_call, ↓E_bi, ↓E_isi, ↓E_mth, ↓E_lc, ↓Es_nil, ↓Es_cons, ↓O_no, ↓O_some, ↓Q_no, ↓Q_c, ↓C_and, ↓C_or, ↓C_one, ↓C_not, ↓C_cmp, ↓C_chn, ↓C_v, ↓I_seq, ↓I_rng1, ↓I_rng2, ↓I_rng3, ↓I_enu, ↓I_zip, ↓I_rev, ↓S_set, ↓S_asg, ↓S_par2, ↓S_sub, ↓S_expr, ↓S_ret, ↓S_retN, ↓S_ifs, ↓S_for, ↓S_brk, ↓S_cnt, ↓S_pass, ↓S_raise, ↓S_try, ↓S_never, ex_t, ex_f, ↓S_nil, ↓S_cons, ↓kN_nx, ↓kN_rt, ↓kN_bk, ↓kN_ct, ↓kN_ex, ↓kL_nx, ↓kL_rt, ↓kL_bk, ↓kL_ct, ↓kL_ex, ↓kX_nx, ↓kX_rt, ↓kX_bk, ↓kX_ct, ↓kX_ex, ↓kend_nx, ↓kend_rt, ↓kend_bk, ↓kend_ct, ↓kend_ex, vr_some, gt_0, gt_s, stn_0, stn_s, wip_0, wip_s, wips_0, wips_s, neg_i, isi_s, o_i, tru_non, tru_bl, tru_int, tru_tup, tru_rol, c_Eq, c_NotEq, c_Lt, c_LtE, c_Gt, c_GtE, cs_Eq, cs_NotEq, cb_Eq, cb_NotEq, c2_Eq, c2_NotEq, is_non, isnot_non, is_bl, isnot_bl, is_int, isnot_int, is_str, isnot_str, is_tup, isnot_tup, is_rol, isnot_rol, is_ref, isnot_ref, is_b, isnot_b, in_s, notin_s, b_add, b_sub, b_mul, b_fdiv, b_mod, b_pow, b_addt, b_adds, atI0, atI1, atI2, atI3, slc_t, slc_r, len_s, abs_i, int_i, int_b, min_i, max_i, gcd_i, seq_t, seq_r, r1_i, r2_i, r3_i, a_nm, a_nil, a_cons, vrl_some, vrn_some, put_lget, Option.isSome_some, tru_ref, b_addl, idx_t, idx_r, idx_l, slc_l, len_t, len_r, len_l, tuple_t, tuple_r, tuple_l, list_t, list_r, list_l, app_l, rev_l, pop_l, popat_l, mT_l, seq_l, enu_l, zip_l, rev_i, rev_t, in_t, notin_t, fl_s, fl_i, fl_b, fl_n, inL_nil, inL_ss, inL_ii, List.all_cons, List.all_nil, Bool.and_self, Bool.and_true, Bool.true_and, zip_t, a_t, a_l, sub_l, isTs, isT, Option.map_some, List.length_cons, List.length_nil, Nat.reduceAdd, Nat.reduceSub, Nat.reduceLT, Nat.zero_add, Bool.false_eq_true, Bool.true_eq_false, if_false, if_true, decide_eq_true_eq, Bool.not_true, Bool.not_false, ite_true, ite_false, reduceIte, Bool.not_eq_true', decide_eq_false_iff_not, Int.cast_ofNat_Int, Int.reduceEq, Int.reduceLT, Int.reduceLE, Int.reduceNeg, Int.reduceAdd, Int.reduceSub, Int.reduceMul, Int.reduceToNat, decide_true, decide_false, not_true, not_false, not_true_eq_false, not_false_eq_true, true_and, and_true, eq_self, reduceCtorEq, List.isEmpty_nil, List.isEmpty_cons, List.nil_append, List.cons_append]
        refine mul_ok ha inv (by omega) ?_
        simp -dsimp -implicitDefEqProofs only [↓cov3, ↓cov2, ↓cov1, ↓E_var, ↓E_int, ↓E_bl, ↓E_non, ↓E_str, ↓E_glo, ↓E_tup, ↓E_lst, ↓E_bin, ↓E_neg, ↓E_cmp, ↓E_chn, ↓E_and, ↓E_or, ↓E_one, ↓E_not, ↓E_ifx, ↓E_idx, ↓E_slc, ↓E_call, ↓E_bi, ↓E_isi, ↓E_mth, ↓E_lc, ↓Es_nil, ↓Es_cons, ↓O_no, ↓O_some, ↓Q_no, ↓Q_c, ↓C_and, ↓C_or, ↓C_one, ↓C_not, ↓C_cmp, ↓C_chn, ↓C_v, ↓I_seq, ↓I_rng1, ↓I_rng2, ↓I_rng3, ↓I_enu, ↓I_zip, ↓I_rev, ↓S_set, ↓S_asg, ↓S_par2, ↓S_sub, ↓S_expr, ↓S_ret, ↓S_retN, ↓S_ifs, ↓S_for, ↓S_brk, ↓S_cnt, ↓S_pass, ↓S_raise, ↓S_try, ↓S_never, ex_t, ex_f, ↓S_nil, ↓S_cons, ↓kN_nx, ↓kN_rt, ↓kN_bk, ↓kN_ct, ↓kN_ex, ↓kL_nx, ↓kL_rt, ↓kL_bk, ↓kL_ct, ↓kL_ex, ↓kX_nx, ↓kX_rt, ↓kX_bk, ↓kX_ct, ↓kX_ex, ↓kend_nx, ↓kend_rt, ↓kend_bk, ↓kend_ct, ↓kend_ex, vr_some, gt_0, gt_s, stn_0, stn_s, wip_0, wip_s, wips_0, wips_s, neg_i, isi_s, o_i, tru_non, tru_bl, tru_int, tru_tup, tru_rol, c_Eq, c_NotEq, c_Lt, c_LtE, c_Gt, c_GtE, cs_Eq, cs_NotEq, cb_Eq, cb_NotEq, c2_Eq, c2_NotEq, is_non, isnot_non, is_bl, isnot_bl, is_int, isnot_int, is_str, isnot_str, is_tup, isnot_tup, is_rol, isnot_rol, is_ref, isnot_ref, is_b, isnot_b, in_s, notin_s, b_add, b_sub, b_mul, b_fdiv, b_mod, b_pow, b_addt, b_adds, atI0, atI1, atI2, atI3, slc_t, slc_r, len_s, abs_i, int_i, int_b, min_i, max_i, gcd_i, seq_t, seq_r, r1_i, r2_i, r3_i, a_nm, a_nil, a_cons, vrl_some, vrn_some, put_lget, Option.isSome_some, tru_ref, b_addl, idx_t, idx_r, idx_l, slc_l, len_t, len_r, len_l, tuple_t, tuple_r, tuple_l, list_t, list_r, list_l, app_l, rev_l, pop_l, popat_l, mT_l, seq_l, enu_l, zip_l, rev_i, rev_t, in_t, notin_t, fl_s, fl_i, fl_b, fl_n, inL_nil, inL_ss, inL_ii, List.all_cons, List.all_nil, Bool.and_self, Bool.and_true, Bool.true_and, zip_t, a_t, a_l, sub_l, isTs, isT, Option.map_some, List.length_cons, List.length_nil, Nat.reduceAdd, Nat.reduceSub, Nat.reduceLT, Nat.zero_add, Bool.false_eq_true, Bool.true_eq_false, if_false, if_true, decide_eq_true_eq, Bool.not_true, Bool.not_false, ite_true, ite_false, reduceIte, Bool.not_eq_true', decide_eq_false_iff_not, Int.cast_ofNat_Int, Int.reduceEq, Int.reduceLT, Int.reduceLE, Int.reduceNeg, Int.reduceAdd, Int.reduceSub, Int.reduceMul, Int.reduceToNat, decide_true, decide_false, not_true, not_false, not_true_eq_false, not_false_eq_true, true_and, and_true, eq_self, reduceCtorEq, List.isEmpty_nil, List.isEmpty_cons, List.nil_append, List.cons_append]
        refine mul_ok inv inv (by omega) ?_
        simp -dsimp -implicitDefEqProofs only [↓cov3, ↓cov2, ↓cov1, ↓E_var, ↓E_int, ↓E_bl, ↓E_non, ↓E_str, ↓E_glo, ↓E_tup, ↓E_lst, ↓E_bin, ↓E_neg, ↓E_cmp, ↓E_chn, ↓E_and, ↓E_or, ↓E_one, ↓E_not, ↓E_ifx, ↓E_idx, ↓E_slc, ↓E_call, ↓E_bi, ↓E_isi, ↓E_mth, ↓E_lc, ↓Es_nil, ↓Es_cons, ↓O_no, ↓O_some, ↓Q_no, ↓Q_c, ↓C_and, ↓C_or, ↓C_one, ↓C_not, ↓C_cmp, ↓C_chn, ↓C_v, ↓I_seq, ↓I_rng1, ↓I_rng2, ↓I_rng3, ↓I_enu, ↓I_zip, ↓I_rev, ↓S_set, ↓S_asg, ↓S_par2, ↓S_sub, ↓S_expr, ↓S_ret, ↓S_retN, ↓S_ifs, ↓S_for, ↓S_brk, ↓S_cnt, ↓S_pass, ↓S_raise, ↓S_try, ↓S_never, ex_t, ex_f, ↓S_nil, ↓S_cons, ↓kN_nx, ↓kN_rt, ↓kN_bk, ↓kN_ct, ↓kN_ex, ↓kL_nx, ↓kL_rt, ↓kL_bk, ↓kL_ct, ↓kL_ex, ↓kX_nx, ↓kX_rt, ↓kX_bk, ↓kX_ct, ↓kX_ex, ↓kend_nx, ↓kend_rt, ↓kend_bk, ↓kend_ct, ↓kend_ex, vr_some, gt_0, gt_s, stn_0, stn_s, wip_0, wip_s, wips_0, wips_s, neg_i, isi_s, o_i, tru_non, tru_bl, tru_int, tru_tup, tru_rol, c_Eq, c_NotEq, c_Lt, c_LtE, c_Gt, c_GtE, cs_Eq, cs_NotEq, cb_Eq, cb_NotEq, c2_Eq, c2_NotEq, is_non, isnot_non, is_bl, isnot_bl, is_int, isnot_int, is_str, isnot_str, is_tup, isnot_tup, is_rol, isnot_rol, is_ref, isnot_ref, is_b, isnot_b, in_s, notin_s, b_add, b_sub, b_mul, b_fdiv, b_mod, b_pow, b_addt, b_adds, atI0, atI1, atI2, atI3, slc_t, slc_r, len_s, abs_i, int_i, int_b, min_i, max_i, gcd_i, seq_t, seq_r, r1_i, r2_i, r3_i, a_nm, a_nil, a_cons, vrl_some, vrn_some, put_lget, Option.isSome_some, tru_ref, b_addl, idx_t, idx_r, idx_l, slc_l, len_t, len_r, len_l, tuple_t, tuple_r, tuple_l, list_t, list_r, list_l, app_l, rev_l, pop_l, popat_l, mT_l, seq_l, enu_l, zip_l, rev_i, rev_t, in_t, notin_t, fl_s, fl_i, fl_b, fl_n, inL_nil, inL_ss, inL_ii, List.all_cons, List.all_nil, Bool.and_self, Bool.and_true, Bool.true_and, zip_t, a_t, a_l, sub_l, isTs, isT, Option.map_some, List.length_cons, List.length_nil, Nat.reduceAdd, Nat.reduceSub, Nat.reduceLT, Nat.zero_add, Bool.false_eq_true, Bool.true_eq_false, if_false, if_true, decide_eq_true_eq, Bool.not_true, Bool.not_false, ite_true, ite_false, reduceIte, Bool.not_eq_true', decide_eq_false_iff_not, Int.cast_ofNat_Int, Int.reduceEq, Int.reduceLT, Int.reduceLE, Int.reduceNeg, Int.reduceAdd, Int.reduceSub, Int.reduceMul, Int.reduceToNat, decide_true, decide_false, not_true, not_false, not_true_eq_false, not_false_eq_true, true_and, and_true, eq_self, reduceCtorEq, List.isEmpty_nil, List.isEmpty_cons, List.nil_append, List.cons_append]
        refine mul_ok q3 (QB.mul inv inv (Nat.le_refl _)) (by omega) ?_
        exact h
theorem sl_bnd {q : Rat} (hq : QB q 4) {n : Nat} {e : Ex} (hw : wt n e) (hn : n ≤ 4) {v : Rat × Rat} (h : sl q e = some v) : QB v.1 2645 ∧ QB v.2 7720 := by
  obtain ⟨h1, h2⟩ := sl_ev q e v.1 v.2 h
  obtain ⟨b1, b2⟩ := wt_b n e hw
  obtain ⟨_, _, c⟩ := Vn_le (n := n) (by omega)
  have c := c hn
  exact ⟨(QB_ev hq e _ h1).le (by omega), (QB_ev hq _ _ h2).le (by omega)⟩
theorem slope_ok {q : Rat} (j : Nat) (hq : QB q 4) : ∀ (n : Nat) (e : Ex) (S : Sto) (Q : DK) (E : XS), n ≤ 5 → wt n e → Q (SD (sl q e)) S → semF G T (n + j + 6) "_law_slope" [XD e, QD q] S Q E
  | 0, e, S, Q, E, _, hw, _ => by cases e <;> exact hw.elim
  | n + 1, .num r, S, Q, E, hn, hw, h => by
    rw [show n + 1 + j + 6 = n + j + 6 + 1 by omega]
    refine call_of t_law_slope rfl ?_
    simp -dsimp -implicitDefEqProofs only [ent, List.map_cons, List.map_nil, List.length_cons, List.length_nil, Nat.reduceAdd, Nat.reduceSub, Nat.zero_add, List.replicate, List.cons_append, List.nil_append, F_law_slope, XD]
    simp -dsimp -implicitDefEqProofs only [↓cov3, ↓cov2, ↓cov1, ↓E_var, ↓E_int, ↓E_bl, ↓E_non, ↓E_str, ↓E_glo, ↓E_tup, ↓E_lst, ↓E_bin, ↓E_neg, ↓E_cmp, ↓E_chn, ↓E_and, ↓E_or, ↓E_one, ↓E_not, ↓E_ifx, ↓E_idx, ↓E_slc, ↓E_call, ↓E_bi, ↓E_isi, ↓E_mth, ↓E_lc, ↓Es_nil, ↓Es_cons, ↓O_no, ↓O_some, ↓Q_no, ↓Q_c, ↓C_and, ↓C_or, ↓C_one, ↓C_not, ↓C_cmp, ↓C_chn, ↓C_v, ↓I_seq, ↓I_rng1, ↓I_rng2, ↓I_rng3, ↓I_enu, ↓I_zip, ↓I_rev, ↓S_set, ↓S_asg, ↓S_par2, ↓S_sub, ↓S_expr, ↓S_ret, ↓S_retN, ↓S_ifs, ↓S_for, ↓S_brk, ↓S_cnt, ↓S_pass, ↓S_raise, ↓S_try, ↓S_never, ex_t, ex_f, ↓S_nil, ↓S_cons, ↓kN_nx, ↓kN_rt, ↓kN_bk, ↓kN_ct, ↓kN_ex, ↓kL_nx, ↓kL_rt, ↓kL_bk, ↓kL_ct, ↓kL_ex, ↓kX_nx, ↓kX_rt, ↓kX_bk, ↓kX_ct, ↓kX_ex, ↓kend_nx, ↓kend_rt, ↓kend_bk, ↓kend_ct, ↓kend_ex, vr_some, gt_0, gt_s, stn_0, stn_s, wip_0, wip_s, wips_0, wips_s, neg_i, isi_s, o_i, tru_non, tru_bl, tru_int, tru_tup, tru_rol, c_Eq, c_NotEq, c_Lt, c_LtE, c_Gt, c_GtE, cs_Eq, cs_NotEq, cb_Eq, cb_NotEq, c2_Eq, c2_NotEq, is_non, isnot_non, is_bl, isnot_bl, is_int, isnot_int, is_str, isnot_str, is_tup, isnot_tup, is_rol, isnot_rol, is_ref, isnot_ref, is_b, isnot_b, in_s, notin_s, b_add, b_sub, b_mul, b_fdiv, b_mod, b_pow, b_addt, b_adds, atI0, atI1, atI2, atI3, slc_t, slc_r, len_s, abs_i, int_i, int_b, min_i, max_i, gcd_i, seq_t, seq_r, r1_i, r2_i, r3_i, a_nm, a_nil, a_cons, vrl_some, vrn_some, put_lget, Option.isSome_some, tru_ref, b_addl, idx_t, idx_r, idx_l, slc_l, len_t, len_r, len_l, tuple_t, tuple_r, tuple_l, list_t, list_r, list_l, app_l, rev_l, pop_l, popat_l, mT_l, seq_l, enu_l, zip_l, rev_i, rev_t, in_t, notin_t, fl_s, fl_i, fl_b, fl_n, inL_nil, inL_ss, inL_ii, List.all_cons, List.all_nil, Bool.and_self, Bool.and_true, Bool.true_and, zip_t, a_t, a_l, sub_l, isTs, isT, Option.map_some, List.length_cons, List.length_nil, Nat.reduceAdd, Nat.reduceSub, Nat.reduceLT, Nat.zero_add, Bool.false_eq_true, Bool.true_eq_false, if_false, if_true, decide_eq_true_eq, Bool.not_true, Bool.not_false, ite_true, ite_false, reduceIte, Bool.not_eq_true', decide_eq_false_iff_not, Int.cast_ofNat_Int, Int.reduceEq, Int.reduceLT, Int.reduceLE, Int.reduceNeg, Int.reduceAdd, Int.reduceSub, Int.reduceMul, Int.reduceToNat, decide_true, decide_false, not_true, not_false, not_true_eq_false, not_false_eq_true, true_and, and_true, eq_self, reduceCtorEq, List.isEmpty_nil, List.isEmpty_cons, List.nil_append, List.cons_append, lit_inj, String.reduceEq, inL_ss, Bool.or_false, Bool.false_or, Bool.or_true, Bool.true_or, opS]
    exact h
  | n + 1, .x, S, Q, E, hn, hw, h => by
    rw [show n + 1 + j + 6 = n + j + 6 + 1 by omega]
    refine call_of t_law_slope rfl ?_
    simp -dsimp -implicitDefEqProofs only [ent, List.map_cons, List.map_nil, List.length_cons, List.length_nil, Nat.reduceAdd, Nat.reduceSub, Nat.zero_add, List.replicate, List.cons_append, List.nil_append, F_law_slope, XD]
    simp -dsimp -implicitDefEqProofs only [↓cov3, ↓cov2, ↓cov1, ↓E_var, ↓E_int, ↓E_bl, ↓E_non, ↓E_str, ↓E_glo, ↓E_tup, ↓E_lst, ↓E_bin, ↓E_neg, ↓E_cmp, ↓E_chn, ↓E_and, ↓E_or, ↓E_one, ↓E_not, ↓E_ifx, ↓E_idx, ↓E_slc, ↓E_call, ↓E_bi, ↓E_isi, ↓E_mth, ↓E_lc, ↓Es_nil, ↓Es_cons, ↓O_no, ↓O_some, ↓Q_no, ↓Q_c, ↓C_and, ↓C_or, ↓C_one, ↓C_not, ↓C_cmp, ↓C_chn, ↓C_v, ↓I_seq, ↓I_rng1, ↓I_rng2, ↓I_rng3, ↓I_enu, ↓I_zip, ↓I_rev, ↓S_set, ↓S_asg, ↓S_par2, ↓S_sub, ↓S_expr, ↓S_ret, ↓S_retN, ↓S_ifs, ↓S_for, ↓S_brk, ↓S_cnt, ↓S_pass, ↓S_raise, ↓S_try, ↓S_never, ex_t, ex_f, ↓S_nil, ↓S_cons, ↓kN_nx, ↓kN_rt, ↓kN_bk, ↓kN_ct, ↓kN_ex, ↓kL_nx, ↓kL_rt, ↓kL_bk, ↓kL_ct, ↓kL_ex, ↓kX_nx, ↓kX_rt, ↓kX_bk, ↓kX_ct, ↓kX_ex, ↓kend_nx, ↓kend_rt, ↓kend_bk, ↓kend_ct, ↓kend_ex, vr_some, gt_0, gt_s, stn_0, stn_s, wip_0, wip_s, wips_0, wips_s, neg_i, isi_s, o_i, tru_non, tru_bl, tru_int, tru_tup, tru_rol, c_Eq, c_NotEq, c_Lt, c_LtE, c_Gt, c_GtE, cs_Eq, cs_NotEq, cb_Eq, cb_NotEq, c2_Eq, c2_NotEq, is_non, isnot_non, is_bl, isnot_bl, is_int, isnot_int, is_str, isnot_str, is_tup, isnot_tup, is_rol, isnot_rol, is_ref, isnot_ref, is_b, isnot_b, in_s, notin_s, b_add, b_sub, b_mul, b_fdiv, b_mod, b_pow, b_addt, b_adds, atI0, atI1, atI2, atI3, slc_t, slc_r, len_s, abs_i, int_i, int_b, min_i, max_i, gcd_i, seq_t, seq_r, r1_i, r2_i, r3_i, a_nm, a_nil, a_cons, vrl_some, vrn_some, put_lget, Option.isSome_some, tru_ref, b_addl, idx_t, idx_r, idx_l, slc_l, len_t, len_r, len_l, tuple_t, tuple_r, tuple_l, list_t, list_r, list_l, app_l, rev_l, pop_l, popat_l, mT_l, seq_l, enu_l, zip_l, rev_i, rev_t, in_t, notin_t, fl_s, fl_i, fl_b, fl_n, inL_nil, inL_ss, inL_ii, List.all_cons, List.all_nil, Bool.and_self, Bool.and_true, Bool.true_and, zip_t, a_t, a_l, sub_l, isTs, isT, Option.map_some, List.length_cons, List.length_nil, Nat.reduceAdd, Nat.reduceSub, Nat.reduceLT, Nat.zero_add, Bool.false_eq_true, Bool.true_eq_false, if_false, if_true, decide_eq_true_eq, Bool.not_true, Bool.not_false, ite_true, ite_false, reduceIte, Bool.not_eq_true', decide_eq_false_iff_not, Int.cast_ofNat_Int, Int.reduceEq, Int.reduceLT, Int.reduceLE, Int.reduceNeg, Int.reduceAdd, Int.reduceSub, Int.reduceMul, Int.reduceToNat, decide_true, decide_false, not_true, not_false, not_true_eq_false, not_false_eq_true, true_and, and_true, eq_self, reduceCtorEq, List.isEmpty_nil, List.isEmpty_cons, List.nil_append, List.cons_append, lit_inj, String.reduceEq, inL_ss, Bool.or_false, Bool.false_or, Bool.or_true, Bool.true_or, opS]
    exact h
  | n + 1, .neg a, S, Q, E, hn, hw, h => by
    rw [show n + 1 + j + 6 = n + j + 6 + 1 by omega]
    refine call_of t_law_slope rfl ?_
    simp -dsimp -implicitDefEqProofs only [ent, List.map_cons, List.map_nil, List.length_cons, List.length_nil, Nat.reduceAdd, Nat.reduceSub, Nat.zero_add, List.replicate, List.cons_append, List.nil_append, F_law_slope, XD]
    simp -dsimp -implicitDefEqProofs only [↓cov3, ↓cov2, ↓cov1, ↓E_var, ↓E_int, ↓E_bl, ↓E_non, ↓E_str, ↓E_glo, ↓E_tup, ↓E_lst, ↓E_bin, ↓E_neg, ↓E_cmp, ↓E_chn, ↓E_and, ↓E_or, ↓E_one, ↓E_not, ↓E_ifx, ↓E_idx, ↓E_slc, ↓E_call, ↓E_bi, ↓E_isi, ↓E_mth, ↓E_lc, ↓Es_nil, ↓Es_cons, ↓O_no, ↓O_some, ↓Q_no, ↓Q_c, ↓C_and, ↓C_or, ↓C_one, ↓C_not, ↓C_cmp, ↓C_chn, ↓C_v, ↓I_seq, ↓I_rng1, ↓I_rng2, ↓I_rng3, ↓I_enu, ↓I_zip, ↓I_rev, ↓S_set, ↓S_asg, ↓S_par2, ↓S_sub, ↓S_expr, ↓S_ret, ↓S_retN, ↓S_ifs, ↓S_for, ↓S_brk, ↓S_cnt, ↓S_pass, ↓S_raise, ↓S_try, ↓S_never, ex_t, ex_f, ↓S_nil, ↓S_cons, ↓kN_nx, ↓kN_rt, ↓kN_bk, ↓kN_ct, ↓kN_ex, ↓kL_nx, ↓kL_rt, ↓kL_bk, ↓kL_ct, ↓kL_ex, ↓kX_nx, ↓kX_rt, ↓kX_bk, ↓kX_ct, ↓kX_ex, ↓kend_nx, ↓kend_rt, ↓kend_bk, ↓kend_ct, ↓kend_ex, vr_some, gt_0, gt_s, stn_0, stn_s, wip_0, wip_s, wips_0, wips_s, neg_i, isi_s, o_i, tru_non, tru_bl, tru_int, tru_tup, tru_rol, c_Eq, c_NotEq, c_Lt, c_LtE, c_Gt, c_GtE, cs_Eq, cs_NotEq, cb_Eq, cb_NotEq, c2_Eq, c2_NotEq, is_non, isnot_non, is_bl, isnot_bl, is_int, isnot_int, is_str, isnot_str, is_tup, isnot_tup, is_rol, isnot_rol, is_ref, isnot_ref, is_b, isnot_b, in_s, notin_s, b_add, b_sub, b_mul, b_fdiv, b_mod, b_pow, b_addt, b_adds, atI0, atI1, atI2, atI3, slc_t, slc_r, len_s, abs_i, int_i, int_b, min_i, max_i, gcd_i, seq_t, seq_r, r1_i, r2_i, r3_i, a_nm, a_nil, a_cons, vrl_some, vrn_some, put_lget, Option.isSome_some, tru_ref, b_addl, idx_t, idx_r, idx_l, slc_l, len_t, len_r, len_l, tuple_t, tuple_r, tuple_l, list_t, list_r, list_l, app_l, rev_l, pop_l, popat_l, mT_l, seq_l, enu_l, zip_l, rev_i, rev_t, in_t, notin_t, fl_s, fl_i, fl_b, fl_n, inL_nil, inL_ss, inL_ii, List.all_cons, List.all_nil, Bool.and_self, Bool.and_true, Bool.true_and, zip_t, a_t, a_l, sub_l, isTs, isT, Option.map_some, List.length_cons, List.length_nil, Nat.reduceAdd, Nat.reduceSub, Nat.reduceLT, Nat.zero_add, Bool.false_eq_true, Bool.true_eq_false, if_false, if_true, decide_eq_true_eq, Bool.not_true, Bool.not_false, ite_true, ite_false, reduceIte, Bool.not_eq_true', decide_eq_false_iff_not, Int.cast_ofNat_Int, Int.reduceEq, Int.reduceLT, Int.reduceLE, Int.reduceNeg, Int.reduceAdd, Int.reduceSub, Int.reduceMul, Int.reduceToNat, decide_true, decide_false, not_true, not_false, not_true_eq_false, not_false_eq_true, true_and, and_true, eq_self, reduceCtorEq, List.isEmpty_nil, List.isEmpty_cons, List.nil_append, List.cons_append, lit_inj, String.reduceEq, inL_ss, Bool.or_false, Bool.false_or, Bool.or_true, Bool.true_or, opS]
    refine slope_ok j hq n a S _ _ (by omega) hw ?_
    unfold sl at h
    cases ha : sl q a with
    | none =>
      rw [ha] at h
      simp -dsimp -implicitDefEqProofs only [↓cov3, ↓cov2, ↓cov1, ↓E_var, ↓E_int, ↓E_bl, ↓E_non, ↓E_str, ↓E_glo, ↓E_tup, ↓E_lst, ↓E_bin, ↓E_neg, ↓E_cmp, ↓E_chn, ↓E_and, ↓E_or, ↓E_one, ↓E_not, ↓E_ifx, ↓E_idx, ↓E_slc, ↓E_call, ↓E_bi, ↓E_isi, ↓E_mth, ↓E_lc, ↓Es_nil, ↓Es_cons, ↓O_no, ↓O_some, ↓Q_no, ↓Q_c, ↓C_and, ↓C_or, ↓C_one, ↓C_not, ↓C_cmp, ↓C_chn, ↓C_v, ↓I_seq, ↓I_rng1, ↓I_rng2, ↓I_rng3, ↓I_enu, ↓I_zip, ↓I_rev, ↓S_set, ↓S_asg, ↓S_par2, ↓S_sub, ↓S_expr, ↓S_ret, ↓S_retN, ↓S_ifs, ↓S_for, ↓S_brk, ↓S_cnt, ↓S_pass, ↓S_raise, ↓S_try, ↓S_never, ex_t, ex_f, ↓S_nil, ↓S_cons, ↓kN_nx, ↓kN_rt, ↓kN_bk, ↓kN_ct, ↓kN_ex, ↓kL_nx, ↓kL_rt, ↓kL_bk, ↓kL_ct, ↓kL_ex, ↓kX_nx, ↓kX_rt, ↓kX_bk, ↓kX_ct, ↓kX_ex, ↓kend_nx, ↓kend_rt, ↓kend_bk, ↓kend_ct, ↓kend_ex, vr_some, gt_0, gt_s, stn_0, stn_s, wip_0, wip_s, wips_0, wips_s, neg_i, isi_s, o_i, tru_non, tru_bl, tru_int, tru_tup, tru_rol, c_Eq, c_NotEq, c_Lt, c_LtE, c_Gt, c_GtE, cs_Eq, cs_NotEq, cb_Eq, cb_NotEq, c2_Eq, c2_NotEq, is_non, isnot_non, is_bl, isnot_bl, is_int, isnot_int, is_str, isnot_str, is_tup, isnot_tup, is_rol, isnot_rol, is_ref, isnot_ref, is_b, isnot_b, in_s, notin_s, b_add, b_sub, b_mul, b_fdiv, b_mod, b_pow, b_addt, b_adds, atI0, atI1, atI2, atI3, slc_t, slc_r, len_s, abs_i, int_i, int_b, min_i, max_i, gcd_i, seq_t, seq_r, r1_i, r2_i, r3_i, a_nm, a_nil, a_cons, vrl_some, vrn_some, put_lget, Option.isSome_some, tru_ref, b_addl, idx_t, idx_r, idx_l, slc_l, len_t, len_r, len_l, tuple_t, tuple_r, tuple_l, list_t, list_r, list_l, app_l, rev_l, pop_l, popat_l, mT_l, seq_l, enu_l, zip_l, rev_i, rev_t, in_t, notin_t, fl_s, fl_i, fl_b, fl_n, inL_nil, inL_ss, inL_ii, List.all_cons, List.all_nil, Bool.and_self, Bool.and_true, Bool.true_and, zip_t, a_t, a_l, sub_l, isTs, isT, Option.map_some, List.length_cons, List.length_nil, Nat.reduceAdd, Nat.reduceSub, Nat.reduceLT, Nat.zero_add, Bool.false_eq_true, Bool.true_eq_false, if_false, if_true, decide_eq_true_eq, Bool.not_true, Bool.not_false, ite_true, ite_false, reduceIte, Bool.not_eq_true', decide_eq_false_iff_not, Int.cast_ofNat_Int, Int.reduceEq, Int.reduceLT, Int.reduceLE, Int.reduceNeg, Int.reduceAdd, Int.reduceSub, Int.reduceMul, Int.reduceToNat, decide_true, decide_false, not_true, not_false, not_true_eq_false, not_false_eq_true, true_and, and_true, eq_self, reduceCtorEq, List.isEmpty_nil, List.isEmpty_cons, List.nil_append, List.cons_append, SD]
      exact h
    | some v =>
      rw [ha] at h
      obtain ⟨v, s⟩ := v
      simp -dsimp -implicitDefEqProofs only [↓cov3, ↓cov2, ↓cov1, ↓E_var, ↓E_int, ↓E_bl, ↓E_non, ↓E_str, ↓E_glo, ↓E_tup, ↓E_lst, ↓E_bin, ↓E_neg, ↓E_cmp, ↓E_chn, ↓E_and, ↓E_or, ↓E_one, ↓E_not, ↓E_ifx, ↓E_idx, ↓E_slc, ↓E_call, ↓E_bi, ↓E_isi, ↓E_mth, ↓E_lc, ↓Es_nil, ↓Es_cons, ↓O_no, ↓O_some, ↓Q_no, ↓Q_c, ↓C_and, ↓C_or, ↓C_one, ↓C_not, ↓C_cmp, ↓C_chn, ↓C_v, ↓I_seq, ↓I_rng1, ↓I_rng2, ↓I_rng3, ↓I_enu, ↓I_zip, ↓I_rev, ↓S_set, ↓S_asg, ↓S_par2, ↓S_sub, ↓S_expr, ↓S_ret, ↓S_retN, ↓S_ifs, ↓S_for, ↓S_brk, ↓S_cnt, ↓S_pass, ↓S_raise, ↓S_try, ↓S_never, ex_t, ex_f, ↓S_nil, ↓S_cons, ↓kN_nx, ↓kN_rt, ↓kN_bk, ↓kN_ct, ↓kN_ex, ↓kL_nx, ↓kL_rt, ↓kL_bk, ↓kL_ct, ↓kL_ex, ↓kX_nx, ↓kX_rt, ↓kX_bk, ↓kX_ct, ↓kX_ex, ↓kend_nx, ↓kend_rt, ↓kend_bk, ↓kend_ct, ↓kend_ex, vr_some, gt_0, gt_s, stn_0, stn_s, wip_0, wip_s, wips_0, wips_s, neg_i, isi_s, o_i, tru_non, tru_bl, tru_int, tru_tup, tru_rol, c_Eq, c_NotEq, c_Lt, c_LtE, c_Gt, c_GtE, cs_Eq, cs_NotEq, cb_Eq, cb_NotEq, c2_Eq, c2_NotEq, is_non, isnot_non, is_bl, isnot_bl, is_int, isnot_int, is_str, isnot_str, is_tup, isnot_tup, is_rol, isnot_rol, is_ref, isnot_ref, is_b, isnot_b, in_s, notin_s, b_add, b_sub, b_mul, b_fdiv, b_mod, b_pow, b_addt, b_adds, atI0, atI1, atI2, atI3, slc_t, slc_r, len_s, abs_i, int_i, int_b, min_i, max_i, gcd_i, seq_t, seq_r, r1_i, r2_i, r3_i, a_nm, a_nil, a_cons, vrl_some, vrn_some, put_lget, Option.isSome_some, tru_ref, b_addl, idx_t, idx_r, idx_l, slc_l, len_t, len_r, len_l, tuple_t, tuple_r, tuple_l, list_t, list_r, list_l, app_l, rev_l, pop_l, popat_l, mT_l, seq_l, enu_l, zip_l, rev_i, rev_t, in_t, notin_t, fl_s, fl_i, fl_b, fl_n, inL_nil, inL_ss, inL_ii, List.all_cons, List.all_nil, Bool.and_self, Bool.and_true, Bool.true_and, zip_t, a_t, a_l, sub_l, isTs, isT, Option.map_some, List.length_cons, List.length_nil, Nat.reduceAdd, Nat.reduceSub, Nat.reduceLT, Nat.zero_add, Bool.false_eq_true, Bool.true_eq_false, if_false, if_true, decide_eq_true_eq, Bool.not_true, Bool.not_false, ite_true, ite_false, reduceIte, Bool.not_eq_true', decide_eq_false_iff_not, Int.cast_ofNat_Int, Int.reduceEq, Int.reduceLT, Int.reduceLE, Int.reduceNeg, Int.reduceAdd, Int.reduceSub, Int.reduceMul, Int.reduceToNat, decide_true, decide_false, not_true, not_false, not_true_eq_false, not_false_eq_true, true_and, and_true, eq_self, reduceCtorEq, List.isEmpty_nil, List.isEmpty_cons, List.nil_append, List.cons_append, lit_inj, String.reduceEq, inL_ss, Bool.or_false, Bool.false_or, Bool.or_true, Bool.true_or, SD, idx_Q0, idx_Q1]
      exact h
  | n + 1, .exp a, S, Q, E, hn, hw, h => by
    rw [show n + 1 + j + 6 = n + j + 6 + 1 by omega]
    refine call_of t_law_slope rfl ?_
    simp -dsimp -implicitDefEqProofs only [ent, List.map_cons, List.map_nil, List.length_cons, List.length_nil, Nat.reduceAdd, Nat.reduceSub, Nat.zero_add, List.replicate, List.cons_append, List.nil_append, F_law_slope, XD]
    simp -dsimp -implicitDefEqProofs only [↓cov3, ↓cov2, ↓cov1, ↓E_var, ↓E_int, ↓E_bl, ↓E_non, ↓E_str, ↓E_glo, ↓E_tup, ↓E_lst, ↓E_bin, ↓E_neg, ↓E_cmp, ↓E_chn, ↓E_and, ↓E_or, ↓E_one, ↓E_not, ↓E_ifx, ↓E_idx, ↓E_slc, ↓E_call, ↓E_bi, ↓E_isi, ↓E_mth, ↓E_lc, ↓Es_nil, ↓Es_cons, ↓O_no, ↓O_some, ↓Q_no, ↓Q_c, ↓C_and, ↓C_or, ↓C_one, ↓C_not, ↓C_cmp, ↓C_chn, ↓C_v, ↓I_seq, ↓I_rng1, ↓I_rng2, ↓I_rng3, ↓I_enu, ↓I_zip, ↓I_rev, ↓S_set, ↓S_asg, ↓S_par2, ↓S_sub, ↓S_expr, ↓S_ret, ↓S_retN, ↓S_ifs, ↓S_for, ↓S_brk, ↓S_cnt, ↓S_pass, ↓S_raise, ↓S_try, ↓S_never, ex_t, ex_f, ↓S_nil, ↓S_cons, ↓kN_nx, ↓kN_rt, ↓kN_bk, ↓kN_ct, ↓kN_ex, ↓kL_nx, ↓kL_rt, ↓kL_bk, ↓kL_ct, ↓kL_ex, ↓kX_nx, ↓kX_rt, ↓kX_bk, ↓kX_ct, ↓kX_ex, ↓kend_nx, ↓kend_rt, ↓kend_bk, ↓kend_ct, ↓kend_ex, vr_some, gt_0, gt_s, stn_0, stn_s, wip_0, wip_s, wips_0, wips_s, neg_i, isi_s, o_i, tru_non, tru_bl, tru_int, tru_tup, tru_rol, c_Eq, c_NotEq, c_Lt, c_LtE, c_Gt, c_GtE, cs_Eq, cs_NotEq, cb_Eq, cb_NotEq, c2_Eq, c2_NotEq, is_non, isnot_non, is_bl, isnot_bl, is_int, isnot_int, is_str, isnot_str, is_tup, isnot_tup, is_rol, isnot_rol, is_ref, isnot_ref, is_b, isnot_b, in_s, notin_s, b_add, b_sub, b_mul, b_fdiv, b_mod, b_pow, b_addt, b_adds, atI0, atI1, atI2, atI3, slc_t, slc_r, len_s, abs_i, int_i, int_b, min_i, max_i, gcd_i, seq_t, seq_r, r1_i, r2_i, r3_i, a_nm, a_nil, a_cons, vrl_some, vrn_some, put_lget, Option.isSome_some, tru_ref, b_addl, idx_t, idx_r, idx_l, slc_l, len_t, len_r, len_l, tuple_t, tuple_r, tuple_l, list_t, list_r, list_l, app_l, rev_l, pop_l, popat_l, mT_l, seq_l, enu_l, zip_l, rev_i, rev_t, in_t, notin_t, fl_s, fl_i, fl_b, fl_n, inL_nil, inL_ss, inL_ii, List.all_cons, List.all_nil, Bool.and_self, Bool.and_true, Bool.true_and, zip_t, a_t, a_l, sub_l, isTs, isT, Option.map_some, List.length_cons, List.length_nil, Nat.reduceAdd, Nat.reduceSub, Nat.reduceLT, Nat.zero_add, Bool.false_eq_true, Bool.true_eq_false, if_false, if_true, decide_eq_true_eq, Bool.not_true, Bool.not_false, ite_true, ite_false, reduceIte, Bool.not_eq_true', decide_eq_false_iff_not, Int.cast_ofNat_Int, Int.reduceEq, Int.reduceLT, Int.reduceLE, Int.reduceNeg, Int.reduceAdd, Int.reduceSub, Int.reduceMul, Int.reduceToNat, decide_true, decide_false, not_true, not_false, not_true_eq_false, not_false_eq_true, true_and, and_true, eq_self, reduceCtorEq, List.isEmpty_nil, List.isEmpty_cons, List.nil_append, List.cons_append, lit_inj, String.reduceEq, inL_ss, Bool.or_false, Bool.false_or, Bool.or_true, Bool.true_or, opS]
    refine slope_ok j hq n a S _ _ (by omega) hw ?_
    unfold sl at h
    cases ha : sl q a with
    | none =>
      rw [ha] at h
      simp -dsimp -implicitDefEqProofs only [↓cov3, ↓cov2, ↓cov1, ↓E_var, ↓E_int, ↓E_bl, ↓E_non, ↓E_str, ↓E_glo, ↓E_tup, ↓E_lst, ↓E_bin, ↓E_neg, ↓E_cmp, ↓E_chn, ↓E_and, ↓E_or, ↓E_one, ↓E_not, ↓E_ifx, ↓E_idx, ↓E_slc, ↓E_call, ↓E_bi, ↓E_isi, ↓E_mth, ↓E_lc, ↓Es_nil, ↓Es_cons, ↓O_no, ↓O_some, ↓Q_no, ↓Q_c, ↓C_and, ↓C_or, ↓C_one, ↓C_not, ↓C_cmp, ↓C_chn, ↓C_v, ↓I_seq, ↓I_rng1, ↓I_rng2, ↓I_rng3, ↓I_enu, ↓I_zip, ↓I_rev, ↓S_set, ↓S_asg, ↓S_par2, ↓S_sub, ↓S_expr, ↓S_ret, ↓S_retN, ↓S_ifs, ↓S_for, ↓S_brk, ↓S_cnt, ↓S_pass, ↓S_raise, ↓S_try, ↓S_never, ex_t, ex_f, ↓S_nil, ↓S_cons, ↓kN_nx, ↓kN_rt, ↓kN_bk, ↓kN_ct, ↓kN_ex, ↓kL_nx, ↓kL_rt, ↓kL_bk, ↓kL_ct, ↓kL_ex, ↓kX_nx, ↓kX_rt, ↓kX_bk, ↓kX_ct, ↓kX_ex, ↓kend_nx, ↓kend_rt, ↓kend_bk, ↓kend_ct, ↓kend_ex, vr_some, gt_0, gt_s, stn_0, stn_s, wip_0, wip_s, wips_0, wips_s, neg_i, isi_s, o_i, tru_non, tru_bl, tru_int, tru_tup, tru_rol, c_Eq, c_NotEq, c_Lt, c_LtE, c_Gt, c_GtE, cs_Eq, cs_NotEq, cb_Eq, cb_NotEq, c2_Eq, c2_NotEq, is_non, isnot_non, is_bl, isnot_bl, is_int, isnot_int, is_str, isnot_str, is_tup, isnot_tup, is_rol, isnot_rol, is_ref, isnot_ref, is_b, isnot_b, in_s, notin_s, b_add, b_sub, b_mul, b_fdiv, b_mod, b_pow, b_addt, b_adds, atI0, atI1, atI2, atI3, slc_t, slc_r, len_s, abs_i, int_i, int_b, min_i, max_i, gcd_i, seq_t, seq_r, r1_i, r2_i, r3_i, a_nm, a_nil, a_cons, vrl_some, vrn_some, put_lget, Option.isSome_some, tru_ref, b_addl, idx_t, idx_r, idx_l, slc_l, len_t, len_r, len_l, tuple_t, tuple_r, tuple_l, list_t, list_r, list_l, app_l, rev_l, pop_l, popat_l, mT_l, seq_l, enu_l, zip_l, rev_i, rev_t, in_t, notin_t, fl_s, fl_i, fl_b, fl_n, inL_nil, inL_ss, inL_ii, List.all_cons, List.all_nil, Bool.and_self, Bool.and_true, Bool.true_and, zip_t, a_t, a_l, sub_l, isTs, isT, Option.map_some, List.length_cons, List.length_nil, Nat.reduceAdd, Nat.reduceSub, Nat.reduceLT, Nat.zero_add, Bool.false_eq_true, Bool.true_eq_false, if_false, if_true, decide_eq_true_eq, Bool.not_true, Bool.not_false, ite_true, ite_false, reduceIte, Bool.not_eq_true', decide_eq_false_iff_not, Int.cast_ofNat_Int, Int.reduceEq, Int.reduceLT, Int.reduceLE, Int.reduceNeg, Int.reduceAdd, Int.reduceSub, Int.reduceMul, Int.reduceToNat, decide_true, decide_false, not_true, not_false, not_true_eq_false, not_false_eq_true, true_and, and_true, eq_self, reduceCtorEq, List.isEmpty_nil, List.isEmpty_cons, List.nil_append, List.cons_append, SD]
      exact h
    | some v =>
      rw [ha] at h
      obtain ⟨v, s⟩ := v
      simp -dsimp -implicitDefEqProofs only [↓cov3, ↓cov2, ↓cov1, ↓E_var, ↓E_int, ↓E_bl, ↓E_non, ↓E_str, ↓E_glo, ↓E_tup, ↓E_lst, ↓E_bin, ↓E_neg, ↓E_cmp, ↓E_chn, ↓E_and, ↓E_or, ↓E_one, ↓E_not, ↓E_ifx, ↓E_idx, ↓E_slc, ↓E_call, ↓E_bi, ↓E_isi, ↓E_mth, ↓E_lc, ↓Es_nil, ↓Es_cons, ↓O_no, ↓O_some, ↓Q_no, ↓Q_c, ↓C_and, ↓C_or, ↓C_one, ↓C_not, ↓C_cmp, ↓C_chn, ↓C_v, ↓I_seq, ↓I_rng1, ↓I_rng2, ↓I_rng3, ↓I_enu, ↓I_zip, ↓I_rev, ↓S_set, ↓S_asg, ↓S_par2, ↓S_sub, ↓S_expr, ↓S_ret, ↓S_retN, ↓S_ifs, ↓S_for, ↓S_brk, ↓S_cnt, ↓S_pass, ↓S_raise, ↓S_try, ↓S_never, ex_t, ex_f, ↓S_nil, ↓S_cons, ↓kN_nx, ↓kN_rt, ↓kN_bk, ↓kN_ct, ↓kN_ex, ↓kL_nx, ↓kL_rt, ↓kL_bk, ↓kL_ct, ↓kL_ex, ↓kX_nx, ↓kX_rt, ↓kX_bk, ↓kX_ct, ↓kX_ex, ↓kend_nx, ↓kend_rt, ↓kend_bk, ↓kend_ct, ↓kend_ex, vr_some, gt_0, gt_s, stn_0, stn_s, wip_0, wip_s, wips_0, wips_s, neg_i, isi_s, o_i, tru_non, tru_bl, tru_int, tru_tup, tru_rol, c_Eq, c_NotEq, c_Lt, c_LtE, c_Gt, c_GtE, cs_Eq, cs_NotEq, cb_Eq, cb_NotEq, c2_Eq, c2_NotEq, is_non, isnot_non, is_bl, isnot_bl, is_int, isnot_int, is_str, isnot_str, is_tup, isnot_tup, is_rol, isnot_rol, is_ref, isnot_ref, is_b, isnot_b, in_s, notin_s, b_add, b_sub, b_mul, b_fdiv, b_mod, b_pow, b_addt, b_adds, atI0, atI1, atI2, atI3, slc_t, slc_r, len_s, abs_i, int_i, int_b, min_i, max_i, gcd_i, seq_t, seq_r, r1_i, r2_i, r3_i, a_nm, a_nil, a_cons, vrl_some, vrn_some, put_lget, Option.isSome_some, tru_ref, b_addl, idx_t, idx_r, idx_l, slc_l, len_t, len_r, len_l, tuple_t, tuple_r, tuple_l, list_t, list_r, list_l, app_l, rev_l, pop_l, popat_l, mT_l, seq_l, enu_l, zip_l, rev_i, rev_t, in_t, notin_t, fl_s, fl_i, fl_b, fl_n, inL_nil, inL_ss, inL_ii, List.all_cons, List.all_nil, Bool.and_self, Bool.and_true, Bool.true_and, zip_t, a_t, a_l, sub_l, isTs, isT, Option.map_some, List.length_cons, List.length_nil, Nat.reduceAdd, Nat.reduceSub, Nat.reduceLT, Nat.zero_add, Bool.false_eq_true, Bool.true_eq_false, if_false, if_true, decide_eq_true_eq, Bool.not_true, Bool.not_false, ite_true, ite_false, reduceIte, Bool.not_eq_true', decide_eq_false_iff_not, Int.cast_ofNat_Int, Int.reduceEq, Int.reduceLT, Int.reduceLE, Int.reduceNeg, Int.reduceAdd, Int.reduceSub, Int.reduceMul, Int.reduceToNat, decide_true, decide_false, not_true, not_false, not_true_eq_false, not_false_eq_true, true_and, and_true, eq_self, reduceCtorEq, List.isEmpty_nil, List.isEmpty_cons, List.nil_append, List.cons_append, lit_inj, String.reduceEq, inL_ss, Bool.or_false, Bool.false_or, Bool.or_true, Bool.true_or, SD, idx_Q0, idx_Q1]
      have h : Q (SD (if v = 0 then some (1, s) else none)) S := h
      refine ite2 (fun h0 => ?_) fun h0 => ?_
      · rw [if_neg (fun z => h0 (by rw [z]; rfl))] at h
        exact h
      · rw [if_pos (Rat.num_eq_zero.mp (Decidable.not_not.mp h0))] at h
        exact h
  | n + 1, .log a, S, Q, E, hn, hw, h => by
    rw [show n + 1 + j + 6 = n + j + 6 + 1 by omega]
    refine call_of t_law_slope rfl ?_
    simp -dsimp -implicitDefEqProofs only [ent, List.map_cons, List.map_nil, List.length_cons, List.length_nil, Nat.reduceAdd, Nat.reduceSub, Nat.zero_add, List.replicate, List.cons_append, List.nil_append, F_law_slope, XD]
    simp -dsimp -implicitDefEqProofs only [↓cov3, ↓cov2, ↓cov1, ↓E_var, ↓E_int, ↓E_bl, ↓E_non, ↓E_str, ↓E_glo, ↓E_tup, ↓E_lst, ↓E_bin, ↓E_neg, ↓E_cmp, ↓E_chn, ↓E_and, ↓E_or, ↓E_one, ↓E_not, ↓E_ifx, ↓E_idx, ↓E_slc, ↓E_call, ↓E_bi, ↓E_isi, ↓E_mth, ↓E_lc, ↓Es_nil, ↓Es_cons, ↓O_no, ↓O_some, ↓Q_no, ↓Q_c, ↓C_and, ↓C_or, ↓C_one, ↓C_not, ↓C_cmp, ↓C_chn, ↓C_v, ↓I_seq, ↓I_rng1, ↓I_rng2, ↓I_rng3, ↓I_enu, ↓I_zip, ↓I_rev, ↓S_set, ↓S_asg, ↓S_par2, ↓S_sub, ↓S_expr, ↓S_ret, ↓S_retN, ↓S_ifs, ↓S_for, ↓S_brk, ↓S_cnt, ↓S_pass, ↓S_raise, ↓S_try, ↓S_never, ex_t, ex_f, ↓S_nil, ↓S_cons, ↓kN_nx, ↓kN_rt, ↓kN_bk, ↓kN_ct, ↓kN_ex, ↓kL_nx, ↓kL_rt, ↓kL_bk, ↓kL_ct, ↓kL_ex, ↓kX_nx, ↓kX_rt, ↓kX_bk, ↓kX_ct, ↓kX_ex, ↓kend_nx, ↓kend_rt, ↓kend_bk, ↓kend_ct, ↓kend_ex, vr_some, gt_0, gt_s, stn_0, stn_s, wip_0, wip_s, wips_0, wips_s, neg_i, isi_s, o_i, tru_non, tru_bl, tru_int, tru_tup, tru_rol, c_Eq, c_NotEq, c_Lt, c_LtE, c_Gt, c_GtE, cs_Eq, cs_NotEq, cb_Eq, cb_NotEq, c2_Eq, c2_NotEq, is_non, isnot_non, is_bl, isnot_bl, is_int, isnot_int, is_str, isnot_str, is_tup, isnot_tup, is_rol, isnot_rol, is_ref, isnot_ref, is_b, isnot_b, in_s, notin_s, b_add, b_sub, b_mul, b_fdiv, b_mod, b_pow, b_addt, b_adds, atI0, atI1, atI2, atI3, slc_t, slc_r, len_s, abs_i, int_i, int_b, min_i, max_i, gcd_i, seq_t, seq_r, r1_i, r2_i, r3_i, a_nm, a_nil, a_cons, vrl_some, vrn_some, put_lget, Option.isSome_some, tru_ref, b_addl, idx_t, idx_r, idx_l, slc_l, len_t, len_r, len_l, tuple_t, tuple_r, tuple_l, list_t, list_r, list_l, app_l, rev_l, pop_l, popat_l, mT_l, seq_l, enu_l, zip_l, rev_i, rev_t, in_t, notin_t, fl_s, fl_i, fl_b, fl_n, inL_nil, inL_ss, inL_ii, List.all_cons, List.all_nil, Bool.and_self, Bool.and_true, Bool.true_and, zip_t, a_t, a_l, sub_l, isTs, isT, Option.map_some, List.length_cons, List.length_nil, Nat.reduceAdd, Nat.reduceSub, Nat.reduceLT, Nat.zero_add, Bool.false_eq_true, Bool.true_eq_false, if_false, if_true, decide_eq_true_eq, Bool.not_true, Bool.not_false, ite_true, ite_false, reduceIte, Bool.not_eq_true', decide_eq_false_iff_not, Int.cast_ofNat_Int, Int.reduceEq, Int.reduceLT, Int.reduceLE, Int.reduceNeg, Int.reduceAdd, Int.reduceSub, Int.reduceMul, Int.reduceToNat, decide_true, decide_false, not_true, not_false, not_true_eq_false, not_false_eq_true, true_and, and_true, eq_self, reduceCtorEq, List.isEmpty_nil, List.isEmpty_cons, List.nil_append, List.cons_append, lit_inj, String.reduceEq, inL_ss, Bool.or_false, Bool.false_or, Bool.or_true, Bool.true_or, opS]
    refine slope_ok j hq n a S _ _ (by omega) hw ?_
    unfold sl at h
    cases ha : sl q a with
    | none =>
      rw [ha] at h
      simp -dsimp -implicitDefEqProofs only [↓cov3, ↓cov2, ↓cov1, ↓E_var, ↓E_int, ↓E_bl, ↓E_non, ↓E_str, ↓E_glo, ↓E_tup, ↓E_lst, ↓E_bin, ↓E_neg, ↓E_cmp, ↓E_chn, ↓E_and, ↓E_or, ↓E_one, ↓E_not, ↓E_ifx, ↓E_idx, ↓E_slc, ↓E_call, ↓E_bi, ↓E_isi, ↓E_mth, ↓E_lc, ↓Es_nil, ↓Es_cons, ↓O_no, ↓O_some, ↓Q_no, ↓Q_c, ↓C_and, ↓C_or, ↓C_one, ↓C_not, ↓C_cmp, ↓C_chn, ↓C_v, ↓I_seq, ↓I_rng1, ↓I_rng2, ↓I_rng3, ↓I_enu, ↓I_zip, ↓I_rev, ↓S_set, ↓S_asg, ↓S_par2, ↓S_sub, ↓S_expr, ↓S_ret, ↓S_retN, ↓S_ifs, ↓S_for, ↓S_brk, ↓S_cnt, ↓S_pass, ↓S_raise, ↓S_try, ↓S_never, ex_t, ex_f, ↓S_nil, ↓S_cons, ↓kN_nx, ↓kN_rt, ↓kN_bk, ↓kN_ct, ↓kN_ex, ↓kL_nx, ↓kL_rt, ↓kL_bk, ↓kL_ct, ↓kL_ex, ↓kX_nx, ↓kX_rt, ↓kX_bk, ↓kX_ct, ↓kX_ex, ↓kend_nx, ↓kend_rt, ↓kend_bk, ↓kend_ct, ↓kend_ex, vr_some, gt_0, gt_s, stn_0, stn_s, wip_0, wip_s, wips_0, wips_s, neg_i, isi_s, o_i, tru_non, tru_bl, tru_int, tru_tup, tru_rol, c_Eq, c_NotEq, c_Lt, c_LtE, c_Gt, c_GtE, cs_Eq, cs_NotEq, cb_Eq, cb_NotEq, c2_Eq, c2_NotEq, is_non, isnot_non, is_bl, isnot_bl, is_int, isnot_int, is_str, isnot_str, is_tup, isnot_tup, is_rol, isnot_rol, is_ref, isnot_ref, is_b, isnot_b, in_s, notin_s, b_add, b_sub, b_mul, b_fdiv, b_mod, b_pow, b_addt, b_adds, atI0, atI1, atI2, atI3, slc_t, slc_r, len_s, abs_i, int_i, int_b, min_i, max_i, gcd_i, seq_t, seq_r, r1_i, r2_i, r3_i, a_nm, a_nil, a_cons, vrl_some, vrn_some, put_lget, Option.isSome_some, tru_ref, b_addl, idx_t, idx_r, idx_l, slc_l, len_t, len_r, len_l, tuple_t, tuple_r, tuple_l, list_t, list_r, list_l, app_l, rev_l, pop_l, popat_l, mT_l, seq_l, enu_l, zip_l, rev_i, rev_t, in_t, notin_t, fl_s, fl_i, fl_b, fl_n, inL_nil, inL_ss, inL_ii, List.all_cons, List.all_nil, Bool.and_self, Bool.and_true, Bool.true_and, zip_t, a_t, a_l, sub_l, isTs, isT, Option.map_some, List.length_cons, List.length_nil, Nat.reduceAdd, Nat.reduceSub, Nat.reduceLT, Nat.zero_add, Bool.false_eq_true, Bool.true_eq_false, if_false, if_true, decide_eq_true_eq, Bool.not_true, Bool.not_false, ite_true, ite_false, reduceIte, Bool.not_eq_true', decide_eq_false_iff_not, Int.cast_ofNat_Int, Int.reduceEq, Int.reduceLT, Int.reduceLE, Int.reduceNeg, Int.reduceAdd, Int.reduceSub, Int.reduceMul, Int.reduceToNat, decide_true, decide_false, not_true, not_false, not_true_eq_false, not_false_eq_true, true_and, and_true, eq_self, reduceCtorEq, List.isEmpty_nil, List.isEmpty_cons, List.nil_append, List.cons_append, SD]
      exact h
    | some v =>
      rw [ha] at h
      obtain ⟨v, s⟩ := v
      have e1 : (.tup [.int 1, .int 1] : D) = QD 1 := rfl
      simp -dsimp -implicitDefEqProofs only [↓cov3, ↓cov2, ↓cov1, ↓E_var, ↓E_int, ↓E_bl, ↓E_non, ↓E_str, ↓E_glo, ↓E_tup, ↓E_lst, ↓E_bin, ↓E_neg, ↓E_cmp, ↓E_chn, ↓E_and, ↓E_or, ↓E_one, ↓E_not, ↓E_ifx, ↓E_idx, ↓E_slc, ↓E_call, ↓E_bi, ↓E_isi, ↓E_mth, ↓E_lc, ↓Es_nil, ↓Es_cons, ↓O_no, ↓O_some, ↓Q_no, ↓Q_c, ↓C_and, ↓C_or, ↓C_one, ↓C_not, ↓C_cmp, ↓C_chn, ↓C_v, ↓I_seq, ↓I_rng1, ↓I_rng2, ↓I_rng3, ↓I_enu, ↓I_zip, ↓I_rev, ↓S_set, ↓S_asg, ↓S_par2, ↓S_sub, ↓S_expr, ↓S_ret, ↓S_retN, ↓S_ifs, ↓S_for, ↓S_brk, ↓S_cnt, ↓S_pass, ↓S_raise, ↓S_try, ↓S_never, ex_t, ex_f, ↓S_nil, ↓S_cons, ↓kN_nx, ↓kN_rt, ↓kN_bk, ↓kN_ct, ↓kN_ex, ↓kL_nx, ↓kL_rt, ↓kL_bk, ↓kL_ct, ↓kL_ex, ↓kX_nx, ↓kX_rt, ↓kX_bk, ↓kX_ct, ↓kX_ex, ↓kend_nx, ↓kend_rt, ↓kend_bk, ↓kend_ct, ↓kend_ex, vr_some, gt_0, gt_s, stn_0, stn_s, wip_0, wip_s, wips_0, wips_s, neg_i, isi_s, o_i, tru_non, tru_bl, tru_int, tru_tup, tru_rol, c_Eq, c_NotEq, c_Lt, c_LtE, c_Gt, c_GtE, cs_Eq, cs_NotEq, cb_Eq, cb_NotEq, c2_Eq, c2_NotEq, is_non, isnot_non, is_bl, isnot_bl, is_int, isnot_int, is_str, isnot_str, is_tup, isnot_tup, is_rol, isnot_rol, is_ref, isnot_ref, is_b, isnot_b, in_s, notin_s, b_add, b_sub, b_mul, b_fdiv, b_mod, b_pow, b_addt, b_adds, atI0, atI1, atI2, atI3, slc_t, slc_r, len_s, abs_i, int_i, int_b, min_i, max_i, gcd_i, seq_t, seq_r, r1_i, r2_i, r3_i, a_nm, a_nil, a_cons, vrl_some, vrn_some, put_lget, Option.isSome_some, tru_ref, b_addl, idx_t, idx_r, idx_l, slc_l, len_t, len_r, len_l, tuple_t, tuple_r, tuple_l, list_t, list_r, list_l, app_l, rev_l, pop_l, popat_l, mT_l, seq_l, enu_l, zip_l, rev_i, rev_t, in_t, notin_t, fl_s, fl_i, fl_b, fl_n, inL_nil, inL_ss, inL_ii, List.all_cons, List.all_nil, Bool.and_self, Bool.and_true, Bool.true_and, zip_t, a_t, a_l, sub_l, isTs, isT, Option.map_some, List.length_cons, List.length_nil, Nat.reduceAdd, Nat.reduceSub, Nat.reduceLT, Nat.zero_add, Bool.false_eq_true, Bool.true_eq_false, if_false, if_true, decide_eq_true_eq, Bool.not_true, Bool.not_false, ite_true, ite_false, reduceIte, Bool.not_eq_true', decide_eq_false_iff_not, Int.cast_ofNat_Int, Int.reduceEq, Int.reduceLT, Int.reduceLE, Int.reduceNeg, Int.reduceAdd, Int.reduceSub, Int.reduceMul, Int.reduceToNat, decide_true, decide_false, not_true, not_false, not_true_eq_false, not_false_eq_true, true_and, and_true, eq_self, reduceCtorEq, List.isEmpty_nil, List.isEmpty_cons, List.nil_append, List.cons_append, lit_inj, String.reduceEq, inL_ss, Bool.or_false, Bool.false_or, Bool.or_true, Bool.true_or, SD, idx_Q0, idx_Q1, e1, cQ_NotEq]
      have h : Q (SD (if v = 1 then some (0, s) else none)) S := h
      refine ite2 (fun h0 => ?_) fun h0 => ?_
      · rw [if_neg h0] at h
        exact h
      · rw [if_pos (Decidable.not_not.mp h0)] at h
        exact h
  | n + 1, .pow a k, S, Q, E, hn, hw, h => by
    rw [show n + 1 + j + 6 = n + j + 6 + 1 by omega]
    refine call_of t_law_slope rfl ?_
    simp -dsimp -implicitDefEqProofs only [ent, List.map_cons, List.map_nil, List.length_cons, List.length_nil, Nat.reduceAdd, Nat.reduceSub, Nat.zero_add, List.replicate, List.cons_append, List.nil_append, F_law_slope, XD]
    simp -dsimp -implicitDefEqProofs only [↓cov3, ↓cov2, ↓cov1, ↓E_var, ↓E_int, ↓E_bl, ↓E_non, ↓E_str, ↓E_glo, ↓E_tup, ↓E_lst, ↓E_bin, ↓E_neg, ↓E_cmp, ↓E_chn, ↓E_and, ↓E_or, ↓E_one, ↓E_not, ↓E_ifx, ↓E_idx, ↓E_slc, ↓E_call, ↓E_bi, ↓E_isi, ↓E_mth, ↓E_lc, ↓Es_nil, ↓Es_cons, ↓O_no, ↓O_some, ↓Q_no, ↓Q_c, ↓C_and, ↓C_or, ↓C_one, ↓C_not, ↓C_cmp, ↓C_chn, ↓C_v, ↓I_seq, ↓I_rng1, ↓I_rng2, ↓I_rng3, ↓I_enu, ↓I_zip, ↓I_rev, ↓S_set, ↓S_asg, ↓S_par2, ↓S_sub, ↓S_expr, ↓S_ret, ↓S_retN, ↓S_ifs, ↓S_for, ↓S_brk, ↓S_cnt, ↓S_pass, ↓S_raise, ↓S_try, ↓S_never, ex_t, ex_f, ↓S_nil, ↓S_cons, ↓kN_nx, ↓kN_rt, ↓kN_bk, ↓kN_ct, ↓kN_ex, ↓kL_nx, ↓kL_rt, ↓kL_bk, ↓kL_ct, ↓kL_ex, ↓kX_nx, ↓kX_rt, ↓kX_bk, ↓kX_ct, ↓kX_ex, ↓kend_nx, ↓kend_rt, ↓kend_bk, ↓kend_ct, ↓kend_ex, vr_some, gt_0, gt_s, stn_0, stn_s, wip_0, wip_s, wips_0, wips_s, neg_i, isi_s, o_i, tru_non, tru_bl, tru_int, tru_tup, tru_rol, c_Eq, c_NotEq, c_Lt, c_LtE, c_Gt, c_GtE, cs_Eq, cs_NotEq, cb_Eq, cb_NotEq, c2_Eq, c2_NotEq, is_non, isnot_non, is_bl, isnot_bl, is_int, isnot_int, is_str, isnot_str, is_tup, isnot_tup, is_rol, isnot_rol, is_ref, isnot_ref, is_b, isnot_b, in_s, notin_s, b_add, b_sub, b_mul, b_fdiv, b_mod, b_pow, b_addt, b_adds, atI0, atI1, atI2, atI3, slc_t, slc_r, len_s, abs_i, int_i, int_b, min_i, max_i, gcd_i, seq_t, seq_r, r1_i, r2_i, r3_i, a_nm, a_nil, a_cons, vrl_some, vrn_some, put_lget, Option.isSome_some, tru_ref, b_addl, idx_t, idx_r, idx_l, slc_l, len_t, len_r, len_l, tuple_t, tuple_r, tuple_l, list_t, list_r, list_l, app_l, rev_l, pop_l, popat_l, mT_l, seq_l, enu_l, zip_l, rev_i, rev_t, in_t, notin_t, fl_s, fl_i, fl_b, fl_n, inL_nil, inL_ss, inL_ii, List.all_cons, List.all_nil, Bool.and_self, Bool.and_true, Bool.true_and, zip_t, a_t, a_l, sub_l, isTs, isT, Option.map_some, List.length_cons, List.length_nil, Nat.reduceAdd, Nat.reduceSub, Nat.reduceLT, Nat.zero_add, Bool.false_eq_true, Bool.true_eq_false, if_false, if_true, decide_eq_true_eq, Bool.not_true, Bool.not_false, ite_true, ite_false, reduceIte, Bool.not_eq_true', decide_eq_false_iff_not, Int.cast_ofNat_Int, Int.reduceEq, Int.reduceLT, Int.reduceLE, Int.reduceNeg, Int.reduceAdd, Int.reduceSub, Int.reduceMul, Int.reduceToNat, decide_true, decide_false, not_true, not_false, not_true_eq_false, not_false_eq_true, true_and, and_true, eq_self, reduceCtorEq, List.isEmpty_nil, List.isEmpty_cons, List.nil_append, List.cons_append, lit_inj, String.reduceEq, inL_ss, Bool.or_false, Bool.false_or, Bool.or_true, Bool.true_or, opS]
    refine slope_ok j hq n a S _ _ (by omega) hw.1 ?_
    unfold sl at h
    cases ha : sl q a with
    | none =>
      rw [ha] at h
      simp -dsimp -implicitDefEqProofs only [↓cov3, ↓cov2, ↓cov1, ↓E_var, ↓E_int, ↓E_bl, ↓E_non, ↓E_str, ↓E_glo, ↓E_tup, ↓E_lst, ↓E_bin, ↓E_neg, ↓E_cmp, ↓E_chn, ↓E_and, ↓E_or, ↓E_one, ↓E_not, ↓E_ifx, ↓E_idx, ↓E_slc, ↓E_call, ↓E_bi, ↓E_isi, ↓E_mth, ↓E_lc, ↓Es_nil, ↓Es_cons, ↓O_no, ↓O_some, ↓Q_no, ↓Q_c, ↓C_and, ↓C_or, ↓C_one, ↓C_not, ↓C_cmp, ↓C_chn, ↓C_v, ↓I_seq, ↓I_rng1, ↓I_rng2, ↓I_rng3, ↓I_enu, ↓I_zip, ↓I_rev, ↓S_set, ↓S_asg, ↓S_par2, ↓S_sub, ↓S_expr, ↓S_ret, ↓S_retN, ↓S_ifs, ↓S_for, ↓S_brk, ↓S_cnt, ↓S_pass, ↓S_raise, ↓S_try, ↓S_never, ex_t, ex_f, ↓S_nil, ↓S_cons, ↓kN_nx, ↓kN_rt, ↓kN_bk, ↓kN_ct, ↓kN_ex, ↓kL_nx, ↓kL_rt, ↓kL_bk, ↓kL_ct, ↓kL_ex, ↓kX_nx, ↓kX_rt, ↓kX_bk, ↓kX_ct, ↓kX_ex, ↓kend_nx, ↓kend_rt, ↓kend_bk, ↓kend_ct, ↓kend_ex, vr_some, gt_0, gt_s, stn_0, stn_s, wip_0, wip_s, wips_0, wips_s, neg_i, isi_s, o_i, tru_non, tru_bl, tru_int, tru_tup, tru_rol, c_Eq, c_NotEq, c_Lt, c_LtE, c_Gt, c_GtE, cs_Eq, cs_NotEq, cb_Eq, cb_NotEq, c2_Eq, c2_NotEq, is_non, isnot_non, is_bl, isnot_bl, is_int, isnot_int, is_str, isnot_str, is_tup, isnot_tup, is_rol, isnot_rol, is_ref, isnot_ref, is_b, isnot_b, in_s, notin_s, b_add, b_sub, b_mul, b_fdiv, b_mod, b_pow, b_addt, b_adds, atI0, atI1, atI2, atI3, slc_t, slc_r, len_s, abs_i, int_i, int_b, min_i, max_i, gcd_i, seq_t, seq_r, r1_i, r2_i, r3_i, a_nm, a_nil, a_cons, vrl_some, vrn_some, put_lget, Option.isSome_some, tru_ref, b_addl, idx_t, idx_r, idx_l, slc_l, len_t, len_r, len_l, tuple_t, tuple_r, tuple_l, list_t, list_r, list_l, app_l, rev_l, pop_l, popat_l, mT_l, seq_l, enu_l, zip_l, rev_i, rev_t, in_t, notin_t, fl_s, fl_i, fl_b, fl_n, inL_nil, inL_ss, inL_ii, List.all_cons, List.all_nil, Bool.and_self, Bool.and_true, Bool.true_and, zip_t, a_t, a_l, sub_l, isTs, isT, Option.map_some, List.length_cons, List.length_nil, Nat.reduceAdd, Nat.reduceSub, Nat.reduceLT, Nat.zero_add, Bool.false_eq_true, Bool.true_eq_false, if_false, if_true, decide_eq_true_eq, Bool.not_true, Bool.not_false, ite_true, ite_false, reduceIte, Bool.not_eq_true', decide_eq_false_iff_not, Int.cast_ofNat_Int, Int.reduceEq, Int.reduceLT, Int.reduceLE, Int.reduceNeg, Int.reduceAdd, Int.reduceSub, Int.reduceMul, Int.reduceToNat, decide_true, decide_false, not_true, not_false, not_true_eq_false, not_false_eq_true, true_and, and_true, eq_self, reduceCtorEq, List.isEmpty_nil, List.isEmpty_cons, List.nil_append, List.cons_append, SD]
      exact h
    | some v =>
      have hb := sl_bnd hq hw.1 (by omega) ha
      rw [ha] at h
      obtain ⟨v, s⟩ := v
      obtain ⟨hv, hs⟩ := hb
      dsimp only at hv hs
      simp -dsimp -implicitDefEqProofs only [↓cov3, ↓cov2, ↓cov1, ↓E_var, ↓E_int, ↓E_bl, ↓E_non, ↓E_str, ↓E_glo, ↓E_tup, ↓E_lst, ↓E_bin, ↓E_neg, ↓E_cmp, ↓E_chn, ↓E_and, ↓E_or, ↓E_one, ↓E_not, ↓E_ifx, ↓E_idx, ↓E_slc, ↓E_call, ↓E_bi, ↓E_isi, ↓E_mth, ↓E_lc, ↓Es_nil, ↓Es_cons, ↓O_no, ↓O_some, ↓Q_no, ↓Q_c, ↓C_and, ↓C_or, ↓C_one, ↓C_not, ↓C_cmp, ↓C_chn, ↓C_v, ↓I_seq, ↓I_rng1, ↓I_rng2, ↓I_rng3, ↓I_enu, ↓I_zip, ↓I_rev, ↓S_set, ↓S_asg, ↓S_par2, ↓S_sub, ↓S_expr, ↓S_ret, ↓S_retN, ↓S_ifs, ↓S_for, ↓S_brk, ↓S_cnt, ↓S_pass, ↓S_raise, ↓S_try, ↓S_never, ex_t, ex_f, ↓S_nil, ↓S_cons, ↓kN_nx, ↓kN_rt, ↓kN_bk, ↓kN_ct, ↓kN_ex, ↓kL_nx, ↓kL_rt, ↓kL_bk, ↓kL_ct, ↓kL_ex, ↓kX_nx, ↓kX_rt, ↓kX_bk, ↓kX_ct, ↓kX_ex, ↓kend_nx, ↓kend_rt, ↓kend_bk, ↓kend_ct, ↓kend_ex, vr_some, gt_0, gt_s, stn_0, stn_s, wip_0, wip_s, wips_0, wips_s, neg_i, isi_s, o_i, tru_non, tru_bl, tru_int, tru_tup, tru_rol, c_Eq, c_NotEq, c_Lt, c_LtE, c_Gt, c_GtE, cs_Eq, cs_NotEq, cb_Eq, cb_NotEq, c2_Eq, c2_NotEq, is_non, isnot_non, is_bl, isnot_bl, is_int, isnot_int, is_str, isnot_str, is_tup, isnot_tup, is_rol, isnot_rol, is_ref, isnot_ref, is_b, isnot_b, in_s, notin_s, b_add, b_sub, b_mul, b_fdiv, b_mod, b_pow, b_addt, b_adds, atI0, atI1, atI2, atI3, slc_t, slc_r, len_s, abs_i, int_i, int_b, min_i, max_i, gcd_i, seq_t, seq_r, r1_i, r2_i, r3_i, a_nm, a_nil, a_cons, vrl_some, vrn_some, put_lget, Option.isSome_some, tru_ref, b_addl, idx_t, idx_r, idx_l, slc_l, len_t, len_r, len_l, tuple_t, tuple_r, tuple_l, list_t, list_r, list_l, app_l, rev_l, pop_l, popat_l, mT_l, seq_l, enu_l, zip_l, rev_i, rev_t, in_t, notin_t, fl_s, fl_i, fl_b, fl_n, inL_nil, inL_ss, inL_ii, List.all_cons, List.all_nil, Bool.and_self, Bool.and_true, Bool.true_and, zip_t, a_t, a_l, sub_l, isTs, isT, Option.map_some, List.length_cons, List.length_nil, Nat.reduceAdd, Nat.reduceSub, Nat.reduceLT, Nat.zero_add, Bool.false_eq_true, Bool.true_eq_false, if_false, if_true, decide_eq_true_eq, Bool.not_true, Bool.not_false, ite_true, ite_false, reduceIte, Bool.not_eq_true', decide_eq_false_iff_not, Int.cast_ofNat_Int, Int.reduceEq, Int.reduceLT, Int.reduceLE, Int.reduceNeg, Int.reduceAdd, Int.reduceSub, Int.reduceMul, Int.reduceToNat, decide_true, decide_false, not_true, not_false, not_true_eq_false, not_false_eq_true, true_and, and_true, eq_self, reduceCtorEq, List.isEmpty_nil, List.isEmpty_cons, List.nil_append, List.cons_append, lit_inj, String.reduceEq, inL_ss, Bool.or_false, Bool.false_or, Bool.or_true, Bool.true_or, SD, idx_Q0, idx_Q1]
      have h : Q (SD (if k = 0 then some (1, 0) else if v = 0 ∧ k < 0 then none else some (pw v k, (k : Rat) * pw v (k - 1) * s))) S := h
      refine ite2 (fun h0 => ?_) fun h0 => ?_
      · rw [if_pos h0] at h
        exact h
      rw [if_neg h0] at h
      have hk := hw.2
      refine ite2 (fun h1 => ite2 (fun h2 => ?_) fun h2 => ?_) fun h1 => ?_
      · rw [if_pos ⟨Rat.num_eq_zero.mp h1, h2⟩] at h
        exact h
      · have hz : ¬(v = 0 ∧ k < 0) := fun z => h2 z.2
        rw [if_neg hz] at h
        have z0 : k - 1 < 0 → v ≠ 0 := fun z w => hz ⟨w, by omega⟩
        have z1 : k < 0 → v ≠ 0 := fun z w => hz ⟨w, z⟩
        refine power_ok hv (by omega) (by omega) z0 ?_
        have p1 := QB_pw hv z0
        have p2 := QB_pw hv z1
        have m1 : 2645 * (k - 1).natAbs ≤ 2645 * 5 := Nat.mul_le_mul_left _ (by omega)
        have hk3 : QB (k : Rat) 3 := ⟨by show k.natAbs < 2 ^ 3; omega, by show (1 : Int).natAbs < 2 ^ 3; decide⟩
        simp -dsimp -implicitDefEqProofs only [↓cov3, ↓cov2, ↓cov1, ↓E_var, ↓E_int, ↓E_bl, ↓E_non, ↓E_str, ↓E_glo, ↓E_tup, ↓E_lst, ↓E_bin, ↓E_neg, ↓E_cmp, ↓E_chn, ↓E_and, ↓E_or, ↓E_one, ↓E_not, ↓E_ifx, ↓E_idx, ↓E_slc, ↓E_call, ↓E_bi, ↓E_isi, ↓E_mth, ↓E_lc, ↓Es_nil, ↓Es_cons, ↓O_no, ↓O_some, ↓Q_no, ↓Q_c, ↓C_and, ↓C_or, ↓C_one, ↓C_not, ↓C_cmp, ↓C_chn, ↓C_v, ↓I_seq, ↓I_rng1, ↓I_rng2, ↓I_rng3, ↓I_enu, ↓I_zip, ↓I_rev, ↓S_set, ↓S_asg, ↓S_par2, ↓S_sub, ↓S_expr, ↓S_ret, ↓S_retN, ↓S_ifs, ↓S_for, ↓S_brk, ↓S_cnt, ↓S_pass, ↓S_raise, ↓S_try, ↓S_never, ex_t, ex_f, ↓S_nil, ↓S_cons, ↓kN_nx, ↓kN_rt, ↓kN_bk, ↓kN_ct, ↓kN_ex, ↓kL_nx, ↓kL_rt, ↓kL_bk, ↓kL_ct, ↓kL_ex, ↓kX_nx, ↓kX_rt, ↓kX_bk, ↓kX_ct, ↓kX_ex, ↓kend_nx, ↓kend_rt, ↓kend_bk, ↓kend_ct, ↓kend_ex, vr_some, gt_0, gt_s, stn_0, stn_s, wip_0, wip_s, wips_0, wips_s, neg_i, isi_s, o_i, tru_non, tru_bl, tru_int, tru_tup, tru_rol, c_Eq, c_NotEq, c_Lt, c_LtE, c_Gt, c_GtE, cs_Eq, cs_NotEq, cb_Eq, cb_NotEq, c2_Eq, c2_NotEq, is_non, isnot_non, is_bl, isnot_bl, is_int, isnot_int, is_str, isnot_str, is_tup, isnot_tup, is_rol, isnot_rol, is_ref, isnot_ref, is_b, isnot_b, in_s, notin_s, b_add, b_sub, b_mul, b_fdiv, b_mod, b_pow, b_addt, b_adds, atI0, atI1, atI2, atI3, slc_t, slc_r, len_s, abs_i, int_i, int_b, min_i, max_i, gcd_i, seq_t, seq_r, r1_i, r2_i, r3_i, a_nm, a_nil, a_cons, vrl_some, vrn_some, put_lget, Option.isSome_some, tru_ref, b_addl, idx_t, idx_r, idx_l, slc_l, len_t, len_r, len_l, tuple_t, tuple_r, tuple_l, list_t, list_r, list_l, app_l, rev_l, pop_l, popat_l, mT_l, seq_l, enu_l, zip_l, rev_i, rev_t, in_t, notin_t, fl_s, fl_i, fl_b, fl_n, inL_nil, inL_ss, inL_ii, List.all_cons, List.all_nil, Bool.and_self, Bool.and_true, Bool.true_and, zip_t, a_t, a_l, sub_l, isTs, isT, Option.map_some, List.length_cons, List.length_nil, Nat.reduceAdd, Nat.reduceSub, Nat.reduceLT, Nat.zero_add, Bool.false_eq_true, Bool.true_eq_false, if_false, if_true, decide_eq_true_eq, Bool.not_true, Bool.not_false, ite_true, ite_false, reduceIte, Bool.not_eq_true', decide_eq_false_iff_not, Int.cast_ofNat_Int, Int.reduceEq, Int.reduceLT, Int.reduceLE, Int.reduceNeg, Int.reduceAdd, Int.reduceSub, Int.reduceMul, Int.reduceToNat, decide_true, decide_false, not_true, not_false, not_true_eq_false, not_false_eq_true, true_and, and_true, eq_self, reduceCtorEq, List.isEmpty_nil, List.isEmpty_cons, List.nil_append, List.cons_append]
        refine mul_ok (a := (k : Rat)) hk3 p1 (by omega) ?_
        simp -dsimp -implicitDefEqProofs only [↓cov3, ↓cov2, ↓cov1, ↓E_var, ↓E_int, ↓E_bl, ↓E_non, ↓E_str, ↓E_glo, ↓E_tup, ↓E_lst, ↓E_bin, ↓E_neg, ↓E_cmp, ↓E_chn, ↓E_and, ↓E_or, ↓E_one, ↓E_not, ↓E_ifx, ↓E_idx, ↓E_slc, ↓E_call, ↓E_bi, ↓E_isi, ↓E_mth, ↓E_lc, ↓Es_nil, ↓Es_cons, ↓O_no, ↓O_some, ↓Q_no, ↓Q_c, ↓C_and, ↓C_or, ↓C_one, ↓C_not, ↓C_cmp, ↓C_chn, ↓C_v, ↓I_seq, ↓I_rng1, ↓I_rng2, ↓I_rng3, ↓I_enu, ↓I_zip, ↓I_rev, ↓S_set, ↓S_asg, ↓S_par2, ↓S_sub, ↓S_expr, ↓S_ret, ↓S_retN, ↓S_ifs, ↓S_for, ↓S_brk, ↓S_cnt, ↓S_pass, ↓S_raise, ↓S_try, ↓S_never, ex_t, ex_f, ↓S_nil, ↓S_cons, ↓kN_nx, ↓kN_rt, ↓kN_bk, ↓kN_ct, ↓kN_ex, ↓kL_nx, ↓kL_rt, ↓kL_bk, ↓kL_ct, ↓kL_ex, ↓kX_nx, ↓kX_rt, ↓kX_bk, ↓kX_ct, ↓kX_ex, ↓kend_nx, ↓kend_rt, ↓kend_bk, ↓kend_ct, ↓kend_ex, vr_some, gt_0, gt_s, stn_0, stn_s, wip_0, wip_s, wips_0, wips_s, neg_i, isi_s, o_i, tru_non, tru_bl, tru_int, tru_tup, tru_rol, c_Eq, c_NotEq, c_Lt, c_LtE, c_Gt, c_GtE, cs_Eq, cs_NotEq, cb_Eq, cb_NotEq, c2_Eq, c2_NotEq, is_non, isnot_non, is_bl, isnot_bl, is_int, isnot_int, is_str, isnot_str, is_tup, isnot_tup, is_rol, isnot_rol, is_ref, isnot_ref, is_b, isnot_b, in_s, notin_s, b_add, b_sub, b_mul, b_fdiv, b_mod, b_pow, b_addt, b_adds, atI0, atI1, atI2, atI3, slc_t, slc_r, len_s, abs_i, int_i, int_b, min_i, max_i, gcd_i, seq_t, seq_r, r1_i, r2_i, r3_i, a_nm, a_nil, a_cons, vrl_some, vrn_some, put_lget, Option.isSome_some, tru_ref, b_addl, idx_t, idx_r, idx_l, slc_l, len_t, len_r, len_l, tuple_t, tuple_r, tuple_l, list_t, list_r, list_l, app_l, rev_l, pop_l, popat_l, mT_l, seq_l, enu_l, zip_l, rev_i, rev_t, in_t, notin_t, fl_s, fl_i, fl_b, fl_n, inL_nil, inL_ss, inL_ii, List.all_cons, List.all_nil, Bool.and_self, Bool.and_true, Bool.true_and, zip_t, a_t, a_l, sub_l, isTs, isT, Option.map_some, List.length_cons, List.length_nil, Nat.reduceAdd, Nat.reduceSub, Nat.reduceLT, Nat.zero_add, Bool.false_eq_true, Bool.true_eq_false, if_false, if_true, decide_eq_true_eq, Bool.not_true, Bool.not_false, ite_true, ite_false, reduceIte, Bool.not_eq_true', decide_eq_false_iff_not, Int.cast_ofNat_Int, Int.reduceEq, Int.reduceLT, Int.reduceLE, Int.reduceNeg, Int.reduceAdd, Int.reduceSub, Int.reduceMul, Int.reduceToNat, decide_true, decide_false, not_true, not_false, not_true_eq_false, not_false_eq_true, true_and, and_true, eq_self, reduceCtorEq, List.isEmpty_nil, List.isEmpty_cons, List.nil_append, List.cons_append]
        refine power_ok hv (by omega) (by omega) z1 ?_
        simp -dsimp -implicitDefEqProofs only [↓cov3, ↓cov2, ↓cov1, ↓E_var, ↓E_int, ↓E_bl, ↓E_non, ↓E_str, ↓E_glo, ↓E_tup, ↓E_lst, ↓E_bin, ↓E_neg, ↓E_cmp, ↓E_chn, ↓E_and, ↓E_or, ↓E_one, ↓E_not, ↓E_ifx, ↓E_idx, ↓E_slc, ↓E_call, ↓E_bi, ↓E_isi, ↓E_mth, ↓E_lc, ↓Es_nil, ↓Es_cons, ↓O_no, ↓O_some, ↓Q_no, ↓Q_c, ↓C_and, ↓C_or, ↓C_one, ↓C_not, ↓C_cmp, ↓C_chn, ↓C_v, ↓I_seq, ↓I_rng1, ↓I_rng2, ↓I_rng3, ↓I_enu, ↓I_zip, ↓I_rev, ↓S_set, ↓S_asg, ↓S_par2, ↓S_sub, ↓S_expr, ↓S_ret, ↓S_retN, ↓S_ifs, ↓S_for, ↓S_brk, ↓S_cnt, ↓S_pass, ↓S_raise, ↓S_try, ↓S_never, ex_t, ex_f, ↓S_nil, ↓S_cons, ↓kN_nx, ↓kN_rt, ↓kN_bk, ↓kN_ct, ↓kN_ex, ↓kL_nx, ↓kL_rt, ↓kL_bk, ↓kL_ct, ↓kL_ex, ↓kX_nx, ↓kX_rt, ↓kX_bk, ↓kX_ct, ↓kX_ex, ↓kend_nx, ↓kend_rt, ↓kend_bk, ↓kend_ct, ↓kend_ex, vr_some, gt_0, gt_s, stn_0, stn_s, wip_0, wip_s, wips_0, wips_s, neg_i, isi_s, o_i, tru_non, tru_bl, tru_int, tru_tup, tru_rol, c_Eq, c_NotEq, c_Lt, c_LtE, c_Gt, c_GtE, cs_Eq, cs_NotEq, cb_Eq, cb_NotEq, c2_Eq, c2_NotEq, is_non, isnot_non, is_bl, isnot_bl, is_int, isnot_int, is_str, isnot_str, is_tup, isnot_tup, is_rol, isnot_rol, is_ref, isnot_ref, is_b, isnot_b, in_s, notin_s, b_add, b_sub, b_mul, b_fdiv, b_mod, b_pow, b_addt, b_adds, atI0, atI1, atI2, atI3, slc_t, slc_r, len_s, abs_i, int_i, int_b, min_i, max_i, gcd_i, seq_t, seq_r, r1_i, r2_i, r3_i, a_nm, a_nil, a_cons, vrl_some, vrn_some, put_lget, Option.isSome_some, tru_ref, b_addl, idx_t, idx_r, idx_l, slc_l, len_t, len_r, len_l, tuple_t, tuple_r, tuple_l, list_t, list_r, list_l, app_l, rev_l, pop_l, popat_l, mT_l, seq_l, enu_l, zip_l, rev_i, rev_t, in_t, notin_t, fl_s, fl_i, fl_b, fl_n, inL_nil, inL_ss, inL_ii, List.all_cons, List.all_nil, Bool.and_self, Bool.and_true, Bool.true_and, zip_t, a_t, a_l, sub_l, isTs, isT, Option.map_some, List.length_cons, List.length_nil, Nat.reduceAdd, Nat.reduceSub, Nat.reduceLT, Nat.zero_add, Bool.false_eq_true, Bool.true_eq_false, if_false, if_true, decide_eq_true_eq, Bool.not_true, Bool.not_false, ite_true, ite_false, reduceIte, Bool.not_eq_true', decide_eq_false_iff_not, Int.cast_ofNat_Int, Int.reduceEq, Int.reduceLT, Int.reduceLE, Int.reduceNeg, Int.reduceAdd, Int.reduceSub, Int.reduceMul, Int.reduceToNat, decide_true, decide_false, not_true, not_false, not_true_eq_false, not_false_eq_true, true_and, and_true, eq_self, reduceCtorEq, List.isEmpty_nil, List.isEmpty_cons, List.nil_append, List.cons_append]
        refine mul_ok (QB.mul hk3 p1 (Nat.le_refl _)) hs (by omega) ?_
        exact h
      · have hz : ¬(v = 0 ∧ k < 0) := fun z => h1 (by rw [z.1]; rfl)
        rw [if_neg hz] at h
        have z0 : k - 1 < 0 → v ≠ 0 := fun z w => hz ⟨w, by omega⟩
        have z1 : k < 0 → v ≠ 0 := fun z w => hz ⟨w, z⟩
        refine power_ok hv (by omega) (by omega) z0 ?_
        have p1 := QB_pw hv z0
        have p2 := QB_pw hv z1
        have m1 : 2645 * (k - 1).natAbs ≤ 2645 * 5 := Nat.mul_le_mul_left _ (by omega)
        have hk3 : QB (k : Rat) 3 := ⟨by show k.natAbs < 2 ^ 3; omega, by show (1 : Int).natAbs < 2 ^ 3; decide⟩
        simp -dsimp -implicitDefEqProofs only [↓cov3, ↓cov2, ↓cov1, ↓E_var, ↓E_int, ↓E_bl, ↓E_non, ↓E_str, ↓E_glo, ↓E_tup, ↓E_lst, ↓E_bin, ↓E_neg, ↓E_cmp, ↓E_chn, ↓E_and, ↓E_or, ↓E_one, ↓E_not, ↓E_ifx, ↓E_idx, ↓E_slc, ↓E_call, ↓E_bi, ↓E_isi, ↓E_mth, ↓E_lc, ↓Es_nil, ↓Es_cons, ↓O_no, ↓O_some, ↓Q_no, ↓Q_c, ↓C_and, ↓C_or, ↓C_one, ↓C_not, ↓C_cmp, ↓C_chn, ↓C_v, ↓I_seq, ↓I_rng1, ↓I_rng2, ↓I_rng3, ↓I_enu, ↓I_zip, ↓I_rev, ↓S_set, ↓S_asg, ↓S_par2, ↓S_sub, ↓S_expr, ↓S_ret, ↓S_retN, ↓S_ifs, ↓S_for, ↓S_brk, ↓S_cnt, ↓S_pass, ↓S_raise, ↓S_try, ↓S_never, ex_t, ex_f, ↓S_nil, ↓S_cons, ↓kN_nx, ↓kN_rt, ↓kN_bk, ↓kN_ct, ↓kN_ex, ↓kL_nx, ↓kL_rt, ↓kL_bk, ↓kL_ct, ↓kL_ex, ↓kX_nx, ↓kX_rt, ↓kX_bk, ↓kX_ct, ↓kX_ex, ↓kend_nx, ↓kend_rt, ↓kend_bk, ↓kend_ct, ↓kend_ex, vr_some, gt_0, gt_s, stn_0, stn_s, wip_0, wip_s, wips_0, wips_s, neg_i, isi_s, o_i, tru_non, tru_bl, tru_int, tru_tup, tru_rol, c_Eq, c_NotEq, c_Lt, c_LtE, c_Gt, c_GtE, cs_Eq, cs_NotEq, cb_Eq, cb_NotEq, c2_Eq, c2_NotEq, is_non, isnot_non, is_bl, isnot_bl, is_int, isnot_int, is_str, isnot_str, is_tup, isnot_tup, is_rol, isnot_rol, is_ref, isnot_ref, is_b, isnot_b, in_s, notin_s, b_add, b_sub, b_mul, b_fdiv, b_mod, b_pow, b_addt, b_adds, atI0, atI1, atI2, atI3, slc_t, slc_r, len_s, abs_i, int_i, int_b, min_i, max_i, gcd_i, seq_t, seq_r, r1_i, r2_i, r3_i, a_nm, a_nil, a_cons, vrl_some, vrn_some, put_lget, Option.isSome_some, tru_ref, b_addl, idx_t, idx_r, idx_l, slc_l, len_t, len_r, len_l, tuple_t, tuple_r, tuple_l, list_t, list_r, list_l, app_l, rev_l, pop_l, popat_l, mT_l, seq_l, enu_l, zip_l, rev_i, rev_t, in_t, notin_t, fl_s, fl_i, fl_b, fl_n, inL_nil, inL_ss, inL_ii, List.all_cons, List.all_nil, Bool.and_self, Bool.and_true, Bool.true_and, zip_t, a_t, a_l, sub_l, isTs, isT, Option.map_some, List.length_cons, List.length_nil, Nat.reduceAdd, Nat.reduceSub, Nat.reduceLT, Nat.zero_add, Bool.false_eq_true, Bool.true_eq_false, if_false, if_true, decide_eq_true_eq, Bool.not_true, Bool.not_false, ite_true, ite_false, reduceIte, Bool.not_eq_true', decide_eq_false_iff_not, Int.cast_ofNat_Int, Int.reduceEq, Int.reduceLT, Int.reduceLE, Int.reduceNeg, Int.reduceAdd, Int.reduceSub, Int.reduceMul, Int.reduceToNat, decide_true, decide_false, not_true, not_false, not_true_eq_false, not_false_eq_true, true_and, and_true, eq_self, reduceCtorEq, List.isEmpty_nil, List.isEmpty_cons, List.nil_append, List.cons_append]
        refine mul_ok (a := (k : Rat)) hk3 p1 (by omega) ?_
        simp -dsimp -implicitDefEqProofs only [↓cov3, ↓cov2, ↓cov1, ↓E_var, ↓E_int, ↓E_bl, ↓E_non, ↓E_str, ↓E_glo, ↓E_tup, ↓E_lst, ↓E_bin, ↓E_neg, ↓E_cmp, ↓E_chn, ↓E_and, ↓E_or, ↓E_one, ↓E_not, ↓E_ifx, ↓E_idx, ↓E_slc, ↓E_call, ↓E_bi, ↓E_isi, ↓E_mth, ↓E_lc, ↓Es_nil, ↓Es_cons, ↓O_no, ↓O_some, ↓Q_no, ↓Q_c, ↓C_and, ↓C_or, ↓C_one, ↓C_not, ↓C_cmp, ↓C_chn, ↓C_v, ↓I_seq, ↓I_rng1, ↓I_rng2, ↓I_rng3, ↓I_enu, ↓I_zip, ↓I_rev, ↓S_set, ↓S_asg, ↓S_par2, ↓S_sub, ↓S_expr, ↓S_ret, ↓S_retN, ↓S_ifs, ↓S_for, ↓S_brk, ↓S_cnt, ↓S_pass, ↓S_raise, ↓S_try, ↓S_never, ex_t, ex_f, ↓S_nil, ↓S_cons, ↓kN_nx, ↓kN_rt, ↓kN_bk, ↓kN_ct, ↓kN_ex, ↓kL_nx, ↓kL_rt, ↓kL_bk, ↓kL_ct, ↓kL_ex, ↓kX_nx, ↓kX_rt, ↓kX_bk, ↓kX_ct, ↓kX_ex, ↓kend_nx, ↓kend_rt, ↓kend_bk, ↓kend_ct, ↓kend_ex, vr_some, gt_0, gt_s, stn_0, stn_s, wip_0, wip_s, wips_0, wips_s, neg_i, isi_s, o_i, tru_non, tru_bl, tru_int, tru_tup, tru_rol, c_Eq, c_NotEq, c_Lt, c_LtE, c_Gt, c_GtE, cs_Eq, cs_NotEq, cb_Eq, cb_NotEq, c2_Eq, c2_NotEq, is_non, isnot_non, is_bl, isnot_bl, is_int, isnot_int, is_str, isnot_str, is_tup, isnot_tup, is_rol, isnot_rol, is_ref, isnot_ref, is_b, isnot_b, in_s, notin_s, b_add, b_sub, b_mul, b_fdiv, b_mod, b_pow, b_addt, b_adds, atI0, atI1, atI2, atI3, slc_t, slc_r, len_s, abs_i, int_i, int_b, min_i, max_i, gcd_i, seq_t, seq_r, r1_i, r2_i, r3_i, a_nm, a_nil, a_cons, vrl_some, vrn_some, put_lget, Option.isSome_some, tru_ref, b_addl, idx_t, idx_r, idx_l, slc_l, len_t, len_r, len_l, tuple_t, tuple_r, tuple_l, list_t, list_r, list_l, app_l, rev_l, pop_l, popat_l, mT_l, seq_l, enu_l, zip_l, rev_i, rev_t, in_t, notin_t, fl_s, fl_i, fl_b, fl_n, inL_nil, inL_ss, inL_ii, List.all_cons, List.all_nil, Bool.and_self, Bool.and_true, Bool.true_and, zip_t, a_t, a_l, sub_l, isTs, isT, Option.map_some, List.length_cons, List.length_nil, Nat.reduceAdd, Nat.reduceSub, Nat.reduceLT, Nat.zero_add, Bool.false_eq_true, Bool.true_eq_false, if_false, if_true, decide_eq_true_eq, Bool.not_true, Bool.not_false, ite_true, ite_false, reduceIte, Bool.not_eq_true', decide_eq_false_iff_not, Int.cast_ofNat_Int, Int.reduceEq, Int.reduceLT, Int.reduceLE, Int.reduceNeg, Int.reduceAdd, Int.reduceSub, Int.reduceMul, Int.reduceToNat, decide_true, decide_false, not_true, not_false, not_true_eq_false, not_false_eq_true, true_and, and_true, eq_self, reduceCtorEq, List.isEmpty_nil, List.isEmpty_cons, List.nil_append, List.cons_append]
        refine power_ok hv (by omega) (by omega) z1 ?_
        simp -dsimp -implicitDefEqProofs only [↓cov3, ↓cov2, ↓cov1, ↓E_var, ↓E_int, ↓E_bl, ↓E_non, ↓E_str, ↓E_glo, ↓E_tup, ↓E_lst, ↓E_bin, ↓E_neg, ↓E_cmp, ↓E_chn, ↓E_and, ↓E_or, ↓E_one, ↓E_not, ↓E_ifx, ↓E_idx, ↓E_slc, ↓E_call, ↓E_bi, ↓E_isi, ↓E_mth, ↓E_lc, ↓Es_nil, ↓Es_cons, ↓O_no, ↓O_some, ↓Q_no, ↓Q_c, ↓C_and, ↓C_or, ↓C_one, ↓C_not, ↓C_cmp, ↓C_chn, ↓C_v, ↓I_seq, ↓I_rng1, ↓I_rng2, ↓I_rng3, ↓I_enu, ↓I_zip, ↓I_rev, ↓S_set, ↓S_asg, ↓S_par2, ↓S_sub, ↓S_expr, ↓S_ret, ↓S_retN, ↓S_ifs, ↓S_for, ↓S_brk, ↓S_cnt, ↓S_pass, ↓S_raise, ↓S_try, ↓S_never, ex_t, ex_f, ↓S_nil, ↓S_cons, ↓kN_nx, ↓kN_rt, ↓kN_bk, ↓kN_ct, ↓kN_ex, ↓kL_nx, ↓kL_rt, ↓kL_bk, ↓kL_ct, ↓kL_ex, ↓kX_nx, ↓kX_rt, ↓kX_bk, ↓kX_ct, ↓kX_ex, ↓kend_nx, ↓kend_rt, ↓kend_bk, ↓kend_ct, ↓kend_ex, vr_some, gt_0, gt_s, stn_0, stn_s, wip_0, wip_s, wips_0, wips_s, neg_i, isi_s, o_i, tru_non, tru_bl, tru_int, tru_tup, tru_rol, c_Eq, c_NotEq, c_Lt, c_LtE, c_Gt, c_GtE, cs_Eq, cs_NotEq, cb_Eq, cb_NotEq, c2_Eq, c2_NotEq, is_non, isnot_non, is_bl, isnot_bl, is_int, isnot_int, is_str, isnot_str, is_tup, isnot_tup, is_rol, isnot_rol, is_ref, isnot_ref, is_b, isnot_b, in_s, notin_s, b_add, b_sub, b_mul, b_fdiv, b_mod, b_pow, b_addt, b_adds, atI0, atI1, atI2, atI3, slc_t, slc_r, len_s, abs_i, int_i, int_b, min_i, max_i, gcd_i, seq_t, seq_r, r1_i, r2_i, r3_i, a_nm, a_nil, a_cons, vrl_some, vrn_some, put_lget, Option.isSome_some, tru_ref, b_addl, idx_t, idx_r, idx_l, slc_l, len_t, len_r, len_l, tuple_t, tuple_r, tuple_l, list_t, list_r, list_l, app_l, rev_l, pop_l, popat_l, mT_l, seq_l, enu_l, zip_l, rev_i, rev_t, in_t, notin_t, fl_s, fl_i, fl_b, fl_n, inL_nil, inL_ss, inL_ii, List.all_cons, List.all_nil, Bool.and_self, Bool.and_true, Bool.true_and, zip_t, a_t, a_l, sub_l, isTs, isT, Option.map_some, List.length_cons, List.length_nil, Nat.reduceAdd, Nat.reduceSub, Nat.reduceLT, Nat.zero_add, Bool.false_eq_true, Bool.true_eq_false, if_false, if_true, decide_eq_true_eq, Bool.not_true, Bool.not_false, ite_true, ite_false, reduceIte, Bool.not_eq_true', decide_eq_false_iff_not, Int.cast_ofNat_Int, Int.reduceEq, Int.reduceLT, Int.reduceLE, Int.reduceNeg, Int.reduceAdd, Int.reduceSub, Int.reduceMul, Int.reduceToNat, decide_true, decide_false, not_true, not_false, not_true_eq_false, not_false_eq_true, true_and, and_true, eq_self, reduceCtorEq, List.isEmpty_nil, List.isEmpty_cons, List.nil_append, List.cons_append]
        refine mul_ok (QB.mul hk3 p1 (Nat.le_refl _)) hs (by omega) ?_
        exact h
  | n + 1, .bin o a b, S, Q, E, hn, hw, h => by
    rw [show n + 1 + j + 6 = n + j + 6 + 1 by omega]
    have hz : sl q (.bin o a b) = (sl q a).bind fun u => two o u (sl q b) := by
      conv => lhs; unfold sl
      cases sl q a with
      | none => rfl
      | some u =>
        cases sl q b with
        | none => rfl
        | some w => rfl
    rw [hz] at h
    cases ha : sl q a with
    | none =>
      rw [ha] at h
      cases o
      all_goals
        refine call_of t_law_slope rfl ?_
        simp -dsimp -implicitDefEqProofs only [ent, List.map_cons, List.map_nil, List.length_cons, List.length_nil, Nat.reduceAdd, Nat.reduceSub, Nat.zero_add, List.replicate, List.cons_append, List.nil_append, F_law_slope, XD]
        simp -dsimp -implicitDefEqProofs only [↓cov3, ↓cov2, ↓cov1, ↓E_var, ↓E_int, ↓E_bl, ↓E_non, ↓E_str, ↓E_glo, ↓E_tup, ↓E_lst, ↓E_bin, ↓E_neg, ↓E_cmp, ↓E_chn, ↓E_and, ↓E_or, ↓E_one, ↓E_not, ↓E_ifx, ↓E_idx, ↓E_slc, ↓E_call, ↓E_bi, ↓E_isi, ↓E_mth, ↓E_lc, ↓Es_nil, ↓Es_cons, ↓O_no, ↓O_some, ↓Q_no, ↓Q_c, ↓C_and, ↓C_or, ↓C_one, ↓C_not, ↓C_cmp, ↓C_chn, ↓C_v, ↓I_seq, ↓I_rng1, ↓I_rng2, ↓I_rng3, ↓I_enu, ↓I_zip, ↓I_rev, ↓S_set, ↓S_asg, ↓S_par2, ↓S_sub, ↓S_expr, ↓S_ret, ↓S_retN, ↓S_ifs, ↓S_for, ↓S_brk, ↓S_cnt, ↓S_pass, ↓S_raise, ↓S_try, ↓S_never, ex_t, ex_f, ↓S_nil, ↓S_cons, ↓kN_nx, ↓kN_rt, ↓kN_bk, ↓kN_ct, ↓kN_ex, ↓kL_nx, ↓kL_rt, ↓kL_bk, ↓kL_ct, ↓kL_ex, ↓kX_nx, ↓kX_rt, ↓kX_bk, ↓kX_ct, ↓kX_ex, ↓kend_nx, ↓kend_rt, ↓kend_bk, ↓kend_ct, ↓kend_ex, vr_some, gt_0, gt_s, stn_0, stn_s, wip_0, wip_s, wips_0, wips_s, neg_i, isi_s, o_i, tru_non, tru_bl, tru_int, tru_tup, tru_rol, c_Eq, c_NotEq, c_Lt, c_LtE, c_Gt, c_GtE, cs_Eq, cs_NotEq, cb_Eq, cb_NotEq, c2_Eq, c2_NotEq, is_non, isnot_non, is_bl, isnot_bl, is_int, isnot_int, is_str, isnot_str, is_tup, isnot_tup, is_rol, isnot_rol, is_ref, isnot_ref, is_b, isnot_b, in_s, notin_s, b_add, b_sub, b_mul, b_fdiv, b_mod, b_pow, b_addt, b_adds, atI0, atI1, atI2, atI3, slc_t, slc_r, len_s, abs_i, int_i, int_b, min_i, max_i, gcd_i, seq_t, seq_r, r1_i, r2_i, r3_i, a_nm, a_nil, a_cons, vrl_some, vrn_some, put_lget, Option.isSome_some, tru_ref, b_addl, idx_t, idx_r, idx_l, slc_l, len_t, len_r, len_l, tuple_t, tuple_r, tuple_l, list_t, list_r, list_l, app_l, rev_l, pop_l, popat_l, mT_l, seq_l, enu_l, zip_l, rev_i, rev_t, in_t, notin_t, fl_s, fl_i, fl_b, fl_n, inL_nil, inL_ss, inL_ii, List.all_cons, List.all_nil, Bool.and_self, Bool.and_true, Bool.true_and, zip_t, a_t, a_l, sub_l, isTs, isT, Option.map_some, List.length_cons, List.length_nil, Nat.reduceAdd, Nat.reduceSub, Nat.reduceLT, Nat.zero_add, Bool.false_eq_true, Bool.true_eq_false, if_false, if_true, decide_eq_true_eq, Bool.not_true, Bool.not_false, ite_true, ite_false, reduceIte, Bool.not_eq_true', decide_eq_false_iff_not, Int.cast_ofNat_Int, Int.reduceEq, Int.reduceLT, Int.reduceLE, Int.reduceNeg, Int.reduceAdd, Int.reduceSub, Int.reduceMul, Int.reduceToNat, decide_true, decide_false, not_true, not_false, not_true_eq_false, not_false_eq_true, true_and, and_true, eq_self, reduceCtorEq, List.isEmpty_nil, List.isEmpty_cons, List.nil_append, List.cons_append, lit_inj, String.reduceEq, inL_ss, Bool.or_false, Bool.false_or, Bool.or_true, Bool.true_or, opS]
        refine slope_ok j hq n a S _ _ (by omega) hw.1 ?_
        rw [ha]
        simp -dsimp -implicitDefEqProofs only [↓cov3, ↓cov2, ↓cov1, ↓E_var, ↓E_int, ↓E_bl, ↓E_non, ↓E_str, ↓E_glo, ↓E_tup, ↓E_lst, ↓E_bin, ↓E_neg, ↓E_cmp, ↓E_chn, ↓E_and, ↓E_or, ↓E_one, ↓E_not, ↓E_ifx, ↓E_idx, ↓E_slc, ↓E_call, ↓E_bi, ↓E_isi, ↓E_mth, ↓E_lc, ↓Es_nil, ↓Es_cons, ↓O_no, ↓O_some, ↓Q_no, ↓Q_c, ↓C_and, ↓C_or, ↓C_one, ↓C_not, ↓C_cmp, ↓C_chn, ↓C_v, ↓I_seq, ↓I_rng1, ↓I_rng2, ↓I_rng3, ↓I_enu, ↓I_zip, ↓I_rev, ↓S_set, ↓S_asg, ↓S_par2, ↓S_sub, ↓S_expr, ↓S_ret, ↓S_retN, ↓S_ifs, ↓S_for, ↓S_brk, ↓S_cnt, ↓S_pass, ↓S_raise, ↓S_try, ↓S_never, ex_t, ex_f, ↓S_nil, ↓S_cons, ↓kN_nx, ↓kN_rt, ↓kN_bk, ↓kN_ct, ↓kN_ex, ↓kL_nx, ↓kL_rt, ↓kL_bk, ↓kL_ct, ↓kL_ex, ↓kX_nx, ↓kX_rt, ↓kX_bk, ↓kX_ct, ↓kX_ex, ↓kend_nx, ↓kend_rt, ↓kend_bk, ↓kend_ct, ↓kend_ex, vr_some, gt_0, gt_s, stn_0, stn_s, wip_0, wip_s, wips_0, wips_s, neg_i, isi_s, o_i, tru_non, tru_bl, tru_int, tru_tup, tru_rol, c_Eq, c_NotEq, c_Lt, c_LtE, c_Gt, c_GtE, cs_Eq, cs_NotEq, cb_Eq, cb_NotEq, c2_Eq, c2_NotEq, is_non, isnot_non, is_bl, isnot_bl, is_int, isnot_int, is_str, isnot_str, is_tup, isnot_tup, is_rol, isnot_rol, is_ref, isnot_ref, is_b, isnot_b, in_s, notin_s, b_add, b_sub, b_mul, b_fdiv, b_mod, b_pow, b_addt, b_adds, atI0, atI1, atI2, atI3, slc_t, slc_r, len_s, abs_i, int_i, int_b, min_i, max_i, gcd_i, seq_t, seq_r, r1_i, r2_i, r3_i, a_nm, a_nil, a_cons, vrl_some, vrn_some, put_lget, Option.isSome_some, tru_ref, b_addl, idx_t, idx_r, idx_l, slc_l, len_t, len_r, len_l, tuple_t, tuple_r, tuple_l, list_t, list_r, list_l, app_l, rev_l, pop_l, popat_l, mT_l, seq_l, enu_l, zip_l, rev_i, rev_t, in_t, notin_t, fl_s, fl_i, fl_b, fl_n, inL_nil, inL_ss, inL_ii, List.all_cons, List.all_nil, Bool.and_self, Bool.and_true, Bool.true_and, zip_t, a_t, a_l, sub_l, isTs, isT, Option.map_some, List.length_cons, List.length_nil, Nat.reduceAdd, Nat.reduceSub, Nat.reduceLT, Nat.zero_add, Bool.false_eq_true, Bool.true_eq_false, if_false, if_true, decide_eq_true_eq, Bool.not_true, Bool.not_false, ite_true, ite_false, reduceIte, Bool.not_eq_true', decide_eq_false_iff_not, Int.cast_ofNat_Int, Int.reduceEq, Int.reduceLT, Int.reduceLE, Int.reduceNeg, Int.reduceAdd, Int.reduceSub, Int.reduceMul, Int.reduceToNat, decide_true, decide_false, not_true, not_false, not_true_eq_false, not_false_eq_true, true_and, and_true, eq_self, reduceCtorEq, List.isEmpty_nil, List.isEmpty_cons, List.nil_append, List.cons_append, SD]
        exact h
    | some v =>
      have hb := sl_bnd hq hw.1 (by omega) ha
      rw [ha] at h
      obtain ⟨v, s⟩ := v
      have hy := fun z hz => sl_bnd (v := z) hq hw.2 (by omega) hz
      cases o with
      | add =>
        refine call_of t_law_slope rfl ?_
        simp -dsimp -implicitDefEqProofs only [ent, List.map_cons, List.map_nil, List.length_cons, List.length_nil, Nat.reduceAdd, Nat.reduceSub, Nat.zero_add, List.replicate, List.cons_append, List.nil_append, F_law_slope, XD]
        simp -dsimp -implicitDefEqProofs only [↓cov3, ↓cov2, ↓cov1, ↓E_var, ↓E_int, ↓E_bl, ↓E_non, ↓E_str, ↓E_glo, ↓E_tup, ↓E_lst, ↓E_bin, ↓E_neg, ↓E_cmp, ↓E_chn, ↓E_and, ↓E_or, ↓E_one, ↓E_not, ↓E_ifx, ↓E_idx, ↓E_slc, ↓E_call, ↓E_bi, ↓E_isi, ↓E_mth, ↓E_lc, ↓Es_nil, ↓Es_cons, ↓O_no, ↓O_some, ↓Q_no, ↓Q_c, ↓C_and, ↓C_or, ↓C_one, ↓C_not, ↓C_cmp, ↓C_chn, ↓C_v, ↓I_seq, ↓I_rng1, ↓I_rng2, ↓I_rng3, ↓I_enu, ↓I_zip, ↓I_rev, ↓S_set, ↓S_asg, ↓S_par2, ↓S_sub, ↓S_expr, ↓S_ret, ↓S_retN, ↓S_ifs, ↓S_for, ↓S_brk, ↓S_cnt, ↓S_pass, ↓S_raise, ↓S_try, ↓S_never, ex_t, ex_f, ↓S_nil, ↓S_cons, ↓kN_nx, ↓kN_rt, ↓kN_bk, ↓kN_ct, ↓kN_ex, ↓kL_nx, ↓kL_rt, ↓kL_bk, ↓kL_ct, ↓kL_ex, ↓kX_nx, ↓kX_rt, ↓kX_bk, ↓kX_ct, ↓kX_ex, ↓kend_nx, ↓kend_rt, ↓kend_bk, ↓kend_ct, ↓kend_ex, vr_some, gt_0, gt_s, stn_0, stn_s, wip_0, wip_s, wips_0, wips_s, neg_i, isi_s, o_i, tru_non, tru_bl, tru_int, tru_tup, tru_rol, c_Eq, c_NotEq, c_Lt, c_LtE, c_Gt, c_GtE, cs_Eq, cs_NotEq, cb_Eq, cb_NotEq, c2_Eq, c2_NotEq, is_non, isnot_non, is_bl, isnot_bl, is_int, isnot_int, is_str, isnot_str, is_tup, isnot_tup, is_rol, isnot_rol, is_ref, isnot_ref, is_b, isnot_b, in_s, notin_s, b_add, b_sub, b_mul, b_fdiv, b_mod, b_pow, b_addt, b_adds, atI0, atI1, atI2, atI3, slc_t, slc_r, len_s, abs_i, int_i, int_b, min_i, max_i, gcd_i, seq_t, seq_r, r1_i, r2_i, r3_i, a_nm, a_nil, a_cons, vrl_some, vrn_some, put_lget, Option.isSome_some, tru_ref, b_addl, idx_t, idx_r, idx_l, slc_l, len_t, len_r, len_l, tuple_t, tuple_r, tuple_l, list_t, list_r, list_l, app_l, rev_l, pop_l, popat_l, mT_l, seq_l, enu_l, zip_l, rev_i, rev_t, in_t, notin_t, fl_s, fl_i, fl_b, fl_n, inL_nil, inL_ss, inL_ii, List.all_cons, List.all_nil, Bool.and_self, Bool.and_true, Bool.true_and, zip_t, a_t, a_l, sub_l, isTs, isT, Option.map_some, List.length_cons, List.length_nil, Nat.reduceAdd, Nat.reduceSub, Nat.reduceLT, Nat.zero_add, Bool.false_eq_true, Bool.true_eq_false, if_false, if_true, decide_eq_true_eq, Bool.not_true, Bool.not_false, ite_true, ite_false, reduceIte, Bool.not_eq_true', decide_eq_false_iff_not, Int.cast_ofNat_Int, Int.reduceEq, Int.reduceLT, Int.reduceLE, Int.reduceNeg, Int.reduceAdd, Int.reduceSub, Int.reduceMul, Int.reduceToNat, decide_true, decide_false, not_true, not_false, not_true_eq_false, not_false_eq_true, true_and, and_true, eq_self, reduceCtorEq, List.isEmpty_nil, List.isEmpty_cons, List.nil_append, List.cons_append, lit_inj, String.reduceEq, inL_ss, Bool.or_false, Bool.false_or, Bool.or_true, Bool.true_or, opS]
        refine slope_ok j hq n a S _ _ (by omega) hw.1 ?_
        rw [ha]
        simp -dsimp -implicitDefEqProofs only [↓cov3, ↓cov2, ↓cov1, ↓E_var, ↓E_int, ↓E_bl, ↓E_non, ↓E_str, ↓E_glo, ↓E_tup, ↓E_lst, ↓E_bin, ↓E_neg, ↓E_cmp, ↓E_chn, ↓E_and, ↓E_or, ↓E_one, ↓E_not, ↓E_ifx, ↓E_idx, ↓E_slc, ↓E_call, ↓E_bi, ↓E_isi, ↓E_mth, ↓E_lc, ↓Es_nil, ↓Es_cons, ↓O_no, ↓O_some, ↓Q_no, ↓Q_c, ↓C_and, ↓C_or, ↓C_one, ↓C_not, ↓C_cmp, ↓C_chn, ↓C_v, ↓I_seq, ↓I_rng1, ↓I_rng2, ↓I_rng3, ↓I_enu, ↓I_zip, ↓I_rev, ↓S_set, ↓S_asg, ↓S_par2, ↓S_sub, ↓S_expr, ↓S_ret, ↓S_retN, ↓S_ifs, ↓S_for, ↓S_brk, ↓S_cnt, ↓S_pass, ↓S_raise, ↓S_try, ↓S_never, ex_t, ex_f, ↓S_nil, ↓S_cons, ↓kN_nx, ↓kN_rt, ↓kN_bk, ↓kN_ct, ↓kN_ex, ↓kL_nx, ↓kL_rt, ↓kL_bk, ↓kL_ct, ↓kL_ex, ↓kX_nx, ↓kX_rt, ↓kX_bk, ↓kX_ct, ↓kX_ex, ↓kend_nx, ↓kend_rt, ↓kend_bk, ↓kend_ct, ↓kend_ex, vr_some, gt_0, gt_s, stn_0, stn_s, wip_0, wip_s, wips_0, wips_s, neg_i, isi_s, o_i, tru_non, tru_bl, tru_int, tru_tup, tru_rol, c_Eq, c_NotEq, c_Lt, c_LtE, c_Gt, c_GtE, cs_Eq, cs_NotEq, cb_Eq, cb_NotEq, c2_Eq, c2_NotEq, is_non, isnot_non, is_bl, isnot_bl, is_int, isnot_int, is_str, isnot_str, is_tup, isnot_tup, is_rol, isnot_rol, is_ref, isnot_ref, is_b, isnot_b, in_s, notin_s, b_add, b_sub, b_mul, b_fdiv, b_mod, b_pow, b_addt, b_adds, atI0, atI1, atI2, atI3, slc_t, slc_r, len_s, abs_i, int_i, int_b, min_i, max_i, gcd_i, seq_t, seq_r, r1_i, r2_i, r3_i, a_nm, a_nil, a_cons, vrl_some, vrn_some, put_lget, Option.isSome_some, tru_ref, b_addl, idx_t, idx_r, idx_l, slc_l, len_t, len_r, len_l, tuple_t, tuple_r, tuple_l, list_t, list_r, list_l, app_l, rev_l, pop_l, popat_l, mT_l, seq_l, enu_l, zip_l, rev_i, rev_t, in_t, notin_t, fl_s, fl_i, fl_b, fl_n, inL_nil, inL_ss, inL_ii, List.all_cons, List.all_nil, Bool.and_self, Bool.and_true, Bool.true_and, zip_t, a_t, a_l, sub_l, isTs, isT, Option.map_some, List.length_cons, List.length_nil, Nat.reduceAdd, Nat.reduceSub, Nat.reduceLT, Nat.zero_add, Bool.false_eq_true, Bool.true_eq_false, if_false, if_true, decide_eq_true_eq, Bool.not_true, Bool.not_false, ite_true, ite_false, reduceIte, Bool.not_eq_true', decide_eq_false_iff_not, Int.cast_ofNat_Int, Int.reduceEq, Int.reduceLT, Int.reduceLE, Int.reduceNeg, Int.reduceAdd, Int.reduceSub, Int.reduceMul, Int.reduceToNat, decide_true, decide_false, not_true, not_false, not_true_eq_false, not_false_eq_true, true_and, and_true, eq_self, reduceCtorEq, List.isEmpty_nil, List.isEmpty_cons, List.nil_append, List.cons_append, lit_inj, String.reduceEq, inL_ss, Bool.or_false, Bool.false_or, Bool.or_true, Bool.true_or, SD, opS]
        refine slope_ok j hq n b S _ _ (by omega) hw.2 ?_
        simp -dsimp -implicitDefEqProofs only [↓cov3, ↓cov2, ↓cov1, ↓E_var, ↓E_int, ↓E_bl, ↓E_non, ↓E_str, ↓E_glo, ↓E_tup, ↓E_lst, ↓E_bin, ↓E_neg, ↓E_cmp, ↓E_chn, ↓E_and, ↓E_or, ↓E_one, ↓E_not, ↓E_ifx, ↓E_idx, ↓E_slc, ↓E_call, ↓E_bi, ↓E_isi, ↓E_mth, ↓E_lc, ↓Es_nil, ↓Es_cons, ↓O_no, ↓O_some, ↓Q_no, ↓Q_c, ↓C_and, ↓C_or, ↓C_one, ↓C_not, ↓C_cmp, ↓C_chn, ↓C_v, ↓I_seq, ↓I_rng1, ↓I_rng2, ↓I_rng3, ↓I_enu, ↓I_zip, ↓I_rev, ↓S_set, ↓S_asg, ↓S_par2, ↓S_sub, ↓S_expr, ↓S_ret, ↓S_retN, ↓S_ifs, ↓S_for, ↓S_brk, ↓S_cnt, ↓S_pass, ↓S_raise, ↓S_try, ↓S_never, ex_t, ex_f, ↓S_nil, ↓S_cons, ↓kN_nx, ↓kN_rt, ↓kN_bk, ↓kN_ct, ↓kN_ex, ↓kL_nx, ↓kL_rt, ↓kL_bk, ↓kL_ct, ↓kL_ex, ↓kX_nx, ↓kX_rt, ↓kX_bk, ↓kX_ct, ↓kX_ex, ↓kend_nx, ↓kend_rt, ↓kend_bk, ↓kend_ct, ↓kend_ex, vr_some, gt_0, gt_s, stn_0, stn_s, wip_0, wip_s, wips_0, wips_s, neg_i, isi_s, o_i, tru_non, tru_bl, tru_int, tru_tup, tru_rol, c_Eq, c_NotEq, c_Lt, c_LtE, c_Gt, c_GtE, cs_Eq, cs_NotEq, cb_Eq, cb_NotEq, c2_Eq, c2_NotEq, is_non, isnot_non, is_bl, isnot_bl, is_int, isnot_int, is_str, isnot_str, is_tup, isnot_tup, is_rol, isnot_rol, is_ref, isnot_ref, is_b, isnot_b, in_s, notin_s, b_add, b_sub, b_mul, b_fdiv, b_mod, b_pow, b_addt, b_adds, atI0, atI1, atI2, atI3, slc_t, slc_r, len_s, abs_i, int_i, int_b, min_i, max_i, gcd_i, seq_t, seq_r, r1_i, r2_i, r3_i, a_nm, a_nil, a_cons, vrl_some, vrn_some, put_lget, Option.isSome_some, tru_ref, b_addl, idx_t, idx_r, idx_l, slc_l, len_t, len_r, len_l, tuple_t, tuple_r, tuple_l, list_t, list_r, list_l, app_l, rev_l, pop_l, popat_l, mT_l, seq_l, enu_l, zip_l, rev_i, rev_t, in_t, notin_t, fl_s, fl_i, fl_b, fl_n, inL_nil, inL_ss, inL_ii, List.all_cons, List.all_nil, Bool.and_self, Bool.and_true, Bool.true_and, zip_t, a_t, a_l, sub_l, isTs, isT, Option.map_some, List.length_cons, List.length_nil, Nat.reduceAdd, Nat.reduceSub, Nat.reduceLT, Nat.zero_add, Bool.false_eq_true, Bool.true_eq_false, if_false, if_true, decide_eq_true_eq, Bool.not_true, Bool.not_false, ite_true, ite_false, reduceIte, Bool.not_eq_true', decide_eq_false_iff_not, Int.cast_ofNat_Int, Int.reduceEq, Int.reduceLT, Int.reduceLE, Int.reduceNeg, Int.reduceAdd, Int.reduceSub, Int.reduceMul, Int.reduceToNat, decide_true, decide_false, not_true, not_false, not_true_eq_false, not_false_eq_true, true_and, and_true, eq_self, reduceCtorEq, List.isEmpty_nil, List.isEmpty_cons, List.nil_append, List.cons_append]
        refine two_ok (o := .add) (u := (v, s)) hb hy ?_
        exact h
      | sub =>
        refine call_of t_law_slope rfl ?_
        simp -dsimp -implicitDefEqProofs only [ent, List.map_cons, List.map_nil, List.length_cons, List.length_nil, Nat.reduceAdd, Nat.reduceSub, Nat.zero_add, List.replicate, List.cons_append, List.nil_append, F_law_slope, XD]
        simp -dsimp -implicitDefEqProofs only [↓cov3, ↓cov2, ↓cov1, ↓E_var, ↓E_int, ↓E_bl, ↓E_non, ↓E_str, ↓E_glo, ↓E_tup, ↓E_lst, ↓E_bin, ↓E_neg, ↓E_cmp, ↓E_chn, ↓E_and, ↓E_or, ↓E_one, ↓E_not, ↓E_ifx, ↓E_idx, ↓E_slc, ↓E_call, ↓E_bi, ↓E_isi, ↓E_mth, ↓E_lc, ↓Es_nil, ↓Es_cons, ↓O_no, ↓O_some, ↓Q_no, ↓Q_c, ↓C_and, ↓C_or, ↓C_one, ↓C_not, ↓C_cmp, ↓C_chn, ↓C_v, ↓I_seq, ↓I_rng1, ↓I_rng2, ↓I_rng3, ↓I_enu, ↓I_zip, ↓I_rev, ↓S_set, ↓S_asg, ↓S_par2, ↓S_sub, ↓S_expr, ↓S_ret, ↓S_retN, ↓S_ifs, ↓S_for, ↓S_brk, ↓S_cnt, ↓S_pass, ↓S_raise, ↓S_try, ↓S_never, ex_t, ex_f, ↓S_nil, ↓S_cons, ↓kN_nx, ↓kN_rt, ↓kN_bk, ↓kN_ct, ↓kN_ex, ↓kL_nx, ↓kL_rt, ↓kL_bk, ↓kL_ct, ↓kL_ex, ↓kX_nx, ↓kX_rt, ↓kX_bk, ↓kX_ct, ↓kX_ex, ↓kend_nx, ↓kend_rt, ↓kend_bk, ↓kend_ct, ↓kend_ex, vr_some, gt_0, gt_s, stn_0, stn_s, wip_0, wip_s, wips_0, wips_s, neg_i, isi_s, o_i, tru_non, tru_bl, tru_int, tru_tup, tru_rol, c_Eq, c_NotEq, c_Lt, c_LtE, c_Gt, c_GtE, cs_Eq, cs_NotEq, cb_Eq, cb_NotEq, c2_Eq, c2_NotEq, is_non, isnot_non, is_bl, isnot_bl, is_int, isnot_int, is_str, isnot_str, is_tup, isnot_tup, is_rol, isnot_rol, is_ref, isnot_ref, is_b, isnot_b, in_s, notin_s, b_add, b_sub, b_mul, b_fdiv, b_mod, b_pow, b_addt, b_adds, atI0, atI1, atI2, atI3, slc_t, slc_r, len_s, abs_i, int_i, int_b, min_i, max_i, gcd_i, seq_t, seq_r, r1_i, r2_i, r3_i, a_nm, a_nil, a_cons, vrl_some, vrn_some, put_lget, Option.isSome_some, tru_ref, b_addl, idx_t, idx_r, idx_l, slc_l, len_t, len_r, len_l, tuple_t, tuple_r, tuple_l, list_t, list_r, list_l, app_l, rev_l, pop_l, popat_l, mT_l, seq_l, enu_l, zip_l, rev_i, rev_t, in_t, notin_t, fl_s, fl_i, fl_b, fl_n, inL_nil, inL_ss, inL_ii, List.all_cons, List.all_nil, Bool.and_self, Bool.and_true, Bool.true_and, zip_t, a_t, a_l, sub_l, isTs, isT, Option.map_some, List.length_cons, List.length_nil, Nat.reduceAdd, Nat.reduceSub, Nat.reduceLT, Nat.zero_add, Bool.false_eq_true, Bool.true_eq_false, if_false, if_true, decide_eq_true_eq, Bool.not_true, Bool.not_false, ite_true, ite_false, reduceIte, Bool.not_eq_true', decide_eq_false_iff_not, Int.cast_ofNat_Int, Int.reduceEq, Int.reduceLT, Int.reduceLE, Int.reduceNeg, Int.reduceAdd, Int.reduceSub, Int.reduceMul, Int.reduceToNat, decide_true, decide_false, not_true, not_false, not_true_eq_false, not_false_eq_true, true_and, and_true, eq_self, reduceCtorEq, List.isEmpty_nil, List.isEmpty_cons, List.nil_append, List.cons_append, lit_inj, String.reduceEq, inL_ss, Bool.or_false, Bool.false_or, Bool.or_true, Bool.true_or, opS]
        refine slope_ok j hq n a S _ _ (by omega) hw.1 ?_
        rw [ha]
        simp -dsimp -implicitDefEqProofs only [↓cov3, ↓cov2, ↓cov1, ↓E_var, ↓E_int, ↓E_bl, ↓E_non, ↓E_str, ↓E_glo, ↓E_tup, ↓E_lst, ↓E_bin, ↓E_neg, ↓E_cmp, ↓E_chn, ↓E_and, ↓E_or, ↓E_one, ↓E_not, ↓E_ifx, ↓E_idx, ↓E_slc, ↓E_call, ↓E_bi, ↓E_isi, ↓E_mth, ↓E_lc, ↓Es_nil, ↓Es_cons, ↓O_no, ↓O_some, ↓Q_no, ↓Q_c, ↓C_and, ↓C_or, ↓C_one, ↓C_not, ↓C_cmp, ↓C_chn, ↓C_v, ↓I_seq, ↓I_rng1, ↓I_rng2, ↓I_rng3, ↓I_enu, ↓I_zip, ↓I_rev, ↓S_set, ↓S_asg, ↓S_par2, ↓S_sub, ↓S_expr, ↓S_ret, ↓S_retN, ↓S_ifs, ↓S_for, ↓S_brk, ↓S_cnt, ↓S_pass, ↓S_raise, ↓S_try, ↓S_never, ex_t, ex_f, ↓S_nil, ↓S_cons, ↓kN_nx, ↓kN_rt, ↓kN_bk, ↓kN_ct, ↓kN_ex, ↓kL_nx, ↓kL_rt, ↓kL_bk, ↓kL_ct, ↓kL_ex, ↓kX_nx, ↓kX_rt, ↓kX_bk, ↓kX_ct, ↓kX_ex, ↓kend_nx, ↓kend_rt, ↓kend_bk, ↓kend_ct, ↓kend_ex, vr_some, gt_0, gt_s, stn_0, stn_s, wip_0, wip_s, wips_0, wips_s, neg_i, isi_s, o_i, tru_non, tru_bl, tru_int, tru_tup, tru_rol, c_Eq, c_NotEq, c_Lt, c_LtE, c_Gt, c_GtE, cs_Eq, cs_NotEq, cb_Eq, cb_NotEq, c2_Eq, c2_NotEq, is_non, isnot_non, is_bl, isnot_bl, is_int, isnot_int, is_str, isnot_str, is_tup, isnot_tup, is_rol, isnot_rol, is_ref, isnot_ref, is_b, isnot_b, in_s, notin_s, b_add, b_sub, b_mul, b_fdiv, b_mod, b_pow, b_addt, b_adds, atI0, atI1, atI2, atI3, slc_t, slc_r, len_s, abs_i, int_i, int_b, min_i, max_i, gcd_i, seq_t, seq_r, r1_i, r2_i, r3_i, a_nm, a_nil, a_cons, vrl_some, vrn_some, put_lget, Option.isSome_some, tru_ref, b_addl, idx_t, idx_r, idx_l, slc_l, len_t, len_r, len_l, tuple_t, tuple_r, tuple_l, list_t, list_r, list_l, app_l, rev_l, pop_l, popat_l, mT_l, seq_l, enu_l, zip_l, rev_i, rev_t, in_t, notin_t, fl_s, fl_i, fl_b, fl_n, inL_nil, inL_ss, inL_ii, List.all_cons, List.all_nil, Bool.and_self, Bool.and_true, Bool.true_and, zip_t, a_t, a_l, sub_l, isTs, isT, Option.map_some, List.length_cons, List.length_nil, Nat.reduceAdd, Nat.reduceSub, Nat.reduceLT, Nat.zero_add, Bool.false_eq_true, Bool.true_eq_false, if_false, if_true, decide_eq_true_eq, Bool.not_true, Bool.not_false, ite_true, ite_false, reduceIte, Bool.not_eq_true', decide_eq_false_iff_not, Int.cast_ofNat_Int, Int.reduceEq, Int.reduceLT, Int.reduceLE, Int.reduceNeg, Int.reduceAdd, Int.reduceSub, Int.reduceMul, Int.reduceToNat, decide_true, decide_false, not_true, not_false, not_true_eq_false, not_false_eq_true, true_and, and_true, eq_self, reduceCtorEq, List.isEmpty_nil, List.isEmpty_cons, List.nil_append, List.cons_append, lit_inj, String.reduceEq, inL_ss, Bool.or_false, Bool.false_or, Bool.or_true, Bool.true_or, SD, opS]
        refine slope_ok j hq n b S _ _ (by omega) hw.2 ?_
        simp -dsimp -implicitDefEqProofs only [↓cov3, ↓cov2, ↓cov1, ↓E_var, ↓E_int, ↓E_bl, ↓E_non, ↓E_str, ↓E_glo, ↓E_tup, ↓E_lst, ↓E_bin, ↓E_neg, ↓E_cmp, ↓E_chn, ↓E_and, ↓E_or, ↓E_one, ↓E_not, ↓E_ifx, ↓E_idx, ↓E_slc, ↓E_call, ↓E_bi, ↓E_isi, ↓E_mth, ↓E_lc, ↓Es_nil, ↓Es_cons, ↓O_no, ↓O_some, ↓Q_no, ↓Q_c, ↓C_and, ↓C_or, ↓C_one, ↓C_not, ↓C_cmp, ↓C_chn, ↓C_v, ↓I_seq, ↓I_rng1, ↓I_rng2, ↓I_rng3, ↓I_enu, ↓I_zip, ↓I_rev, ↓S_set, ↓S_asg, ↓S_par2, ↓S_sub, ↓S_expr, ↓S_ret, ↓S_retN, ↓S_ifs, ↓S_for, ↓S_brk, ↓S_cnt, ↓S_pass, ↓S_raise, ↓S_try, ↓S_never, ex_t, ex_f, ↓S_nil, ↓S_cons, ↓kN_nx, ↓kN_rt, ↓kN_bk, ↓kN_ct, ↓kN_ex, ↓kL_nx, ↓kL_rt, ↓kL_bk, ↓kL_ct, ↓kL_ex, ↓kX_nx, ↓kX_rt, ↓kX_bk, ↓kX_ct, ↓kX_ex, ↓kend_nx, ↓kend_rt, ↓kend_bk, ↓kend_ct, ↓kend_ex, vr_some, gt_0, gt_s, stn_0, stn_s, wip_0, wip_s, wips_0, wips_s, neg_i, isi_s, o_i, tru_non, tru_bl, tru_int, tru_tup, tru_rol, c_Eq, c_NotEq, c_Lt, c_LtE, c_Gt, c_GtE, cs_Eq, cs_NotEq, cb_Eq, cb_NotEq, c2_Eq, c2_NotEq, is_non, isnot_non, is_bl, isnot_bl, is_int, isnot_int, is_str, isnot_str, is_tup, isnot_tup, is_rol, isnot_rol, is_ref, isnot_ref, is_b, isnot_b, in_s, notin_s, b_add, b_sub, b_mul, b_fdiv, b_mod, b_pow, b_addt, b_adds, atI0, atI1, atI2, atI3, slc_t, slc_r, len_s, abs_i, int_i, int_b, min_i, max_i, gcd_i, seq_t, seq_r, r1_i, r2_i, r3_i, a_nm, a_nil, a_cons, vrl_some, vrn_some, put_lget, Option.isSome_some, tru_ref, b_addl, idx_t, idx_r, idx_l, slc_l, len_t, len_r, len_l, tuple_t, tuple_r, tuple_l, list_t, list_r, list_l, app_l, rev_l, pop_l, popat_l, mT_l, seq_l, enu_l, zip_l, rev_i, rev_t, in_t, notin_t, fl_s, fl_i, fl_b, fl_n, inL_nil, inL_ss, inL_ii, List.all_cons, List.all_nil, Bool.and_self, Bool.and_true, Bool.true_and, zip_t, a_t, a_l, sub_l, isTs, isT, Option.map_some, List.length_cons, List.length_nil, Nat.reduceAdd, Nat.reduceSub, Nat.reduceLT, Nat.zero_add, Bool.false_eq_true, Bool.true_eq_false, if_false, if_true, decide_eq_true_eq, Bool.not_true, Bool.not_false, ite_true, ite_false, reduceIte, Bool.not_eq_true', decide_eq_false_iff_not, Int.cast_ofNat_Int, Int.reduceEq, Int.reduceLT, Int.reduceLE, Int.reduceNeg, Int.reduceAdd, Int.reduceSub, Int.reduceMul, Int.reduceToNat, decide_true, decide_false, not_true, not_false, not_true_eq_false, not_false_eq_true, true_and, and_true, eq_self, reduceCtorEq, List.isEmpty_nil, List.isEmpty_cons, List.nil_append, List.cons_append]
        refine two_ok (o := .sub) (u := (v, s)) hb hy ?_
        exact h
      | mul =>
        refine call_of t_law_slope rfl ?_
        simp -dsimp -implicitDefEqProofs only [ent, List.map_cons, List.map_nil, List.length_cons, List.length_nil, Nat.reduceAdd, Nat.reduceSub, Nat.zero_add, List.replicate, List.cons_append, List.nil_append, F_law_slope, XD]
        simp -dsimp -implicitDefEqProofs only [↓cov3, ↓cov2, ↓cov1, ↓E_var, ↓E_int, ↓E_bl, ↓E_non, ↓E_str, ↓E_glo, ↓E_tup, ↓E_lst, ↓E_bin, ↓E_neg, ↓E_cmp, ↓E_chn, ↓E_and, ↓E_or, ↓E_one, ↓E_not, ↓E_ifx, ↓E_idx, ↓E_slc, ↓E_call, ↓E_bi, ↓E_isi, ↓E_mth, ↓E_lc, ↓Es_nil, ↓Es_cons, ↓O_no, ↓O_some, ↓Q_no, ↓Q_c, ↓C_and, ↓C_or, ↓C_one, ↓C_not, ↓C_cmp, ↓C_chn, ↓C_v, ↓I_seq, ↓I_rng1, ↓I_rng2, ↓I_rng3, ↓I_enu, ↓I_zip, ↓I_rev, ↓S_set, ↓S_asg, ↓S_par2, ↓S_sub, ↓S_expr, ↓S_ret, ↓S_retN, ↓S_ifs, ↓S_for, ↓S_brk, ↓S_cnt, ↓S_pass, ↓S_raise, ↓S_try, ↓S_never, ex_t, ex_f, ↓S_nil, ↓S_cons, ↓kN_nx, ↓kN_rt, ↓kN_bk, ↓kN_ct, ↓kN_ex, ↓kL_nx, ↓kL_rt, ↓kL_bk, ↓kL_ct, ↓kL_ex, ↓kX_nx, ↓kX_rt, ↓kX_bk, ↓kX_ct, ↓kX_ex, ↓kend_nx, ↓kend_rt, ↓kend_bk, ↓kend_ct, ↓kend_ex, vr_some, gt_0, gt_s, stn_0, stn_s, wip_0, wip_s, wips_0, wips_s, neg_i, isi_s, o_i, tru_non, tru_bl, tru_int, tru_tup, tru_rol, c_Eq, c_NotEq, c_Lt, c_LtE, c_Gt, c_GtE, cs_Eq, cs_NotEq, cb_Eq, cb_NotEq, c2_Eq, c2_NotEq, is_non, isnot_non, is_bl, isnot_bl, is_int, isnot_int, is_str, isnot_str, is_tup, isnot_tup, is_rol, isnot_rol, is_ref, isnot_ref, is_b, isnot_b, in_s, notin_s, b_add, b_sub, b_mul, b_fdiv, b_mod, b_pow, b_addt, b_adds, atI0, atI1, atI2, atI3, slc_t, slc_r, len_s, abs_i, int_i, int_b, min_i, max_i, gcd_i, seq_t, seq_r, r1_i, r2_i, r3_i, a_nm, a_nil, a_cons, vrl_some, vrn_some, put_lget, Option.isSome_some, tru_ref, b_addl, idx_t, idx_r, idx_l, slc_l, len_t, len_r, len_l, tuple_t, tuple_r, tuple_l, list_t, list_r, list_l, app_l, rev_l, pop_l, popat_l, mT_l, seq_l, enu_l, zip_l, rev_i, rev_t, in_t, notin_t, fl_s, fl_i, fl_b, fl_n, inL_nil, inL_ss, inL_ii, List.all_cons, List.all_nil, Bool.and_self, Bool.and_true, Bool.true_and, zip_t, a_t, a_l, sub_l, isTs, isT, Option.map_some, List.length_cons, List.length_nil, Nat.reduceAdd, Nat.reduceSub, Nat.reduceLT, Nat.zero_add, Bool.false_eq_true, Bool.true_eq_false, if_false, if_true, decide_eq_true_eq, Bool.not_true, Bool.not_false, ite_true, ite_false, reduceIte, Bool.not_eq_true', decide_eq_false_iff_not, Int.cast_ofNat_Int, Int.reduceEq, Int.reduceLT, Int.reduceLE, Int.reduceNeg, Int.reduceAdd, Int.reduceSub, Int.reduceMul, Int.reduceToNat, decide_true, decide_false, not_true, not_false, not_true_eq_false, not_false_eq_true, true_and, and_true, eq_self, reduceCtorEq, List.isEmpty_nil, List.isEmpty_cons, List.nil_append, List.cons_append, lit_inj, String.reduceEq, inL_ss, Bool.or_false, Bool.false_or, Bool.or_true, Bool.true_or, opS]
        refine slope_ok j hq n a S _ _ (by omega) hw.1 ?_
        rw [ha]
        simp -dsimp -implicitDefEqProofs only [↓cov3, ↓cov2, ↓cov1, ↓E_var, ↓E_int, ↓E_bl, ↓E_non, ↓E_str, ↓E_glo, ↓E_tup, ↓E_lst, ↓E_bin, ↓E_neg, ↓E_cmp, ↓E_chn, ↓E_and, ↓E_or, ↓E_one, ↓E_not, ↓E_ifx, ↓E_idx, ↓E_slc, ↓E_call, ↓E_bi, ↓E_isi, ↓E_mth, ↓E_lc, ↓Es_nil, ↓Es_cons, ↓O_no, ↓O_some, ↓Q_no, ↓Q_c, ↓C_and, ↓C_or, ↓C_one, ↓C_not, ↓C_cmp, ↓C_chn, ↓C_v, ↓I_seq, ↓I_rng1, ↓I_rng2, ↓I_rng3, ↓I_enu, ↓I_zip, ↓I_rev, ↓S_set, ↓S_asg, ↓S_par2, ↓S_sub, ↓S_expr, ↓S_ret, ↓S_retN, ↓S_ifs, ↓S_for, ↓S_brk, ↓S_cnt, ↓S_pass, ↓S_raise, ↓S_try, ↓S_never, ex_t, ex_f, ↓S_nil, ↓S_cons, ↓kN_nx, ↓kN_rt, ↓kN_bk, ↓kN_ct, ↓kN_ex, ↓kL_nx, ↓kL_rt, ↓kL_bk, ↓kL_ct, ↓kL_ex, ↓kX_nx, ↓kX_rt, ↓kX_bk, ↓kX_ct, ↓kX_ex, ↓kend_nx, ↓kend_rt, ↓kend_bk, ↓kend_ct, ↓kend_ex, vr_some, gt_0, gt_s, stn_0, stn_s, wip_0, wip_s, wips_0, wips_s, neg_i, isi_s, o_i, tru_non, tru_bl, tru_int, tru_tup, tru_rol, c_Eq, c_NotEq, c_Lt, c_LtE, c_Gt, c_GtE, cs_Eq, cs_NotEq, cb_Eq, cb_NotEq, c2_Eq, c2_NotEq, is_non, isnot_non, is_bl, isnot_bl, is_int, isnot_int, is_str, isnot_str, is_tup, isnot_tup, is_rol, isnot_rol, is_ref, isnot_ref, is_b, isnot_b, in_s, notin_s, b_add, b_sub, b_mul, b_fdiv, b_mod, b_pow, b_addt, b_adds, atI0, atI1, atI2, atI3, slc_t, slc_r, len_s, abs_i, int_i, int_b, min_i, max_i, gcd_i, seq_t, seq_r, r1_i, r2_i, r3_i, a_nm, a_nil, a_cons, vrl_some, vrn_some, put_lget, Option.isSome_some, tru_ref, b_addl, idx_t, idx_r, idx_l, slc_l, len_t, len_r, len_l, tuple_t, tuple_r, tuple_l, list_t, list_r, list_l, app_l, rev_l, pop_l, popat_l, mT_l, seq_l, enu_l, zip_l, rev_i, rev_t, in_t, notin_t, fl_s, fl_i, fl_b, fl_n, inL_nil, inL_ss, inL_ii, List.all_cons, List.all_nil, Bool.and_self, Bool.and_true, Bool.true_and, zip_t, a_t, a_l, sub_l, isTs, isT, Option.map_some, List.length_cons, List.length_nil, Nat.reduceAdd, Nat.reduceSub, Nat.reduceLT, Nat.zero_add, Bool.false_eq_true, Bool.true_eq_false, if_false, if_true, decide_eq_true_eq, Bool.not_true, Bool.not_false, ite_true, ite_false, reduceIte, Bool.not_eq_true', decide_eq_false_iff_not, Int.cast_ofNat_Int, Int.reduceEq, Int.reduceLT, Int.reduceLE, Int.reduceNeg, Int.reduceAdd, Int.reduceSub, Int.reduceMul, Int.reduceToNat, decide_true, decide_false, not_true, not_false, not_true_eq_false, not_false_eq_true, true_and, and_true, eq_self, reduceCtorEq, List.isEmpty_nil, List.isEmpty_cons, List.nil_append, List.cons_append, lit_inj, String.reduceEq, inL_ss, Bool.or_false, Bool.false_or, Bool.or_true, Bool.true_or, SD, opS]
        refine slope_ok j hq n b S _ _ (by omega) hw.2 ?_
        simp -dsimp -implicitDefEqProofs only [↓cov3, ↓cov2, ↓cov1, ↓E_var, ↓E_int, ↓E_bl, ↓E_non, ↓E_str, ↓E_glo, ↓E_tup, ↓E_lst, ↓E_bin, ↓E_neg, ↓E_cmp, ↓E_chn, ↓E_and, ↓E_or, ↓E_one, ↓E_not, ↓E_ifx, ↓E_idx, ↓E_slc, ↓E_call, ↓E_bi, ↓E_isi, ↓E_mth, ↓E_lc, ↓Es_nil, ↓Es_cons, ↓O_no, ↓O_some, ↓Q_no, ↓Q_c, ↓C_and, ↓C_or, ↓C_one, ↓C_not, ↓C_cmp, ↓C_chn, ↓C_v, ↓I_seq, ↓I_rng1, ↓I_rng2, ↓I_rng3, ↓I_enu, ↓I_zip, ↓I_rev, ↓S_set, ↓S_asg, ↓S_par2, ↓S_sub, ↓S_expr, ↓S_ret, ↓S_retN, ↓S_ifs, ↓S_for, ↓S_brk, ↓S_cnt, ↓S_pass, ↓S_raise, ↓S_try, ↓S_never, ex_t, ex_f, ↓S_nil, ↓S_cons, ↓kN_nx, ↓kN_rt, ↓kN_bk, ↓kN_ct, ↓kN_ex, ↓kL_nx, ↓kL_rt, ↓kL_bk, ↓kL_ct, ↓kL_ex, ↓kX_nx, ↓kX_rt, ↓kX_bk, ↓kX_ct, ↓kX_ex, ↓kend_nx, ↓kend_rt, ↓kend_bk, ↓kend_ct, ↓kend_ex, vr_some, gt_0, gt_s, stn_0, stn_s, wip_0, wip_s, wips_0, wips_s, neg_i, isi_s, o_i, tru_non, tru_bl, tru_int, tru_tup, tru_rol, c_Eq, c_NotEq, c_Lt, c_LtE, c_Gt, c_GtE, cs_Eq, cs_NotEq, cb_Eq, cb_NotEq, c2_Eq, c2_NotEq, is_non, isnot_non, is_bl, isnot_bl, is_int, isnot_int, is_str, isnot_str, is_tup, isnot_tup, is_rol, isnot_rol, is_ref, isnot_ref, is_b, isnot_b, in_s, notin_s, b_add, b_sub, b_mul, b_fdiv, b_mod, b_pow, b_addt, b_adds, atI0, atI1, atI2, atI3, slc_t, slc_r, len_s, abs_i, int_i, int_b, min_i, max_i, gcd_i, seq_t, seq_r, r1_i, r2_i, r3_i, a_nm, a_nil, a_cons, vrl_some, vrn_some, put_lget, Option.isSome_some, tru_ref, b_addl, idx_t, idx_r, idx_l, slc_l, len_t, len_r, len_l, tuple_t, tuple_r, tuple_l, list_t, list_r, list_l, app_l, rev_l, pop_l, popat_l, mT_l, seq_l, enu_l, zip_l, rev_i, rev_t, in_t, notin_t, fl_s, fl_i, fl_b, fl_n, inL_nil, inL_ss, inL_ii, List.all_cons, List.all_nil, Bool.and_self, Bool.and_true, Bool.true_and, zip_t, a_t, a_l, sub_l, isTs, isT, Option.map_some, List.length_cons, List.length_nil, Nat.reduceAdd, Nat.reduceSub, Nat.reduceLT, Nat.zero_add, Bool.false_eq_true, Bool.true_eq_false, if_false, if_true, decide_eq_true_eq, Bool.not_true, Bool.not_false, ite_true, ite_false, reduceIte, Bool.not_eq_true', decide_eq_false_iff_not, Int.cast_ofNat_Int, Int.reduceEq, Int.reduceLT, Int.reduceLE, Int.reduceNeg, Int.reduceAdd, Int.reduceSub, Int.reduceMul, Int.reduceToNat, decide_true, decide_false, not_true, not_false, not_true_eq_false, not_false_eq_true, true_and, and_true, eq_self, reduceCtorEq, List.isEmpty_nil, List.isEmpty_cons, List.nil_append, List.cons_append]
        refine two_ok (o := .mul) (u := (v, s)) hb hy ?_
        exact h
      | div =>
        refine call_of t_law_slope rfl ?_
        simp -dsimp -implicitDefEqProofs only [ent, List.map_cons, List.map_nil, List.length_cons, List.length_nil, Nat.reduceAdd, Nat.reduceSub, Nat.zero_add, List.replicate, List.cons_append, List.nil_append, F_law_slope, XD]
        simp -dsimp -implicitDefEqProofs only [↓cov3, ↓cov2, ↓cov1, ↓E_var, ↓E_int, ↓E_bl, ↓E_non, ↓E_str, ↓E_glo, ↓E_tup, ↓E_lst, ↓E_bin, ↓E_neg, ↓E_cmp, ↓E_chn, ↓E_and, ↓E_or, ↓E_one, ↓E_not, ↓E_ifx, ↓E_idx, ↓E_slc, ↓E_call, ↓E_bi, ↓E_isi, ↓E_mth, ↓E_lc, ↓Es_nil, ↓Es_cons, ↓O_no, ↓O_some, ↓Q_no, ↓Q_c, ↓C_and, ↓C_or, ↓C_one, ↓C_not, ↓C_cmp, ↓C_chn, ↓C_v, ↓I_seq, ↓I_rng1, ↓I_rng2, ↓I_rng3, ↓I_enu, ↓I_zip, ↓I_rev, ↓S_set, ↓S_asg, ↓S_par2, ↓S_sub, ↓S_expr, ↓S_ret, ↓S_retN, ↓S_ifs, ↓S_for, ↓S_brk, ↓S_cnt, ↓S_pass, ↓S_raise, ↓S_try, ↓S_never, ex_t, ex_f, ↓S_nil, ↓S_cons, ↓kN_nx, ↓kN_rt, ↓kN_bk, ↓kN_ct, ↓kN_ex, ↓kL_nx, ↓kL_rt, ↓kL_bk, ↓kL_ct, ↓kL_ex, ↓kX_nx, ↓kX_rt, ↓kX_bk, ↓kX_ct, ↓kX_ex, ↓kend_nx, ↓kend_rt, ↓kend_bk, ↓kend_ct, ↓kend_ex, vr_some, gt_0, gt_s, stn_0, stn_s, wip_0, wip_s, wips_0, wips_s, neg_i, isi_s, o_i, tru_non, tru_bl, tru_int, tru_tup, tru_rol, c_Eq, c_NotEq, c_Lt, c_LtE, c_Gt, c_GtE, cs_Eq, cs_NotEq, cb_Eq, cb_NotEq, c2_Eq, c2_NotEq, is_non, isnot_non, is_bl, isnot_bl, is_int, isnot_int, is_str, isnot_str, is_tup, isnot_tup, is_rol, isnot_rol, is_ref, isnot_ref, is_b, isnot_b, in_s, notin_s, b_add, b_sub, b_mul, b_fdiv, b_mod, b_pow, b_addt, b_adds, atI0, atI1, atI2, atI3, slc_t, slc_r, len_s, abs_i, int_i, int_b, min_i, max_i, gcd_i, seq_t, seq_r, r1_i, r2_i, r3_i, a_nm, a_nil, a_cons, vrl_some, vrn_some, put_lget, Option.isSome_some, tru_ref, b_addl, idx_t, idx_r, idx_l, slc_l, len_t, len_r, len_l, tuple_t, tuple_r, tuple_l, list_t, list_r, list_l, app_l, rev_l, pop_l, popat_l, mT_l, seq_l, enu_l, zip_l, rev_i, rev_t, in_t, notin_t, fl_s, fl_i, fl_b, fl_n, inL_nil, inL_ss, inL_ii, List.all_cons, List.all_nil, Bool.and_self, Bool.and_true, Bool.true_and, zip_t, a_t, a_l, sub_l, isTs, isT, Option.map_some, List.length_cons, List.length_nil, Nat.reduceAdd, Nat.reduceSub, Nat.reduceLT, Nat.zero_add, Bool.false_eq_true, Bool.true_eq_false, if_false, if_true, decide_eq_true_eq, Bool.not_true, Bool.not_false, ite_true, ite_false, reduceIte, Bool.not_eq_true', decide_eq_false_iff_not, Int.cast_ofNat_Int, Int.reduceEq, Int.reduceLT, Int.reduceLE, Int.reduceNeg, Int.reduceAdd, Int.reduceSub, Int.reduceMul, Int.reduceToNat, decide_true, decide_false, not_true, not_false, not_true_eq_false, not_false_eq_true, true_and, and_true, eq_self, reduceCtorEq, List.isEmpty_nil, List.isEmpty_cons, List.nil_append, List.cons_append, lit_inj, String.reduceEq, inL_ss, Bool.or_false, Bool.false_or, Bool.or_true, Bool.true_or, opS]
        refine slope_ok j hq n a S _ _ (by omega) hw.1 ?_
        rw [ha]
        simp -dsimp -implicitDefEqProofs only [↓cov3, ↓cov2, ↓cov1, ↓E_var, ↓E_int, ↓E_bl, ↓E_non, ↓E_str, ↓E_glo, ↓E_tup, ↓E_lst, ↓E_bin, ↓E_neg, ↓E_cmp, ↓E_chn, ↓E_and, ↓E_or, ↓E_one, ↓E_not, ↓E_ifx, ↓E_idx, ↓E_slc, ↓E_call, ↓E_bi, ↓E_isi, ↓E_mth, ↓E_lc, ↓Es_nil, ↓Es_cons, ↓O_no, ↓O_some, ↓Q_no, ↓Q_c, ↓C_and, ↓C_or, ↓C_one, ↓C_not, ↓C_cmp, ↓C_chn, ↓C_v, ↓I_seq, ↓I_rng1, ↓I_rng2, ↓I_rng3, ↓I_enu, ↓I_zip, ↓I_rev, ↓S_set, ↓S_asg, ↓S_par2, ↓S_sub, ↓S_expr, ↓S_ret, ↓S_retN, ↓S_ifs, ↓S_for, ↓S_brk, ↓S_cnt, ↓S_pass, ↓S_raise, ↓S_try, ↓S_never, ex_t, ex_f, ↓S_nil, ↓S_cons, ↓kN_nx, ↓kN_rt, ↓kN_bk, ↓kN_ct, ↓kN_ex, ↓kL_nx, ↓kL_rt, ↓kL_bk, ↓kL_ct, ↓kL_ex, ↓kX_nx, ↓kX_rt, ↓kX_bk, ↓kX_ct, ↓kX_ex, ↓kend_nx, ↓kend_rt, ↓kend_bk, ↓kend_ct, ↓kend_ex, vr_some, gt_0, gt_s, stn_0, stn_s, wip_0, wip_s, wips_0, wips_s, neg_i, isi_s, o_i, tru_non, tru_bl, tru_int, tru_tup, tru_rol, c_Eq, c_NotEq, c_Lt, c_LtE, c_Gt, c_GtE, cs_Eq, cs_NotEq, cb_Eq, cb_NotEq, c2_Eq, c2_NotEq, is_non, isnot_non, is_bl, isnot_bl, is_int, isnot_int, is_str, isnot_str, is_tup, isnot_tup, is_rol, isnot_rol, is_ref, isnot_ref, is_b, isnot_b, in_s, notin_s, b_add, b_sub, b_mul, b_fdiv, b_mod, b_pow, b_addt, b_adds, atI0, atI1, atI2, atI3, slc_t, slc_r, len_s, abs_i, int_i, int_b, min_i, max_i, gcd_i, seq_t, seq_r, r1_i, r2_i, r3_i, a_nm, a_nil, a_cons, vrl_some, vrn_some, put_lget, Option.isSome_some, tru_ref, b_addl, idx_t, idx_r, idx_l, slc_l, len_t, len_r, len_l, tuple_t, tuple_r, tuple_l, list_t, list_r, list_l, app_l, rev_l, pop_l, popat_l, mT_l, seq_l, enu_l, zip_l, rev_i, rev_t, in_t, notin_t, fl_s, fl_i, fl_b, fl_n, inL_nil, inL_ss, inL_ii, List.all_cons, List.all_nil, Bool.and_self, Bool.and_true, Bool.true_and, zip_t, a_t, a_l, sub_l, isTs, isT, Option.map_some, List.length_cons, List.length_nil, Nat.reduceAdd, Nat.reduceSub, Nat.reduceLT, Nat.zero_add, Bool.false_eq_true, Bool.true_eq_false, if_false, if_true, decide_eq_true_eq, Bool.not_true, Bool.not_false, ite_true, ite_false, reduceIte, Bool.not_eq_true', decide_eq_false_iff_not, Int.cast_ofNat_Int, Int.reduceEq, Int.reduceLT, Int.reduceLE, Int.reduceNeg, Int.reduceAdd, Int.reduceSub, Int.reduceMul, Int.reduceToNat, decide_true, decide_false, not_true, not_false, not_true_eq_false, not_false_eq_true, true_and, and_true, eq_self, reduceCtorEq, List.isEmpty_nil, List.isEmpty_cons, List.nil_append, List.cons_append, lit_inj, String.reduceEq, inL_ss, Bool.or_false, Bool.false_or, Bool.or_true, Bool.true_or, SD, opS]
        refine slope_ok j hq n b S _ _ (by omega) hw.2 ?_
        simp -dsimp -implicitDefEqProofs only [↓cov3, ↓cov2, ↓cov1, ↓E_var, ↓E_int, ↓E_bl, ↓E_non, ↓E_str, ↓E_glo, ↓E_tup, ↓E_lst, ↓E_bin, ↓E_neg, ↓E_cmp, ↓E_chn, ↓E_and, ↓E_or, ↓E_one, ↓E_not, ↓E_ifx, ↓E_idx, ↓E_slc, ↓E_call, ↓E_bi, ↓E_isi, ↓E_mth, ↓E_lc, ↓Es_nil, ↓Es_cons, ↓O_no, ↓O_some, ↓Q_no, ↓Q_c, ↓C_and, ↓C_or, ↓C_one, ↓C_not, ↓C_cmp, ↓C_chn, ↓C_v, ↓I_seq, ↓I_rng1, ↓I_rng2, ↓I_rng3, ↓I_enu, ↓I_zip, ↓I_rev, ↓S_set, ↓S_asg, ↓S_par2, ↓S_sub, ↓S_expr, ↓S_ret, ↓S_retN, ↓S_ifs, ↓S_for, ↓S_brk, ↓S_cnt, ↓S_pass, ↓S_raise, ↓S_try, ↓S_never, ex_t, ex_f, ↓S_nil, ↓S_cons, ↓kN_nx, ↓kN_rt, ↓kN_bk, ↓kN_ct, ↓kN_ex, ↓kL_nx, ↓kL_rt, ↓kL_bk, ↓kL_ct, ↓kL_ex, ↓kX_nx, ↓kX_rt, ↓kX_bk, ↓kX_ct, ↓kX_ex, ↓kend_nx, ↓kend_rt, ↓kend_bk, ↓kend_ct, ↓kend_ex, vr_some, gt_0, gt_s, stn_0, stn_s, wip_0, wip_s, wips_0, wips_s, neg_i, isi_s, o_i, tru_non, tru_bl, tru_int, tru_tup, tru_rol, c_Eq, c_NotEq, c_Lt, c_LtE, c_Gt, c_GtE, cs_Eq, cs_NotEq, cb_Eq, cb_NotEq, c2_Eq, c2_NotEq, is_non, isnot_non, is_bl, isnot_bl, is_int, isnot_int, is_str, isnot_str, is_tup, isnot_tup, is_rol, isnot_rol, is_ref, isnot_ref, is_b, isnot_b, in_s, notin_s, b_add, b_sub, b_mul, b_fdiv, b_mod, b_pow, b_addt, b_adds, atI0, atI1, atI2, atI3, slc_t, slc_r, len_s, abs_i, int_i, int_b, min_i, max_i, gcd_i, seq_t, seq_r, r1_i, r2_i, r3_i, a_nm, a_nil, a_cons, vrl_some, vrn_some, put_lget, Option.isSome_some, tru_ref, b_addl, idx_t, idx_r, idx_l, slc_l, len_t, len_r, len_l, tuple_t, tuple_r, tuple_l, list_t, list_r, list_l, app_l, rev_l, pop_l, popat_l, mT_l, seq_l, enu_l, zip_l, rev_i, rev_t, in_t, notin_t, fl_s, fl_i, fl_b, fl_n, inL_nil, inL_ss, inL_ii, List.all_cons, List.all_nil, Bool.and_self, Bool.and_true, Bool.true_and, zip_t, a_t, a_l, sub_l, isTs, isT, Option.map_some, List.length_cons, List.length_nil, Nat.reduceAdd, Nat.reduceSub, Nat.reduceLT, Nat.zero_add, Bool.false_eq_true, Bool.true_eq_false, if_false, if_true, decide_eq_true_eq, Bool.not_true, Bool.not_false, ite_true, ite_false, reduceIte, Bool.not_eq_true', decide_eq_false_iff_not, Int.cast_ofNat_Int, Int.reduceEq, Int.reduceLT, Int.reduceLE, Int.reduceNeg, Int.reduceAdd, Int.reduceSub, Int.reduceMul, Int.reduceToNat, decide_true, decide_false, not_true, not_false, not_true_eq_false, not_false_eq_true, true_and, and_true, eq_self, reduceCtorEq, List.isEmpty_nil, List.isEmpty_cons, List.nil_append, List.cons_append]
        refine two_ok (o := .div) (u := (v, s)) hb hy ?_
        exact h
theorem main : ∀ ns : List Int, ns.length ≤ 63 → (∀ z ∈ ns, Builtin.Int.intBits z ≤ 1048576) → semF G T 40 "law" [.rol (ns.map D.int)] (fun _ => none) (fun d _ => d = .bl true) (fun _ _ => False) := by
  intro ns hl hb
  refine call_of t_law rfl ?_
  simp -dsimp -implicitDefEqProofs only [ent, List.map_cons, List.map_nil, List.length_cons, List.length_nil, Nat.reduceAdd, Nat.reduceSub, Nat.zero_add, List.replicate, List.cons_append, List.nil_append, F_law]
  simp -dsimp -implicitDefEqProofs only [↓cov3, ↓cov2, ↓cov1, ↓E_var, ↓E_int, ↓E_bl, ↓E_non, ↓E_str, ↓E_glo, ↓E_tup, ↓E_lst, ↓E_bin, ↓E_neg, ↓E_cmp, ↓E_chn, ↓E_and, ↓E_or, ↓E_one, ↓E_not, ↓E_ifx, ↓E_idx, ↓E_slc, ↓E_call, ↓E_bi, ↓E_isi, ↓E_mth, ↓E_lc, ↓Es_nil, ↓Es_cons, ↓O_no, ↓O_some, ↓Q_no, ↓Q_c, ↓C_and, ↓C_or, ↓C_one, ↓C_not, ↓C_cmp, ↓C_chn, ↓C_v, ↓I_seq, ↓I_rng1, ↓I_rng2, ↓I_rng3, ↓I_enu, ↓I_zip, ↓I_rev, ↓S_set, ↓S_asg, ↓S_par2, ↓S_sub, ↓S_expr, ↓S_ret, ↓S_retN, ↓S_ifs, ↓S_for, ↓S_brk, ↓S_cnt, ↓S_pass, ↓S_raise, ↓S_try, ↓S_never, ex_t, ex_f, ↓S_nil, ↓S_cons, ↓kN_nx, ↓kN_rt, ↓kN_bk, ↓kN_ct, ↓kN_ex, ↓kL_nx, ↓kL_rt, ↓kL_bk, ↓kL_ct, ↓kL_ex, ↓kX_nx, ↓kX_rt, ↓kX_bk, ↓kX_ct, ↓kX_ex, ↓kend_nx, ↓kend_rt, ↓kend_bk, ↓kend_ct, ↓kend_ex, vr_some, gt_0, gt_s, stn_0, stn_s, wip_0, wip_s, wips_0, wips_s, neg_i, isi_s, o_i, tru_non, tru_bl, tru_int, tru_tup, tru_rol, c_Eq, c_NotEq, c_Lt, c_LtE, c_Gt, c_GtE, cs_Eq, cs_NotEq, cb_Eq, cb_NotEq, c2_Eq, c2_NotEq, is_non, isnot_non, is_bl, isnot_bl, is_int, isnot_int, is_str, isnot_str, is_tup, isnot_tup, is_rol, isnot_rol, is_ref, isnot_ref, is_b, isnot_b, in_s, notin_s, b_add, b_sub, b_mul, b_fdiv, b_mod, b_pow, b_addt, b_adds, atI0, atI1, atI2, atI3, slc_t, slc_r, len_s, abs_i, int_i, int_b, min_i, max_i, gcd_i, seq_t, seq_r, r1_i, r2_i, r3_i, a_nm, a_nil, a_cons, vrl_some, vrn_some, put_lget, Option.isSome_some, tru_ref, b_addl, idx_t, idx_r, idx_l, slc_l, len_t, len_r, len_l, tuple_t, tuple_r, tuple_l, list_t, list_r, list_l, app_l, rev_l, pop_l, popat_l, mT_l, seq_l, enu_l, zip_l, rev_i, rev_t, in_t, notin_t, fl_s, fl_i, fl_b, fl_n, inL_nil, inL_ss, inL_ii, List.all_cons, List.all_nil, Bool.and_self, Bool.and_true, Bool.true_and, zip_t, a_t, a_l, sub_l, isTs, isT, Option.map_some, List.length_cons, List.length_nil, Nat.reduceAdd, Nat.reduceSub, Nat.reduceLT, Nat.zero_add, Bool.false_eq_true, Bool.true_eq_false, if_false, if_true, decide_eq_true_eq, Bool.not_true, Bool.not_false, ite_true, ite_false, reduceIte, Bool.not_eq_true', decide_eq_false_iff_not, Int.cast_ofNat_Int, Int.reduceEq, Int.reduceLT, Int.reduceLE, Int.reduceNeg, Int.reduceAdd, Int.reduceSub, Int.reduceMul, Int.reduceToNat, decide_true, decide_false, not_true, not_false, not_true_eq_false, not_false_eq_true, true_and, and_true, eq_self, reduceCtorEq, List.isEmpty_nil, List.isEmpty_cons, List.nil_append, List.cons_append]
  refine numbers_ok hl fun row r S1 hr => ?_
  simp -dsimp -implicitDefEqProofs only [↓cov3, ↓cov2, ↓cov1, ↓E_var, ↓E_int, ↓E_bl, ↓E_non, ↓E_str, ↓E_glo, ↓E_tup, ↓E_lst, ↓E_bin, ↓E_neg, ↓E_cmp, ↓E_chn, ↓E_and, ↓E_or, ↓E_one, ↓E_not, ↓E_ifx, ↓E_idx, ↓E_slc, ↓E_call, ↓E_bi, ↓E_isi, ↓E_mth, ↓E_lc, ↓Es_nil, ↓Es_cons, ↓O_no, ↓O_some, ↓Q_no, ↓Q_c, ↓C_and, ↓C_or, ↓C_one, ↓C_not, ↓C_cmp, ↓C_chn, ↓C_v, ↓I_seq, ↓I_rng1, ↓I_rng2, ↓I_rng3, ↓I_enu, ↓I_zip, ↓I_rev, ↓S_set, ↓S_asg, ↓S_par2, ↓S_sub, ↓S_expr, ↓S_ret, ↓S_retN, ↓S_ifs, ↓S_for, ↓S_brk, ↓S_cnt, ↓S_pass, ↓S_raise, ↓S_try, ↓S_never, ex_t, ex_f, ↓S_nil, ↓S_cons, ↓kN_nx, ↓kN_rt, ↓kN_bk, ↓kN_ct, ↓kN_ex, ↓kL_nx, ↓kL_rt, ↓kL_bk, ↓kL_ct, ↓kL_ex, ↓kX_nx, ↓kX_rt, ↓kX_bk, ↓kX_ct, ↓kX_ex, ↓kend_nx, ↓kend_rt, ↓kend_bk, ↓kend_ct, ↓kend_ex, vr_some, gt_0, gt_s, stn_0, stn_s, wip_0, wip_s, wips_0, wips_s, neg_i, isi_s, o_i, tru_non, tru_bl, tru_int, tru_tup, tru_rol, c_Eq, c_NotEq, c_Lt, c_LtE, c_Gt, c_GtE, cs_Eq, cs_NotEq, cb_Eq, cb_NotEq, c2_Eq, c2_NotEq, is_non, isnot_non, is_bl, isnot_bl, is_int, isnot_int, is_str, isnot_str, is_tup, isnot_tup, is_rol, isnot_rol, is_ref, isnot_ref, is_b, isnot_b, in_s, notin_s, b_add, b_sub, b_mul, b_fdiv, b_mod, b_pow, b_addt, b_adds, atI0, atI1, atI2, atI3, slc_t, slc_r, len_s, abs_i, int_i, int_b, min_i, max_i, gcd_i, seq_t, seq_r, r1_i, r2_i, r3_i, a_nm, a_nil, a_cons, vrl_some, vrn_some, put_lget, Option.isSome_some, tru_ref, b_addl, idx_t, idx_r, idx_l, slc_l, len_t, len_r, len_l, tuple_t, tuple_r, tuple_l, list_t, list_r, list_l, app_l, rev_l, pop_l, popat_l, mT_l, seq_l, enu_l, zip_l, rev_i, rev_t, in_t, notin_t, fl_s, fl_i, fl_b, fl_n, inL_nil, inL_ss, inL_ii, List.all_cons, List.all_nil, Bool.and_self, Bool.and_true, Bool.true_and, zip_t, a_t, a_l, sub_l, isTs, isT, Option.map_some, List.length_cons, List.length_nil, Nat.reduceAdd, Nat.reduceSub, Nat.reduceLT, Nat.zero_add, Bool.false_eq_true, Bool.true_eq_false, if_false, if_true, decide_eq_true_eq, Bool.not_true, Bool.not_false, ite_true, ite_false, reduceIte, Bool.not_eq_true', decide_eq_false_iff_not, Int.cast_ofNat_Int, Int.reduceEq, Int.reduceLT, Int.reduceLE, Int.reduceNeg, Int.reduceAdd, Int.reduceSub, Int.reduceMul, Int.reduceToNat, decide_true, decide_false, not_true, not_false, not_true_eq_false, not_false_eq_true, true_and, and_true, eq_self, reduceCtorEq, List.isEmpty_nil, List.isEmpty_cons, List.nil_append, List.cons_append]
  refine next_ok hr (by decide) fun v1 S2 a1 a2 m1 => ?_
  obtain ⟨row2, hr2⟩ := m1.2
  simp -dsimp -implicitDefEqProofs only [↓cov3, ↓cov2, ↓cov1, ↓E_var, ↓E_int, ↓E_bl, ↓E_non, ↓E_str, ↓E_glo, ↓E_tup, ↓E_lst, ↓E_bin, ↓E_neg, ↓E_cmp, ↓E_chn, ↓E_and, ↓E_or, ↓E_one, ↓E_not, ↓E_ifx, ↓E_idx, ↓E_slc, ↓E_call, ↓E_bi, ↓E_isi, ↓E_mth, ↓E_lc, ↓Es_nil, ↓Es_cons, ↓O_no, ↓O_some, ↓Q_no, ↓Q_c, ↓C_and, ↓C_or, ↓C_one, ↓C_not, ↓C_cmp, ↓C_chn, ↓C_v, ↓I_seq, ↓I_rng1, ↓I_rng2, ↓I_rng3, ↓I_enu, ↓I_zip, ↓I_rev, ↓S_set, ↓S_asg, ↓S_par2, ↓S_sub, ↓S_expr, ↓S_ret, ↓S_retN, ↓S_ifs, ↓S_for, ↓S_brk, ↓S_cnt, ↓S_pass, ↓S_raise, ↓S_try, ↓S_never, ex_t, ex_f, ↓S_nil, ↓S_cons, ↓kN_nx, ↓kN_rt, ↓kN_bk, ↓kN_ct, ↓kN_ex, ↓kL_nx, ↓kL_rt, ↓kL_bk, ↓kL_ct, ↓kL_ex, ↓kX_nx, ↓kX_rt, ↓kX_bk, ↓kX_ct, ↓kX_ex, ↓kend_nx, ↓kend_rt, ↓kend_bk, ↓kend_ct, ↓kend_ex, vr_some, gt_0, gt_s, stn_0, stn_s, wip_0, wip_s, wips_0, wips_s, neg_i, isi_s, o_i, tru_non, tru_bl, tru_int, tru_tup, tru_rol, c_Eq, c_NotEq, c_Lt, c_LtE, c_Gt, c_GtE, cs_Eq, cs_NotEq, cb_Eq, cb_NotEq, c2_Eq, c2_NotEq, is_non, isnot_non, is_bl, isnot_bl, is_int, isnot_int, is_str, isnot_str, is_tup, isnot_tup, is_rol, isnot_rol, is_ref, isnot_ref, is_b, isnot_b, in_s, notin_s, b_add, b_sub, b_mul, b_fdiv, b_mod, b_pow, b_addt, b_adds, atI0, atI1, atI2, atI3, slc_t, slc_r, len_s, abs_i, int_i, int_b, min_i, max_i, gcd_i, seq_t, seq_r, r1_i, r2_i, r3_i, a_nm, a_nil, a_cons, vrl_some, vrn_some, put_lget, Option.isSome_some, tru_ref, b_addl, idx_t, idx_r, idx_l, slc_l, len_t, len_r, len_l, tuple_t, tuple_r, tuple_l, list_t, list_r, list_l, app_l, rev_l, pop_l, popat_l, mT_l, seq_l, enu_l, zip_l, rev_i, rev_t, in_t, notin_t, fl_s, fl_i, fl_b, fl_n, inL_nil, inL_ss, inL_ii, List.all_cons, List.all_nil, Bool.and_self, Bool.and_true, Bool.true_and, zip_t, a_t, a_l, sub_l, isTs, isT, Option.map_some, List.length_cons, List.length_nil, Nat.reduceAdd, Nat.reduceSub, Nat.reduceLT, Nat.zero_add, Bool.false_eq_true, Bool.true_eq_false, if_false, if_true, decide_eq_true_eq, Bool.not_true, Bool.not_false, ite_true, ite_false, reduceIte, Bool.not_eq_true', decide_eq_false_iff_not, Int.cast_ofNat_Int, Int.reduceEq, Int.reduceLT, Int.reduceLE, Int.reduceNeg, Int.reduceAdd, Int.reduceSub, Int.reduceMul, Int.reduceToNat, decide_true, decide_false, not_true, not_false, not_true_eq_false, not_false_eq_true, true_and, and_true, eq_self, reduceCtorEq, List.isEmpty_nil, List.isEmpty_cons, List.nil_append, List.cons_append]
  refine next_ok hr2 (by decide) fun v2 S3 b1 b2 m2 => ?_
  obtain ⟨row3, hr3⟩ := m2.2
  simp -dsimp -implicitDefEqProofs only [↓cov3, ↓cov2, ↓cov1, ↓E_var, ↓E_int, ↓E_bl, ↓E_non, ↓E_str, ↓E_glo, ↓E_tup, ↓E_lst, ↓E_bin, ↓E_neg, ↓E_cmp, ↓E_chn, ↓E_and, ↓E_or, ↓E_one, ↓E_not, ↓E_ifx, ↓E_idx, ↓E_slc, ↓E_call, ↓E_bi, ↓E_isi, ↓E_mth, ↓E_lc, ↓Es_nil, ↓Es_cons, ↓O_no, ↓O_some, ↓Q_no, ↓Q_c, ↓C_and, ↓C_or, ↓C_one, ↓C_not, ↓C_cmp, ↓C_chn, ↓C_v, ↓I_seq, ↓I_rng1, ↓I_rng2, ↓I_rng3, ↓I_enu, ↓I_zip, ↓I_rev, ↓S_set, ↓S_asg, ↓S_par2, ↓S_sub, ↓S_expr, ↓S_ret, ↓S_retN, ↓S_ifs, ↓S_for, ↓S_brk, ↓S_cnt, ↓S_pass, ↓S_raise, ↓S_try, ↓S_never, ex_t, ex_f, ↓S_nil, ↓S_cons, ↓kN_nx, ↓kN_rt, ↓kN_bk, ↓kN_ct, ↓kN_ex, ↓kL_nx, ↓kL_rt, ↓kL_bk, ↓kL_ct, ↓kL_ex, ↓kX_nx, ↓kX_rt, ↓kX_bk, ↓kX_ct, ↓kX_ex, ↓kend_nx, ↓kend_rt, ↓kend_bk, ↓kend_ct, ↓kend_ex, vr_some, gt_0, gt_s, stn_0, stn_s, wip_0, wip_s, wips_0, wips_s, neg_i, isi_s, o_i, tru_non, tru_bl, tru_int, tru_tup, tru_rol, c_Eq, c_NotEq, c_Lt, c_LtE, c_Gt, c_GtE, cs_Eq, cs_NotEq, cb_Eq, cb_NotEq, c2_Eq, c2_NotEq, is_non, isnot_non, is_bl, isnot_bl, is_int, isnot_int, is_str, isnot_str, is_tup, isnot_tup, is_rol, isnot_rol, is_ref, isnot_ref, is_b, isnot_b, in_s, notin_s, b_add, b_sub, b_mul, b_fdiv, b_mod, b_pow, b_addt, b_adds, atI0, atI1, atI2, atI3, slc_t, slc_r, len_s, abs_i, int_i, int_b, min_i, max_i, gcd_i, seq_t, seq_r, r1_i, r2_i, r3_i, a_nm, a_nil, a_cons, vrl_some, vrn_some, put_lget, Option.isSome_some, tru_ref, b_addl, idx_t, idx_r, idx_l, slc_l, len_t, len_r, len_l, tuple_t, tuple_r, tuple_l, list_t, list_r, list_l, app_l, rev_l, pop_l, popat_l, mT_l, seq_l, enu_l, zip_l, rev_i, rev_t, in_t, notin_t, fl_s, fl_i, fl_b, fl_n, inL_nil, inL_ss, inL_ii, List.all_cons, List.all_nil, Bool.and_self, Bool.and_true, Bool.true_and, zip_t, a_t, a_l, sub_l, isTs, isT, Option.map_some, List.length_cons, List.length_nil, Nat.reduceAdd, Nat.reduceSub, Nat.reduceLT, Nat.zero_add, Bool.false_eq_true, Bool.true_eq_false, if_false, if_true, decide_eq_true_eq, Bool.not_true, Bool.not_false, ite_true, ite_false, reduceIte, Bool.not_eq_true', decide_eq_false_iff_not, Int.cast_ofNat_Int, Int.reduceEq, Int.reduceLT, Int.reduceLE, Int.reduceNeg, Int.reduceAdd, Int.reduceSub, Int.reduceMul, Int.reduceToNat, decide_true, decide_false, not_true, not_false, not_true_eq_false, not_false_eq_true, true_and, and_true, eq_self, reduceCtorEq, List.isEmpty_nil, List.isEmpty_cons, List.nil_append, List.cons_append]
  have hq : QB (Rat.divInt (v1 - 6) (1 + v2)) 4 := QB.of (by show (v1 - 6).natAbs < 2 ^ 4; omega) (by show (1 + v2).natAbs < 2 ^ 4; omega) (by omega)
  refine fraction_ok (by omega) (Nat.lt_of_lt_of_le (show (1 + v2).natAbs < 2 ^ 4 by omega) (Nat.pow_le_pow_right (by decide) (by decide))) ?_
  generalize Rat.divInt (v1 - 6) (1 + v2) = q at hq
  simp -dsimp -implicitDefEqProofs only [↓cov3, ↓cov2, ↓cov1, ↓E_var, ↓E_int, ↓E_bl, ↓E_non, ↓E_str, ↓E_glo, ↓E_tup, ↓E_lst, ↓E_bin, ↓E_neg, ↓E_cmp, ↓E_chn, ↓E_and, ↓E_or, ↓E_one, ↓E_not, ↓E_ifx, ↓E_idx, ↓E_slc, ↓E_call, ↓E_bi, ↓E_isi, ↓E_mth, ↓E_lc, ↓Es_nil, ↓Es_cons, ↓O_no, ↓O_some, ↓Q_no, ↓Q_c, ↓C_and, ↓C_or, ↓C_one, ↓C_not, ↓C_cmp, ↓C_chn, ↓C_v, ↓I_seq, ↓I_rng1, ↓I_rng2, ↓I_rng3, ↓I_enu, ↓I_zip, ↓I_rev, ↓S_set, ↓S_asg, ↓S_par2, ↓S_sub, ↓S_expr, ↓S_ret, ↓S_retN, ↓S_ifs, ↓S_for, ↓S_brk, ↓S_cnt, ↓S_pass, ↓S_raise, ↓S_try, ↓S_never, ex_t, ex_f, ↓S_nil, ↓S_cons, ↓kN_nx, ↓kN_rt, ↓kN_bk, ↓kN_ct, ↓kN_ex, ↓kL_nx, ↓kL_rt, ↓kL_bk, ↓kL_ct, ↓kL_ex, ↓kX_nx, ↓kX_rt, ↓kX_bk, ↓kX_ct, ↓kX_ex, ↓kend_nx, ↓kend_rt, ↓kend_bk, ↓kend_ct, ↓kend_ex, vr_some, gt_0, gt_s, stn_0, stn_s, wip_0, wip_s, wips_0, wips_s, neg_i, isi_s, o_i, tru_non, tru_bl, tru_int, tru_tup, tru_rol, c_Eq, c_NotEq, c_Lt, c_LtE, c_Gt, c_GtE, cs_Eq, cs_NotEq, cb_Eq, cb_NotEq, c2_Eq, c2_NotEq, is_non, isnot_non, is_bl, isnot_bl, is_int, isnot_int, is_str, isnot_str, is_tup, isnot_tup, is_rol, isnot_rol, is_ref, isnot_ref, is_b, isnot_b, in_s, notin_s, b_add, b_sub, b_mul, b_fdiv, b_mod, b_pow, b_addt, b_adds, atI0, atI1, atI2, atI3, slc_t, slc_r, len_s, abs_i, int_i, int_b, min_i, max_i, gcd_i, seq_t, seq_r, r1_i, r2_i, r3_i, a_nm, a_nil, a_cons, vrl_some, vrn_some, put_lget, Option.isSome_some, tru_ref, b_addl, idx_t, idx_r, idx_l, slc_l, len_t, len_r, len_l, tuple_t, tuple_r, tuple_l, list_t, list_r, list_l, app_l, rev_l, pop_l, popat_l, mT_l, seq_l, enu_l, zip_l, rev_i, rev_t, in_t, notin_t, fl_s, fl_i, fl_b, fl_n, inL_nil, inL_ss, inL_ii, List.all_cons, List.all_nil, Bool.and_self, Bool.and_true, Bool.true_and, zip_t, a_t, a_l, sub_l, isTs, isT, Option.map_some, List.length_cons, List.length_nil, Nat.reduceAdd, Nat.reduceSub, Nat.reduceLT, Nat.zero_add, Bool.false_eq_true, Bool.true_eq_false, if_false, if_true, decide_eq_true_eq, Bool.not_true, Bool.not_false, ite_true, ite_false, reduceIte, Bool.not_eq_true', decide_eq_false_iff_not, Int.cast_ofNat_Int, Int.reduceEq, Int.reduceLT, Int.reduceLE, Int.reduceNeg, Int.reduceAdd, Int.reduceSub, Int.reduceMul, Int.reduceToNat, decide_true, decide_false, not_true, not_false, not_true_eq_false, not_false_eq_true, true_and, and_true, eq_self, reduceCtorEq, List.isEmpty_nil, List.isEmpty_cons, List.nil_append, List.cons_append]
  refine next_ok hr3 (by decide) fun v3 S4 c1 c2 m3 => ?_
  obtain ⟨row4, hr4⟩ := m3.2
  simp -dsimp -implicitDefEqProofs only [↓cov3, ↓cov2, ↓cov1, ↓E_var, ↓E_int, ↓E_bl, ↓E_non, ↓E_str, ↓E_glo, ↓E_tup, ↓E_lst, ↓E_bin, ↓E_neg, ↓E_cmp, ↓E_chn, ↓E_and, ↓E_or, ↓E_one, ↓E_not, ↓E_ifx, ↓E_idx, ↓E_slc, ↓E_call, ↓E_bi, ↓E_isi, ↓E_mth, ↓E_lc, ↓Es_nil, ↓Es_cons, ↓O_no, ↓O_some, ↓Q_no, ↓Q_c, ↓C_and, ↓C_or, ↓C_one, ↓C_not, ↓C_cmp, ↓C_chn, ↓C_v, ↓I_seq, ↓I_rng1, ↓I_rng2, ↓I_rng3, ↓I_enu, ↓I_zip, ↓I_rev, ↓S_set, ↓S_asg, ↓S_par2, ↓S_sub, ↓S_expr, ↓S_ret, ↓S_retN, ↓S_ifs, ↓S_for, ↓S_brk, ↓S_cnt, ↓S_pass, ↓S_raise, ↓S_try, ↓S_never, ex_t, ex_f, ↓S_nil, ↓S_cons, ↓kN_nx, ↓kN_rt, ↓kN_bk, ↓kN_ct, ↓kN_ex, ↓kL_nx, ↓kL_rt, ↓kL_bk, ↓kL_ct, ↓kL_ex, ↓kX_nx, ↓kX_rt, ↓kX_bk, ↓kX_ct, ↓kX_ex, ↓kend_nx, ↓kend_rt, ↓kend_bk, ↓kend_ct, ↓kend_ex, vr_some, gt_0, gt_s, stn_0, stn_s, wip_0, wip_s, wips_0, wips_s, neg_i, isi_s, o_i, tru_non, tru_bl, tru_int, tru_tup, tru_rol, c_Eq, c_NotEq, c_Lt, c_LtE, c_Gt, c_GtE, cs_Eq, cs_NotEq, cb_Eq, cb_NotEq, c2_Eq, c2_NotEq, is_non, isnot_non, is_bl, isnot_bl, is_int, isnot_int, is_str, isnot_str, is_tup, isnot_tup, is_rol, isnot_rol, is_ref, isnot_ref, is_b, isnot_b, in_s, notin_s, b_add, b_sub, b_mul, b_fdiv, b_mod, b_pow, b_addt, b_adds, atI0, atI1, atI2, atI3, slc_t, slc_r, len_s, abs_i, int_i, int_b, min_i, max_i, gcd_i, seq_t, seq_r, r1_i, r2_i, r3_i, a_nm, a_nil, a_cons, vrl_some, vrn_some, put_lget, Option.isSome_some, tru_ref, b_addl, idx_t, idx_r, idx_l, slc_l, len_t, len_r, len_l, tuple_t, tuple_r, tuple_l, list_t, list_r, list_l, app_l, rev_l, pop_l, popat_l, mT_l, seq_l, enu_l, zip_l, rev_i, rev_t, in_t, notin_t, fl_s, fl_i, fl_b, fl_n, inL_nil, inL_ss, inL_ii, List.all_cons, List.all_nil, Bool.and_self, Bool.and_true, Bool.true_and, zip_t, a_t, a_l, sub_l, isTs, isT, Option.map_some, List.length_cons, List.length_nil, Nat.reduceAdd, Nat.reduceSub, Nat.reduceLT, Nat.zero_add, Bool.false_eq_true, Bool.true_eq_false, if_false, if_true, decide_eq_true_eq, Bool.not_true, Bool.not_false, ite_true, ite_false, reduceIte, Bool.not_eq_true', decide_eq_false_iff_not, Int.cast_ofNat_Int, Int.reduceEq, Int.reduceLT, Int.reduceLE, Int.reduceNeg, Int.reduceAdd, Int.reduceSub, Int.reduceMul, Int.reduceToNat, decide_true, decide_false, not_true, not_false, not_true_eq_false, not_false_eq_true, true_and, and_true, eq_self, reduceCtorEq, List.isEmpty_nil, List.isEmpty_cons, List.nil_append, List.cons_append]
  obtain ⟨n, hn, en⟩ : ∃ n : Nat, n ≤ 4 ∧ 1 + v3 = ((n + 1 : Nat) : Int) := ⟨v3.toNat, by omega, by omega⟩
  rw [en]
  rw [show 39 = n + (35 - n) + 4 by omega]
  refine tree_ok n (35 - n) S4 _ _ r row4 hr4 fun e S5 w m4 => ?_
  rw [show n + (35 - n) + 4 = 39 by omega]
  obtain ⟨z1, z2, k1, k2, g1, g2⟩ := wt_z (n + 1) e (by omega) w
  simp -dsimp -implicitDefEqProofs only [↓cov3, ↓cov2, ↓cov1, ↓E_var, ↓E_int, ↓E_bl, ↓E_non, ↓E_str, ↓E_glo, ↓E_tup, ↓E_lst, ↓E_bin, ↓E_neg, ↓E_cmp, ↓E_chn, ↓E_and, ↓E_or, ↓E_one, ↓E_not, ↓E_ifx, ↓E_idx, ↓E_slc, ↓E_call, ↓E_bi, ↓E_isi, ↓E_mth, ↓E_lc, ↓Es_nil, ↓Es_cons, ↓O_no, ↓O_some, ↓Q_no, ↓Q_c, ↓C_and, ↓C_or, ↓C_one, ↓C_not, ↓C_cmp, ↓C_chn, ↓C_v, ↓I_seq, ↓I_rng1, ↓I_rng2, ↓I_rng3, ↓I_enu, ↓I_zip, ↓I_rev, ↓S_set, ↓S_asg, ↓S_par2, ↓S_sub, ↓S_expr, ↓S_ret, ↓S_retN, ↓S_ifs, ↓S_for, ↓S_brk, ↓S_cnt, ↓S_pass, ↓S_raise, ↓S_try, ↓S_never, ex_t, ex_f, ↓S_nil, ↓S_cons, ↓kN_nx, ↓kN_rt, ↓kN_bk, ↓kN_ct, ↓kN_ex, ↓kL_nx, ↓kL_rt, ↓kL_bk, ↓kL_ct, ↓kL_ex, ↓kX_nx, ↓kX_rt, ↓kX_bk, ↓kX_ct, ↓kX_ex, ↓kend_nx, ↓kend_rt, ↓kend_bk, ↓kend_ct, ↓kend_ex, vr_some, gt_0, gt_s, stn_0, stn_s, wip_0, wip_s, wips_0, wips_s, neg_i, isi_s, o_i, tru_non, tru_bl, tru_int, tru_tup, tru_rol, c_Eq, c_NotEq, c_Lt, c_LtE, c_Gt, c_GtE, cs_Eq, cs_NotEq, cb_Eq, cb_NotEq, c2_Eq, c2_NotEq, is_non, isnot_non, is_bl, isnot_bl, is_int, isnot_int, is_str, isnot_str, is_tup, isnot_tup, is_rol, isnot_rol, is_ref, isnot_ref, is_b, isnot_b, in_s, notin_s, b_add, b_sub, b_mul, b_fdiv, b_mod, b_pow, b_addt, b_adds, atI0, atI1, atI2, atI3, slc_t, slc_r, len_s, abs_i, int_i, int_b, min_i, max_i, gcd_i, seq_t, seq_r, r1_i, r2_i, r3_i, a_nm, a_nil, a_cons, vrl_some, vrn_some, put_lget, Option.isSome_some, tru_ref, b_addl, idx_t, idx_r, idx_l, slc_l, len_t, len_r, len_l, tuple_t, tuple_r, tuple_l, list_t, list_r, list_l, app_l, rev_l, pop_l, popat_l, mT_l, seq_l, enu_l, zip_l, rev_i, rev_t, in_t, notin_t, fl_s, fl_i, fl_b, fl_n, inL_nil, inL_ss, inL_ii, List.all_cons, List.all_nil, Bool.and_self, Bool.and_true, Bool.true_and, zip_t, a_t, a_l, sub_l, isTs, isT, Option.map_some, List.length_cons, List.length_nil, Nat.reduceAdd, Nat.reduceSub, Nat.reduceLT, Nat.zero_add, Bool.false_eq_true, Bool.true_eq_false, if_false, if_true, decide_eq_true_eq, Bool.not_true, Bool.not_false, ite_true, ite_false, reduceIte, Bool.not_eq_true', decide_eq_false_iff_not, Int.cast_ofNat_Int, Int.reduceEq, Int.reduceLT, Int.reduceLE, Int.reduceNeg, Int.reduceAdd, Int.reduceSub, Int.reduceMul, Int.reduceToNat, decide_true, decide_false, not_true, not_false, not_true_eq_false, not_false_eq_true, true_and, and_true, eq_self, reduceCtorEq, List.isEmpty_nil, List.isEmpty_cons, List.nil_append, List.cons_append]
  refine diff_ok e 39 _ _ _ (by omega) ?_
  simp -dsimp -implicitDefEqProofs only [↓cov3, ↓cov2, ↓cov1, ↓E_var, ↓E_int, ↓E_bl, ↓E_non, ↓E_str, ↓E_glo, ↓E_tup, ↓E_lst, ↓E_bin, ↓E_neg, ↓E_cmp, ↓E_chn, ↓E_and, ↓E_or, ↓E_one, ↓E_not, ↓E_ifx, ↓E_idx, ↓E_slc, ↓E_call, ↓E_bi, ↓E_isi, ↓E_mth, ↓E_lc, ↓Es_nil, ↓Es_cons, ↓O_no, ↓O_some, ↓Q_no, ↓Q_c, ↓C_and, ↓C_or, ↓C_one, ↓C_not, ↓C_cmp, ↓C_chn, ↓C_v, ↓I_seq, ↓I_rng1, ↓I_rng2, ↓I_rng3, ↓I_enu, ↓I_zip, ↓I_rev, ↓S_set, ↓S_asg, ↓S_par2, ↓S_sub, ↓S_expr, ↓S_ret, ↓S_retN, ↓S_ifs, ↓S_for, ↓S_brk, ↓S_cnt, ↓S_pass, ↓S_raise, ↓S_try, ↓S_never, ex_t, ex_f, ↓S_nil, ↓S_cons, ↓kN_nx, ↓kN_rt, ↓kN_bk, ↓kN_ct, ↓kN_ex, ↓kL_nx, ↓kL_rt, ↓kL_bk, ↓kL_ct, ↓kL_ex, ↓kX_nx, ↓kX_rt, ↓kX_bk, ↓kX_ct, ↓kX_ex, ↓kend_nx, ↓kend_rt, ↓kend_bk, ↓kend_ct, ↓kend_ex, vr_some, gt_0, gt_s, stn_0, stn_s, wip_0, wip_s, wips_0, wips_s, neg_i, isi_s, o_i, tru_non, tru_bl, tru_int, tru_tup, tru_rol, c_Eq, c_NotEq, c_Lt, c_LtE, c_Gt, c_GtE, cs_Eq, cs_NotEq, cb_Eq, cb_NotEq, c2_Eq, c2_NotEq, is_non, isnot_non, is_bl, isnot_bl, is_int, isnot_int, is_str, isnot_str, is_tup, isnot_tup, is_rol, isnot_rol, is_ref, isnot_ref, is_b, isnot_b, in_s, notin_s, b_add, b_sub, b_mul, b_fdiv, b_mod, b_pow, b_addt, b_adds, atI0, atI1, atI2, atI3, slc_t, slc_r, len_s, abs_i, int_i, int_b, min_i, max_i, gcd_i, seq_t, seq_r, r1_i, r2_i, r3_i, a_nm, a_nil, a_cons, vrl_some, vrn_some, put_lget, Option.isSome_some, tru_ref, b_addl, idx_t, idx_r, idx_l, slc_l, len_t, len_r, len_l, tuple_t, tuple_r, tuple_l, list_t, list_r, list_l, app_l, rev_l, pop_l, popat_l, mT_l, seq_l, enu_l, zip_l, rev_i, rev_t, in_t, notin_t, fl_s, fl_i, fl_b, fl_n, inL_nil, inL_ss, inL_ii, List.all_cons, List.all_nil, Bool.and_self, Bool.and_true, Bool.true_and, zip_t, a_t, a_l, sub_l, isTs, isT, Option.map_some, List.length_cons, List.length_nil, Nat.reduceAdd, Nat.reduceSub, Nat.reduceLT, Nat.zero_add, Bool.false_eq_true, Bool.true_eq_false, if_false, if_true, decide_eq_true_eq, Bool.not_true, Bool.not_false, ite_true, ite_false, reduceIte, Bool.not_eq_true', decide_eq_false_iff_not, Int.cast_ofNat_Int, Int.reduceEq, Int.reduceLT, Int.reduceLE, Int.reduceNeg, Int.reduceAdd, Int.reduceSub, Int.reduceMul, Int.reduceToNat, decide_true, decide_false, not_true, not_false, not_true_eq_false, not_false_eq_true, true_and, and_true, eq_self, reduceCtorEq, List.isEmpty_nil, List.isEmpty_cons, List.nil_append, List.cons_append]
  refine lder_ok e 39 _ _ _ (by omega) ?_
  simp -dsimp -implicitDefEqProofs only [↓cov3, ↓cov2, ↓cov1, ↓E_var, ↓E_int, ↓E_bl, ↓E_non, ↓E_str, ↓E_glo, ↓E_tup, ↓E_lst, ↓E_bin, ↓E_neg, ↓E_cmp, ↓E_chn, ↓E_and, ↓E_or, ↓E_one, ↓E_not, ↓E_ifx, ↓E_idx, ↓E_slc, ↓E_call, ↓E_bi, ↓E_isi, ↓E_mth, ↓E_lc, ↓Es_nil, ↓Es_cons, ↓O_no, ↓O_some, ↓Q_no, ↓Q_c, ↓C_and, ↓C_or, ↓C_one, ↓C_not, ↓C_cmp, ↓C_chn, ↓C_v, ↓I_seq, ↓I_rng1, ↓I_rng2, ↓I_rng3, ↓I_enu, ↓I_zip, ↓I_rev, ↓S_set, ↓S_asg, ↓S_par2, ↓S_sub, ↓S_expr, ↓S_ret, ↓S_retN, ↓S_ifs, ↓S_for, ↓S_brk, ↓S_cnt, ↓S_pass, ↓S_raise, ↓S_try, ↓S_never, ex_t, ex_f, ↓S_nil, ↓S_cons, ↓kN_nx, ↓kN_rt, ↓kN_bk, ↓kN_ct, ↓kN_ex, ↓kL_nx, ↓kL_rt, ↓kL_bk, ↓kL_ct, ↓kL_ex, ↓kX_nx, ↓kX_rt, ↓kX_bk, ↓kX_ct, ↓kX_ex, ↓kend_nx, ↓kend_rt, ↓kend_bk, ↓kend_ct, ↓kend_ex, vr_some, gt_0, gt_s, stn_0, stn_s, wip_0, wip_s, wips_0, wips_s, neg_i, isi_s, o_i, tru_non, tru_bl, tru_int, tru_tup, tru_rol, c_Eq, c_NotEq, c_Lt, c_LtE, c_Gt, c_GtE, cs_Eq, cs_NotEq, cb_Eq, cb_NotEq, c2_Eq, c2_NotEq, is_non, isnot_non, is_bl, isnot_bl, is_int, isnot_int, is_str, isnot_str, is_tup, isnot_tup, is_rol, isnot_rol, is_ref, isnot_ref, is_b, isnot_b, in_s, notin_s, b_add, b_sub, b_mul, b_fdiv, b_mod, b_pow, b_addt, b_adds, atI0, atI1, atI2, atI3, slc_t, slc_r, len_s, abs_i, int_i, int_b, min_i, max_i, gcd_i, seq_t, seq_r, r1_i, r2_i, r3_i, a_nm, a_nil, a_cons, vrl_some, vrn_some, put_lget, Option.isSome_some, tru_ref, b_addl, idx_t, idx_r, idx_l, slc_l, len_t, len_r, len_l, tuple_t, tuple_r, tuple_l, list_t, list_r, list_l, app_l, rev_l, pop_l, popat_l, mT_l, seq_l, enu_l, zip_l, rev_i, rev_t, in_t, notin_t, fl_s, fl_i, fl_b, fl_n, inL_nil, inL_ss, inL_ii, List.all_cons, List.all_nil, Bool.and_self, Bool.and_true, Bool.true_and, zip_t, a_t, a_l, sub_l, isTs, isT, Option.map_some, List.length_cons, List.length_nil, Nat.reduceAdd, Nat.reduceSub, Nat.reduceLT, Nat.zero_add, Bool.false_eq_true, Bool.true_eq_false, if_false, if_true, decide_eq_true_eq, Bool.not_true, Bool.not_false, ite_true, ite_false, reduceIte, Bool.not_eq_true', decide_eq_false_iff_not, Int.cast_ofNat_Int, Int.reduceEq, Int.reduceLT, Int.reduceLE, Int.reduceNeg, Int.reduceAdd, Int.reduceSub, Int.reduceMul, Int.reduceToNat, decide_true, decide_false, not_true, not_false, not_true_eq_false, not_false_eq_true, true_and, and_true, eq_self, reduceCtorEq, List.isEmpty_nil, List.isEmpty_cons, List.nil_append, List.cons_append, treq (show hgt (der e) ≤ 64 by omega)]
  rw [show 39 = (n + 1) + (32 - n) + 6 by omega]
  refine slope_ok (32 - n) hq (n + 1) e S5 _ _ (by omega) w ?_
  rw [show (n + 1) + (32 - n) + 6 = 39 by omega]
  cases hs : sl q e with
  | none =>
    simp -dsimp -implicitDefEqProofs only [↓cov3, ↓cov2, ↓cov1, ↓E_var, ↓E_int, ↓E_bl, ↓E_non, ↓E_str, ↓E_glo, ↓E_tup, ↓E_lst, ↓E_bin, ↓E_neg, ↓E_cmp, ↓E_chn, ↓E_and, ↓E_or, ↓E_one, ↓E_not, ↓E_ifx, ↓E_idx, ↓E_slc, ↓E_call, ↓E_bi, ↓E_isi, ↓E_mth, ↓E_lc, ↓Es_nil, ↓Es_cons, ↓O_no, ↓O_some, ↓Q_no, ↓Q_c, ↓C_and, ↓C_or, ↓C_one, ↓C_not, ↓C_cmp, ↓C_chn, ↓C_v, ↓I_seq, ↓I_rng1, ↓I_rng2, ↓I_rng3, ↓I_enu, ↓I_zip, ↓I_rev, ↓S_set, ↓S_asg, ↓S_par2, ↓S_sub, ↓S_expr, ↓S_ret, ↓S_retN, ↓S_ifs, ↓S_for, ↓S_brk, ↓S_cnt, ↓S_pass, ↓S_raise, ↓S_try, ↓S_never, ex_t, ex_f, ↓S_nil, ↓S_cons, ↓kN_nx, ↓kN_rt, ↓kN_bk, ↓kN_ct, ↓kN_ex, ↓kL_nx, ↓kL_rt, ↓kL_bk, ↓kL_ct, ↓kL_ex, ↓kX_nx, ↓kX_rt, ↓kX_bk, ↓kX_ct, ↓kX_ex, ↓kend_nx, ↓kend_rt, ↓kend_bk, ↓kend_ct, ↓kend_ex, vr_some, gt_0, gt_s, stn_0, stn_s, wip_0, wip_s, wips_0, wips_s, neg_i, isi_s, o_i, tru_non, tru_bl, tru_int, tru_tup, tru_rol, c_Eq, c_NotEq, c_Lt, c_LtE, c_Gt, c_GtE, cs_Eq, cs_NotEq, cb_Eq, cb_NotEq, c2_Eq, c2_NotEq, is_non, isnot_non, is_bl, isnot_bl, is_int, isnot_int, is_str, isnot_str, is_tup, isnot_tup, is_rol, isnot_rol, is_ref, isnot_ref, is_b, isnot_b, in_s, notin_s, b_add, b_sub, b_mul, b_fdiv, b_mod, b_pow, b_addt, b_adds, atI0, atI1, atI2, atI3, slc_t, slc_r, len_s, abs_i, int_i, int_b, min_i, max_i, gcd_i, seq_t, seq_r, r1_i, r2_i, r3_i, a_nm, a_nil, a_cons, vrl_some, vrn_some, put_lget, Option.isSome_some, tru_ref, b_addl, idx_t, idx_r, idx_l, slc_l, len_t, len_r, len_l, tuple_t, tuple_r, tuple_l, list_t, list_r, list_l, app_l, rev_l, pop_l, popat_l, mT_l, seq_l, enu_l, zip_l, rev_i, rev_t, in_t, notin_t, fl_s, fl_i, fl_b, fl_n, inL_nil, inL_ss, inL_ii, List.all_cons, List.all_nil, Bool.and_self, Bool.and_true, Bool.true_and, zip_t, a_t, a_l, sub_l, isTs, isT, Option.map_some, List.length_cons, List.length_nil, Nat.reduceAdd, Nat.reduceSub, Nat.reduceLT, Nat.zero_add, Bool.false_eq_true, Bool.true_eq_false, if_false, if_true, decide_eq_true_eq, Bool.not_true, Bool.not_false, ite_true, ite_false, reduceIte, Bool.not_eq_true', decide_eq_false_iff_not, Int.cast_ofNat_Int, Int.reduceEq, Int.reduceLT, Int.reduceLE, Int.reduceNeg, Int.reduceAdd, Int.reduceSub, Int.reduceMul, Int.reduceToNat, decide_true, decide_false, not_true, not_false, not_true_eq_false, not_false_eq_true, true_and, and_true, eq_self, reduceCtorEq, List.isEmpty_nil, List.isEmpty_cons, List.nil_append, List.cons_append, SD]
  | some u =>
    obtain ⟨v, s⟩ := u
    obtain ⟨_, h2⟩ := sl_ev q e v s hs
    simp -dsimp -implicitDefEqProofs only [↓cov3, ↓cov2, ↓cov1, ↓E_var, ↓E_int, ↓E_bl, ↓E_non, ↓E_str, ↓E_glo, ↓E_tup, ↓E_lst, ↓E_bin, ↓E_neg, ↓E_cmp, ↓E_chn, ↓E_and, ↓E_or, ↓E_one, ↓E_not, ↓E_ifx, ↓E_idx, ↓E_slc, ↓E_call, ↓E_bi, ↓E_isi, ↓E_mth, ↓E_lc, ↓Es_nil, ↓Es_cons, ↓O_no, ↓O_some, ↓Q_no, ↓Q_c, ↓C_and, ↓C_or, ↓C_one, ↓C_not, ↓C_cmp, ↓C_chn, ↓C_v, ↓I_seq, ↓I_rng1, ↓I_rng2, ↓I_rng3, ↓I_enu, ↓I_zip, ↓I_rev, ↓S_set, ↓S_asg, ↓S_par2, ↓S_sub, ↓S_expr, ↓S_ret, ↓S_retN, ↓S_ifs, ↓S_for, ↓S_brk, ↓S_cnt, ↓S_pass, ↓S_raise, ↓S_try, ↓S_never, ex_t, ex_f, ↓S_nil, ↓S_cons, ↓kN_nx, ↓kN_rt, ↓kN_bk, ↓kN_ct, ↓kN_ex, ↓kL_nx, ↓kL_rt, ↓kL_bk, ↓kL_ct, ↓kL_ex, ↓kX_nx, ↓kX_rt, ↓kX_bk, ↓kX_ct, ↓kX_ex, ↓kend_nx, ↓kend_rt, ↓kend_bk, ↓kend_ct, ↓kend_ex, vr_some, gt_0, gt_s, stn_0, stn_s, wip_0, wip_s, wips_0, wips_s, neg_i, isi_s, o_i, tru_non, tru_bl, tru_int, tru_tup, tru_rol, c_Eq, c_NotEq, c_Lt, c_LtE, c_Gt, c_GtE, cs_Eq, cs_NotEq, cb_Eq, cb_NotEq, c2_Eq, c2_NotEq, is_non, isnot_non, is_bl, isnot_bl, is_int, isnot_int, is_str, isnot_str, is_tup, isnot_tup, is_rol, isnot_rol, is_ref, isnot_ref, is_b, isnot_b, in_s, notin_s, b_add, b_sub, b_mul, b_fdiv, b_mod, b_pow, b_addt, b_adds, atI0, atI1, atI2, atI3, slc_t, slc_r, len_s, abs_i, int_i, int_b, min_i, max_i, gcd_i, seq_t, seq_r, r1_i, r2_i, r3_i, a_nm, a_nil, a_cons, vrl_some, vrn_some, put_lget, Option.isSome_some, tru_ref, b_addl, idx_t, idx_r, idx_l, slc_l, len_t, len_r, len_l, tuple_t, tuple_r, tuple_l, list_t, list_r, list_l, app_l, rev_l, pop_l, popat_l, mT_l, seq_l, enu_l, zip_l, rev_i, rev_t, in_t, notin_t, fl_s, fl_i, fl_b, fl_n, inL_nil, inL_ss, inL_ii, List.all_cons, List.all_nil, Bool.and_self, Bool.and_true, Bool.true_and, zip_t, a_t, a_l, sub_l, isTs, isT, Option.map_some, List.length_cons, List.length_nil, Nat.reduceAdd, Nat.reduceSub, Nat.reduceLT, Nat.zero_add, Bool.false_eq_true, Bool.true_eq_false, if_false, if_true, decide_eq_true_eq, Bool.not_true, Bool.not_false, ite_true, ite_false, reduceIte, Bool.not_eq_true', decide_eq_false_iff_not, Int.cast_ofNat_Int, Int.reduceEq, Int.reduceLT, Int.reduceLE, Int.reduceNeg, Int.reduceAdd, Int.reduceSub, Int.reduceMul, Int.reduceToNat, decide_true, decide_false, not_true, not_false, not_true_eq_false, not_false_eq_true, true_and, and_true, eq_self, reduceCtorEq, List.isEmpty_nil, List.isEmpty_cons, List.nil_append, List.cons_append, SD]
    refine ev_ok hq (der e) 39 _ _ _ s (by omega) k2 z2 h2 ?_
    simp -dsimp -implicitDefEqProofs only [↓cov3, ↓cov2, ↓cov1, ↓E_var, ↓E_int, ↓E_bl, ↓E_non, ↓E_str, ↓E_glo, ↓E_tup, ↓E_lst, ↓E_bin, ↓E_neg, ↓E_cmp, ↓E_chn, ↓E_and, ↓E_or, ↓E_one, ↓E_not, ↓E_ifx, ↓E_idx, ↓E_slc, ↓E_call, ↓E_bi, ↓E_isi, ↓E_mth, ↓E_lc, ↓Es_nil, ↓Es_cons, ↓O_no, ↓O_some, ↓Q_no, ↓Q_c, ↓C_and, ↓C_or, ↓C_one, ↓C_not, ↓C_cmp, ↓C_chn, ↓C_v, ↓I_seq, ↓I_rng1, ↓I_rng2, ↓I_rng3, ↓I_enu, ↓I_zip, ↓I_rev, ↓S_set, ↓S_asg, ↓S_par2, ↓S_sub, ↓S_expr, ↓S_ret, ↓S_retN, ↓S_ifs, ↓S_for, ↓S_brk, ↓S_cnt, ↓S_pass, ↓S_raise, ↓S_try, ↓S_never, ex_t, ex_f, ↓S_nil, ↓S_cons, ↓kN_nx, ↓kN_rt, ↓kN_bk, ↓kN_ct, ↓kN_ex, ↓kL_nx, ↓kL_rt, ↓kL_bk, ↓kL_ct, ↓kL_ex, ↓kX_nx, ↓kX_rt, ↓kX_bk, ↓kX_ct, ↓kX_ex, ↓kend_nx, ↓kend_rt, ↓kend_bk, ↓kend_ct, ↓kend_ex, vr_some, gt_0, gt_s, stn_0, stn_s, wip_0, wip_s, wips_0, wips_s, neg_i, isi_s, o_i, tru_non, tru_bl, tru_int, tru_tup, tru_rol, c_Eq, c_NotEq, c_Lt, c_LtE, c_Gt, c_GtE, cs_Eq, cs_NotEq, cb_Eq, cb_NotEq, c2_Eq, c2_NotEq, is_non, isnot_non, is_bl, isnot_bl, is_int, isnot_int, is_str, isnot_str, is_tup, isnot_tup, is_rol, isnot_rol, is_ref, isnot_ref, is_b, isnot_b, in_s, notin_s, b_add, b_sub, b_mul, b_fdiv, b_mod, b_pow, b_addt, b_adds, atI0, atI1, atI2, atI3, slc_t, slc_r, len_s, abs_i, int_i, int_b, min_i, max_i, gcd_i, seq_t, seq_r, r1_i, r2_i, r3_i, a_nm, a_nil, a_cons, vrl_some, vrn_some, put_lget, Option.isSome_some, tru_ref, b_addl, idx_t, idx_r, idx_l, slc_l, len_t, len_r, len_l, tuple_t, tuple_r, tuple_l, list_t, list_r, list_l, app_l, rev_l, pop_l, popat_l, mT_l, seq_l, enu_l, zip_l, rev_i, rev_t, in_t, notin_t, fl_s, fl_i, fl_b, fl_n, inL_nil, inL_ss, inL_ii, List.all_cons, List.all_nil, Bool.and_self, Bool.and_true, Bool.true_and, zip_t, a_t, a_l, sub_l, isTs, isT, Option.map_some, List.length_cons, List.length_nil, Nat.reduceAdd, Nat.reduceSub, Nat.reduceLT, Nat.zero_add, Bool.false_eq_true, Bool.true_eq_false, if_false, if_true, decide_eq_true_eq, Bool.not_true, Bool.not_false, ite_true, ite_false, reduceIte, Bool.not_eq_true', decide_eq_false_iff_not, Int.cast_ofNat_Int, Int.reduceEq, Int.reduceLT, Int.reduceLE, Int.reduceNeg, Int.reduceAdd, Int.reduceSub, Int.reduceMul, Int.reduceToNat, decide_true, decide_false, not_true, not_false, not_true_eq_false, not_false_eq_true, true_and, and_true, eq_self, reduceCtorEq, List.isEmpty_nil, List.isEmpty_cons, List.nil_append, List.cons_append, SD, cQ_Eq]
end

end Lw
open PySem PySem.W PyProof.Rows
set_option maxHeartbeats 0 in
theorem PySem.Challenge.cw_integraph_k21_derivative_of_an_expressio_holds : PySem.Challenge.rw_integraph_k21_derivative_of_an_expressio.Holds := by
  w_on; o_law; k_head; (case hw => w_witness2)
  k_fill
  refine Ev.law_by (l := PySem.Challenge.rw_integraph_k21_derivative_of_an_expressio) (k := 40) (M := Lw.M) (G := Lw.G) (T := Lw.T) rfl rfl rfl ⟨rfl, by decide, by decide⟩ (by decide +kernel) (fun w h Y => PySem.W.kIn_of Y) Lw.t_law rfl ?B Lw.main
  case B =>
    intro w mg h KX Gn base hse
    refine' Lw.mok_mk KX Gn hse rfl ?a0 ?l0 ?c0 ?k0 ?a1 ?l1 ?c1 ?k1 ?a2 ?l2 ?c2 ?k2 ?a3 ?l3 ?c3 ?k3 ?a4 ?l4 ?c4 ?k4 ?a5 ?l5 ?c5 ?k5 ?a6 ?l6 ?c6 ?k6 ?a7 ?l7 ?c7 ?k7 ?a8 ?l8 ?c8 ?k8 ?a9 ?l9 ?c9 ?k9 ?a10 ?l10 ?c10 ?k10 ?a11 ?l11 ?c11 ?k11 ?a12 ?l12 ?c12 ?k12 ?a13 ?l13 ?c13 ?k13 ?a14 ?l14 ?c14 ?k14 ?a15 ?l15 ?c15 ?k15 ?a16 ?l16 ?c16 ?k16 ?a17 ?l17 ?c17 ?k17 ?a18 ?l18 ?c18 ?k18 ?a19 ?l19 ?c19 ?k19 ?a20 ?l20 ?c20 ?k20 ?a21 ?l21 ?c21 ?k21 ?a22 ?l22 ?c22 ?k22 ?a23 ?l23 ?c23 ?k23 ?a24 ?l24 ?c24 ?k24 ?z0 ?z1 ?z2 ?z3 ?zg ?ya0 ?yl0 ?yc0 ?yd0 ?ys0 ?yv0 ?ya1 ?yl1 ?yc1 ?yd1 ?ys1 ?yv1 ?ya2 ?yl2 ?yc2 ?yd2 ?ys2 ?yv2 ?ea0 ?ek0 ?eb0 ?et0 ?ex0
    (case a0 => k_is); (case l0 => k_is); (case c0 => k_is); (case k0 => k_is); (case a1 => k_is); (case l1 => k_is); (case c1 => k_is); (case k1 => k_is); (case a2 => k_is); (case l2 => k_is); (case c2 => k_is); (case k2 => k_is); (case a3 => k_is); (case l3 => k_is); (case c3 => k_is); (case k3 => k_is); (case a4 => k_is); (case l4 => k_is); (case c4 => k_is); (case k4 => k_is); (case a5 => k_is); (case l5 => k_is); (case c5 => k_is); (case k5 => k_is); (case a6 => k_is); (case l6 => k_is); (case c6 => k_is); (case k6 => k_is); (case a7 => k_is); (case l7 => k_is); (case c7 => k_is); (case k7 => k_is); (case a8 => k_is); (case l8 => k_is); (case c8 => k_is); (case k8 => k_is); (case a9 => k_is); (case l9 => k_is); (case c9 => k_is); (case k9 => k_is); (case a10 => k_is); (case l10 => k_is); (case c10 => k_is); (case k10 => k_is); (case a11 => k_is); (case l11 => k_is); (case c11 => k_is); (case k11 => k_is); (case a12 => k_is); (case l12 => k_is); (case c12 => k_is); (case k12 => k_is); (case a13 => k_is); (case l13 => k_is); (case c13 => k_is); (case k13 => k_is); (case a14 => k_is); (case l14 => k_is); (case c14 => k_is); (case k14 => k_is); (case a15 => k_is); (case l15 => k_is); (case c15 => k_is); (case k15 => k_is); (case a16 => k_is); (case l16 => k_is); (case c16 => k_is); (case k16 => k_is); (case a17 => k_is); (case l17 => k_is); (case c17 => k_is); (case k17 => k_is); (case a18 => k_is); (case l18 => k_is); (case c18 => k_is); (case k18 => k_is); (case a19 => k_is); (case l19 => k_is); (case c19 => k_is); (case k19 => k_is); (case a20 => k_is); (case l20 => k_is); (case c20 => k_is); (case k20 => k_is); (case a21 => k_is); (case l21 => k_is); (case c21 => k_is); (case k21 => k_is); (case a22 => k_is); (case l22 => k_is); (case c22 => k_is); (case k22 => k_is); (case a23 => k_is); (case l23 => k_is); (case c23 => k_is); (case k23 => k_is); (case a24 => k_is); (case l24 => k_is); (case c24 => k_is); (case k24 => k_is); (case z0 => k_is); (case z1 => k_is); (case z2 => k_is); (case z3 => k_is); (case zg => k_is); (case ya0 => k_is); (case yl0 => k_is); (case yc0 => first | rfl | k_is); (case yd0 => first | rfl | k_is); (case ys0 => first | decide | exact (by decide : (2 : Nat) ≤ sizeLine) | (simp; decide)); (case yv0 => repeat (first | exact .nil | refine .cons ⟨_, rfl⟩ ?_ | refine .cons rfl ?_)); (case ya1 => k_is); (case yl1 => k_is); (case yc1 => first | rfl | k_is); (case yd1 => first | rfl | k_is); (case ys1 => first | decide | exact (by decide : (2 : Nat) ≤ sizeLine) | (simp; decide)); (case yv1 => repeat (first | exact .nil | refine .cons ⟨_, rfl⟩ ?_ | refine .cons rfl ?_)); (case ya2 => k_is); (case yl2 => k_is); (case yc2 => first | rfl | k_is); (case yd2 => first | rfl | k_is); (case ys2 => first | decide | exact (by decide : (2 : Nat) ≤ sizeLine) | (simp; decide)); (case yv2 => repeat (first | exact .nil | refine .cons ⟨_, rfl⟩ ?_ | refine .cons rfl ?_)); (case ea0 => k_is); (case ek0 => k_is); (case eb0 => k_is); (case et0 => k_is); (case ex0 => k_exc)
