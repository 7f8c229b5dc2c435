import PyProof.Rows.All
import Wide.All
import OpenK.AllK
import Wide.FinOn
import HandS.ForMost
import HandS.Wide
import HandS.TupAny
import HandS.Text
import HandS.Words
import PySem.Challenge.RW_backinside_k12_texts_of_rules
import HandS.Lambda
import HandS.Nested
import HandS.IsInst
import HandS.ForExc
import HandS.TupLe
import HandS.TupMul
import HandS.ExcCtx
import HandS.Walk
import KE.GoesEnum
import HandS.Style
import HandS.TryOnly
import HandS.EndBits
import HandS.HotCalls
import HandS.ExcIs
import HandS.FStr
import KE.KRevSl
import HandS.EndTab
set_option Elab.async false
set_option linter.all false
set_option maxRecDepth 100000
set_option autoImplicit false
/-! MX1: data, slots, the small language, its evaluator. -/
namespace MX
open PySem L2

/-- a lambda: its words, its parameters, the names that it captures -/
structure LamD where
  qual : Str
  params : Arguments
  body : Expr
  scope : Scope
  ps : List Str
  fr : List Str
/-- a value as data -/
inductive D where
  | non | bl (b : Bool) | int (i : Int) | str (x : Str)
  /-- the script: read only -/
  | scr (ns : List Int)
  | tup (xs : List D) | lst (xs : List D)
  /-- a def of the text: its number, its name -/
  | fn (f : Nat) (x : Str)
  /-- a lambda's object: its words, what it captured -/
  | clo (k : Nat) (cs : List D)
  /-- an object of which nothing is known but where it lies -/
  | adr (a : Addr)

/-- a slot: nothing known; a value; an object that this slot alone holds (t = 0), or that a caller lent (t = its parameter + 1) -/
inductive Sl where
  | un | val (d : D) | own (t : Nat) (d : D)
abbrev SS := List Sl
/-- what an expression gives: a value; a new object that nothing holds; an error of class c -/
inductive R where
  | v (d : D) | fr (d : D) | ex (c : Nat)

inductive Tg where
  | nm (i : Nat) | tp (is : List Nat)
inductive ItK where
  | seq | rng1 | rng2 | enum | zip | zipH
inductive B1 where
  | len | abs | int1 | tuple | list | all | bool | sum | max1 | min1 | str1
  deriving DecidableEq
/-- the built-in types that isinstance is asked of -/
inductive Ty where
  | int | bool | str | tuple | list
  deriving DecidableEq

inductive E where
  | var (i : Nat) | cst (d : D)
  | tup (es : List E) | lst (es : List E)
  | bin (op : Operator) (a b : E) | neg (a : E) | not (a : E)
  | cmp (op : CmpOp) (a b : E) | chn (a b c : E)
  | and (a b : E) | or (a b : E) | ite (c a b : E)
  | ix (a b : E) | pick (ks : List Str) (es : List E) (a : E)
  | call (f : Nat) (es : List E) | callv (i : Nat) (es : List E) | callL (f k : Nat) (caps : List Nat) (es : List E) | b1 (f : B1) (a : E) | isi (a : E) (t : Ty)
  | app (i : Nat) (a : E) | pop0 (i : Nat)
  | comp (elt : E) (tg : Tg) (k : ItK) (args : List E) (cond : List E)
  | slc (a : E) (p : Bool) (lo : E) (q : Bool) (hi : E) | rev (a : E) | split (a b : E) | join (a b : E) | fstr (es : List E)
  /-- isinstance(e, C) of the error that is handled -/
  | isE (i : Nat) (a : Addr) (b : Bool)

inductive S where
  | set (i : Nat) (e : E) | par (is : List Nat) (es : List E) | unp (is : List Nat) (e : E)
  | exp (e : E) | ret (e : E) | retn | raise (c : Nat) | pass
  /-- try: the suite; an error of the text ends the def by its label (told: with None ahead of it) -/
  | tryn (b : List S) (i : Nat) (told : Bool) (nm : List (Nat × Str))
  | ifs (c : E) (a b : List S) | whl (c : E) (b : List S) | for_ (tg : Tg) (k : ItK) (args : List E) (b : List S)

inductive Fl where
  | nx | brk | ct | ret (r : R) | exc (c : Nat)

/-! ### operations on data -/
mutual
def D.pd : D → Option PyData
  | .non => some .none
  | .bl b => some (.bool b)
  | .int i => some (.int i)
  | .str x => some (.str x)
  | .tup xs => (D.pdL xs).map .tuple
  | .lst xs => (D.pdL xs).map .list
  | .scr _ => none
  | .fn _ _ => none
  | .clo _ _ => none
  | .adr _ => none
def D.pdL : List D → Option (List PyData)
  | [] => some []
  | x :: r => match x.pd, D.pdL r with
    | some y, some ys => some (y :: ys)
    | _, _ => none
end
/-- == of data -/
def eqD (x y : D) : Option Bool :=
  match x.pd, y.pd with
  | some a, some b => if SeqAt.shaped a = true ∧ SeqAt.shaped b = true then some (PyData.eqv a b) else none
  | _, _ => none

instance (i j : Int) : Decidable (CMul i j) := by unfold CMul; infer_instance
instance (i j : Int) : Decidable (CDiv i j) := by unfold CDiv; infer_instance
instance (i j : Int) : Decidable (CMulW i j) := by unfold CMulW; infer_instance
instance (i j : Int) : Decidable (CDivW i j) := by unfold CDivW; infer_instance
instance (i j : Int) : Decidable (CPow i j) := by unfold CPow; infer_instance
def binD : Operator → D → D → Option R
  | .Add, .int i, .int j => some (.v (.int (i + j)))
  | .Sub, .int i, .int j => some (.v (.int (i - j)))
  | .Mult, .int i, .int j => if CMul i j ∨ CMulW i j then some (.v (.int (i * j))) else none
  | .FloorDiv, .int i, .int j => if CDiv i j ∨ CDivW i j then some (.v (.int (i / j))) else none
  | .Mod, .int i, .int j => if 0 < j then some (.v (.int (i % j))) else none
  | .Pow, .int i, .int j => if CPow i j then some (.v (.int (i ^ j.toNat))) else none
  | .Add, .tup xs, .tup ys => if xs.length + ys.length ≤ sizeLine then some (.v (.tup (xs ++ ys))) else none
  | .Add, .lst xs, .lst ys => if xs.length + ys.length ≤ sizeLine then some (.fr (.lst (xs ++ ys))) else none
  | .Add, .str x, .str y => if x.length + y.length ≤ sizeLine then some (.v (.str (x ++ y))) else none
  | .Mult, .tup xs, .int k => if xs ≠ [] ∧ 2 ≤ k ∧ k ≤ 1000 ∧ xs.length ≤ 1000 then some (.v (.tup (List.replicate k.toNat xs).flatten)) else none
  | _, _, _ => none

def flatD : D → Bool
  | .non => true
  | .bl _ => true
  | .int _ => true
  | .str _ => true
  | _ => false
/-- == of flat data -/
def eqF : D → D → Bool
  | .non, .non => true
  | .bl a, .bl b => a == b
  | .bl a, .int b => (if a then 1 else 0) == b
  | .int a, .bl b => a == (if b then 1 else 0)
  | .int a, .int b => a == b
  | .str a, .str b => a == b
  | _, _ => false
def inD (x : D) (ys : List D) : Option Bool := if flatD x = true ∧ ys.all flatD = true then some (ys.any fun y => eqF y x) else none
def seqD : D → Option (List D)
  | .tup xs => some xs
  | .lst xs => some xs
  | _ => none
/-- is None; is of bools -/
def isD : D → D → Option Bool
  | .non, .non => some true
  | .bl _, .non => some false
  | .int _, .non => some false
  | .str _, .non => some false
  | .tup _, .non => some false
  | .lst _, .non => some false
  | .bl a, .bl b => some (decide (a = b))
  | _, _ => none
def cmpD : CmpOp → D → D → Option Bool
  | .Lt, .int i, .int j => some (decide (i < j))
  | .LtE, .int i, .int j => some (decide (i ≤ j))
  | .Gt, .int i, .int j => some (decide (j < i))
  | .GtE, .int i, .int j => some (decide (j ≤ i))
  | .Eq, x, y => eqD x y
  | .NotEq, x, y => (eqD x y).map (!·)
  | .Is, x, y => isD x y
  | .IsNot, x, y => (isD x y).map (!·)
  | .In, .str x, .str y => some (!(Builtin.Str.occurrences y x 0 y.length 1).isEmpty)
  | .NotIn, .str x, .str y => some (!(!(Builtin.Str.occurrences y x 0 y.length 1).isEmpty))
  | .In, x, y => (seqD y).bind (inD x)
  | .NotIn, x, y => ((seqD y).bind (inD x)).map (!·)
  | _, _, _ => none
def ixD : D → D → Option D
  | .tup xs, .int i => (L2.ixN xs.length i).bind fun j => xs[j]?
  | .lst xs, .int i => (L2.ixN xs.length i).bind fun j => xs[j]?
  | .scr ns, .int i => ((L2.ixN ns.length i).bind fun j => ns[j]?).map .int
  | _, _ => none
def blD : D → Option Bool
  | .bl b => some b
  | _ => none
def blsD : List D → Option (List Bool)
  | [] => some []
  | .bl b :: r => (blsD r).map (b :: ·)
  | _ :: _ => none
def intsD : List D → Option (List Int)
  | [] => some []
  | .int i :: r => (intsD r).map (i :: ·)
  | _ :: _ => none
def maxI : Int → List Int → Int
  | m, [] => m
  | m, x :: r => maxI (if m < x then x else m) r
def minI : Int → List Int → Int
  | m, [] => m
  | m, x :: r => minI (if x < m then x else m) r
def b1D : B1 → D → Option R
  | .len, .tup xs => some (.v (.int xs.length))
  | .len, .lst xs => some (.v (.int xs.length))
  | .len, .scr ns => some (.v (.int ns.length))
  | .len, .str x => if x.length ≤ sizeLine then some (.v (.int x.length)) else none
  | .abs, .int i => some (.v (.int (if i < 0 then -i else i)))
  | .int1, .int i => some (.v (.int i))
  | .int1, .str x => if x.length ≤ 640 then (PySem.intText? x).map fun n => .v (.int n) else none
  | .str1, .int i => if i.natAbs.log2 < 1920 then some (.v (.str (toString i))) else none
  | .tuple, .lst xs => some (.v (.tup xs))
  | .tuple, .tup xs => some (.v (.tup xs))
  | .list, .lst xs => some (.fr (.lst xs))
  | .list, .tup xs => some (.fr (.lst xs))
  | .all, .lst xs => (blsD xs).map fun bs => .v (.bl (bs.all id))
  | .bool, .bl b => some (.v (.bl b))
  | .sum, .lst xs => (intsD xs).map fun ns => .v (.int ns.sum)
  | .max1, .lst xs => match intsD xs with
    | some (n :: ns) => some (.v (.int (maxI n ns)))
    | _ => none
  | .min1, .lst xs => match intsD xs with
    | some (n :: ns) => some (.v (.int (minI n ns)))
    | _ => none
  | _, _ => none
def isiD : D → Ty → Option Bool
  | .non, _ => some false
  | .bl _, .int => some true
  | .bl _, .bool => some true
  | .bl _, _ => some false
  | .int _, .int => some true
  | .int _, _ => some false
  | .str _, .str => some true
  | .str _, _ => some false
  | .tup _, .tuple => some true
  | .tup _, _ => some false
  | .lst _, .list => some true
  | .lst _, _ => some false
  | _, _ => none
def rngD (lo hi : Int) : List D := (List.range (hi - lo).toNat).map fun i => .int (lo + (i : Nat))
def enumF (i : Nat) : List D → List D
  | [] => []
  | x :: r => .tup [.int (i : Nat), x] :: enumF (i + 1) r
def zipD : List D → List D → List D
  | x :: r, y :: q => .tup [x, y] :: zipD r q
  | _, _ => []
def smallB (i : Int) : Prop := -(2 ^ 62) ≤ i ∧ i < 2 ^ 62
instance (i : Int) : Decidable (smallB i) := by unfold smallB; infer_instance
def itD : ItK → List D → Option (List D)
  | .seq, [.tup xs] => some xs
  | .seq, [.lst xs] => some xs
  | .seq, [.scr ns] => some (ns.map .int)
  | .rng1, [.int n] => if smallB n then some (rngD 0 n) else none
  | .rng2, [.int m, .int n] => if smallB m ∧ smallB n then some (rngD m n) else none
  | .enum, [.tup xs] => some (enumF 0 xs)
  | .enum, [.lst xs] => some (enumF 0 xs)
  | .zip, [.lst xs, .lst ys] => some (zipD xs ys)
  | .zipH, [.lst xs, .lst ys] => if xs.length ≤ ys.length then some (zipD xs ys) else none
  | _, _ => none

/-! ### slices, texts -/
def cutD (xs : List D) (lo hi : Option Int) : List D := (xs.drop (HT.sIx xs.length 0 lo)).take (HT.sIx xs.length xs.length hi - HT.sIx xs.length 0 lo)
def slcO : D → Option Int → Option Int → Option R
  | .tup xs, lo, hi => some (.v (.tup (cutD xs lo hi)))
  | .lst xs, lo, hi => some (.fr (.lst (cutD xs lo hi)))
  | .str z, lo, hi => if z.length ≤ sizeLine then some (.v (.str (L2.cutS z lo hi))) else none
  | _, _, _ => none
def revD : D → Option R
  | .tup xs => some (.v (.tup xs.reverse))
  | .lst xs => some (.fr (.lst xs.reverse))
  | _ => none
def strsD : List D → Option (List Str)
  | [] => some []
  | .str x :: r => (strsD r).map (x :: ·)
  | _ :: _ => none
def splitD : D → D → Option R
  | .str a, .str b => if (b.length == 0) = false ∧ a.length + 2 ≤ sizeLine then some (.fr (.lst ((Txt.split a b).map .str))) else none
  | _, _ => none
def joinS (a : Str) (ys : List Str) : Option R := if (ys.map (·.length)).sum + ys.length * a.length ≤ 16777216 then some (.v (.str (Txt.join a ys))) else none
def joinD : D → D → Option R
  | .str a, y => ((seqD y).bind strsD).bind (joinS a)
  | _, _ => none
def fmtD : D → Option Str
  | .str x => if x.length ≤ sizeLine then some x else none
  | .int i => if i.natAbs.log2 < 1920 then some (toString i) else none
  | _ => none
/-! ### slots -/
def rdS (S : SS) (i : Nat) : Option D :=
  match S[i]? with
  | some (.val d) => some d
  | some (.own _ d) => some d
  | _ => none
def setsS (S : SS) : List Nat → List D → Option SS
  | [], [] => some S
  | i :: is, d :: ds => setsS (S.set i (.val d)) is ds
  | _, _ => none
def tgS (S : SS) : Tg → D → Option SS
  | .nm i, d => some (S.set i (.val d))
  | .tp is, .tup ds => setsS S is ds
  | _, _ => none
def Tg.slots : Tg → List Nat
  | .nm i => [i]
  | .tp is => is
def stR : R → Option Sl
  | .v d => some (.val d)
  | .fr d => some (.own 0 d)
  | .ex _ => none
/-! ### expressions -/
/-- a def's table: what is lent; how it runs (its arguments' slots to its end and its slots at the end) -/
structure CL where
  nm : Nat → Option Str
  io : Nat → Bool
  run : Nat → List Sl → Option (R × SS)

def FUEL : Nat := 1000000

/-- an argument's evaluation handed on -/
def bnd (x : Option (R × SS)) (k : D → SS → Option (R × SS)) : Option (R × SS) :=
  match x with
  | some (.v d, S) => k d S
  | some (.fr d, S) => k d S
  | some (.ex c, S) => some (.ex c, S)
  | none => none
inductive RL where
  | v (ds : List D) | ex (c : Nat)
def bndL (x : Option (RL × SS)) (k : List D → SS → Option (R × SS)) : Option (R × SS) :=
  match x with
  | some (.v ds, S) => k ds S
  | some (.ex c, S) => some (.ex c, S)
  | none => none
def retR (S : SS) : Option R → Option (R × SS)
  | some r => some (r, S)
  | none => none
def retB (S : SS) : Option Bool → Option (R × SS)
  | some b => some (.v (.bl b), S)
  | none => none
def retD (S : SS) : Option D → Option (R × SS)
  | some d => some (.v d, S)
  | none => none
/-- a comprehension's turns: f gives the item's part and the slots -/
def compL (f : D → SS → Option (Option D × SS)) : List D → List D → SS → Option (List D × SS)
  | [], acc, S => some (acc, S)
  | x :: r, acc, S => match f x S with
    | some (some d, S') => if acc.length < sizeLine then compL f r (acc ++ [d]) S' else none
    | some (none, S') => compL f r acc S'
    | none => none
def wipeS (S : SS) : List Nat → SS
  | [] => S
  | i :: r => (wipeS S r).set i .un
def backW (S0 : SS) : List Nat → SS → SS
  | [], S => S
  | i :: r, S => match S0[i]? with
    | some s => (backW S0 r S).set i s
    | none => backW S0 r S
def pickD : List Str → List D → Str → Option D
  | k :: ks, d :: ds, x => match pickD ks ds x with
    | some e => some e
    | none => if k = x then some d else none
  | _, _, _ => none

/-- a name as an operand is read where it stands -/
def vr : E → Option Nat
  | .var i => some i
  | _ => none
def rdv (S : SS) (a : E) (x : Option (R × SS)) : Option (R × SS) :=
  match vr a with
  | some i => match rdS S i with
    | some d => some (.v d, S)
    | none => none
  | none => x
def rdK (i : Nat) (S : SS) (k : D → Option (R × SS)) : Option (R × SS) :=
  match rdS S i with
  | some x => k x
  | none => none
/-- a left operand that is a name is read behind the right one -/
def bnd2 (a : E) (xa : Option (R × SS)) (S : SS) (xb : SS → Option (R × SS)) (k : D → D → SS → Option (R × SS)) : Option (R × SS) :=
  match vr a with
  | some i => match rdS S i with
    | some _ => bnd (xb S) fun y S => rdK i S fun x => k x y S
    | none => none
  | none => bnd xa fun x S => bnd (xb S) fun y S => k x y S
def compF (ee : SS → Option (R × SS)) (ec : Option (SS → Option (R × SS))) (tg : Tg) (x : D) (S : SS) : Option (Option D × SS) :=
  match tgS S tg x with
  | some S1 => match ec with
    | none => match ee S1 with
      | some (.v d, S2) => some (some d, wipeS S2 tg.slots)
      | some (.fr d, S2) => some (some d, wipeS S2 tg.slots)
      | _ => none
    | some c => match c S1 with
      | some (.v (.bl true), S2) => match ee S2 with
        | some (.v d, S3) => some (some d, wipeS S3 tg.slots)
        | some (.fr d, S3) => some (some d, wipeS S3 tg.slots)
        | _ => none
      | some (.v (.bl false), S2) => some (none, wipeS S2 tg.slots)
      | _ => none
  | none => none
/-- the head of the conditions -/
def hdO {α : Type} : List α → Option α
  | [] => none
  | x :: _ => some x
/-- a first argument that is lent: its slot -/
def lentO (io : Bool) (es : List E) (S : SS) : Option Nat :=
  if io then match es with
    | .var i :: _ => match S[i]? with
      | some (.own _ _) => some i
      | _ => none
    | _ => none
  else none
/-- the object of slot i, when the call begins -/
def lendO (i : Nat) (S : SS) (k : Nat → D → Option (R × SS)) : Option (R × SS) :=
  match S[i]? with
  | some (.own t d) => k t d
  | _ => none
def consL (d : D) : Option (RL × SS) → Option (RL × SS)
  | some (.v ds, S) => some (.v (d :: ds), S)
  | r => r
def argL (x : Option (R × SS)) (k : SS → Option (RL × SS)) : Option (RL × SS) :=
  match x with
  | some (.ex c, S) => some (.ex c, S)
  | some (.v d, S) => consL d (k S)
  | some (.fr d, S) => consL d (k S)
  | none => none
def valsS (ds : List D) : List Sl := ds.map .val
/-- a call where nothing is lent -/
def callV (S : SS) : Option (R × SS) → Option (R × SS)
  | some (r, _) => some (r, S)
  | none => none
/-- a call whose first argument is the object of slot i -/
def callO (i t : Nat) (S : SS) : Option (R × SS) → Option (R × SS)
  | some (r, .own 1 d :: _) => some (r, S.set i (.own t d))
  | _ => none
def negR (S : SS) : D → Option (R × SS)
  | .int i => some (.v (.int (-i)), S)
  | _ => none
def appR (i : Nat) (x : D) (S : SS) : Option (R × SS) :=
  match S[i]? with
  | some (.own t (.lst xs)) => if xs.length < sizeLine then some (.v .non, S.set i (.own t (.lst (xs ++ [x])))) else none
  | _ => none
/-- the name holds a list now -/
def chkL (S : SS) (i : Nat) (x : Option (R × SS)) : Option (R × SS) :=
  match rdS S i with
  | some (.lst _) => x
  | _ => none
def popR (i : Nat) (S : SS) : Option (R × SS) :=
  match S[i]? with
  | some (.own t (.lst (x :: xs))) => some (.v x, S.set i (.own t (.lst xs)))
  | _ => none
def varR (i : Nat) (S : SS) : Option (R × SS) :=
  match S[i]? with
  | some (.val d) => some (.v d, S)
  | some (.own 0 d) => some (.v d, S.set i (.val d))
  | _ => none
/-- the captured slots' values -/
def capS (S : SS) : List Nat → Option (List D)
  | [] => some []
  | i :: r => match S[i]? with
    | some (.val d) => (capS S r).map (d :: ·)
    | _ => none
/-- a lambda's number among the defs -/
def lamN (k : Nat) : Nat := 1000 + k
mutual
/-- no lambda's object within -/
def D.flat : D → Bool
  | .tup xs => D.flatL xs
  | .lst xs => D.flatL xs
  | .clo _ _ => false
  | _ => true
def D.flatL : List D → Bool
  | [] => true
  | x :: r => x.flat && D.flatL r
end
/-- what the name holds is called -/
def callF (cl : CL) (ds : List D) (S : SS) : D → Option (R × SS)
  | .fn f x => if cl.nm f = some x then callV S (cl.run f (valsS ds)) else none
  | .clo l cs => if D.flatL ds = true then callV S (cl.run (lamN l) (valsS (ds ++ cs))) else none
  | _ => none
/-- a call that gets a lambda: what comes back holds none -/
def callL (S : SS) : Option (R × SS) → Option (R × SS)
  | some (.v d, _) => if d.flat = true then some (.v d, S) else none
  | some (.fr d, _) => if d.flat = true then some (.fr d, S) else none
  | some (.ex c, _) => some (.ex c, S)
  | none => none
/-- with the captured values -/
def capK (S : SS) (caps : List Nat) (k : List D → Option (R × SS)) : Option (R × SS) :=
  match capS S caps with
  | some cs => k cs
  | none => none
/-- may it be called? -/
def calB (cl : CL) (x : D) (k : Option (R × SS)) : Option (R × SS) :=
  match x with
  | .fn f y => if cl.nm f = some y then k else none
  | .clo _ _ => k
  | _ => none
def ifB (x : D) (a b : Option (R × SS)) : Option (R × SS) :=
  match blD x with
  | some true => a
  | some false => b
  | none => none

def pickR (S : SS) (ks : List Str) (ds : List D) : D → Option (R × SS)
  | .str x => retD S (pickD ks ds x)
  | _ => none
def strK (x : D) (k : Str → Option (R × SS)) : Option (R × SS) :=
  match x with
  | .str z => k z
  | _ => none
/-- a slice's bound: there (p), or not -/
def intK (k : Option Int → SS → Option (R × SS)) : D → SS → Option (R × SS)
  | .int i, S => k (some i) S
  | _, _ => none
def obnd (p : Bool) (x : SS → Option (R × SS)) (S : SS) (k : Option Int → SS → Option (R × SS)) : Option (R × SS) :=
  match p with
  | true => bnd (x S) (intK k)
  | false => k none S
def isER (i : Nat) (a : Addr) (b : Bool) (S : SS) : Option (R × SS) :=
  match rdS S i with
  | some (.adr a') => if a' = a then some (.v (.bl b), S) else none
  | _ => none
def fmtK (acc : Str) (d : D) (k : Str → Option (R × SS)) : Option (R × SS) :=
  match fmtD d with
  | some y => if (acc ++ y).length ≤ sizeLine then k (acc ++ y) else none
  | none => none
def ifO (x : Option Bool) (a b : Option (R × SS)) : Option (R × SS) :=
  match x with
  | some true => a
  | some false => b
  | none => none

mutual
def ev (cl : CL) : E → SS → Option (R × SS)
  | .var i, S => varR i S
  | .cst d, S => some (.v d, S)
  | .tup es, S => bndL (evs cl es S) fun ds S => if ds.length ≤ sizeLine then some (.v (.tup ds), S) else none
  | .lst es, S => bndL (evs cl es S) fun ds S => if ds.length ≤ sizeLine then some (.fr (.lst ds), S) else none
  | .bin op a b, S => bnd (ev cl a S) fun x S => bnd (ev cl b S) fun y S => retR S (binD op x y)
  | .neg a, S => bnd (ev cl a S) fun x S => negR S x
  | .not a, S => bnd (ev cl a S) fun x S => retB S ((blD x).map (!·))
  | .cmp op a b, S => bnd2 a (ev cl a S) S (fun S => rdv S b (ev cl b S)) fun x y S => retB S (cmpD op x y)
  | .chn a b c, S => bnd (ev cl a S) fun x S => bnd (ev cl b S) fun y S => ifO (cmpD .LtE x y) (bnd (ev cl c S) fun z S => retB S (cmpD .LtE y z)) (some (.v (.bl false), S))
  | .and a b, S => bnd (ev cl a S) fun x S => ifB x (bnd (ev cl b S) fun y S => retB S (blD y)) (some (.v (.bl false), S))
  | .or a b, S => bnd (ev cl a S) fun x S => ifB x (some (.v (.bl true), S)) (bnd (ev cl b S) fun y S => retB S (blD y))
  | .ite c a b, S => bnd (ev cl c S) fun x S => ifB x (ev cl a S) (ev cl b S)
  | .ix a b, S => bnd2 a (ev cl a S) S (fun S => rdv S b (ev cl b S)) fun x y S => retD S (ixD x y)
  | .pick ks es a, S => bndL (evs cl es S) fun ds S => bnd (ev cl a S) fun y S => pickR S ks ds y
  | .call f es, S => match lentO (cl.io f) es S with
    | some i => bndL (evT cl es S) fun ds S => lendO i S fun t d => callO i t S (cl.run f (.own 1 d :: valsS ds))
    | none => bndL (evs cl es S) fun ds S => callV S (cl.run f (valsS ds))
  | .callv i es, S => match rdS S i with
    | some x => calB cl x (bndL (evs cl es S) fun ds S => callF cl ds S x)
    | none => none
  | .callL f k caps es, S => bndL (evs cl es S) fun ds S => capK S caps fun cs => callL S (cl.run f (valsS (.clo k cs :: ds)))
  | .slc a p lo q hi, S => bnd (ev cl a S) fun x S => obnd p (fun S => ev cl lo S) S fun l S => obnd q (fun S => ev cl hi S) S fun h S => retR S (slcO x l h)
  | .rev a, S => bnd (ev cl a S) fun x S => retR S (revD x)
  | .split a b, S => bnd (ev cl a S) fun x S => strK x fun z => bnd (ev cl b S) fun y S => retR S (splitD (.str z) y)
  | .join a b, S => bnd (ev cl a S) fun x S => strK x fun z => bnd (ev cl b S) fun y S => retR S (joinD (.str z) y)
  | .fstr es, S => evJ cl es Str.empty S
  | .isE i a b, S => isER i a b S
  | .b1 f a, S => bnd (rdv S a (ev cl a S)) fun x S => retR S (b1D f x)
  | .isi a t, S => bnd (rdv S a (ev cl a S)) fun x S => retB S (isiD x t)
  | .app i a, S => chkL S i (bnd (ev cl a S) fun x S => appR i x S)
  | .pop0 i, S => popR i S
  | .comp elt tg k args cond, S => bndL (evs cl args S) fun ds S => match itD k ds with
    | some xs => match compL (compF (fun S => ev cl elt S) (hdO (evC cl cond)) tg) xs [] (wipeS S tg.slots) with
      | some (ys, S') => some (.fr (.lst ys), backW S tg.slots S')
      | none => none
    | none => none
def evJ (cl : CL) : List E → Str → SS → Option (R × SS)
  | [], acc, S => some (.v (.str acc), S)
  | e :: es, acc, S => bnd (ev cl e S) fun d S => fmtK acc d fun acc' => evJ cl es acc' S
def evs (cl : CL) : List E → SS → Option (RL × SS)
  | [], S => some (.v [], S)
  | e :: es, S => argL (ev cl e S) fun S => evs cl es S
def evC (cl : CL) : List E → List (SS → Option (R × SS))
  | [] => []
  | e :: es => (fun S => ev cl e S) :: evC cl es
def evT (cl : CL) : List E → SS → Option (RL × SS)
  | [], S => some (.v [], S)
  | _ :: es, S => evs cl es S
end

/-! ### statements -/
/-- what stands at the end of an expression statement, a test -/
def thenS (x : Option (R × SS)) (k : R → SS → Option (Fl × SS)) : Option (Fl × SS) :=
  match x with
  | some (.ex c, S) => some (.exc c, S)
  | some (r, S) => k r S
  | none => none
def thenB (x : Option (R × SS)) (a b : SS → Option (Fl × SS)) : Option (Fl × SS) :=
  match x with
  | some (.ex c, S) => some (.exc c, S)
  | some (.v (.bl true), S) => a S
  | some (.v (.bl false), S) => b S
  | _ => none
def thenL (x : Option (RL × SS)) (k : List D → SS → Option (Fl × SS)) : Option (Fl × SS) :=
  match x with
  | some (.ex c, S) => some (.exc c, S)
  | some (.v ds, S) => k ds S
  | none => none
def seqS (x : Option (Fl × SS)) (k : SS → Option (Fl × SS)) : Option (Fl × SS) :=
  match x with
  | some (.nx, S) => k S
  | r => r
def nxS : Option SS → Option (Fl × SS)
  | some S => some (.nx, S)
  | none => none
def forL (f : D → SS → Option (Fl × SS)) : List D → SS → Option (Fl × SS)
  | [], S => some (.nx, S)
  | x :: r, S => match f x S with
    | some (.nx, S') => forL f r S'
    | some (.ct, S') => forL f r S'
    | some (.brk, S') => some (.nx, S')
    | o => o
def whlL (c : SS → Option (R × SS)) (f : SS → Option (Fl × SS)) : Nat → SS → Option (Fl × SS)
  | 0, _ => none
  | n + 1, S => thenB (c S) (fun S => match f S with
    | some (.nx, S') => whlL c f n S'
    | some (.ct, S') => whlL c f n S'
    | some (.brk, S') => some (.nx, S')
    | o => o) fun S => some (.nx, S)
/-- several expressions, each kept as it came (a, b = e, f) -/
inductive RP where
  | v (rs : List Sl) | ex (c : Nat)
def consP (s : Sl) : Option (RP × SS) → Option (RP × SS)
  | some (.v rs, S) => some (.v (s :: rs), S)
  | r => r
def evP (cl : CL) : List E → SS → Option (RP × SS)
  | [], S => some (.v [], S)
  | e :: es, S => match ev cl e S with
    | some (.ex c, S1) => some (.ex c, S1)
    | some (.v d, S1) => consP (.val d) (evP cl es S1)
    | some (.fr d, S1) => consP (.own 0 d) (evP cl es S1)
    | none => none
def setP (S : SS) : List Nat → List Sl → Option SS
  | [], [] => some S
  | i :: is, s :: ss => setP (S.set i s) is ss
  | _, _ => none
/-- what the suite gives: a label, told: with None ahead of it -/
def ndl (told : Bool) (x : Str) : D :=
  match told with
  | true => .tup [.non, .str x]
  | false => .str x
def trynR (i : Nat) (told : Bool) (nm : List (Nat × Str)) : Option (Fl × SS) → Option (Fl × SS)
  | some (.exc c, S) => match nm.lookup c with
    | some x => some (.ret (.v (ndl told x)), S.set i .un)
    | none => none
  | r => r
def unpR (is : List Nat) (S : SS) : R → Option (Fl × SS)
  | .v (.tup ds) => nxS (setsS S is ds)
  | .v (.lst ds) => nxS (setsS S is ds)
  | .fr (.lst ds) => nxS (setsS S is ds)
  | _ => none
/-- return e: a name that alone holds its object hands it on -/
def retV (cl : CL) (e : E) (S : SS) : Option (R × SS) :=
  match vr e with
  | some i => match S[i]? with
    | some (.own 0 d) => some (.fr d, S.set i .un)
    | _ => ev cl e S
  | none => ev cl e S

mutual
def ex (cl : CL) : S → SS → Option (Fl × SS)
  | .set i e, S => thenS (ev cl e S) fun r S => nxS ((stR r).map fun s => S.set i s)
  | .par is es, S => match evP cl es S with
    | some (.v rs, S1) => nxS (setP S1 is rs)
    | some (.ex c, S1) => some (.exc c, S1)
    | none => none
  | .unp is e, S => thenS (ev cl e S) fun r S => unpR is S r
  | .exp e, S => thenS (ev cl e S) fun _ S => some (.nx, S)
  | .ret e, S => thenS (retV cl e S) fun r S => some (.ret r, S)
  | .retn, S => some (.ret (.v .non), S)
  | .raise c, S => some (.exc c, S)
  | .pass, S => some (.nx, S)
  | .tryn b i told nm, S => trynR i told nm (exs cl b S)
  | .ifs c a b, S => thenB (ev cl c S) (fun S => exs cl a S) (fun S => exs cl b S)
  | .whl c b, S => whlL (fun S => ev cl c S) (fun S => exs cl b S) FUEL S
  | .for_ tg k args b, S => thenL (evs cl args S) fun ds S => match itD k ds with
    | some xs => forL (fun x S => match tgS S tg x with
      | some S1 => exs cl b S1
      | none => none) xs S
    | none => none
def exs (cl : CL) : List S → SS → Option (Fl × SS)
  | [], S => some (.nx, S)
  | s :: r, S => seqS (ex cl s S) fun S => exs cl r S
end

/-! ### defs -/
structure Df where
  np : Nat
  ns : Nat
  io : Bool
  body : List MX.S
  nm : Option Str
def lastR : Option (Fl × SS) → Option (R × SS)
  | some (.nx, S) => some (.v .non, S)
  | some (.ret r, S) => some (r, S)
  | some (.exc c, S) => some (.ex c, S)
  | _ => none
def runD (cl : CL) (d : Df) (as : List Sl) : Option (R × SS) :=
  if as.length = d.np then lastR (exs cl d.body (as ++ List.replicate (d.ns - d.np) .un)) else none
/-- the call of the f-th def, at most k calls deep -/
def callN (defs : Nat → Option Df) : Nat → CL
  | 0 => ⟨fun f => match defs f with | some d => d.nm | none => none, fun f => match defs f with | some d => d.io | none => false, fun _ _ => none⟩
  | k + 1 => ⟨fun f => match defs f with | some d => d.nm | none => none, fun f => match defs f with | some d => d.io | none => false, fun f as => match defs f with
    | some d => runD (callN defs k) d as
    | none => none⟩
/-! ### the lambdas of a text -/
mutual
def lamE : Nat → PySem.Expr → List (Arguments × PySem.Expr × Scope)
  | 0, _ => []
  | n + 1, e => match e with
    | .Lambda a b s _ => (a, b, s) :: lamE n b
    | .BoolOp _ vs _ => lamEs n vs
    | .BinOp l _ r _ => lamE n l ++ lamE n r
    | .UnaryOp _ a _ => lamE n a
    | .IfExp t b o _ => lamE n t ++ (lamE n b ++ lamE n o)
    | .Compare a _ bs _ => lamE n a ++ lamEs n bs
    | .Call f as ks _ => lamE n f ++ (lamEs n as ++ lamKs n ks)
    | .ListComp e gs _ _ => lamGs n gs ++ lamE n e
    | .Attribute v _ _ => lamE n v
    | .Subscript a b _ => lamE n a ++ lamE n b
    | .List es _ => lamEs n es
    | .Tuple es _ _ => lamEs n es
    | _ => []
def lamEs : Nat → List PySem.Expr → List (Arguments × PySem.Expr × Scope)
  | 0, _ => []
  | _ + 1, [] => []
  | n + 1, e :: r => lamE n e ++ lamEs n r
def lamKs : Nat → List PySem.Keyword → List (Arguments × PySem.Expr × Scope)
  | 0, _ => []
  | _ + 1, [] => []
  | n + 1, k :: r => lamE n k.value ++ lamKs n r
def lamGs : Nat → List PySem.Comprehension → List (Arguments × PySem.Expr × Scope)
  | 0, _ => []
  | _ + 1, [] => []
  | n + 1, g :: r => lamE n g.iter ++ (lamEs n g.ifs ++ lamGs n r)
end
mutual
def lamS : Nat → PySem.Stmt → List (Arguments × PySem.Expr × Scope)
  | 0, _ => []
  | n + 1, s => match s with
    | .Return (some e) _ => lamE n e
    | .Assign _ e _ => lamE n e
    | .AugAssign _ _ e _ => lamE n e
    | .Expr e _ => lamE n e
    | .For _ i b _ _ => lamE n i ++ lamSs n b
    | .While t b _ _ => lamE n t ++ lamSs n b
    | .If t a b _ => lamE n t ++ (lamSs n a ++ lamSs n b)
    | .Try b _ _ _ _ => lamSs n b
    | _ => []
def lamSs : Nat → List PySem.Stmt → List (Arguments × PySem.Expr × Scope)
  | 0, _ => []
  | _ + 1, [] => []
  | n + 1, s :: r => lamS n s ++ lamSs n r
end
def noLam : Arguments × PySem.Expr × Scope := (⟨[], [], none, [], [], none, []⟩, .Constant .none 0 ⟨0, 0, 0, 0⟩, default)
end MX

set_option maxRecDepth 100000
namespace MX
open PySem
def lx_0 : Arguments × PySem.Expr × Scope := (lamSs 60 (L2.defBody (PySem.Challenge.pw_backinside_k12_texts_of_rules.main.body.getD 40 (.Pass ⟨0, 0, 0, 0⟩)))).getD 0 noLam
def lam_0 : LamD := ⟨"_law_all_refused.<locals>.<lambda>", lx_0.1, lx_0.2.1, lx_0.2.2, [], ["call", "odd"]⟩
def lx_1 : Arguments × PySem.Expr × Scope := (lamSs 60 (L2.defBody (PySem.Challenge.pw_backinside_k12_texts_of_rules.main.body.getD 45 (.Pass ⟨0, 0, 0, 0⟩)))).getD 0 noLam
def lam_1 : LamD := ⟨"law.<locals>.<lambda>", lx_1.1, lx_1.2.1, lx_1.2.2, [], ["bent"]⟩
def lx_2 : Arguments × PySem.Expr × Scope := (lamSs 60 (L2.defBody (PySem.Challenge.pw_backinside_k12_texts_of_rules.main.body.getD 45 (.Pass ⟨0, 0, 0, 0⟩)))).getD 1 noLam
def lam_2 : LamD := ⟨"law.<locals>.<lambda>", lx_2.1, lx_2.2.1, lx_2.2.2, [], ["odd"]⟩
def lx_3 : Arguments × PySem.Expr × Scope := (lamSs 60 (L2.defBody (PySem.Challenge.pw_backinside_k12_texts_of_rules.main.body.getD 45 (.Pass ⟨0, 0, 0, 0⟩)))).getD 2 noLam
def lam_3 : LamD := ⟨"law.<locals>.<lambda>", lx_3.1, lx_3.2.1, lx_3.2.2, [], ["due"]⟩
def lx_4 : Arguments × PySem.Expr × Scope := (lamSs 60 (L2.defBody (PySem.Challenge.pw_backinside_k12_texts_of_rules.main.body.getD 45 (.Pass ⟨0, 0, 0, 0⟩)))).getD 3 noLam
def lam_4 : LamD := ⟨"law.<locals>.<lambda>", lx_4.1, lx_4.2.1, lx_4.2.2, [], []⟩
/-- the lambdas of the text -/
def lamTab : List LamD := [lam_0, lam_1, lam_2, lam_3, lam_4]
end MX

set_option Elab.async false
set_option linter.all false
set_option maxRecDepth 100000
set_option autoImplicit false
/-! MX2: how data lies in the heap; steps; what an expression's evaluation asks. -/
namespace MX
open PySem L2

theorem Same.tup {K : PySem.W.Frag} {H H' : Hp} {a : Addr} {xs : List V} (e : Same H H') (h : SqT K H a xs) : SqT K H' a xs := by
  rcases h with (h | ⟨o, h⟩) | h
  · exact .inl (.inl (e _ _ h))
  · exact .inl (.inr ⟨o, e _ _ h⟩)
  · exact .inr h

/-! ### lambdas' objects -/
def LamO (f : Addr) (l : LamD) (cl : List (Str × Addr)) (c : Addr) : HO := .ext fun h => ∃ (pm ctv : Value), h.get? f = some (PySem.W.kla_obj "<lambda>" l.qual l.params l.body l.scope cl pm c ctv)
/-- a captured cell, as it stands -/
def CellX (c : Addr) (o : Obj) : HO := .ext fun h => h.get? c = some o
structure CloAt (G : Hp) (f : Addr) (l : LamD) (cl : List (Str × Addr)) (c : Addr) (vs : List V) : Prop where
  obj : G f = some (LamO f l cl c)
  code : G c = some (LamX.CodeO c l.qual)
  cells : ∀ p ∈ cl, ∃ (o : Obj) (v : Option Value), G p.2 = some (CellX p.2 o) ∧ o.data = .cell v
  inj : ∀ x y a, cl.lookup x = some a → cl.lookup y = some a → x = y
  len : vs.length = l.fr.length
  has : ∀ (i : Nat) (y : Str), l.fr[i]? = some y → ∃ (a : Addr) (o : Obj) (u : Value) (v : V), cl.lookup y = some a ∧ G a = some (CellX a o) ∧ o.data = .cell (some u) ∧ vs[i]? = some v ∧ RelV v u
theorem CloAt.mono {G G' : Hp} {f : Addr} {l : LamD} {cl : List (Str × Addr)} {c : Addr} {vs : List V} (m : Same G G') (h : CloAt G f l cl c vs) : CloAt G' f l cl c vs :=
  ⟨m _ _ h.obj, m _ _ h.code, fun p e => let ⟨o, v, h1, h2⟩ := h.cells p e; ⟨o, v, m _ _ h1, h2⟩, h.inj, h.len, fun i y e => let ⟨a, o, u, v, h1, h2, h3⟩ := h.has i y e; ⟨a, o, u, v, h1, m _ _ h2, h3⟩⟩
/-- without some cells -/
def delG (G : Hp) (cl : List (Str × Addr)) : Hp := fun b => if b ∈ cl.map (·.2) then none else G b
theorem delG_mono {G G' : Hp} {cl : List (Str × Addr)} (m : Same G G') : Same (delG G cl) (delG G' cl) := fun b o e => by
  unfold delG at e ⊢
  split at e
  · cases e
  · rename_i h
    rw [if_neg h]
    exact m _ _ e
mutual
inductive Den (K : PySem.W.Frag) : Hp → D → V → Prop
  | non {G : Hp} : Den K G .non .non
  | bl {G : Hp} (b : Bool) : Den K G (.bl b) (.bl b)
  | int {G : Hp} (i : Int) : Den K G (.int i) (.int i)
  | str {G : Hp} (x : Str) : Den K G (.str x) (.str x)
  | scr {G : Hp} {a : Addr} {ns : List Int} : SqL K G a (ns.map V.int) → Den K G (.scr ns) (.ref a)
  | tup {G : Hp} {a : Addr} {vs : List V} {ds : List D} : SqT K G a vs → DenL K G ds vs → Den K G (.tup ds) (.ref a)
  | lst {G : Hp} {a : Addr} {vs : List V} {ds : List D} : G a = some (.lst vs) → DenL K G ds vs → Den K G (.lst ds) (.ref a)
  | fn {G : Hp} {a : Addr} {f : Nat} {x : Str} : PySem.W.nsIn K mainGlobals x = some (some (.ref a)) → Den K G (.fn f x) (.ref a)
  | clo {G : Hp} {a : Addr} {k : Nat} {l : LamD} {cl : List (Str × Addr)} {c : Addr} {cs : List D} {vs : List V} : lamTab[k]? = some l → CloAt G a l cl c vs → DenL K (delG G cl) cs vs → Den K G (.clo k cs) (.ref a)
  | adr {G : Hp} {a : Addr} : Den K G (.adr a) (.ref a)
inductive DenL (K : PySem.W.Frag) : Hp → List D → List V → Prop
  | nil {G : Hp} : DenL K G [] []
  | cons {G : Hp} {d : D} {v : V} {ds : List D} {vs : List V} : Den K G d v → DenL K G ds vs → DenL K G (d :: ds) (v :: vs)
end

section
variable {K : PySem.W.Frag} {G G' H : Hp}
mutual
theorem Den.mono' : ∀ {G G' : Hp} {d : D} {v : V}, Same G G' → Den K G d v → Den K G' d v
  | _, _, _, _, _, .non => .non
  | _, _, _, _, _, .bl b => .bl b
  | _, _, _, _, _, .int i => .int i
  | _, _, _, _, _, .str x => .str x
  | _, _, _, _, m, .scr h => .scr (m.seq h)
  | _, _, _, _, m, .tup h t => .tup (Same.tup m h) (DenL.mono' m t)
  | _, _, _, _, m, .lst h t => .lst (m _ _ h) (DenL.mono' m t)
  | _, _, _, _, _, .fn h => .fn h
  | _, _, _, _, m, .clo e h t => .clo e (h.mono m) (DenL.mono' (delG_mono m) t)
  | _, _, _, _, _, .adr => .adr
theorem DenL.mono' : ∀ {G G' : Hp} {ds : List D} {vs : List V}, Same G G' → DenL K G ds vs → DenL K G' ds vs
  | _, _, _, _, _, .nil => .nil
  | _, _, _, _, m, .cons h t => .cons (Den.mono' m h) (DenL.mono' m t)
end
theorem Den.mono (m : Same G G') {d : D} {v : V} (h : Den K G d v) : Den K G' d v := Den.mono' m h
theorem DenL.mono (m : Same G G') {ds : List D} {vs : List V} (h : DenL K G ds vs) : DenL K G' ds vs := DenL.mono' m h
theorem DenL.length : ∀ {ds : List D} {vs : List V}, DenL K G ds vs → ds.length = vs.length
  | _, _, .nil => rfl
  | _, _, .cons _ t => congrArg (· + 1) (DenL.length t)
theorem DenL.append : ∀ {ds es : List D} {vs ws : List V}, DenL K G ds vs → DenL K G es ws → DenL K G (ds ++ es) (vs ++ ws)
  | _, _, _, _, .nil, s => s
  | _, _, _, _, .cons h t, s => .cons h (DenL.append t s)
theorem DenL.get : ∀ {ds : List D} {vs : List V} {i : Nat} {d : D}, DenL K G ds vs → ds[i]? = some d → ∃ v, vs[i]? = some v ∧ Den K G d v
  | _, _, _, _, .nil, e => by simp at e
  | _, _, 0, _, .cons h _, e => by simp at e; subst e; exact ⟨_, rfl, h⟩
  | _, _, i + 1, d, .cons _ t, e => by
    obtain ⟨v, h1, h2⟩ := DenL.get (i := i) (d := d) t (by simpa using e)
    exact ⟨v, by simpa using h1, h2⟩
theorem DenL.getv : ∀ {ds : List D} {vs : List V} {i : Nat} {v : V}, DenL K G ds vs → vs[i]? = some v → ∃ d, ds[i]? = some d ∧ Den K G d v
  | _, _, _, _, .nil, e => by simp at e
  | _, _, 0, _, .cons h _, e => by simp at e; subst e; exact ⟨_, rfl, h⟩
  | _, _, i + 1, v, .cons _ t, e => by
    obtain ⟨d, h1, h2⟩ := DenL.getv (i := i) (v := v) t (by simpa using e)
    exact ⟨d, by simpa using h1, h2⟩
theorem DenL.ints : ∀ {ns : List Int} {vs : List V}, DenL K G (ns.map .int) vs → vs = ns.map V.int
  | [], _, .nil => rfl
  | n :: ns, _, .cons h t => by cases h; rw [DenL.ints t]; rfl
theorem DenL.intsD : ∀ {ds : List D} {vs : List V} {ns : List Int}, MX.intsD ds = some ns → DenL K G ds vs → vs = ns.map V.int
  | [], _, _, e, .nil => by simp [MX.intsD] at e; subst e; rfl
  | _ :: _, _, _, e, .cons h t => by
    cases h <;> simp [MX.intsD] at e
    obtain ⟨m, e1, e2⟩ := e
    subst e2
    rw [DenL.intsD e1 t]; rfl
theorem DenL.blsD : ∀ {ds : List D} {vs : List V} {bs : List Bool}, MX.blsD ds = some bs → DenL K G ds vs → vs = bs.map V.bl
  | [], _, _, e, .nil => by simp [MX.blsD] at e; subst e; rfl
  | _ :: _, _, _, e, .cons h t => by
    cases h <;> simp [MX.blsD] at e
    obtain ⟨m, e1, e2⟩ := e
    subst e2
    rw [DenL.blsD e1 t]; rfl
mutual
theorem Den.dp (m : Same G H) : ∀ {d : D} {v : V} {p : PyData}, Den K G d v → d.pd = some p → Dp K H v p
  | _, _, _, .non, e => by simp [D.pd] at e; subst e; exact .non
  | _, _, _, .bl b, e => by simp [D.pd] at e; subst e; exact .bl b
  | _, _, _, .int i, e => by simp [D.pd] at e; subst e; exact .int i
  | _, _, _, .str x, e => by simp [D.pd] at e; subst e; exact .str x
  | _, _, _, .scr _, e => by simp [D.pd] at e
  | _, _, _, .fn _, e => by simp [D.pd] at e
  | _, _, _, .clo _ _ _, e => by simp [D.pd] at e
  | _, _, _, .adr, e => by simp [D.pd] at e
  | _, _, _, .tup h t, e => by
    simp only [D.pd, Option.map_eq_some_iff] at e
    obtain ⟨ps, e1, e2⟩ := e
    subst e2
    exact .tup (Same.tup m h) (DenL.dp m t e1)
  | _, _, _, .lst h t, e => by
    simp only [D.pd, Option.map_eq_some_iff] at e
    obtain ⟨ps, e1, e2⟩ := e
    subst e2
    exact .lst (.inl (.inl (m _ _ h))) (DenL.dp m t e1)
theorem DenL.dp (m : Same G H) : ∀ {ds : List D} {vs : List V} {ps : List PyData}, DenL K G ds vs → D.pdL ds = some ps → DpAll K H vs ps
  | _, _, _, .nil, e => by simp [D.pdL] at e; subst e; exact .nil
  | d :: ds, _, _, .cons h t, e => by
    simp only [D.pdL] at e
    cases e1 : d.pd with
    | none => rw [e1] at e; simp at e
    | some y =>
      cases e2 : D.pdL ds with
      | none => rw [e1, e2] at e; simp at e
      | some ys =>
        rw [e1, e2] at e
        simp at e
        subst e
        exact .cons (Den.dp m h e1) (DenL.dp m t e2)
end
end

/-! ### slots in the heap -/
/-- the callers' addresses; the tables of code objects of the defs that make lambdas -/
structure Lk where
  at_ : Nat → Addr
  T : List (Addr × Str)
instance : CoeFun Lk (fun _ => Nat → Addr) := ⟨Lk.at_⟩
/-- no table of code objects -/
def NT (o : HO) : Prop := ∀ ps, o ≠ .tbl ps
theorem nt_lst {vs : List V} : NT (.lst vs) := fun _ z => nomatch z
theorem nt_tup {vs : List V} : NT (.tup vs) := fun _ z => nomatch z
theorem nt_dK {m : List (Key × V)} : NT (.dK m) := fun _ z => nomatch z
/-- the tables of code objects: what they tell lies in the frozen part -/
def TabG (G H : Hp) (P : Addr) (q : Str) : Prop := ∃ ps : Array Value, H P = some (.tbl ps) ∧ TriplesOk ps.toList ∧ ∀ (pos : Pos) (cv : Value), codeAmong pos ps.toList = some cv → ∃ c, cv = .ref c ∧ G c = some (LamX.CodeO c q)
def TabsG (T : List (Addr × Str)) (G H : Hp) : Prop := ∀ p ∈ T, TabG G H p.1 p.2
theorem TabsG.gm {T : List (Addr × Str)} {G G' H : Hp} (m : Same G G') (t : TabsG T G H) : TabsG T G' H := fun p hp => by
  obtain ⟨ps, h3, h4, h5⟩ := t p hp
  refine ⟨ps, h3, h4, fun pos cv hc => ?_⟩
  obtain ⟨c, e, q⟩ := h5 pos cv hc
  exact ⟨c, e, m _ _ q⟩
theorem TabsG.to {T : List (Addr × Str)} {G H : Hp} (m : Same G H) (t : TabsG T G H) : LamX.Tabs T H := fun p hp => by
  obtain ⟨ps, h3, h4, h5⟩ := t p hp
  refine ⟨ps, h3, h4, fun pos cv hc => ?_⟩
  obtain ⟨c, e, q⟩ := h5 pos cv hc
  exact ⟨c, e, m _ _ q⟩
theorem tabs_upd {T : List (Addr × Str)} {G H : Hp} {a : Addr} {o : HO} (t : TabsG T G H) (h : ∀ ps, H a ≠ some (.tbl ps)) : TabsG T G (upd H a o) := fun p hp => by
  obtain ⟨ps, h3, h4, h5⟩ := t p hp
  have e1 : p.1 ≠ a := fun z => h ps (z ▸ h3)
  exact ⟨ps, by rw [upd_ne e1]; exact h3, h4, h5⟩
theorem tabs_new {T : List (Addr × Str)} {G H : Hp} {a : Addr} {o : HO} (t : TabsG T G H) (h : H a = none) : TabsG T G (upd H a o) := tabs_upd t fun ps z => by rw [h] at z; cases z
theorem tabs_lst {T : List (Addr × Str)} {G H : Hp} {a : Addr} {o : HO} {vs : List V} (t : TabsG T G H) (h : H a = some (.lst vs)) : TabsG T G (upd H a o) := tabs_upd t fun ps z => by rw [h] at z; cases z
theorem tabs_dK {T : List (Addr × Str)} {G H : Hp} {a : Addr} {o : HO} {m : List (Key × V)} (t : TabsG T G H) (h : H a = some (.dK m)) : TabsG T G (upd H a o) := tabs_upd t fun ps z => by rw [h] at z; cases z
theorem tabs_no {T : List (Addr × Str)} {G H : Hp} {a : Addr} (t : TabsG T G H) (h : ∀ ps, H a ≠ some (.tbl ps)) : ∀ p ∈ T, p.1 ≠ a := fun p hp z => by
  obtain ⟨ps, h3, _⟩ := t p hp
  exact h ps (z ▸ h3)
/-- an object that is held alone -/
def OwnC (K : PySem.W.Frag) (G H : Hp) (d : D) (a : Addr) : Prop := ∃ xs vs, d = .lst xs ∧ H a = some (.lst vs) ∧ DenL K G xs vs
def SlR (K : PySem.W.Frag) (L : Lk) (G H : Hp) : Sl → Option (Option V) → Prop
  | .un, _ => True
  | .val d, o => ∃ v, o = some (some v) ∧ Den K G d v
  | .own t d, o => ∃ a, o = some (some (.ref a)) ∧ OwnC K G H d a ∧ G a = none ∧ ∀ j, t = j + 1 → L j = a
def OwnS (S : SS) (σ : St) (i : Nat) (a : Addr) : Prop := ∃ t d, S[i]? = some (.own t d) ∧ σ[i]? = some (some (.ref a))
def Own (S : SS) (σ : St) (a : Addr) : Prop := ∃ i, OwnS S σ i a
structure Rel (K : PySem.W.Frag) (L : Lk) (G H : Hp) (S : SS) (σ : St) : Prop where
  sub : Same G H
  len : S.length = σ.length
  at_ : ∀ (i : Nat) (s : Sl), S[i]? = some s → SlR K L G H s σ[i]?
  inj : ∀ (i j : Nat) (a : Addr), OwnS S σ i a → OwnS S σ j a → i = j
  tabs : TabsG L.T G H
  gt : ∀ p ∈ L.T, G p.1 = none
structure Stp (K : PySem.W.Frag) (L : Lk) (G H : Hp) (S : SS) (σ : St) (G' H' : Hp) (S' : SS) (σ' : St) : Prop where
  rel : Rel K L G' H' S' σ'
  gm : Same G G'
  keep : ∀ a o, NT o → H a = some o → ¬ Own S σ a → H' a = some o ∧ G' a = G a
  th : ∀ a, H a ≠ none → H' a ≠ none
  ow : ∀ a, Own S' σ' a → Own S σ a ∨ H a = none
/-- what an answer is in the heap behind -/
def RR (K : PySem.W.Frag) (H : Hp) (S : SS) (σ : St) (G' H' : Hp) (S' : SS) (σ' : St) : R → V → Prop
  | .v d, v => Den K G' d v
  | .fr d, v => ∃ a, v = .ref a ∧ OwnC K G' H' d a ∧ G' a = none ∧ ¬ Own S' σ' a ∧ (H a = none ∨ Own S σ a)
  | .ex _, _ => False

section
variable {K : PySem.W.Frag} {L : Lk} {G G1 G' G2 H H1 H' H2 : Hp} {S S1 S' S2 : SS} {σ σ1 σ' σ2 : St} {d : D} {v : V} {a : Addr}
theorem SlR.mono {s : Sl} {o : Option (Option V)} (r : SlR K L G H s o) (m : Same G G') (hk : ∀ a, o = some (some (.ref a)) → (∃ t d, s = .own t d) → H' a = H a ∧ G' a = G a) : SlR K L G' H' s o := by
  cases s with
  | un => trivial
  | val d => obtain ⟨v, e, q⟩ := r; exact ⟨v, e, q.mono m⟩
  | own t d =>
    obtain ⟨a, e, ⟨xs, vs, e1, e2, e3⟩, e4, e5⟩ := r
    obtain ⟨k1, k2⟩ := hk a e ⟨t, d, rfl⟩
    exact ⟨a, e, ⟨xs, vs, e1, by rw [k1]; exact e2, e3.mono m⟩, by rw [k2]; exact e4, e5⟩
theorem Rel.own (r : Rel K L G H S σ) {i : Nat} {t : Nat} (e : S[i]? = some (.own t d)) : ∃ a, σ[i]? = some (some (.ref a)) ∧ OwnS S σ i a ∧ OwnC K G H d a ∧ G a = none ∧ ∀ j, t = j + 1 → L j = a := by
  obtain ⟨a, e1, e2, e3, e4⟩ := r.at_ i _ e
  exact ⟨a, e1, ⟨t, d, e, e1⟩, e2, e3, e4⟩
theorem Rel.ownH (r : Rel K L G H S σ) (h : Own S σ a) : H a ≠ none ∧ G a = none := by
  obtain ⟨i, t, d, e, e1⟩ := h
  obtain ⟨b, e2, _, ⟨xs, vs, _, e3, _⟩, e4, _⟩ := r.own e
  rw [e1] at e2; cases e2
  exact ⟨by rw [e3]; simp, e4⟩
theorem Rel.ownL (r : Rel K L G H S σ) (h : Own S σ a) : ∃ vs, H a = some (.lst vs) := by
  obtain ⟨i, t, d, e, e1⟩ := h
  obtain ⟨b, e2, _, ⟨xs, vs, _, e3, _⟩, _⟩ := r.own e
  rw [e1] at e2; cases e2
  exact ⟨vs, e3⟩
theorem Stp.refl (r : Rel K L G H S σ) : Stp K L G H S σ G H S σ := ⟨r, Same.refl _, fun _ _ _ h _ => ⟨h, rfl⟩, fun _ h => h, fun _ h => .inl h⟩
theorem Stp.trans (x : Stp K L G H S σ G1 H1 S1 σ1) (y : Stp K L G1 H1 S1 σ1 G2 H2 S2 σ2) : Stp K L G H S σ G2 H2 S2 σ2 where
  rel := y.rel
  gm := x.gm.trans y.gm
  keep := fun a o nt h n => by
    obtain ⟨h1, g1⟩ := x.keep a o nt h n
    obtain ⟨h2, g2⟩ := y.keep a o nt h1 fun q => by
      rcases x.ow a q with q | q
      · exact n q
      · rw [h] at q; cases q
    exact ⟨h2, g2.trans g1⟩
  th := fun a h => y.th a (x.th a h)
  ow := fun a h => by
    rcases y.ow a h with q | q
    · exact x.ow a q
    · cases e : H a with
      | none => exact .inr rfl
      | some o => exact absurd q (x.th a (by rw [e]; simp))
theorem Stp.new (x : Stp K L G H S σ G1 H1 S1 σ1) (h : H1 a = none ∨ Own S1 σ1 a) : H a = none ∨ Own S σ a := by
  rcases h with h | h
  · cases e : H a with
    | none => exact .inl rfl
    | some o => exact absurd h (x.th a (by rw [e]; simp))
  · exact (x.ow a h).symm
theorem RR.rebase (x : Stp K L G H S σ G1 H1 S1 σ1) {r : R} (h : RR K H1 S1 σ1 G2 H2 S2 σ2 r v) : RR K H S σ G2 H2 S2 σ2 r v := by
  cases r with
  | v d => exact h
  | ex c => exact h
  | fr d => obtain ⟨a, e, o, g, n, q⟩ := h; exact ⟨a, e, o, g, n, x.new q⟩
/-- the answer becomes a value: a new object is from now on never changed -/
theorem Stp.freeze (x : Stp K L G H S σ G' H' S' σ') (h : RR K H S σ G' H' S' σ' (.fr d) v) : ∃ G2, Stp K L G H S σ G2 H' S' σ' ∧ Den K G2 d v ∧ Same G' G2 := by
  obtain ⟨a, rfl, ⟨xs, vs, rfl, hv, hd⟩, hg, hn, hw⟩ := h
  have m : Same G' (upd G' a (.lst vs)) := fun b o e => by rw [upd_ne (ne_of_none e hg)]; exact e
  refine ⟨upd G' a (.lst vs), ⟨⟨fun b o e => ?_, x.rel.len, fun i s e => ?_, x.rel.inj, x.rel.tabs.gm m, fun p hp => ?_⟩, x.gm.trans m, fun b o nt e n => ?_, x.th, x.ow⟩, .lst upd_same (hd.mono m), m⟩
  · by_cases q : b = a
    · subst q; rw [upd_same] at e; cases e; exact hv
    · rw [upd_ne q] at e; exact x.rel.sub _ _ e
  · refine (x.rel.at_ i s e).mono m fun b eb ⟨t, d', es⟩ => ⟨rfl, ?_⟩
    subst es
    exact upd_ne fun q => hn (q ▸ ⟨i, t, d', e, eb⟩)
  · rw [upd_ne (tabs_no x.rel.tabs (fun ps z => by rw [hv] at z; cases z) p hp)]
    exact x.rel.gt p hp
  · obtain ⟨k1, k2⟩ := x.keep b o nt e n
    refine ⟨k1, ?_⟩
    rw [upd_ne]
    · exact k2
    · rintro rfl
      rcases hw with q | q
      · rw [e] at q; cases q
      · exact n q
end

/-! ### what an evaluation asks -/
structure Ctx where
  cl : CL
  L : Lk
  W : Value → Option Addr → St → Hp → Prop
  cv : Nat → Value
def Fin (K : PySem.W.Frag) (C : Ctx) (σ : St) (G H : Hp) (S : SS) (Q : VK) (o : Option (R × SS)) : Prop :=
  ∃ r S', o = some (r, S') ∧
    (∀ c, r = .ex c → ∀ G' H', Stp K C.L G H S σ G' H' S' σ → C.W (C.cv c) none σ H') ∧
    (∀ G' H' v, Stp K C.L G H S σ G' H' S' σ → RR K H S σ G' H' S' σ r v → Q v H')
def tE (K : PySem.W.Frag) (C : Ctx) (e : E) : TE := fun σ H Q => ∃ G S, Rel K C.L G H S σ ∧ Fin K C σ G H S Q (ev C.cl e S)
def SE (X : Cx) (C : Ctx) (e : Expr) (x : E) : Prop := PE X e (tE X.K C x)
section
variable {K : PySem.W.Frag} {C : Ctx} {σ : St} {G H G1 H1 : Hp} {S S1 : SS} {Q : VK} {o : Option (R × SS)}
theorem Fin.mono {Q' : VK} (h : Fin K C σ G H S Q o) (m : ∀ v H', Q v H' → Q' v H') : Fin K C σ G H S Q' o := by
  obtain ⟨r, S', e, h1, h2⟩ := h
  exact ⟨r, S', e, h1, fun G' H' v s r => m _ _ (h2 G' H' v s r)⟩
theorem Fin.rebase (h : Fin K C σ G H S Q o) (x : Stp K C.L G H S σ G1 H1 S1 σ) : Fin K C σ G1 H1 S1 Q o := by
  obtain ⟨r, S', e, h1, h2⟩ := h
  exact ⟨r, S', e, fun c ec G' H' y => h1 c ec G' H' (x.trans y), fun G' H' v y q => h2 G' H' v (x.trans y) (q.rebase x)⟩
/-- what stands behind an operand -/
def Nxt (K : PySem.W.Frag) (C : Ctx) (σ : St) (G : Hp) (k : D → SS → Option (R × SS)) (Q : VK) : VK := fun v H1 =>
  ∃ G1 S1 d, Rel K C.L G1 H1 S1 σ ∧ Same G G1 ∧ Den K G1 d v ∧ Fin K C σ G1 H1 S1 Q (k d S1)
theorem Fin.bndS {x : Option (R × SS)} {k : D → SS → Option (R × SS)} (h : Fin K C σ G H S Q (MX.bnd x k)) : Fin K C σ G H S (fun v H1 => ∃ G1 S1 d, Stp K C.L G H S σ G1 H1 S1 σ ∧ Den K G1 d v ∧ Fin K C σ G1 H1 S1 Q (k d S1)) x := by
  cases x with
  | none => obtain ⟨r, S', e, _⟩ := h; simp [MX.bnd] at e
  | some p =>
    obtain ⟨r, S1⟩ := p
    cases r with
    | ex c =>
      obtain ⟨r', S', e, h1, h2⟩ := h
      simp only [MX.bnd, Option.some.injEq, Prod.mk.injEq] at e
      obtain ⟨rfl, rfl⟩ := e
      exact ⟨.ex c, S1, rfl, h1, fun _ _ _ _ z => z.elim⟩
    | v d =>
      refine ⟨.v d, S1, rfl, (fun _ z => nomatch z), fun G' H' v s q => ⟨G', S1, d, s, q, ?_⟩⟩
      exact Fin.rebase h s
    | fr d =>
      refine ⟨.fr d, S1, rfl, (fun _ z => nomatch z), fun G' H' v s q => ?_⟩
      obtain ⟨G2, s2, hd, m⟩ := s.freeze q
      exact ⟨G2, S1, d, s2, hd, Fin.rebase h s2⟩
theorem Fin.bnd {x : Option (R × SS)} {k : D → SS → Option (R × SS)} (h : Fin K C σ G H S Q (MX.bnd x k)) : Fin K C σ G H S (Nxt K C σ G k Q) x :=
  (Fin.bndS h).mono fun v H1 ⟨G1, S1, d, s, q, f⟩ => ⟨G1, S1, d, s.rel, s.gm, q, f⟩
/-- an answer that is there: nothing has changed -/
theorem Fin.now {d : D} {v : V} (rel : Rel K C.L G H S σ) (h : Fin K C σ G H S Q (some (.v d, S))) (hd : Den K G d v) : Q v H := by
  obtain ⟨r, S', e, _, h2⟩ := h
  simp only [Option.some.injEq, Prod.mk.injEq] at e
  obtain ⟨rfl, rfl⟩ := e
  exact h2 G H v (Stp.refl rel) hd
/-- a step to a new object in the frozen part (a tuple, a new list that is frozen at once) -/
theorem Rel.grow {L : Lk} (rel : Rel K L G H S σ) {p : Addr} {o : HO} (hp : H p = none) : Stp K L G H S σ (upd G p o) (upd H p o) S σ := by
  have hg : G p = none := by
    cases e : G p with
    | none => rfl
    | some u => rw [rel.sub _ _ e] at hp; cases hp
  have m : Same G (upd G p o) := fun b u e => by rw [upd_ne (ne_of_none e hg)]; exact e
  refine ⟨⟨fun b u e => ?_, rel.len, fun i s e => ?_, rel.inj, (tabs_new rel.tabs hp).gm m, fun q hq => ?_⟩, m, fun b u nt e n => ?_, fun b h => ?_, fun b h => .inl h⟩
  · by_cases q : b = p
    · subst q; rw [upd_same] at e ⊢; exact e
    · rw [upd_ne q] at e ⊢; exact rel.sub _ _ e
  · refine (rel.at_ i s e).mono m fun b eb ⟨t, d', es⟩ => ?_
    subst es
    have hb := (rel.ownH ⟨i, t, d', e, eb⟩).1
    have : b ≠ p := fun z => hb (z ▸ hp)
    exact ⟨upd_ne this, upd_ne this⟩
  · rw [upd_ne (tabs_no rel.tabs (fun ps z => by rw [hp] at z; cases z) q hq)]
    exact rel.gt q hq
  · have : b ≠ p := ne_of_none e hp
    rw [upd_ne this, upd_ne this]
    exact ⟨e, rfl⟩
  · unfold upd
    split
    · simp
    · exact h
/-- a step to a new object that is held alone -/
theorem Rel.fresh {L : Lk} (rel : Rel K L G H S σ) {p : Addr} {o : HO} (hp : H p = none) : Stp K L G H S σ G (upd H p o) S σ ∧ G p = none ∧ ¬ Own S σ p := by
  have hg : G p = none := by
    cases e : G p with
    | none => rfl
    | some u => rw [rel.sub _ _ e] at hp; cases hp
  refine ⟨⟨⟨fun b u e => ?_, rel.len, fun i s e => ?_, rel.inj, tabs_new rel.tabs hp, rel.gt⟩, Same.refl _, fun b u nt e n => ?_, fun b h => ?_, fun b h => .inl h⟩, hg, fun h => (rel.ownH h).1 hp⟩
  · rw [upd_ne (ne_of_none e hg)]; exact rel.sub _ _ e
  · refine (rel.at_ i s e).mono (Same.refl _) fun b eb ⟨t, d', es⟩ => ?_
    subst es
    have hb := (rel.ownH ⟨i, t, d', e, eb⟩).1
    exact ⟨upd_ne fun z => hb (z ▸ hp), rfl⟩
  · rw [upd_ne (ne_of_none e hp)]; exact ⟨e, rfl⟩
  · unfold upd
    split
    · simp
    · exact h
/-- an answer that is a new tuple -/
theorem Fin.newTup {ds : List D} {vs : List V} (rel : Rel K C.L G H S σ) (h : Fin K C σ G H S Q (some (.v (.tup ds), S))) (hd : DenL K G ds vs) : ∀ p, H p = none → Q (.ref p) (upd H p (.tup vs)) := by
  intro p hp
  have s := rel.grow (o := .tup vs) hp
  have h' := h.rebase s
  exact h'.now s.rel (.tup (.inl (.inl upd_same)) (hd.mono s.gm))
/-- an answer that is a new list -/
theorem Fin.newLst {ds : List D} {vs : List V} (rel : Rel K C.L G H S σ) (h : Fin K C σ G H S Q (some (.fr (.lst ds), S))) (hd : DenL K G ds vs) : ∀ p, H p = none → Q (.ref p) (upd H p (.lst vs)) := by
  intro p hp
  obtain ⟨s, hg, ho⟩ := rel.fresh (o := .lst vs) hp
  obtain ⟨r, S', e, _, h2⟩ := h
  simp only [Option.some.injEq, Prod.mk.injEq] at e
  obtain ⟨rfl, rfl⟩ := e
  exact h2 G _ _ s ⟨p, rfl, ⟨ds, vs, rfl, upd_same, hd⟩, hg, ho, .inl hp⟩
end
theorem PE.imp {X : Cx} {e : Expr} {t t' : TE} (h : PE X e t) (m : ∀ σ H Q, t' σ H Q → t σ H Q) : PE X e t' := ⟨fun pins s σ H Q I q => h.run pins s σ H Q I (m σ H Q q)⟩
theorem PT.imp {X : Cx} {e : Expr} {t t' : TT} (h : PT X e t) (m : ∀ σ H Q, t' σ H Q → t σ H Q) : PT X e t' := ⟨fun pins s σ H Q I q => h.run pins s σ H Q I (m σ H Q q)⟩
theorem PS.imp {X : Cx} {e : Stmt} {t t' : TS} (h : PS X e t) (m : ∀ D σ H, t' D σ H → t D σ H) : PS X e t' := ⟨fun pins s σ H D I q => h.run pins s σ H D I (m D σ H q)⟩
end MX

set_option Elab.async false
set_option linter.all false
set_option maxRecDepth 100000
set_option autoImplicit false
/-! MX3: one lemma for each form of expression. -/
namespace MX
open PySem PySem.Spec PyProof.Rows L2

/-- an operand that is read: frozen, or held alone by a slot -/
def BDen (K : PySem.W.Frag) (G H : Hp) (d : D) (v : V) : Prop := Den K G d v ∨ ∃ a, v = .ref a ∧ OwnC K G H d a
section
variable {K : PySem.W.Frag} {G H G' H' : Hp} {S : SS} {σ : L2.St} {d : D} {v : V}
theorem BDen.toH (m : Same G H) (h : BDen K G H d v) : Den K H d v := by
  rcases h with h | ⟨a, rfl, xs, vs, rfl, e, t⟩
  · exact h.mono m
  · exact .lst e (t.mono m)
theorem Rel.rd {L : Lk} (r : Rel K L G H S σ) {i : Nat} (e : rdS S i = some d) : ∃ v, σ[i]? = some (some v) ∧ BDen K G H d v := by
  unfold rdS at e
  cases q : S[i]? with
  | none => rw [q] at e; simp at e
  | some s =>
    rw [q] at e
    cases s with
    | un => simp at e
    | val d' =>
      simp at e; subst e
      obtain ⟨v, e1, e2⟩ := r.at_ i _ q
      exact ⟨v, e1, .inl e2⟩
    | own t d' =>
      simp at e; subst e
      obtain ⟨a, e1, _, e2, _⟩ := r.own q
      exact ⟨_, e1, .inr ⟨a, rfl, e2⟩⟩
theorem Rel.freezeSlot {L : Lk} (r : Rel K L G H S σ) {i t : Nat} (e : S[i]? = some (.own t d)) : ∃ G2 a, σ[i]? = some (some (V.ref a)) ∧ Stp K L G H S σ G2 H (S.set i (.val d)) σ ∧ Den K G2 d (.ref a) := by
  obtain ⟨a, e1, e2, ⟨xs, vs, rfl, e3, e4⟩, e5, _⟩ := r.own e
  have m : Same G (upd G a (.lst vs)) := fun b o q => by rw [upd_ne (ne_of_none q e5)]; exact q
  have back : ∀ j b, OwnS (S.set i (.val (.lst xs))) σ j b → OwnS S σ j b ∧ j ≠ i := fun j b ⟨t', d', h1, h2⟩ => by
    by_cases q : i = j
    · subst q
      rw [List.getElem?_set] at h1
      split at h1
      · split at h1 <;> cases h1
      · exact absurd rfl ‹_›
    · rw [List.getElem?_set_ne q] at h1
      exact ⟨⟨t', d', h1, h2⟩, Ne.symm q⟩
  have dn : Den K (upd G a (.lst vs)) (.lst xs) (.ref a) := .lst upd_same (e4.mono m)
  refine ⟨_, a, e1, ⟨⟨fun b o q => ?_, by rw [List.length_set]; exact r.len, fun j s h => ?_, fun j k b h1 h2 => r.inj j k b (back j b h1).1 (back k b h2).1, r.tabs.gm m, fun p hp => ?_⟩, m, fun b o nt h n => ⟨h, ?_⟩, fun _ h => h, fun b ⟨j, h⟩ => .inl ⟨j, (back j b h).1⟩⟩, dn⟩
  · by_cases z : b = a
    · subst z; rw [upd_same] at q; cases q; exact e3
    · rw [upd_ne z] at q; exact r.sub _ _ q
  · by_cases q : i = j
    · subst q
      rw [List.getElem?_set] at h
      split at h
      · split at h
        · cases h; exact ⟨_, e1, dn⟩
        · cases h
      · exact absurd rfl ‹_›
    · rw [List.getElem?_set_ne q] at h
      refine (r.at_ j s h).mono m fun b eb ⟨t', d', es⟩ => ⟨rfl, ?_⟩
      subst es
      refine upd_ne ?_
      rintro rfl
      exact q (r.inj _ _ _ e2 ⟨t', d', h, eb⟩)
  · rw [upd_ne (tabs_no r.tabs (fun ps z => by rw [e3] at z; cases z) p hp)]
    exact r.gt p hp
  · refine upd_ne ?_
    rintro rfl
    exact n ⟨i, e2⟩
end

/-- what a body's text stands in -/
structure Good (X : Cx) (C : Ctx) : Prop where
  nd : X.N.Nodup
  calm : X.calm = true
  hu : X.A.units + 64 < cLine
  bl : ∀ x, x ∈ [("len" : Str), "abs", "int", "tuple", "list", "all", "bool", "sum", "max", "min", "isinstance", "str", "range", "enumerate", "zip"] → X.mg x = none

section
variable {X : Cx} {C : Ctx} {a b c e : Expr} {ea eb ec : E} {pos : Pos}

theorem s_cst {d : D} {v : V} (h : PE X e (tC v)) (hd : ∀ G, Den X.K G d v) : SE X C e (.cst d) :=
  PE.imp h fun σ H Q ⟨G, S, rel, f⟩ => Fin.now rel f (hd G)

theorem s_var {i : Nat} (h : PE X e (tVar i)) : SE X C e (.var i) := by
  refine PE.imp h fun σ H Q ⟨G, S, rel, f⟩ => ?_
  unfold ev varR at f
  cases q : S[i]? with
  | none => rw [q] at f; obtain ⟨_, _, z, _⟩ := f; cases z
  | some s =>
    rw [q] at f
    cases s with
    | un => obtain ⟨_, _, z, _⟩ := f; cases z
    | val d =>
      obtain ⟨v, e1, e2⟩ := rel.at_ i _ q
      exact ⟨v, e1, f.now rel e2⟩
    | own t d =>
      cases t with
      | succ t => obtain ⟨_, _, z, _⟩ := f; cases z
      | zero =>
        obtain ⟨G2, x, e1, st, dn⟩ := rel.freezeSlot q
        exact ⟨_, e1, (Fin.rebase f st).now st.rel dn⟩

theorem fin_none {K : PySem.W.Frag} {σ : L2.St} {G H : Hp} {S : SS} {Q : VK} {P : Prop} (f : Fin K C σ G H S Q none) : P := by
  obtain ⟨_, _, z, _⟩ := f; cases z

/-- the reading of an outcome -/
def tF (K : PySem.W.Frag) (C : Ctx) (f : SS → Option (R × SS)) : TE := fun σ H Q => ∃ G S, Rel K C.L G H S σ ∧ Fin K C σ G H S Q (f S)
/-- an expression of the text and its form here -/
structure SEv (X : Cx) (C : Ctx) (e : Expr) (x : E) : Prop where
  se : PE X e (tF X.K C fun S => ev C.cl x S)
  nm : ∀ i, x = .var i → PE X e (tVar i)
/-- behind an operand that may be read where it stands -/
def BNxt (K : PySem.W.Frag) (C : Ctx) (σ : L2.St) (G : Hp) (k : D → SS → Option (R × SS)) (Q : VK) : VK := fun v H1 =>
  ∃ G1 S1 d, Rel K C.L G1 H1 S1 σ ∧ Same G G1 ∧ BDen K G1 H1 d v ∧ Fin K C σ G1 H1 S1 Q (k d S1)
def tO (K : PySem.W.Frag) (C : Ctx) (x : E) : TE := fun σ H Q' => ∃ G S k Q, Rel K C.L G H S σ ∧ Fin K C σ G H S Q (bnd (rdv S x (ev C.cl x S)) k) ∧ ∀ v H1, BNxt K C σ G k Q v H1 → Q' v H1
theorem vr_some {x : E} {i : Nat} (h : vr x = some i) : x = .var i := by
  cases x <;> simp [vr] at h
  rw [h]
theorem SEv.op (ha : SEv X C a ea) : PE X a (tO X.K C ea) := by
  cases hv : vr ea with
  | some i =>
    have hx := vr_some hv
    refine PE.imp (ha.nm i hx) fun σ H Q' ⟨G, S, k, Q, rel, f, m⟩ => ?_
    subst hx
    unfold rdv at f
    simp only [vr] at f
    cases q : rdS S i with
    | none => rw [q] at f; exact fin_none f
    | some d =>
      rw [q] at f
      obtain ⟨v, e1, e2⟩ := rel.rd q
      exact ⟨v, e1, m v H ⟨G, S, d, rel, Same.refl _, e2, f⟩⟩
  | none =>
    refine PE.imp ha.se fun σ H Q' ⟨G, S, k, Q, rel, f, m⟩ => ?_
    unfold rdv at f
    rw [hv] at f
    exact ⟨G, S, rel, (Fin.bnd f).mono fun v H1 ⟨G1, S1, d, r1, s1, d1, f1⟩ => m v H1 ⟨G1, S1, d, r1, s1, .inl d1, f1⟩⟩
/-- two operands, the left one read behind the right one if it is a name -/
theorem s_op2 {r : R2} {k : D → D → SS → Option (R × SS)} (mk : ∀ ta tb, PE X a ta → PE X b tb → PE X e (tOp r ta tb)) (ha : SEv X C a ea) (hb : SEv X C b eb)
    (hr : ∀ σ G H S d1 d2 v w Q, Rel X.K C.L G H S σ → BDen X.K G H d1 v → BDen X.K G H d2 w → Fin X.K C σ G H S Q (k d1 d2 S) → r v w H Q) :
    PE X e (tF X.K C fun S => bnd2 ea (ev C.cl ea S) S (fun S => rdv S eb (ev C.cl eb S)) k) := by
  cases hv : vr ea with
  | some i =>
    have hx := vr_some hv
    refine PE.imp (mk _ _ (ha.nm i hx) hb.op) fun σ H Q ⟨G, S, rel, f⟩ => ?_
    unfold bnd2 at f
    rw [hv] at f
    dsimp only at f
    cases q0 : rdS S i with
    | none => rw [q0] at f; exact fin_none f
    | some d0 =>
    rw [q0] at f
    obtain ⟨v, ev1, _⟩ := rel.rd q0
    refine ⟨v, ev1, G, S, _, Q, rel, f, fun w H1 ⟨G1, S1, d2, r1, s1, b1, f1⟩ => ?_⟩
    dsimp only [rdK] at f1
    cases q : rdS S1 i with
    | none => rw [q] at f1; exact fin_none f1
    | some d1 =>
      rw [q] at f1
      obtain ⟨v', e1, e2⟩ := r1.rd q
      rw [ev1] at e1; cases e1
      exact hr σ G1 H1 S1 d1 d2 v w Q r1 e2 b1 f1
  | none =>
    refine PE.imp (mk _ _ ha.se hb.op) fun σ H Q ⟨G, S, rel, f⟩ => ?_
    unfold bnd2 at f
    rw [hv] at f
    dsimp only at f
    refine ⟨G, S, rel, (Fin.bnd f).mono fun v H1 ⟨G1, S1, d1, r1, s1, n1, f1⟩ => ?_⟩
    refine ⟨G1, S1, _, Q, r1, f1, fun w H2 ⟨G2, S2, d2, r2, s2, b2, f2⟩ => ?_⟩
    exact hr σ G2 H2 S2 d1 d2 v w Q r2 (.inl (n1.mono s2)) b2 f2

theorem fin_retB {K : PySem.W.Frag} {σ : L2.St} {G H : Hp} {S : SS} {Q : VK} {o : Option Bool} (rel : Rel K C.L G H S σ) (f : Fin K C σ G H S Q (retB S o)) : ∃ b, o = some b ∧ Q (.bl b) H := by
  cases o with
  | none => exact fin_none f
  | some b => exact ⟨b, rfl, f.now rel (.bl b)⟩
theorem fin_retD {K : PySem.W.Frag} {σ : L2.St} {G H : Hp} {S : SS} {Q : VK} {o : Option D} (rel : Rel K C.L G H S σ) (f : Fin K C σ G H S Q (retD S o)) : ∃ d, o = some d ∧ ∀ v, Den K G d v → Q v H := by
  cases o with
  | none => exact fin_none f
  | some d => exact ⟨d, rfl, fun v hv => f.now rel hv⟩

/-! ### operators -/
theorem bin_ok (op : Operator) : ∃ r : R2, OpR X (binaryOp op) r ∧ ∀ (σ : L2.St) (G H : Hp) (S : SS) (d1 d2 : D) (v w : V) (Q : VK), Rel X.K C.L G H S σ → Den X.K G d1 v → Den X.K G d2 w → Fin X.K C σ G H S Q (retR S (binD op d1 d2)) → r v w H Q := by
  have none_of : ∀ {P : Prop} {σ : L2.St} {G H : Hp} {S : SS} {Q : VK}, Fin X.K C σ G H S Q (retR S none) → P := fun f => fin_none f
  have no : (∀ d1 d2, binD op d1 d2 = none) → ∃ r : R2, OpR X (binaryOp op) r ∧ ∀ (σ : L2.St) (G H : Hp) (S : SS) (d1 d2 : D) (v w : V) (Q : VK), Rel X.K C.L G H S σ → Den X.K G d1 v → Den X.K G d2 w → Fin X.K C σ G H S Q (retR S (binD op d1 d2)) → r v w H Q :=
    fun hn => ⟨fun _ _ _ _ => False, (fun _ _ _ _ _ _ _ _ _ _ _ _ z => z.elim), fun σ G H S d1 d2 v w Q _ _ _ f => by rw [hn] at f; exact fin_none f⟩
  cases op with
  | Add =>
    refine ⟨_, OpR.or op_add (OpR.or op_catA (OpR.or op_cat op_add_str)), fun σ G H S d1 d2 v w Q rel h1 h2 f => ?_⟩
    cases h1 with
    | int i =>
      cases h2 with
      | int j => exact .inl ⟨i, j, rfl, rfl, f.now rel (.int _)⟩
      | _ => exact fin_none f
    | str x =>
      cases h2 with
      | str y =>
        by_cases hz : x.length + y.length ≤ sizeLine
        · have f' : Fin X.K C σ G H S Q (retR S (if x.length + y.length ≤ sizeLine then some (.v (.str (x ++ y))) else none)) := f
          rw [if_pos hz] at f'
          exact .inr (.inr (.inr ⟨x, y, rfl, rfl, hz, f'.now rel (.str _)⟩))
        · have f' : Fin X.K C σ G H S Q (retR S (if x.length + y.length ≤ sizeLine then some (.v (.str (x ++ y))) else none)) := f
          rw [if_neg hz] at f'
          exact fin_none f'
      | _ => exact fin_none f
    | @tup _ p vs xs hp hx =>
      cases h2 with
      | @tup _ q ws ys hq hy =>
        have f' : Fin X.K C σ G H S Q (retR S (if xs.length + ys.length ≤ sizeLine then some (.v (.tup (xs ++ ys))) else none)) := f
        by_cases hz : xs.length + ys.length ≤ sizeLine
        · rw [if_pos hz] at f'
          refine .inr (.inl ⟨p, q, vs, ws, rfl, rfl, Same.tup rel.sub hp, Same.tup rel.sub hq, by rw [← hx.length, ← hy.length]; exact hz, fun e => ?_, fun _ e => ?_, fun _ _ => f'.newTup rel (hx.append hy)⟩)
          · subst e
            cases hx
            exact f'.now rel (.tup hq hy)
          · subst e
            cases hy
            rw [List.append_nil] at f'
            exact f'.now rel (.tup hp hx)
        · rw [if_neg hz] at f'
          exact fin_none f'
      | _ => exact fin_none f
    | @lst _ p vs xs hp hx =>
      cases h2 with
      | @lst _ q ws ys hq hy =>
        have f' : Fin X.K C σ G H S Q (retR S (if xs.length + ys.length ≤ sizeLine then some (.fr (.lst (xs ++ ys))) else none)) := f
        by_cases hz : xs.length + ys.length ≤ sizeLine
        · rw [if_pos hz] at f'
          exact .inr (.inr (.inl ⟨p, q, vs, ws, rfl, rfl, rel.sub _ _ hp, rel.sub _ _ hq, by rw [← hx.length, ← hy.length]; exact hz, f'.newLst rel (hx.append hy)⟩))
        · rw [if_neg hz] at f'
          exact fin_none f'
      | _ => exact fin_none f
    | _ => exact fin_none f
  | Sub =>
    refine ⟨_, op_sub, fun σ G H S d1 d2 v w Q rel h1 h2 f => ?_⟩
    cases h1 with
    | int i =>
      cases h2 with
      | int j => exact ⟨i, j, rfl, rfl, f.now rel (.int _)⟩
      | _ => exact fin_none f
    | _ => exact fin_none f
  | Mult =>
    refine ⟨_, OpR.or op_mul (OpR.or op_mulW op_repT), fun σ G H S d1 d2 v w Q rel h1 h2 f => ?_⟩
    cases h1 with
    | int i =>
      cases h2 with
      | int j =>
        have f' : Fin X.K C σ G H S Q (retR S (if CMul i j ∨ CMulW i j then some (.v (.int (i * j))) else none)) := f
        by_cases hz : CMul i j ∨ CMulW i j
        · rw [if_pos hz] at f'
          rcases hz with hz | hz
          · exact .inl ⟨i, j, rfl, rfl, hz, f'.now rel (.int _)⟩
          · exact .inr (.inl ⟨i, j, rfl, rfl, hz, f'.now rel (.int _)⟩)
        · rw [if_neg hz] at f'
          exact fin_none f'
      | _ => exact fin_none f
    | @tup _ p vs xs hp hx =>
      cases h2 with
      | int k =>
        have f' : Fin X.K C σ G H S Q (retR S (if xs ≠ [] ∧ 2 ≤ k ∧ k ≤ 1000 ∧ xs.length ≤ 1000 then some (.v (.tup (List.replicate k.toNat xs).flatten)) else none)) := f
        by_cases hz : xs ≠ [] ∧ 2 ≤ k ∧ k ≤ 1000 ∧ xs.length ≤ 1000
        · rw [if_pos hz] at f'
          obtain ⟨z1, z2, z3, z4⟩ := hz
          refine .inr (.inr ⟨p, k, vs, rfl, rfl, Same.tup rel.sub hp, ?_, z2, z3, by rw [← hx.length]; exact z4, f'.newTup rel ?_⟩)
          · intro z
            subst z
            cases hx
            exact z1 rfl
          · generalize k.toNat = n
            induction n with
            | zero => exact .nil
            | succ n ih =>
              rw [List.replicate_succ, List.replicate_succ, List.flatten_cons, List.flatten_cons]
              exact hx.append ih
        · rw [if_neg hz] at f'
          exact fin_none f'
      | _ => exact fin_none f
    | _ => exact fin_none f
  | FloorDiv =>
    refine ⟨_, OpR.or op_fdiv op_fdivW, fun σ G H S d1 d2 v w Q rel h1 h2 f => ?_⟩
    cases h1 with
    | int i =>
      cases h2 with
      | int j =>
        have f' : Fin X.K C σ G H S Q (retR S (if CDiv i j ∨ CDivW i j then some (.v (.int (i / j))) else none)) := f
        by_cases hz : CDiv i j ∨ CDivW i j
        · rw [if_pos hz] at f'
          rcases hz with hz | hz
          · exact .inl ⟨i, j, rfl, rfl, hz, f'.now rel (.int _)⟩
          · exact .inr ⟨i, j, rfl, rfl, hz, f'.now rel (.int _)⟩
        · rw [if_neg hz] at f'
          exact fin_none f'
      | _ => exact fin_none f
    | _ => exact fin_none f
  | Mod =>
    refine ⟨_, op_mod, fun σ G H S d1 d2 v w Q rel h1 h2 f => ?_⟩
    cases h1 with
    | int i =>
      cases h2 with
      | int j =>
        have f' : Fin X.K C σ G H S Q (retR S (if 0 < j then some (.v (.int (i % j))) else none)) := f
        by_cases hz : 0 < j
        · rw [if_pos hz] at f'
          exact ⟨i, j, rfl, rfl, hz, f'.now rel (.int _)⟩
        · rw [if_neg hz] at f'
          exact fin_none f'
      | _ => exact fin_none f
    | _ => exact fin_none f
  | Pow =>
    refine ⟨_, op_pow, fun σ G H S d1 d2 v w Q rel h1 h2 f => ?_⟩
    cases h1 with
    | int i =>
      cases h2 with
      | int j =>
        have f' : Fin X.K C σ G H S Q (retR S (if CPow i j then some (.v (.int (i ^ j.toNat))) else none)) := f
        by_cases hz : CPow i j
        · rw [if_pos hz] at f'
          exact ⟨i, j, rfl, rfl, hz, f'.now rel (.int _)⟩
        · rw [if_neg hz] at f'
          exact fin_none f'
      | _ => exact fin_none f
    | _ => exact fin_none f
  | _ => exact no fun d1 d2 => by cases d1 <;> cases d2 <;> rfl

theorem s_bin {op : Operator} (ha : SEv X C a ea) (hb : SEv X C b eb) : SEv X C (.BinOp a op b pos) (.bin op ea eb) := by
  refine ⟨?_, fun _ h => nomatch h⟩
  obtain ⟨r, ho, hr⟩ := bin_ok (X := X) (C := C) op
  refine PE.imp (pe_op ho ha.se hb.se) fun σ H Q ⟨G, S, rel, f⟩ => ?_
  unfold ev at f
  refine ⟨G, S, rel, (Fin.bnd f).mono fun v H1 ⟨G1, S1, d1, r1, s1, n1, f1⟩ => ?_⟩
  refine ⟨G1, S1, r1, (Fin.bnd f1).mono fun w H2 ⟨G2, S2, d2, r2, s2, n2, f2⟩ => ?_⟩
  exact hr σ G2 H2 S2 d1 d2 v w Q r2 (n1.mono s2) n2 f2

/-! ### comparisons -/
theorem flat_D {K : PySem.W.Frag} {G : Hp} {d : D} {v : V} (h : Den K G d v) (e : flatD d = true) : flatV v = true := by
  cases h <;> first | rfl | (simp [flatD] at e)
theorem eqF_D {K : PySem.W.Frag} {G : Hp} {d d' : D} {v v' : V} (h : Den K G d v) (h' : Den K G d' v') (e : flatD d = true) (e' : flatD d' = true) : eqV v v' = eqF d d' := by
  cases h <;> first | (simp [flatD] at e; done) | (cases h' <;> first | rfl | (simp [flatD] at e'; done))
theorem all_flat {K : PySem.W.Frag} {G : Hp} : ∀ {ds : List D} {vs : List V}, DenL K G ds vs → ds.all flatD = true → vs.all flatV = true
  | _, _, .nil, _ => rfl
  | _, _, .cons h t, e => by
    simp only [List.all_cons, Bool.and_eq_true] at e ⊢
    exact ⟨flat_D h e.1, all_flat t e.2⟩
theorem any_flat {K : PySem.W.Frag} {G : Hp} {d : D} {v : V} (hd : Den K G d v) (e : flatD d = true) : ∀ {ds : List D} {vs : List V}, DenL K G ds vs → ds.all flatD = true → (vs.any fun y => eqV y v) = ds.any fun y => eqF y d
  | _, _, .nil, _ => rfl
  | _, _, .cons h t, e' => by
    simp only [List.all_cons, Bool.and_eq_true] at e'
    simp only [List.any_cons]
    rw [eqF_D h hd e'.1 e, any_flat hd e t e'.2]
theorem eqD_use {H : Hp} {K : PySem.W.Frag} {d1 d2 : D} {v w : V} {b : Bool} (h1 : Den K H d1 v) (h2 : Den K H d2 w) (e : eqD d1 d2 = some b) : ∃ p q, Dp K H v p ∧ Dp K H w q ∧ SeqAt.shaped p = true ∧ SeqAt.shaped q = true ∧ PyData.eqv p q = b := by
  unfold eqD at e
  cases e1 : d1.pd with
  | none => rw [e1] at e; simp at e
  | some p =>
    cases e2 : d2.pd with
    | none => rw [e1, e2] at e; simp at e
    | some q =>
      rw [e1, e2] at e
      dsimp only at e
      split at e
      · rename_i hs
        exact ⟨p, q, h1.dp (Same.refl _) e1, h2.dp (Same.refl _) e2, hs.1, hs.2, by simpa using e⟩
      · cases e
theorem isD_non {K : PySem.W.Frag} {H : Hp} {d : D} {v : V} {b : Bool} (h : Den K H d v) (e : isD d .non = some b) : decide (v = .non) = b := by
  cases h <;> simp [isD] at e <;> subst e <;> simp
theorem inD_use {K : PySem.W.Frag} {H : Hp} {d1 d2 : D} {v w : V} {b : Bool} (h1 : Den K H d1 v) (h2 : Den K H d2 w) (e : (seqD d2).bind (inD d1) = some b) :
    ∃ p xs, w = .ref p ∧ (SqL K H p xs ∨ SqT K H p xs) ∧ flatV v = true ∧ xs.all flatV = true ∧ inV v xs = b := by
  have core : ∀ {ds : List D} {vs : List V}, DenL K H ds vs → inD d1 ds = some b → flatV v = true ∧ vs.all flatV = true ∧ inV v vs = b := fun {ds vs} t e => by
    unfold inD at e
    split at e
    · rename_i hf
      refine ⟨flat_D h1 hf.1, all_flat t hf.2, ?_⟩
      unfold inV
      rw [any_flat h1 hf.1 t hf.2]
      simpa using e
    · cases e
  cases h2 with
  | @tup _ p vs ds hp t => exact ⟨p, vs, rfl, .inr hp, core t e⟩
  | @lst _ p vs ds hp t => exact ⟨p, vs, rfl, .inl (.inl (.inl hp)), core t e⟩
  | _ => simp [seqD] at e

theorem cmp_ok (g : Good X C) (op : CmpOp) : ∃ r : R2, OpR X (compareOp op) r ∧ ∀ (σ : L2.St) (G H : Hp) (S : SS) (d1 d2 : D) (v w : V) (Q : VK), Rel X.K C.L G H S σ → BDen X.K G H d1 v → BDen X.K G H d2 w → Fin X.K C σ G H S Q (retB S (cmpD op d1 d2)) → r v w H Q := by
  have ntr : ∀ {f : Value → Value → Sem Value} {p : Int → Int → Bool} (op : CmpOp), OpR X f (rI0 fun i j => .bl (p i j)) → (∀ d1 d2 b, cmpD op d1 d2 = some b → ∃ i j, d1 = .int i ∧ d2 = .int j ∧ b = p i j) →
      ∃ r : R2, OpR X f r ∧ ∀ (σ : L2.St) (G H : Hp) (S : SS) (d1 d2 : D) (v w : V) (Q : VK), Rel X.K C.L G H S σ → BDen X.K G H d1 v → BDen X.K G H d2 w → Fin X.K C σ G H S Q (retB S (cmpD op d1 d2)) → r v w H Q := by
    intro f p op ho hp
    refine ⟨_, ho, fun σ G H S d1 d2 v w Q rel h1 h2 fi => ?_⟩
    obtain ⟨b, e, q⟩ := fin_retB rel fi
    obtain ⟨i, j, rfl, rfl, rfl⟩ := hp d1 d2 b e
    have k1 := h1.toH rel.sub
    have k2 := h2.toH rel.sub
    cases k1
    cases k2
    exact ⟨i, j, rfl, rfl, q⟩
  cases op with
  | Lt => exact ntr _ op_lt fun d1 d2 b e => by cases d1 <;> cases d2 <;> simp [cmpD] at e; exact ⟨_, _, rfl, rfl, e.symm⟩
  | LtE => exact ntr _ op_le fun d1 d2 b e => by cases d1 <;> cases d2 <;> simp [cmpD] at e; exact ⟨_, _, rfl, rfl, e.symm⟩
  | Gt => exact ntr _ op_gt fun d1 d2 b e => by cases d1 <;> cases d2 <;> simp [cmpD] at e; exact ⟨_, _, rfl, rfl, e.symm⟩
  | GtE => exact ntr _ op_ge fun d1 d2 b e => by cases d1 <;> cases d2 <;> simp [cmpD] at e; exact ⟨_, _, rfl, rfl, e.symm⟩
  | Eq =>
    refine ⟨_, op_eqD g.hu, fun σ G H S d1 d2 v w Q rel h1 h2 f => ?_⟩
    obtain ⟨b, e, q⟩ := fin_retB rel f
    obtain ⟨p, r, a1, a2, a3, a4, a5⟩ := eqD_use (h1.toH rel.sub) (h2.toH rel.sub) (show eqD d1 d2 = some b from e)
    exact ⟨p, r, a1, a2, a3, a4, by rw [a5]; exact q⟩
  | NotEq =>
    refine ⟨_, op_neD g.hu, fun σ G H S d1 d2 v w Q rel h1 h2 f => ?_⟩
    obtain ⟨b, e, q⟩ := fin_retB rel f
    obtain ⟨b', e', rfl⟩ := Option.map_eq_some_iff.mp (show (eqD d1 d2).map (!·) = some b from e)
    obtain ⟨p, r, a1, a2, a3, a4, a5⟩ := eqD_use (h1.toH rel.sub) (h2.toH rel.sub) e'
    exact ⟨p, r, a1, a2, a3, a4, by rw [a5]; exact q⟩
  | Is =>
    refine ⟨_, OpR.or op_isN op_is_bl, fun σ G H S d1 d2 v w Q rel h1 h2 f => ?_⟩
    obtain ⟨b, e, q⟩ := fin_retB rel f
    have k1 := h1.toH rel.sub
    have k2 := h2.toH rel.sub
    have e : isD d1 d2 = some b := e
    cases k2 with
    | non => exact .inl ⟨rfl, by rw [isD_non k1 e]; exact q⟩
    | bl j =>
      cases k1 with
      | bl i =>
        simp [isD] at e
        subst e
        exact .inr ⟨i, j, rfl, rfl, q⟩
      | _ => simp [isD] at e
    | _ => cases d1 <;> simp [isD] at e
  | IsNot =>
    refine ⟨_, OpR.or op_notN op_isnot_bl, fun σ G H S d1 d2 v w Q rel h1 h2 f => ?_⟩
    obtain ⟨b, e, q⟩ := fin_retB rel f
    have k1 := h1.toH rel.sub
    have k2 := h2.toH rel.sub
    obtain ⟨b', e', rfl⟩ := Option.map_eq_some_iff.mp (show (isD d1 d2).map (!·) = some b from e)
    cases k2 with
    | non => exact .inl ⟨rfl, by rw [isD_non k1 e']; exact q⟩
    | bl j =>
      cases k1 with
      | bl i =>
        simp [isD] at e'
        subst e'
        exact .inr ⟨i, j, rfl, rfl, q⟩
      | _ => simp [isD] at e'
    | _ => cases d1 <;> simp [isD] at e'
  | In =>
    refine ⟨_, OpR.or op_in_seq op_in_str, fun σ G H S d1 d2 v w Q rel h1 h2 f => ?_⟩
    obtain ⟨b, e, q⟩ := fin_retB rel f
    have k1 := h1.toH rel.sub
    have k2 := h2.toH rel.sub
    have seq : ∀ {d1 d2 : D}, Den X.K H d1 v → Den X.K H d2 w → (seqD d2).bind (inD d1) = some b → rIn X.K false v w H Q := fun k1 k2 e => by
      obtain ⟨p, xs, a1, a2, a3, a4, a5⟩ := inD_use k1 k2 e
      exact ⟨p, xs, a1, a2, a3, a4, by rw [if_neg Bool.false_ne_true, a5]; exact q⟩
    cases k2 with
    | str y =>
      cases k1 with
      | str x =>
        have e : some (!(Builtin.Str.occurrences y x 0 y.length 1).isEmpty) = some b := e
        refine .inr ⟨x, y, rfl, rfl, ?_⟩
        rw [Option.some.inj e]
        exact q
      | _ => simp [cmpD, seqD] at e
    | tup hp t => exact .inl (seq k1 (.tup hp t) (by cases d1 <;> exact e))
    | lst hp t => exact .inl (seq k1 (.lst hp t) (by cases d1 <;> exact e))
    | _ => cases d1 <;> simp [cmpD, seqD] at e
  | NotIn =>
    refine ⟨_, OpR.or op_notIn_seq op_notin_str, fun σ G H S d1 d2 v w Q rel h1 h2 f => ?_⟩
    obtain ⟨b, e, q⟩ := fin_retB rel f
    have k1 := h1.toH rel.sub
    have k2 := h2.toH rel.sub
    have seq : ∀ {d1 d2 : D}, Den X.K H d1 v → Den X.K H d2 w → ((seqD d2).bind (inD d1)).map (!·) = some b → rIn X.K true v w H Q := fun k1 k2 e => by
      obtain ⟨b', e', rfl⟩ := Option.map_eq_some_iff.mp e
      obtain ⟨p, xs, a1, a2, a3, a4, a5⟩ := inD_use k1 k2 e'
      exact ⟨p, xs, a1, a2, a3, a4, by rw [if_pos rfl, a5]; exact q⟩
    cases k2 with
    | str y =>
      cases k1 with
      | str x =>
        have e : some (!(!(Builtin.Str.occurrences y x 0 y.length 1).isEmpty)) = some b := e
        refine .inr ⟨x, y, rfl, rfl, ?_⟩
        rw [Option.some.inj e]
        exact q
      | _ => simp [cmpD, seqD] at e
    | tup hp t => exact .inl (seq k1 (.tup hp t) (by cases d1 <;> exact e))
    | lst hp t => exact .inl (seq k1 (.lst hp t) (by cases d1 <;> exact e))
    | _ => cases d1 <;> simp [cmpD, seqD] at e
theorem s_cmp {op : CmpOp} (g : Good X C) (ha : SEv X C a ea) (hb : SEv X C b eb) (hm : behindInMarks op b = false) : SEv X C (.Compare a [op] [b] pos) (.cmp op ea eb) := by
  obtain ⟨r, ho, hr⟩ := cmp_ok g op
  refine ⟨?_, fun _ h => nomatch h⟩
  refine PE.imp (s_op2 (r := r) (k := fun x y S => retB S (cmpD op x y)) (fun ta tb h1 h2 => pe_cmpR (pos := pos) ho h1 h2 hm) ha hb hr) fun σ H Q ⟨G, S, rel, f⟩ => ⟨G, S, rel, ?_⟩
  unfold ev at f
  exact f
end
end MX

set_option Elab.async false
set_option linter.all false
set_option maxRecDepth 100000
set_option autoImplicit false
/-! MX4: the other forms of expression; tests; argument lists; calls. -/
namespace MX
open PySem PySem.Spec PyProof.Rows L2
section
variable {X : Cx} {C : Ctx} {a b c e : Expr} {ea eb ec : E} {pos : Pos}

/-- an expression as a test -/
def STv (X : Cx) (C : Ctx) (e : Expr) (x : E) : Prop := PT X e (L2.tB (tF X.K C fun S => ev C.cl x S))

theorem blD_use {K : PySem.W.Frag} {G : Hp} {d : D} {v : V} {b : Bool} (h : Den K G d v) (e : blD d = some b) : v = .bl b := by
  cases h <;> simp [blD] at e
  rw [e]

theorem s_neg (ha : SEv X C a ea) : SEv X C (.UnaryOp .USub a pos) (.neg ea) := by
  refine ⟨PE.imp (pe_un un_neg ha.se) fun σ H Q ⟨G, S, rel, f⟩ => ?_, fun _ h => nomatch h⟩
  unfold ev at f
  refine ⟨G, S, rel, (Fin.bnd f).mono fun v H1 ⟨G1, S1, d1, r1, s1, n1, f1⟩ => ?_⟩
  cases n1 with
  | int i => exact ⟨i, rfl, f1.now r1 (.int _)⟩
  | _ => exact fin_none f1
theorem s_not (ha : SEv X C a ea) : SEv X C (.UnaryOp .Not a pos) (.not ea) := by
  refine ⟨PE.imp (pe_not ha.se) fun σ H Q ⟨G, S, rel, f⟩ => ?_, fun _ h => nomatch h⟩
  unfold ev at f
  refine ⟨G, S, rel, (Fin.bnd f).mono fun v H1 ⟨G1, S1, d1, r1, s1, n1, f1⟩ => ?_⟩
  obtain ⟨b', e, q⟩ := fin_retB r1 f1
  obtain ⟨b, e', rfl⟩ := Option.map_eq_some_iff.mp e
  exact ⟨b, blD_use n1 e', q⟩
theorem t_not (ha : STv X C a ea) : STv X C (.UnaryOp .Not a pos) (.not ea) := by
  refine PT.imp (pt_not ha) fun σ H Q ⟨G, S, rel, f⟩ => ?_
  unfold ev at f
  refine ⟨G, S, rel, (Fin.bnd f).mono fun v H1 ⟨G1, S1, d1, r1, s1, n1, f1⟩ => ?_⟩
  obtain ⟨b', e, c, ec, q⟩ := fin_retB r1 f1
  obtain ⟨b, e', rfl⟩ := Option.map_eq_some_iff.mp e
  cases ec
  exact ⟨b, blD_use n1 e', q⟩
theorem t_val (h : SEv X C e ea) (he : ∀ whole, isTrue e X.env whole = (do let v ← whole; standAt e.pos; holding [v] (truthy v))) : STv X C e ea := pt_val h.se he
theorem t_cmp {op : CmpOp} (g : Good X C) (ha : SEv X C a ea) (hb : SEv X C b eb) (hm : behindInMarks op b = false) : STv X C (.Compare a [op] [b] pos) (.cmp op ea eb) := by
  obtain ⟨r, ho, hr⟩ := cmp_ok g op
  have h2 : ∀ {ta tb : TE}, PE X a ta → PE X b tb → PT X (.Compare a [op] [b] pos) (L2.tB (tOp r ta tb)) := fun h1 h2 => pt_cmpR ho h1 h2 hm
  -- the same reading as s_op2's
  have key : ∀ σ H (Q : Bool → Hp → Prop), L2.tB (tF X.K C fun S => ev C.cl (.cmp op ea eb) S) σ H Q → True := fun _ _ _ _ => trivial
  cases hv : vr ea with
  | some i =>
    have hx := vr_some hv
    refine PT.imp (h2 (ha.nm i hx) hb.op) fun σ H Q ⟨G, S, rel, f⟩ => ?_
    unfold ev bnd2 at f
    rw [hv] at f
    dsimp only at f
    cases q0 : rdS S i with
    | none => rw [q0] at f; exact fin_none f
    | some d0 =>
    rw [q0] at f
    obtain ⟨v, ev1, _⟩ := rel.rd q0
    refine ⟨v, ev1, G, S, _, _, rel, f, fun w H1 ⟨G1, S1, d2, r1, s1, b1, f1⟩ => ?_⟩
    dsimp only [rdK] at f1
    cases q : rdS S1 i with
    | none => rw [q] at f1; exact fin_none f1
    | some d1 =>
      rw [q] at f1
      obtain ⟨v', e1, e2⟩ := r1.rd q
      rw [ev1] at e1; cases e1
      exact hr σ G1 H1 S1 d1 d2 v w _ r1 e2 b1 f1
  | none =>
    refine PT.imp (h2 ha.se hb.op) fun σ H Q ⟨G, S, rel, f⟩ => ?_
    unfold ev bnd2 at f
    rw [hv] at f
    dsimp only at f
    refine ⟨G, S, rel, (Fin.bnd f).mono fun v H1 ⟨G1, S1, d1, r1, s1, n1, f1⟩ => ?_⟩
    refine ⟨G1, S1, _, _, r1, f1, fun w H2 ⟨G2, S2, d2, r2, s2, b2, f2⟩ => ?_⟩
    exact hr σ G2 H2 S2 d1 d2 v w _ r2 (.inl (n1.mono s2)) b2 f2
theorem cmp_le {K : PySem.W.Frag} {G : Hp} {d1 d2 : D} {v w : V} {b : Bool} (h1 : Den K G d1 v) (h2 : Den K G d2 w) (e : cmpD .LtE d1 d2 = some b) : ∃ i j, v = .int i ∧ w = .int j ∧ b = decide (i ≤ j) := by
  cases h1 <;> cases h2 <;> simp [cmpD] at e
  exact ⟨_, _, rfl, rfl, e.symm⟩
theorem chn_use {K : PySem.W.Frag} {σ : L2.St} {G H : Hp} {S : SS} {Q : VK} {tc : TE} {d1 d2 : D} {v w : V} {m : Option (R × SS)} (h1 : Den K G d1 v) (h2 : Den K G d2 w) (rel : Rel K C.L G H S σ)
    (f : Fin K C σ G H S Q (ifO (cmpD .LtE d1 d2) m (some (.v (.bl false), S)))) : ∃ i j, v = .int i ∧ w = .int j ∧ ((i ≤ j ∧ Fin K C σ G H S Q m) ∨ (¬ i ≤ j ∧ Q (.bl false) H)) := by
  cases e : cmpD .LtE d1 d2 with
  | none => rw [e] at f; exact fin_none f
  | some b =>
    rw [e] at f
    obtain ⟨i, j, rfl, rfl, eb⟩ := cmp_le h1 h2 e
    refine ⟨i, j, rfl, rfl, ?_⟩
    by_cases h : i ≤ j
    · rw [decide_eq_true h] at eb
      subst eb
      exact .inl ⟨h, f⟩
    · rw [decide_eq_false h] at eb
      subst eb
      exact .inr ⟨h, f.now rel (.bl false)⟩
theorem chn_read {σ : L2.St} {H : Hp} {Q : VK} (h : tF X.K C (fun S => ev C.cl (.chn ea eb ec) S) σ H Q) :
    tChain (rI0 fun i j => .bl (decide (i ≤ j))) (rI0 fun i j => .bl (decide (i ≤ j))) (tF X.K C fun S => ev C.cl ea S) (tF X.K C fun S => ev C.cl eb S) (tF X.K C fun S => ev C.cl ec S) σ H Q := by
  obtain ⟨G, S, rel, f⟩ := h
  unfold ev at f
  refine ⟨G, S, rel, (Fin.bnd f).mono fun v H1 ⟨G1, S1, d1, r1, s1, n1, f1⟩ => ?_⟩
  refine ⟨G1, S1, r1, (Fin.bnd f1).mono fun w H2 ⟨G2, S2, d2, r2, s2, n2, f2⟩ => ?_⟩
  obtain ⟨i, j, rfl, rfl, q⟩ := chn_use (tc := fun _ _ _ => True) (n1.mono s2) n2 r2 f2
  refine ⟨i, j, rfl, rfl, _, rfl, ?_⟩
  rcases q with ⟨h, q⟩ | ⟨h, q⟩
  · rw [decide_eq_true h, if_pos rfl]
    refine ⟨G2, S2, r2, (Fin.bnd q).mono fun x H3 ⟨G3, S3, d3, r3, s3, n3, f3⟩ => ?_⟩
    obtain ⟨b, e, q3⟩ := fin_retB r3 f3
    obtain ⟨i', j', e1, e2, rfl⟩ := cmp_le (n2.mono s3) n3 e
    exact ⟨i', j', e1, e2, q3⟩
  · rw [decide_eq_false h, if_neg Bool.false_ne_true]
    exact q
theorem s_chn (ha : SEv X C a ea) (hb : SEv X C b eb) (hc : SEv X C c ec) (hm : behindInMarks .LtE c = false) : SEv X C (.Compare a [.LtE, .LtE] [b, c] pos) (.chn ea eb ec) :=
  ⟨PE.imp (pe_chain op_le op_le ha.se hb.se hc.se (by show behindInMarks .LtE c = false; exact hm)) fun σ H Q h => chn_read h, fun _ h => nomatch h⟩
theorem t_chn (ha : SEv X C a ea) (hb : SEv X C b eb) (hc : SEv X C c ec) (hm : behindInMarks .LtE c = false) : STv X C (.Compare a [.LtE, .LtE] [b, c] pos) (.chn ea eb ec) :=
  PT.imp (pt_chain op_le op_le ha.se hb.se hc.se (by show behindInMarks .LtE c = false; exact hm)) fun σ H Q h => chn_read h

theorem ifB_use {K : PySem.W.Frag} {σ : L2.St} {G H : Hp} {S : SS} {Q : VK} {d : D} {v : V} {m n : Option (R × SS)} (h : Den K G d v) (f : Fin K C σ G H S Q (ifB d m n)) :
    ∃ b, v = .bl b ∧ ((b = true ∧ Fin K C σ G H S Q m) ∨ (b = false ∧ Fin K C σ G H S Q n)) := by
  unfold ifB at f
  cases e : blD d with
  | none => rw [e] at f; exact fin_none f
  | some b =>
    rw [e] at f
    refine ⟨b, blD_use h e, ?_⟩
    cases b with
    | true => exact .inl ⟨rfl, f⟩
    | false => exact .inr ⟨rfl, f⟩
theorem retB_use {K : PySem.W.Frag} {σ : L2.St} {G : Hp} {Q : VK} {d : D} {v : V} {G1 H1 : Hp} {S1 : SS} (n : Den K G1 d v) (rel : Rel K C.L G1 H1 S1 σ) (f : Fin K C σ G1 H1 S1 Q (retB S1 (blD d))) : Q v H1 := by
  obtain ⟨b, e, q⟩ := fin_retB rel f
  rw [blD_use n e]
  exact q
theorem s_and {rest : List Expr} (ha : SEv X C a ea) (hb : SEv X C (.BoolOp .And (b :: rest) pos) eb) : SEv X C (.BoolOp .And (a :: b :: rest) pos) (.and ea eb) := by
  refine ⟨PE.imp (pe_and ha.se hb.se) fun σ H Q ⟨G, S, rel, f⟩ => ?_, fun _ h => nomatch h⟩
  unfold ev at f
  refine ⟨G, S, rel, (Fin.bnd f).mono fun v H1 ⟨G1, S1, d1, r1, s1, n1, f1⟩ => ?_⟩
  obtain ⟨b, rfl, q⟩ := ifB_use n1 f1
  refine ⟨b, rfl, ?_⟩
  rcases q with ⟨rfl, q⟩ | ⟨rfl, q⟩
  · rw [if_pos rfl]
    exact ⟨G1, S1, r1, (Fin.bnd q).mono fun w H2 ⟨G2, S2, d2, r2, s2, n2, f2⟩ => retB_use (G := G) n2 r2 f2⟩
  · rw [if_neg Bool.false_ne_true]
    exact q.now r1 (.bl false)
theorem s_or {rest : List Expr} (ha : SEv X C a ea) (hb : SEv X C (.BoolOp .Or (b :: rest) pos) eb) : SEv X C (.BoolOp .Or (a :: b :: rest) pos) (.or ea eb) := by
  refine ⟨PE.imp (pe_or ha.se hb.se) fun σ H Q ⟨G, S, rel, f⟩ => ?_, fun _ h => nomatch h⟩
  unfold ev at f
  refine ⟨G, S, rel, (Fin.bnd f).mono fun v H1 ⟨G1, S1, d1, r1, s1, n1, f1⟩ => ?_⟩
  obtain ⟨b, rfl, q⟩ := ifB_use n1 f1
  refine ⟨b, rfl, ?_⟩
  rcases q with ⟨rfl, q⟩ | ⟨rfl, q⟩
  · rw [if_pos rfl]
    exact q.now r1 (.bl true)
  · rw [if_neg Bool.false_ne_true]
    exact ⟨G1, S1, r1, (Fin.bnd q).mono fun w H2 ⟨G2, S2, d2, r2, s2, n2, f2⟩ => retB_use (G := G) n2 r2 f2⟩
theorem s_one {op : BoolOp} (ha : SEv X C a ea) : SEv X C (.BoolOp op [a] pos) ea := ⟨pe_one ha.se, fun i h => pe_one (ha.nm i h)⟩
/-- tests by and, or -/
def SWv (X : Cx) (C : Ctx) (e : Expr) (x : E) : Prop := PW X e (L2.tB (tF X.K C fun S => ev C.cl x S))
theorem PW.imp {t t' : TT} (h : PW X e t) (m : ∀ σ H Q, t' σ H Q → t σ H Q) : PW X e t' := ⟨fun wh pins s σ H Q I q => h.run wh pins s σ H Q I (m σ H Q q)⟩
theorem w_and1 (ha : STv X C a ea) : SWv X C (.BoolOp .And [a] pos) ea := pw_and1 ha
theorem w_or1 (ha : STv X C a ea) : SWv X C (.BoolOp .Or [a] pos) ea := pw_or1 ha
theorem bl_out {Q : Bool → Hp → Prop} {b : Bool} {H : Hp} (h : ∃ c, V.bl b = .bl c ∧ Q c H) : Q b H := by
  obtain ⟨c, e, q⟩ := h
  cases e
  exact q
theorem w_and {rest : List Expr} (ha : STv X C a ea) (hb : SWv X C (.BoolOp .And (b :: rest) pos) eb) : SWv X C (.BoolOp .And (a :: b :: rest) pos) (.and ea eb) := by
  refine PW.imp (pw_and ha hb) fun σ H Q ⟨G, S, rel, f⟩ => ?_
  unfold ev at f
  refine ⟨G, S, rel, (Fin.bnd f).mono fun v H1 ⟨G1, S1, d1, r1, s1, n1, f1⟩ => ?_⟩
  obtain ⟨b, rfl, q⟩ := ifB_use n1 f1
  refine ⟨b, rfl, ?_⟩
  rcases q with ⟨rfl, q⟩ | ⟨rfl, q⟩
  · rw [if_pos rfl]
    exact ⟨G1, S1, r1, (Fin.bnd q).mono fun w H2 ⟨G2, S2, d2, r2, s2, n2, f2⟩ => retB_use (G := G) n2 r2 f2⟩
  · rw [if_neg Bool.false_ne_true]
    exact bl_out (q.now r1 (.bl false))
theorem w_or {rest : List Expr} (ha : STv X C a ea) (hb : SWv X C (.BoolOp .Or (b :: rest) pos) eb) : SWv X C (.BoolOp .Or (a :: b :: rest) pos) (.or ea eb) := by
  refine PW.imp (pw_or ha hb) fun σ H Q ⟨G, S, rel, f⟩ => ?_
  unfold ev at f
  refine ⟨G, S, rel, (Fin.bnd f).mono fun v H1 ⟨G1, S1, d1, r1, s1, n1, f1⟩ => ?_⟩
  obtain ⟨b, rfl, q⟩ := ifB_use n1 f1
  refine ⟨b, rfl, ?_⟩
  rcases q with ⟨rfl, q⟩ | ⟨rfl, q⟩
  · rw [if_pos rfl]
    exact bl_out (q.now r1 (.bl true))
  · rw [if_neg Bool.false_ne_true]
    exact ⟨G1, S1, r1, (Fin.bnd q).mono fun w H2 ⟨G2, S2, d2, r2, s2, n2, f2⟩ => retB_use (G := G) n2 r2 f2⟩
theorem s_ite (hc : STv X C c ec) (ha : SEv X C a ea) (hb : SEv X C b eb) : SEv X C (.IfExp c a b pos) (.ite ec ea eb) := by
  refine ⟨PE.imp (pe_ifExp hc ha.se hb.se) fun σ H Q ⟨G, S, rel, f⟩ => ?_, fun _ h => nomatch h⟩
  unfold ev at f
  refine ⟨G, S, rel, (Fin.bnd f).mono fun v H1 ⟨G1, S1, d1, r1, s1, n1, f1⟩ => ?_⟩
  obtain ⟨b, rfl, q⟩ := ifB_use n1 f1
  refine ⟨b, rfl, ?_⟩
  rcases q with ⟨rfl, q⟩ | ⟨rfl, q⟩
  · rw [if_pos rfl]
    exact ⟨G1, S1, r1, q⟩
  · rw [if_neg Bool.false_ne_true]
    exact ⟨G1, S1, r1, q⟩

/-! ### items -/
theorem s_ix (ha : SEv X C a ea) (hb : SEv X C b eb) (hs : PlainIx b) : SEv X C (.Subscript a b pos) (.ix ea eb) := by
  refine ⟨?_, fun _ h => nomatch h⟩
  refine PE.imp (s_op2 (r := rIx X.K) (k := fun x y S => retD S (ixD x y)) (fun ta tb h1 h2 => pe_ix (pos := pos) ix_seq h1 h2 hs) ha hb fun σ G H S d1 d2 v w Q rel h1 h2 f => ?_) fun σ H Q ⟨G, S, rel, f⟩ => ⟨G, S, rel, ?_⟩
  · obtain ⟨d, e, q⟩ := fin_retD rel f
    have k2 := h2.toH rel.sub
    have item : ∀ {ds : List D} {vs : List V} {i : Int}, DenL X.K G ds vs → ((L2.ixN ds.length i).bind fun j => ds[j]?) = some d → ∃ v, atI vs i = some v ∧ Den X.K G d v := fun {ds vs i} t e => by
      obtain ⟨j, e1, e2⟩ := Option.bind_eq_some_iff.mp e
      obtain ⟨v, e3, e4⟩ := t.get e2
      refine ⟨v, ?_, e4⟩
      unfold atI
      rw [← t.length, e1]
      exact e3
    rcases h1 with h1 | ⟨p, rfl, xs, vs, rfl, hv, t⟩
    · cases h1 with
      | @tup _ p vs ds hp t =>
        cases k2 with
        | int i =>
          obtain ⟨z, e1, e2⟩ := item t e
          exact .inr (.inl ⟨p, vs, i, z, rfl, rfl, Same.tup rel.sub hp, e1, q z e2⟩)
        | _ => simp [ixD] at e
      | @lst _ p vs ds hp t =>
        cases k2 with
        | int i =>
          obtain ⟨z, e1, e2⟩ := item t e
          exact .inl ⟨p, vs, i, z, rfl, rfl, .inl (.inl (rel.sub _ _ hp)), e1, q z e2⟩
        | _ => simp [ixD] at e
      | @scr _ p ns hp =>
        cases k2 with
        | int i =>
          obtain ⟨n, e1, e2⟩ := Option.map_eq_some_iff.mp (show ((L2.ixN ns.length i).bind fun j => ns[j]?).map .int = some d from e)
          obtain ⟨j, e3, e4⟩ := Option.bind_eq_some_iff.mp e1
          subst e2
          refine .inl ⟨p, _, i, .int n, rfl, rfl, rel.sub.seq hp, ?_, q _ (.int n)⟩
          unfold atI
          rw [List.length_map, e3]
          show (ns.map V.int)[j]? = _
          rw [List.getElem?_map, e4]
          rfl
        | _ => simp [ixD] at e
      | _ => cases d2 <;> simp [ixD] at e
    · cases k2 with
      | int i =>
        obtain ⟨z, e1, e2⟩ := item t e
        exact .inl ⟨p, vs, i, z, rfl, rfl, .inl (.inl hv), e1, q z e2⟩
      | _ => simp [ixD] at e
  · unfold ev at f
    exact f

/-! ### argument lists -/
def FinL (K : PySem.W.Frag) (C : Ctx) (σ : L2.St) (G H : Hp) (S : SS) (Q : List V → Hp → Prop) (o : Option (RL × SS)) : Prop :=
  ∃ r S', o = some (r, S') ∧
    (∀ c, r = .ex c → ∀ G' H', Stp K C.L G H S σ G' H' S' σ → C.W (C.cv c) none σ H') ∧
    (∀ ds, r = .v ds → ∀ G' H' vs, Stp K C.L G H S σ G' H' S' σ → DenL K G' ds vs → Q vs H')
def tL (K : PySem.W.Frag) (C : Ctx) (es : List E) : TA := fun σ H Q => ∃ G S, Rel K C.L G H S σ ∧ FinL K C σ G H S Q (evs C.cl es S)
def SL (X : Cx) (C : Ctx) (es : List Expr) (xs : List E) : Prop := PA X es (tL X.K C xs)
theorem FinL.rebase {K : PySem.W.Frag} {σ : L2.St} {G H G1 H1 : Hp} {S S1 : SS} {Q : List V → Hp → Prop} {o : Option (RL × SS)} (h : FinL K C σ G H S Q o) (x : Stp K C.L G H S σ G1 H1 S1 σ) : FinL K C σ G1 H1 S1 Q o := by
  obtain ⟨r, S', e, h1, h2⟩ := h
  exact ⟨r, S', e, fun c ec G' H' y => h1 c ec G' H' (x.trans y), fun ds ed G' H' vs y q => h2 ds ed G' H' vs (x.trans y) q⟩
theorem PA.imp {es : List Expr} {t t' : TA} (h : PA X es t) (m : ∀ σ H Q, t' σ H Q → t σ H Q) : PA X es t' := ⟨fun p pins s σ H Q I q => h.run p pins s σ H Q I (m σ H Q q)⟩
theorem l_nil : SL X C [] [] := PA.imp pa_nil fun σ H Q ⟨G, S, rel, r, S', e, _, h2⟩ => by
  unfold evs at e
  cases e
  exact h2 [] rfl G H [] (Stp.refl rel) .nil
theorem FinL.cons {K : PySem.W.Frag} {σ : L2.St} {G H : Hp} {S : SS} {Q : List V → Hp → Prop} {o : Option (R × SS)} {k : SS → Option (RL × SS)} (f : FinL K C σ G H S Q (argL o k)) :
    Fin K C σ G H S (fun v H1 => ∃ G1 S1, Rel K C.L G1 H1 S1 σ ∧ Same G G1 ∧ FinL K C σ G1 H1 S1 (fun vs H2 => Q (v :: vs) H2) (k S1)) o := by
  have vcase : ∀ {d : D} {S1 : SS} {G1 H1 : Hp} {v : V}, Stp K C.L G H S σ G1 H1 S1 σ → Den K G1 d v → FinL K C σ G H S Q (consL d (k S1)) → ∃ G1 S1, Rel K C.L G1 H1 S1 σ ∧ Same G G1 ∧ FinL K C σ G1 H1 S1 (fun vs H2 => Q (v :: vs) H2) (k S1) := by
    intro d S1 G1 H1 v st hd f
    refine ⟨G1, S1, st.rel, st.gm, ?_⟩
    have f' := f.rebase st
    obtain ⟨r, S', e, h1, h2⟩ := f'
    cases q : k S1 with
    | none => rw [q] at e; simp [consL] at e
    | some p =>
      obtain ⟨r0, S0⟩ := p
      rw [q] at e
      cases r0 with
      | ex c =>
        simp only [consL, Option.some.injEq, Prod.mk.injEq] at e
        obtain ⟨rfl, rfl⟩ := e
        exact ⟨_, _, rfl, h1, fun _ z => nomatch z⟩
      | v ds =>
        simp only [consL, Option.some.injEq, Prod.mk.injEq] at e
        obtain ⟨rfl, rfl⟩ := e
        exact ⟨_, _, rfl, (fun _ z => nomatch z), fun ds' ed G' H' vs y t => by
          cases ed
          exact h2 _ rfl G' H' (v :: vs) y (.cons (hd.mono y.gm) t)⟩
  cases q : o with
  | none => rw [q] at f; obtain ⟨_, _, z, _⟩ := f; simp [argL] at z
  | some p =>
    obtain ⟨r, S1⟩ := p
    rw [q] at f
    cases r with
    | ex c =>
      obtain ⟨r', S', e, h1, h2⟩ := f
      simp only [argL, Option.some.injEq, Prod.mk.injEq] at e
      obtain ⟨rfl, rfl⟩ := e
      exact ⟨.ex c, S1, rfl, (fun c' ec G' H' y => h1 c' (by cases ec; rfl) G' H' y), fun _ _ _ _ z => z.elim⟩
    | v d => exact ⟨.v d, S1, rfl, (fun _ z => nomatch z), fun G' H' v y hd => vcase y hd f⟩
    | fr d =>
      refine ⟨.fr d, S1, rfl, (fun _ z => nomatch z), fun G' H' v y hd => ?_⟩
      obtain ⟨G2, y2, hd2, m⟩ := y.freeze hd
      exact vcase y2 hd2 f
theorem l_cons {es : List Expr} {xs : List E} (ha : SEv X C a ea) (hr : SL X C es xs) (hs : starEach (a :: es) X.env = (false, eval a X.env) :: starEach es X.env) : SL X C (a :: es) (ea :: xs) := by
  refine PA.imp (pa_cons ha.se hr hs) fun σ H Q ⟨G, S, rel, f⟩ => ?_
  unfold evs at f
  exact ⟨G, S, rel, (FinL.cons f).mono fun v H1 ⟨G1, S1, r1, _, f1⟩ => ⟨G1, S1, r1, f1⟩⟩
def NxtL (K : PySem.W.Frag) (C : Ctx) (σ : L2.St) (G : Hp) (k : List D → SS → Option (R × SS)) (Q : VK) : List V → Hp → Prop := fun vs H1 =>
  ∃ G1 S1 ds, Rel K C.L G1 H1 S1 σ ∧ Same G G1 ∧ DenL K G1 ds vs ∧ Fin K C σ G1 H1 S1 Q (k ds S1)
theorem Fin.bndL {K : PySem.W.Frag} {σ : L2.St} {G H : Hp} {S : SS} {Q : VK} {x : Option (RL × SS)} {k : List D → SS → Option (R × SS)} (h : Fin K C σ G H S Q (MX.bndL x k)) : FinL K C σ G H S (NxtL K C σ G k Q) x := by
  cases x with
  | none => obtain ⟨r, S', e, _⟩ := h; simp [MX.bndL] at e
  | some p =>
    obtain ⟨r, S1⟩ := p
    cases r with
    | ex c =>
      obtain ⟨r', S', e, h1, h2⟩ := h
      simp only [MX.bndL, Option.some.injEq, Prod.mk.injEq] at e
      obtain ⟨rfl, rfl⟩ := e
      exact ⟨.ex c, S1, rfl, (fun c' ec G' H' y => h1 c' (by cases ec; rfl) G' H' y), fun _ z => nomatch z⟩
    | v ds =>
      refine ⟨.v ds, S1, rfl, (fun _ z => nomatch z), fun ds' e G' H' vs y q => ?_⟩
      cases e
      exact ⟨G', S1, ds, y.rel, y.gm, q, Fin.rebase h y⟩
theorem FinL.mono {K : PySem.W.Frag} {σ : L2.St} {G H : Hp} {S : SS} {Q Q' : List V → Hp → Prop} {o : Option (RL × SS)} (h : FinL K C σ G H S Q o) (m : ∀ v H', Q v H' → Q' v H') : FinL K C σ G H S Q' o := by
  obtain ⟨r, S', e, h1, h2⟩ := h
  exact ⟨r, S', e, h1, fun ds ed G' H' v s r => m _ _ (h2 ds ed G' H' v s r)⟩
theorem s_tup {es : List Expr} {xs : List E} {x1 : Nat} (h : SL X C es xs) : SEv X C (.Tuple es x1 pos) (.tup xs) := by
  refine ⟨PE.imp (pe_tup h) fun σ H Q ⟨G, S, rel, f⟩ => ?_, fun _ h => nomatch h⟩
  unfold ev at f
  refine ⟨G, S, rel, (Fin.bndL f).mono fun vs H1 ⟨G1, S1, ds, r1, s1, n1, f1⟩ => ?_⟩
  by_cases hz : ds.length ≤ sizeLine
  · dsimp only at f1
    rw [if_pos hz] at f1
    exact ⟨by rw [← n1.length]; exact hz, f1.newTup r1 n1⟩
  · dsimp only at f1
    rw [if_neg hz] at f1
    exact fin_none f1
theorem s_lst {es : List Expr} {xs : List E} (h : SL X C es xs) : SEv X C (.List es pos) (.lst xs) := by
  refine ⟨PE.imp (pe_lst h) fun σ H Q ⟨G, S, rel, f⟩ => ?_, fun _ h => nomatch h⟩
  unfold ev at f
  refine ⟨G, S, rel, (Fin.bndL f).mono fun vs H1 ⟨G1, S1, ds, r1, s1, n1, f1⟩ => ?_⟩
  by_cases hz : ds.length ≤ sizeLine
  · dsimp only at f1
    rw [if_pos hz] at f1
    exact ⟨by rw [← n1.length]; exact hz, f1.newLst r1 n1⟩
  · dsimp only at f1
    rw [if_neg hz] at f1
    exact fin_none f1

/-! ### built-ins of one argument -/
theorem maxI_spec : ∀ (ns : List Int) (m : Int), (maxI m ns = m ∨ maxI m ns ∈ ns) ∧ m ≤ maxI m ns ∧ ∀ y ∈ ns, y ≤ maxI m ns
  | [], m => ⟨.inl rfl, Int.le_refl _, fun _ h => nomatch h⟩
  | x :: r, m => by
    obtain ⟨h1, h2, h3⟩ := maxI_spec r (if m < x then x else m)
    refine ⟨?_, ?_, ?_⟩
    · show maxI _ r = m ∨ maxI _ r ∈ x :: r
      rcases h1 with h | h
      · rw [h]
        split
        · exact .inr List.mem_cons_self
        · exact .inl rfl
      · exact .inr (List.mem_cons_of_mem _ h)
    · show m ≤ maxI _ r
      refine Int.le_trans ?_ h2
      split <;> omega
    · intro y hy
      show y ≤ maxI _ r
      rcases List.mem_cons.mp hy with rfl | hy
      · refine Int.le_trans ?_ h2
        split <;> omega
      · exact h3 y hy
theorem minI_spec : ∀ (ns : List Int) (m : Int), (minI m ns = m ∨ minI m ns ∈ ns) ∧ minI m ns ≤ m ∧ ∀ y ∈ ns, minI m ns ≤ y
  | [], m => ⟨.inl rfl, Int.le_refl _, fun _ h => nomatch h⟩
  | x :: r, m => by
    obtain ⟨h1, h2, h3⟩ := minI_spec r (if x < m then x else m)
    refine ⟨?_, ?_, ?_⟩
    · show minI _ r = m ∨ minI _ r ∈ x :: r
      rcases h1 with h | h
      · rw [h]
        split
        · exact .inr List.mem_cons_self
        · exact .inl rfl
      · exact .inr (List.mem_cons_of_mem _ h)
    · show minI _ r ≤ m
      refine Int.le_trans h2 ?_
      split <;> omega
    · intro y hy
      show minI _ r ≤ y
      rcases List.mem_cons.mp hy with rfl | hy
      · refine Int.le_trans h2 ?_
        split <;> omega
      · exact h3 y hy
def b1name : B1 → Str
  | .len => "len" | .abs => "abs" | .int1 => "int" | .tuple => "tuple" | .list => "list" | .all => "all" | .bool => "bool" | .sum => "sum" | .max1 => "max" | .min1 => "min" | .str1 => "str"
theorem fin_retR {K : PySem.W.Frag} {σ : L2.St} {G H : Hp} {S : SS} {Q : VK} {o : Option R} {P : Prop} (f : Fin K C σ G H S Q (retR S o)) (h : ∀ r, o = some r → Fin K C σ G H S Q (some (r, S)) → P) : P := by
  cases o with
  | none => exact fin_none f
  | some r => exact h r rfl f
theorem b1_ok (g : Good X C) (f : B1) : ∃ r : V → Hp → VK → Prop, (∀ {x : Expr} {t : TE} {p pos : Pos}, PE X x t → Gl X (b1name f) → starEach [x] X.env = [(false, eval x X.env)] → PE X (.Call (.Name (b1name f) p) [x] [] pos) (fun σ H Q => t σ H fun v H1 => r v H1 Q)) ∧
    ∀ (σ : L2.St) (G H : Hp) (S : SS) (d : D) (v : V) (Q : VK), Rel X.K C.L G H S σ → BDen X.K G H d v → Fin X.K C σ G H S Q (retR S (b1D f d)) → r v H Q := by
  have viaB : ∀ {id : String} {r : List V → Hp → VK → Prop} (nm : Str), CallR X (.builtin id) r → X.mg nm = none → bootBuiltins nm = some (.builtin id) → (nm ≠ "__name__") → ((nm == ("__debug__" : Str)) = false) →
      ∀ {x : Expr} {t : TE} {p pos : Pos}, PE X x t → Gl X nm → starEach [x] X.env = [(false, eval x X.env)] → PE X (.Call (.Name nm p) [x] [] pos) (fun σ H Q => t σ H fun v H1 => r [v] H1 Q) :=
    by
      intro _ _ nm hc hm hv hn hd x t p pos hx hg hs
      exact PE.imp (pe_callB hc hg hm hv (pa_cons hx pa_nil hs) hn hd hs (by rfl)) fun σ H Q h => h
  have viaT : ∀ {T : String} {r : List V → Hp → VK → Prop} (nm : Str), CallR X (.type T) r → X.mg nm = none → bootBuiltins nm = some (.type T) → (nm ≠ "__name__") → ((nm == ("__debug__" : Str)) = false) →
      ∀ {x : Expr} {t : TE} {p pos : Pos}, PE X x t → Gl X nm → starEach [x] X.env = [(false, eval x X.env)] → PE X (.Call (.Name nm p) [x] [] pos) (fun σ H Q => t σ H fun v H1 => r [v] H1 Q) :=
    by
      intro _ _ nm hc hm hv hn hd x t p pos hx hg hs
      exact PE.imp (pe_callTy hc hg hm hv (pa_cons hx pa_nil hs) hn hd hs (by rfl)) fun σ H Q h => h
  cases f with
  | len =>
    refine ⟨_, viaB "len" call_len (g.bl _ (by simp [b1name])) (by decide +kernel) (by decide) (by decide), fun σ G H S d v Q rel h f => ?_⟩
    rcases h with h | ⟨p, rfl, xs, vs, rfl, hv, t⟩
    · cases h with
      | @tup _ p vs ds hp t => exact ⟨_, _, rfl, .inr ⟨vs, Same.tup rel.sub hp, rfl⟩, by rw [← t.length]; exact f.now rel (.int _)⟩
      | @lst _ p vs ds hp t => exact ⟨_, _, rfl, .inl ⟨vs, .inl (.inl (rel.sub _ _ hp)), rfl⟩, by rw [← t.length]; exact f.now rel (.int _)⟩
      | @scr _ p ns hp => exact ⟨_, _, rfl, .inl ⟨_, rel.sub.seq hp, rfl⟩, by rw [List.length_map]; exact f.now rel (.int _)⟩
      | str x =>
        have f' : Fin X.K C σ G H S Q (retR S (if x.length ≤ sizeLine then some (.v (.int x.length)) else none)) := f
        by_cases hz : x.length ≤ sizeLine
        · rw [if_pos hz] at f'
          exact ⟨_, _, rfl, ⟨hz, rfl⟩, f'.now rel (.int _)⟩
        · rw [if_neg hz] at f'
          exact fin_none f'
      | _ => exact fin_none f
    · exact ⟨_, _, rfl, .inl ⟨vs, .inl (.inl hv), rfl⟩, by rw [← t.length]; exact f.now rel (.int _)⟩
  | abs =>
    refine ⟨_, viaB "abs" call_abs (g.bl _ (by simp [b1name])) (by decide +kernel) (by decide) (by decide), fun σ G H S d v Q rel h f => ?_⟩
    rcases h with h | ⟨p, rfl, xs, vs, rfl, hv, t⟩
    · cases h with
      | int i => exact ⟨i, rfl, f.now rel (.int _)⟩
      | _ => exact fin_none f
    · exact fin_none f
  | int1 =>
    refine ⟨_, viaT "int" (CallR.or call_int1 call_int_str) (g.bl _ (by simp [b1name])) (by decide +kernel) (by decide) (by decide), fun σ G H S d v Q rel h f => ?_⟩
    rcases h with h | ⟨p, rfl, xs, vs, rfl, hv, t⟩
    · cases h with
      | int i => exact .inl (.inl ⟨i, rfl, f.now rel (.int _)⟩)
      | str x =>
        have f' : Fin X.K C σ G H S Q (retR S (if x.length ≤ 640 then (PySem.intText? x).map fun n => .v (.int n) else none)) := f
        by_cases hz : x.length ≤ 640
        · rw [if_pos hz] at f'
          exact fin_retR f' fun r e f2 => by
            obtain ⟨n, e1, rfl⟩ := Option.map_eq_some_iff.mp e
            exact .inr ⟨x, n, rfl, e1, hz, f2.now rel (.int _)⟩
        · rw [if_neg hz] at f'
          exact fin_none f'
      | _ => exact fin_none f
    · exact fin_none f
  | str1 =>
    refine ⟨_, viaT "str" call_str_int (g.bl _ (by simp [b1name])) (by decide +kernel) (by decide) (by decide), fun σ G H S d v Q rel h f => ?_⟩
    rcases h with h | ⟨p, rfl, xs, vs, rfl, hv, t⟩
    · cases h with
      | int i =>
        have f' : Fin X.K C σ G H S Q (retR S (if i.natAbs.log2 < 1920 then some (.v (.str (toString i))) else none)) := f
        by_cases hz : i.natAbs.log2 < 1920
        · rw [if_pos hz] at f'
          exact ⟨i, rfl, hz, f'.now rel (.str _)⟩
        · rw [if_neg hz] at f'
          exact fin_none f'
      | _ => exact fin_none f
    · exact fin_none f
  | tuple =>
    refine ⟨_, viaT "tuple" call_tuple_of (g.bl _ (by simp [b1name])) (by decide +kernel) (by decide) (by decide), fun σ G H S d v Q rel h f => ?_⟩
    rcases h with h | ⟨p, rfl, xs, vs, rfl, hv, t⟩
    · cases h with
      | @tup _ p vs ds hp t => exact ⟨p, vs, rfl, .inr ⟨Same.tup rel.sub hp, f.now rel (.tup hp t)⟩⟩
      | @lst _ p vs ds hp t => exact ⟨p, vs, rfl, .inl ⟨.inl (.inl (rel.sub _ _ hp)), f.newTup rel t⟩⟩
      | _ => exact fin_none f
    · exact ⟨p, vs, rfl, .inl ⟨.inl (.inl hv), f.newTup rel t⟩⟩
  | list =>
    refine ⟨_, viaT "list" call_list_of (g.bl _ (by simp [b1name])) (by decide +kernel) (by decide) (by decide), fun σ G H S d v Q rel h f => ?_⟩
    rcases h with h | ⟨p, rfl, xs, vs, rfl, hv, t⟩
    · cases h with
      | @tup _ p vs ds hp t => exact ⟨p, vs, rfl, .inr (Same.tup rel.sub hp), f.newLst rel t⟩
      | @lst _ p vs ds hp t => exact ⟨p, vs, rfl, .inl (.inl (.inl (rel.sub _ _ hp))), f.newLst rel t⟩
      | _ => exact fin_none f
    · exact ⟨p, vs, rfl, .inl (.inl (.inl hv)), f.newLst rel t⟩
  | all =>
    refine ⟨_, viaB "all" (cr_all g.calm) (g.bl _ (by simp [b1name])) (by decide +kernel) (by decide) (by decide), fun σ G H S d v Q rel h f => ?_⟩
    have core : ∀ {xs : List D} {vs : List V} {p : Addr}, SqL X.K H p vs → DenL X.K G xs vs → Fin X.K C σ G H S Q (retR S ((blsD xs).map fun bs => .v (.bl (bs.all id)))) → rAll X.K [.ref p] H Q := fun {xs vs p} hv t f => fin_retR f fun r e f => by
      obtain ⟨bs, e1, rfl⟩ := Option.map_eq_some_iff.mp e
      refine ⟨p, bs, rfl, ?_, f.now rel (.bl _)⟩
      rw [← DenL.blsD e1 t]
      exact hv
    rcases h with h | ⟨p, rfl, xs, vs, rfl, hv, t⟩
    · cases h with
      | @lst _ p vs ds hp t => exact core (.inl (.inl (rel.sub _ _ hp))) t f
      | _ => exact fin_none f
    · exact core (.inl (.inl hv)) t f
  | bool =>
    refine ⟨_, viaT "bool" call_bool1 (g.bl _ (by simp [b1name])) (by decide +kernel) (by decide) (by decide), fun σ G H S d v Q rel h f => ?_⟩
    rcases h with h | ⟨p, rfl, xs, vs, rfl, hv, t⟩
    · cases h with
      | bl i => exact .inr ⟨i, rfl, f.now rel (.bl _)⟩
      | _ => exact fin_none f
    · exact fin_none f
  | sum =>
    refine ⟨_, viaB "sum" (cr_sum g.calm) (g.bl _ (by simp [b1name])) (by decide +kernel) (by decide) (by decide), fun σ G H S d v Q rel h f => ?_⟩
    have core : ∀ {xs : List D} {vs : List V} {p : Addr}, SqL X.K H p vs → DenL X.K G xs vs → Fin X.K C σ G H S Q (retR S ((intsD xs).map fun ns => .v (.int ns.sum))) → rSum X.K [.ref p] H Q := fun {xs vs p} hv t f => fin_retR f fun r e f => by
      obtain ⟨ns, e1, rfl⟩ := Option.map_eq_some_iff.mp e
      refine ⟨p, ns, rfl, ?_, f.now rel (.int _)⟩
      rw [← DenL.intsD e1 t]
      exact hv
    rcases h with h | ⟨p, rfl, xs, vs, rfl, hv, t⟩
    · cases h with
      | @lst _ p vs ds hp t => exact core (.inl (.inl (rel.sub _ _ hp))) t f
      | _ => exact fin_none f
    · exact core (.inl (.inl hv)) t f
  | max1 =>
    refine ⟨_, viaB "max" (cr_max g.calm) (g.bl _ (by simp [b1name])) (by decide +kernel) (by decide) (by decide), fun σ G H S d v Q rel h f => ?_⟩
    have core : ∀ {xs : List D} {vs : List V} {p : Addr}, SqL X.K H p vs → DenL X.K G xs vs → Fin X.K C σ G H S Q (retR S (b1D .max1 (.lst xs))) → rMax X.K [.ref p] H Q := fun {xs vs p} hv t f => by
      cases e : MX.intsD xs with
      | none => simp [b1D, e] at f; exact fin_none f
      | some ns =>
        cases ns with
        | nil => simp [b1D, e] at f; exact fin_none f
        | cons n ns =>
          simp only [b1D, e] at f
          obtain ⟨h1, h2, h3⟩ := maxI_spec ns n
          refine ⟨p, n :: ns, rfl, by rw [← DenL.intsD e t]; exact hv, by simp, fun m hm hy => ?_⟩
          have em : m = maxI n ns := by
            refine Int.le_antisymm ?_ ?_
            · rcases List.mem_cons.mp hm with rfl | hm
              · exact h2
              · exact h3 m hm
            · rcases h1 with h1 | h1
              · rw [h1]; exact hy n List.mem_cons_self
              · exact hy _ (List.mem_cons_of_mem _ h1)
          rw [em]
          exact f.now rel (.int _)
    rcases h with h | ⟨p, rfl, xs, vs, rfl, hv, t⟩
    · cases h with
      | @lst _ p vs ds hp t => exact core (.inl (.inl (rel.sub _ _ hp))) t f
      | _ => exact fin_none f
    · exact core (.inl (.inl hv)) t f
  | min1 =>
    refine ⟨_, viaB "min" (cr_min g.calm) (g.bl _ (by simp [b1name])) (by decide +kernel) (by decide) (by decide), fun σ G H S d v Q rel h f => ?_⟩
    have core : ∀ {xs : List D} {vs : List V} {p : Addr}, SqL X.K H p vs → DenL X.K G xs vs → Fin X.K C σ G H S Q (retR S (b1D .min1 (.lst xs))) → rMin X.K [.ref p] H Q := fun {xs vs p} hv t f => by
      cases e : MX.intsD xs with
      | none => simp [b1D, e] at f; exact fin_none f
      | some ns =>
        cases ns with
        | nil => simp [b1D, e] at f; exact fin_none f
        | cons n ns =>
          simp only [b1D, e] at f
          obtain ⟨h1, h2, h3⟩ := minI_spec ns n
          refine ⟨p, n :: ns, rfl, by rw [← DenL.intsD e t]; exact hv, by simp, fun m hm hy => ?_⟩
          have em : m = minI n ns := by
            refine Int.le_antisymm ?_ ?_
            · rcases h1 with h1 | h1
              · rw [h1]; exact hy n List.mem_cons_self
              · exact hy _ (List.mem_cons_of_mem _ h1)
            · rcases List.mem_cons.mp hm with rfl | hm
              · exact h2
              · exact h3 m hm
          rw [em]
          exact f.now rel (.int _)
    rcases h with h | ⟨p, rfl, xs, vs, rfl, hv, t⟩
    · cases h with
      | @lst _ p vs ds hp t => exact core (.inl (.inl (rel.sub _ _ hp))) t f
      | _ => exact fin_none f
    · exact core (.inl (.inl hv)) t f
theorem s_b1 {f : B1} {p : Pos} (g : Good X C) (ha : SEv X C a ea) (hg : Gl X (b1name f)) (hs : starEach [a] X.env = [(false, eval a X.env)]) : SEv X C (.Call (.Name (b1name f) p) [a] [] pos) (.b1 f ea) := by
  obtain ⟨r, hp, hr⟩ := b1_ok g f
  refine ⟨PE.imp (hp ha.op hg hs) fun σ H Q ⟨G, S, rel, f⟩ => ?_, fun _ h => nomatch h⟩
  unfold ev at f
  exact ⟨G, S, _, Q, rel, f, fun v H1 ⟨G1, S1, d, r1, s1, n1, f1⟩ => hr σ G1 H1 S1 d v Q r1 n1 f1⟩

/-! ### isinstance of the built-in types -/
def tyS : Ty → String
  | .int => "int" | .bool => "bool" | .str => "str" | .tuple => "tuple" | .list => "list"
def tyName : Ty → Str
  | .int => "int" | .bool => "bool" | .str => "str" | .tuple => "tuple" | .list => "list"
theorem kb_none : ∀ t, kitB "NoneType" (tyS t) = some false := by intro t; cases t <;> decide +kernel
theorem kb_bool : ∀ t, kitB "bool" (tyS t) = some (decide (t = .int ∨ t = .bool)) := by intro t; cases t <;> decide +kernel
theorem kb_int : ∀ t, kitB "int" (tyS t) = some (decide (t = .int)) := by intro t; cases t <;> decide +kernel
theorem kb_str : ∀ t, kitB "str" (tyS t) = some (decide (t = .str)) := by intro t; cases t <;> decide +kernel
theorem kb_tuple : ∀ t, kitB "tuple" (tyS t) = some (decide (t = .tuple)) := by intro t; cases t <;> decide +kernel
theorem kb_list : ∀ t, kitB "list" (tyS t) = some (decide (t = .list)) := by intro t; cases t <;> decide +kernel
theorem isi_kit {K : PySem.W.Frag} {G H : Hp} {d : D} {v : V} {t : Ty} {b : Bool} (m : Same G H) (h : BDen K G H d v) (e : isiD d t = some b) : ∃ u, TyX K H v u ∧ PySem.W.kitOne K u (.type (tyS t)) = some b := by
  have fin : ∀ {T : String} {c : Bool}, TyX K H v (.type T) → (kitB T (tyS t)) = some c → c = b → ∃ u, TyX K H v u ∧ PySem.W.kitOne K u (.type (tyS t)) = some b := fun h1 h2 h3 => ⟨_, h1, kit_ty (h3 ▸ h2)⟩
  rcases h with h | ⟨p, rfl, xs, vs, rfl, hv, _⟩
  · cases h with
    | non => exact fin (.base .non) (kb_none t) (by simpa [isiD] using e)
    | bl k => exact fin (.base (.bl k)) (kb_bool t) (by cases t <;> simpa [isiD] using e)
    | int k => exact fin (.base (.int k)) (kb_int t) (by cases t <;> simpa [isiD] using e)
    | str k => exact fin (.base (.str k)) (kb_str t) (by cases t <;> simpa [isiD] using e)
    | scr _ => simp [isiD] at e
    | fn _ => simp [isiD] at e
    | clo _ _ _ => simp [isiD] at e
    | adr => simp [isiD] at e
    | @tup _ p vs ds hp _ =>
      have q : decide (t = .tuple) = b := by cases t <;> simpa [isiD] using e
      rcases Same.tup m hp with (h1 | ⟨o, h1⟩) | ⟨o, its, n, h1, h2, _⟩
      · exact fin (.base (.tup h1)) (kb_tuple t) q
      · exact fin (.fTuple h1) (kb_tuple t) q
      · exact fin (.kTuple h1 h2) (kb_tuple t) q
    | @lst _ p vs ds hp _ => exact fin (.base (.lst (m _ _ hp))) (kb_list t) (by cases t <;> simpa [isiD] using e)
  · exact fin (.base (.lst hv)) (kb_list t) (by cases t <;> simpa [isiD] using e)
theorem s_isi {t : Ty} {p p2 : Pos} (g : Good X C) (ha : SEv X C a ea) (hg : Gl X "isinstance") (hg2 : Gl X (tyName t)) (hs : starEach (a :: [.Name (tyName t) p2]) X.env = (false, eval a X.env) :: starEach [.Name (tyName t) p2] X.env) :
    SEv X C (.Call (.Name "isinstance" p) [a, .Name (tyName t) p2] [] pos) (.isi ea t) := by
  have ht : PE X (.Name (tyName t) p2) (tC (.ty (tyS t))) := by
    cases t <;> exact pe_bltn hg2 (g.bl _ (by simp [tyName])) (by decide +kernel) rfl (by decide) (by decide)
  refine ⟨PE.imp (pe_callB call_isi hg (g.bl _ (by simp)) (by decide +kernel) (pa_cons ha.op (pa_cons ht pa_nil) hs) (by decide) (by decide) hs (by rfl)) fun σ H Q ⟨G, S, rel, f⟩ => ?_, fun _ h => nomatch h⟩
  unfold ev at f
  refine ⟨G, S, _, Q, rel, f, fun v H1 ⟨G1, S1, d, r1, s1, n1, f1⟩ => ?_⟩
  obtain ⟨b, e, q⟩ := fin_retB r1 f1
  obtain ⟨u, h1, h2⟩ := isi_kit r1.sub n1 e
  exact ⟨v, _, u, _, b, rfl, .ty _, h1, h2, q⟩
end
end MX

set_option Elab.async false
set_option linter.all false
set_option maxRecDepth 100000
set_option autoImplicit false
/-! MX5: calls of defs; append, pop; a dict that is written and asked at once. -/
namespace MX
open PySem PySem.Spec PyProof.Rows L2

/-- a def's promise: what the evaluator says of it -/
def FnS (cl : CL) (K : PySem.W.Frag) (cv : Nat → Value) (T : List (Addr × Str)) (f : Nat) : Sp := fun vs H Q E => ∃ (G : Hp) (L : Lk) (as : SS) (r : R) (S' : SS), L.T = T ∧ Rel K L G H as (vs.map some) ∧ (∀ (j t : Nat) (d : D), as[j]? = some (.own t d) → t = j + 1) ∧ cl.run f as = some (r, S') ∧
  (∀ c, r = .ex c → ∀ G' H' σ', Stp K L G H as (vs.map some) G' H' S' σ' → E (cv c) none H') ∧
  (∀ G' H' σ' v, Stp K L G H as (vs.map some) G' H' S' σ' → RR K H as (vs.map some) G' H' S' σ' r v → Q v H')

section
variable {K : PySem.W.Frag} {L L' : Lk} {G G1 G2 H H1 H2 : Hp} {S S1 : SS} {σ σc : L2.St}
theorem own_set {i : Nat} {s : Sl} {b : Addr} (hs : ∀ t d, s ≠ .own t d) {j : Nat} (h : OwnS (S.set i s) σ j b) : OwnS S σ j b ∧ j ≠ i := by
  obtain ⟨t', d', h1, h2⟩ := h
  by_cases q : i = j
  · subst q
    rw [List.getElem?_set] at h1
    split at h1
    · split at h1
      · exact absurd (Option.some.inj h1) (hs t' d')
      · cases h1
    · exact absurd rfl ‹_›
  · rw [List.getElem?_set_ne q] at h1
    exact ⟨⟨t', d', h1, h2⟩, Ne.symm q⟩
theorem own_un {i : Nat} {b : Addr} {j : Nat} (h : OwnS (S.set i .un) σ j b) : OwnS S σ j b ∧ j ≠ i := own_set (by intro _ _ z; cases z) h
theorem set_at {i j : Nat} {s x : Sl} (h : (S.set i s)[j]? = some x) : (j = i ∧ x = s ∧ i < S.length) ∨ (j ≠ i ∧ S[j]? = some x) := by
  by_cases q : i = j
  · subst q
    rw [List.getElem?_set] at h
    split at h
    · split at h
      · rename_i hl; cases h; exact .inl ⟨rfl, rfl, hl⟩
      · cases h
    · exact absurd rfl ‹_›
  · rw [List.getElem?_set_ne q] at h
    exact .inr ⟨Ne.symm q, h⟩
/-- a slot is forgotten -/
theorem Rel.forget (rel : Rel K L G H S σ) (i : Nat) : Stp K L G H S σ G H (S.set i .un) σ := by
  refine ⟨⟨rel.sub, by rw [List.length_set]; exact rel.len, fun j s h => ?_, fun j k b h1 h2 => rel.inj j k b (own_un h1).1 (own_un h2).1, rel.tabs, rel.gt⟩, Same.refl _, fun _ _ _ h _ => ⟨h, rfl⟩, fun _ h => h, fun b ⟨j, h⟩ => .inl ⟨j, (own_un h).1⟩⟩
  rcases set_at h with ⟨_, rfl, _⟩ | ⟨_, h⟩
  · trivial
  · exact rel.at_ j s h
theorem vals_at : ∀ {ds : List D} {j : Nat} {s : Sl}, (valsS ds)[j]? = some s → ∃ d, ds[j]? = some d ∧ s = .val d := by
  intro ds j s h
  unfold valsS at h
  rw [List.getElem?_map] at h
  cases e : ds[j]? with
  | none => rw [e] at h; cases h
  | some d => rw [e] at h; cases h; exact ⟨d, rfl, rfl⟩
theorem own_vals {ds : List D} {σ : L2.St} {b : Addr} : ¬ Own (valsS ds) σ b := fun ⟨j, t, d, h, _⟩ => by
  obtain ⟨_, _, e⟩ := vals_at h
  cases e
theorem rel_vals {ds : List D} {vs : List V} (m : Same G H) (t : DenL K G ds vs) (tb : TabsG L.T G H) (gt : ∀ p ∈ L.T, G p.1 = none) : Rel K L G H (valsS ds) (vs.map some) := by
  refine ⟨m, by unfold valsS; rw [List.length_map, List.length_map]; exact t.length, fun j s h => ?_, fun i j a h => absurd ⟨i, h⟩ own_vals, tb, gt⟩
  obtain ⟨d, e, rfl⟩ := vals_at h
  obtain ⟨v, e1, e2⟩ := t.get e
  exact ⟨v, by rw [List.getElem?_map, e1]; rfl, e2⟩
/-- behind a call where nothing was lent -/
theorem back_vals {as : SS} {σa : L2.St} {C : SS} (hT : L'.T = L.T) (no : ∀ b, ¬ Own as σa b) (rel : Rel K L G1 H1 S1 σ) (y : Stp K L' G1 H1 as σa G2 H2 C σc) : Stp K L G1 H1 S1 σ G2 H2 S1 σ ∧ ∀ r v, RR K H1 as σa G2 H2 C σc r v → RR K H1 S1 σ G2 H2 S1 σ r v := by
  have k : ∀ b o, NT o → H1 b = some o → H2 b = some o ∧ G2 b = G1 b := fun b o nt e => y.keep b o nt e (no b)
  have st : Stp K L G1 H1 S1 σ G2 H2 S1 σ := by
    refine ⟨⟨y.rel.sub, rel.len, fun j s h => ?_, rel.inj, hT ▸ y.rel.tabs, hT ▸ y.rel.gt⟩, y.gm, fun b o nt e _ => k b o nt e, y.th, fun b h => .inl h⟩
    refine (rel.at_ j s h).mono y.gm fun b eb ⟨t, d, es⟩ => ?_
    subst es
    obtain ⟨a', ea', _, ⟨xs, vs, _, hv, _⟩, _⟩ := rel.own h
    rw [eb] at ea'; cases ea'
    rw [hv]
    exact k b _ nt_lst hv
  refine ⟨st, fun r v h => ?_⟩
  cases r with
  | v d => exact h
  | ex c => exact h
  | fr d =>
    obtain ⟨a, e, o, g, n, q⟩ := h
    have q1 : H1 a = none := by
      rcases q with q | q
      · exact q
      · exact absurd q (no a)
    exact ⟨a, e, o, g, fun z => (rel.ownH z).1 q1, .inl q1⟩
/-- behind a call to which slot i's object was lent -/
theorem back_own {i t : Nat} {d d' : D} {ds : List D} {ws : List V} {C : SS} {a : Addr} (rel : Rel K L G H S σ) (e : S[i]? = some (.own t d)) (ea : σ[i]? = some (some (.ref a))) (x : Stp K L G H (S.set i .un) σ G1 H1 S1 σ)
    (y : Stp K L' G1 H1 (.own 1 d :: valsS ds) (some (.ref a) :: ws.map some) G2 H2 (.own 1 d' :: C) σc) (hL : L' 0 = a) (hT : L'.T = L.T) :
    Stp K L G H S σ G2 H2 (S1.set i (.own t d')) σ ∧ ∀ r v, RR K H1 (.own 1 d :: valsS ds) (some (.ref a) :: ws.map some) G2 H2 (.own 1 d' :: C) σc r v → RR K H S σ G2 H2 (S1.set i (.own t d')) σ r v := by
  obtain ⟨a', ea', own, oc, ga, tg⟩ := rel.own e
  rw [ea] at ea'; cases ea'
  have oa : Own S σ a := ⟨i, own⟩
  have na : ∀ j, j ≠ i → ¬ OwnS S σ j a := fun j hj h => hj (rel.inj _ _ _ h own)
  have nun : ¬ Own (S.set i .un) σ a := fun ⟨j, h⟩ => by
    obtain ⟨h1, h2⟩ := own_un h
    exact na j h2 h1
  have sub : ∀ b, Own (S.set i .un) σ b → Own S σ b := fun b ⟨j, h⟩ => ⟨j, (own_un h).1⟩
  have hHa := (rel.ownH oa).1
  obtain ⟨_, vs0, _, ho, _⟩ := id oc
  obtain ⟨h1a, g1a⟩ := x.keep a _ nt_lst ho nun
  have n1 : ¬ Own S1 σ a := fun h => by
    rcases x.ow a h with q | q
    · exact nun q
    · rw [ho] at q; cases q
  -- what the callee holds
  have oas : ∀ b, Own (.own 1 d :: valsS ds) (some (.ref a) :: ws.map some) b → b = a := fun b ⟨j, t', d'', h1, h2⟩ => by
    cases j with
    | zero => simp at h2; exact h2.symm
    | succ j =>
      obtain ⟨_, _, z⟩ := vals_at (show (valsS ds)[j]? = some (.own t' d'') by simpa using h1)
      cases z
  obtain ⟨b, eb, ob, ocb, gb, tb⟩ := y.rel.own (i := 0) (t := 1) (d := d') rfl
  have hb : b = a := (tb 0 rfl).symm.trans hL
  subst hb
  have kb : ∀ c u, NT u → H1 c = some u → c ≠ b → H2 c = some u ∧ G2 c = G1 c := fun c u nt q hc => y.keep c u nt q fun z => hc (oas c z)
  have rel2 : Rel K L G2 H2 (S1.set i (.own t d')) σ := by
    refine ⟨y.rel.sub, by rw [List.length_set]; exact x.rel.len, fun j s h => ?_, fun j k c hj hk => ?_, hT ▸ y.rel.tabs, hT ▸ y.rel.gt⟩
    · rcases set_at h with ⟨rfl, rfl, _⟩ | ⟨_, h⟩
      · exact ⟨b, ea, ocb, gb, tg⟩
      · refine (x.rel.at_ j s h).mono y.gm fun c ec ⟨t', d'', es⟩ => ?_
        subst es
        have cne : c ≠ b := fun z => n1 (z ▸ ⟨j, t', d'', h, ec⟩)
        obtain ⟨c', ec', _, ⟨_, vs1, _, hv1, _⟩, _⟩ := x.rel.own h
        rw [ec] at ec'; cases ec'
        rw [hv1]
        exact kb c _ nt_lst hv1 cne
    · obtain ⟨t1, d1, p1, p2⟩ := hj
      obtain ⟨t2, d2, p3, p4⟩ := hk
      rcases set_at p1 with ⟨rfl, _, _⟩ | ⟨j1, q1⟩
      · rcases set_at p3 with ⟨rfl, _, _⟩ | ⟨j2, q2⟩
        · rfl
        · rw [ea] at p2; cases p2
          exact absurd ⟨k, t2, d2, q2, p4⟩ n1
      · rcases set_at p3 with ⟨rfl, _, _⟩ | ⟨j2, q2⟩
        · rw [ea] at p4; cases p4
          exact absurd ⟨j, t1, d1, q1, p2⟩ n1
        · exact x.rel.inj j k c ⟨t1, d1, q1, p2⟩ ⟨t2, d2, q2, p4⟩
  have own2 : ∀ c, Own (S1.set i (.own t d')) σ c → c = b ∨ Own S1 σ c := fun c ⟨j, t1, d1, p1, p2⟩ => by
    rcases set_at p1 with ⟨rfl, _, _⟩ | ⟨j1, q1⟩
    · rw [ea] at p2; cases p2; exact .inl rfl
    · exact .inr ⟨j, t1, d1, q1, p2⟩
  have th1 : ∀ c, H1 c = none → H c = none := fun c q => by
    cases z : H c with
    | none => rfl
    | some u => exact absurd q (x.th c (by rw [z]; simp))
  refine ⟨⟨rel2, x.gm.trans y.gm, fun c u nt q n => ?_, fun c h => y.th c (x.th c h), fun c h => ?_⟩, fun r v h => ?_⟩
  · obtain ⟨q1, q2⟩ := x.keep c u nt q fun z => n (sub c z)
    obtain ⟨q3, q4⟩ := kb c u nt q1 fun z => n (z ▸ oa)
    exact ⟨q3, q4.trans q2⟩
  · rcases own2 c h with rfl | h
    · exact .inl oa
    · exact (x.ow c h).imp (sub c) id
  · cases r with
    | v d => exact h
    | ex c => exact h
    | fr d =>
      obtain ⟨p, e', o', g', n', q'⟩ := h
      have pne : p ≠ b := fun z => n' (z ▸ ⟨0, ob⟩)
      have q1 : H1 p = none := by
        rcases q' with q | q
        · exact q
        · exact absurd (oas p q) pne
      refine ⟨p, e', o', g', fun z => ?_, .inl (th1 p q1)⟩
      rcases own2 p z with z | z
      · exact pne z
      · exact (x.rel.ownH z).1 q1
end

/-- what stands of a def that is called -/
def FnG (X : Cx) (C : Ctx) (x : Str) (f : Nat) : Prop := ∃ fa fd ps k, FnOk X.prog X.w X.K X.mg X.base (L2N.CX X.prog X.w) k fa fd ps (FnS C.cl X.K C.cv C.L.T f) ∧ Room k X.A ∧ X.mg x = some (.ref fa) ∧ PySem.W.keepIn X.K (.ref fa) = true ∧ Binds X.K fd ps []
section
variable {X : Cx} {C : Ctx} {a b c e : Expr} {ea eb ec : E} {pos p : Pos}
theorem pe_callS0 {CX : CXT} {k : Nat} {f : Addr} {fd : FuncData} {ps : List Str} {sp : Sp} {E : L2.St → XK} {x : Str} (F : FnOk X.prog X.w X.K X.mg X.base CX k f fd ps sp) (hr : Room k X.A) (hg : Gl X x) (hm : X.mg x = some (.ref f)) (hk : PySem.W.keepIn X.K (.ref f) = true) (hb : Binds X.K fd ps []) (hx : ∀ σ, PassesAt CX X σ (E σ))
    (hdb : (x == ("__debug__" : Str)) = false) : PE X (.Call (.Name x p) [] [] pos) (tCallS sp E tNil) := by
  refine ⟨fun pins s σ H Q I h => ?_⟩
  refine wpAny_Call_Name_kw (ld_glob I hg hm ?_ hdb)
  exact PySem.W.callWith_K0 I.kIn hk (run_fnS (us := []) F hr hb (hx σ) I .nil h)
/-- the call's reading, nothing lent -/
theorem call_vals {σ : L2.St} {G H : Hp} {S : SS} {Q : VK} {ds : List D} {vs : List V} {f : Nat} {x : Option (R × SS)} (rel : Rel X.K C.L G H S σ) (t : DenL X.K G ds vs) (hx : x = C.cl.run f (valsS ds)) (h : Fin X.K C σ G H S Q (callV S x)) : FnS C.cl X.K C.cv C.L.T f vs H Q (WE C.W σ) := by
  cases q : C.cl.run f (valsS ds) with
  | none => rw [hx, q] at h; exact fin_none h
  | some y =>
    obtain ⟨r, C'⟩ := y
    rw [hx, q] at h
    obtain ⟨r', S', e, h1, h2⟩ := h
    simp only [callV, Option.some.injEq, Prod.mk.injEq] at e
    obtain ⟨rfl, rfl⟩ := e
    refine ⟨G, ⟨fun _ => 0, C.L.T⟩, _, _, _, rfl, rel_vals rel.sub t rel.tabs rel.gt, (fun j t' d h => ?_), q, fun c ec G' H' σ' y => ?_, fun G' H' σ' v y hr => ?_⟩
    · obtain ⟨_, _, z⟩ := vals_at h
      cases z
    · exact h1 c ec G' H' (back_vals (L := C.L) (L' := ⟨fun _ => 0, C.L.T⟩) rfl (fun b => own_vals) rel y).1
    · obtain ⟨y1, y2⟩ := back_vals (L := C.L) (L' := ⟨fun _ => 0, C.L.T⟩) rfl (fun b => own_vals) rel y
      exact h2 G' H' v y1 (y2 _ _ hr)
theorem call_own {σ : L2.St} {G H G1 H1 : Hp} {S S1 : SS} {Q : VK} {i t : Nat} {d : D} {ds : List D} {ws : List V} {a : Addr} {f : Nat} (rel : Rel X.K C.L G H S σ) (e : S[i]? = some (.own t d)) (ea : σ[i]? = some (some (.ref a))) (x : Stp X.K C.L G H (S.set i .un) σ G1 H1 S1 σ)
    (t' : DenL X.K G1 ds ws) (h : Fin X.K C σ G H S Q (callO i t S1 (C.cl.run f (.own 1 d :: valsS ds)))) : FnS C.cl X.K C.cv C.L.T f (.ref a :: ws) H1 Q (WE C.W σ) := by
  obtain ⟨a', ea', own, ⟨xs, vs, rfl, oc, td⟩, ga, tg⟩ := rel.own e
  rw [ea] at ea'; cases ea'
  have nun : ¬ Own (S.set i .un) σ a := fun ⟨j, h⟩ => by
    obtain ⟨h1, h2⟩ := own_un h
    exact h2 (rel.inj _ _ _ h1 own)
  obtain ⟨h1a, g1a⟩ := x.keep a _ nt_lst oc nun
  cases q : C.cl.run f (.own 1 (.lst xs) :: valsS ds) with
  | none => rw [q] at h; exact fin_none h
  | some y =>
    obtain ⟨r, C'⟩ := y
    rw [q] at h
    obtain ⟨r', S', es, h1, h2⟩ := h
    obtain ⟨d', C'', rfl⟩ : ∃ d' C'', C' = .own 1 d' :: C'' := by
      unfold callO at es
      split at es
      · rename_i z; cases z; exact ⟨_, _, rfl⟩
      · cases es
    simp only [callO, Option.some.injEq, Prod.mk.injEq] at es
    obtain ⟨rfl, rfl⟩ := es
    refine ⟨G1, ⟨fun _ => a, C.L.T⟩, _, _, _, rfl, ⟨x.rel.sub, ?_, fun j s hs => ?_, fun j k b hj hk => ?_, x.rel.tabs, x.rel.gt⟩, (fun j t' d h => ?_), q, fun c ec G' H' σ' y => ?_, fun G' H' σ' v y hr => ?_⟩
    · simp only [List.length_cons, List.map_cons, List.length_map, valsS]
      rw [t'.length]
    · cases j with
      | zero =>
        simp at hs
        subst hs
        exact ⟨a, rfl, ⟨xs, vs, rfl, h1a, td.mono x.gm⟩, by rw [g1a]; exact ga, fun _ _ => rfl⟩
      | succ j =>
        obtain ⟨d, e1, rfl⟩ := vals_at (show (valsS ds)[j]? = some s by simpa using hs)
        obtain ⟨v, e2, e3⟩ := t'.get e1
        exact ⟨v, by simp [e2], e3⟩
    · obtain ⟨t1, d1, p1, _⟩ := hj
      obtain ⟨t2, d2, p2, _⟩ := hk
      cases j with
      | succ j => obtain ⟨_, _, z⟩ := vals_at (show (valsS ds)[j]? = some _ by simpa using p1); cases z
      | zero =>
        cases k with
        | succ k => obtain ⟨_, _, z⟩ := vals_at (show (valsS ds)[k]? = some _ by simpa using p2); cases z
        | zero => rfl
    · cases j with
      | zero => simp at h; exact h.1.symm
      | succ j => obtain ⟨_, _, z⟩ := vals_at (show (valsS ds)[j]? = some _ by simpa using h); cases z
    · exact h1 c ec G' H' (back_own rel e ea x y rfl rfl).1
    · obtain ⟨y1, y2⟩ := back_own rel e ea x y rfl rfl
      exact h2 G' H' v y1 (y2 _ _ hr)
theorem any_star {es : List Expr} {xs : List E} (h : ∀ x ∈ es, ∀ r, starEach (x :: r) X.env = (false, eval x X.env) :: starEach r X.env) (pos : Pos) : (backTo pos (starEach es X.env)).any (·.1) = false := by
  induction es with
  | nil => rfl
  | cons x r ih =>
    rw [h x List.mem_cons_self r]
    show (false || (backTo pos (starEach r X.env)).any (·.1)) = false
    rw [ih fun y hy => h y (List.mem_cons_of_mem _ hy)]
    rfl
theorem callO_un {i t : Nat} {S : SS} {x : Option (R × SS)} : callO i t (S.set i .un) x = callO i t S x := by
  unfold callO
  split
  · rw [List.set_set]
  · rfl
theorem s_call0 {x : Str} {f : Nat} (tk : L2N.Takes X C.W) (F : FnG X C x f) (hg : Gl X x) (hdb : (x == ("__debug__" : Str)) = false) : SEv X C (.Call (.Name x p) [] [] pos) (.call f []) := by
  obtain ⟨fa, fd, ps, k, F, hr, hm, hk, hb⟩ := F
  refine ⟨PE.imp (pe_callS0 (E := fun σ => WE C.W σ) F hr hg hm hk hb (fun σ => L2N.passAt tk σ) hdb) fun σ H Q ⟨G, S, rel, f⟩ => ?_, fun _ h => nomatch h⟩
  unfold ev at f
  dsimp only at f
  have z : ∀ b, lentO b [] S = none := fun b => by unfold lentO; split <;> rfl
  rw [z] at f
  dsimp only at f
  unfold evs at f
  exact call_vals (ds := []) rel .nil rfl f
theorem s_call {x : Str} {f : Nat} {es : List Expr} {xs : List E} (tk : L2N.Takes X C.W) (F : FnG X C x f) (hg : Gl X x) (hdb : (x == ("__debug__" : Str)) = false)
    (ha : SEv X C a ea) (hl : SL X C es xs) (hst : ∀ y ∈ a :: es, ∀ r, starEach (y :: r) X.env = (false, eval y X.env) :: starEach r X.env) : SEv X C (.Call (.Name x p) (a :: es) [] pos) (.call f (ea :: xs)) := by
  obtain ⟨fa, fd, ps, k, F, hr, hm, hk, hb⟩ := F
  have he := hst a List.mem_cons_self es
  have hpl := any_star (xs := xs) (fun y hy => hst y (List.mem_cons_of_mem _ hy)) pos
  have hall : SL X C (a :: es) (ea :: xs) := l_cons ha hl he
  refine ⟨⟨fun pins s σ H Q I ⟨G, S, rel, fi⟩ => ?_⟩, fun _ h => nomatch h⟩
  unfold ev at fi
  dsimp only at fi
  cases q : lentO (C.cl.io f) (ea :: xs) S with
  | none =>
    rw [q] at fi
    dsimp only at fi
    refine (pe_callS (E := fun σ => WE C.W σ) F hr hg hm hk hb (fun σ => L2N.passAt tk σ) hall hdb he hpl).run pins s σ H Q I ⟨G, S, rel, (Fin.bndL fi).mono fun vs H1 ⟨G1, S1, ds, r1, s1, n1, f1⟩ => ?_⟩
    exact call_vals r1 n1 rfl f1
  | some w =>
    rw [q] at fi
    dsimp only at fi
    obtain ⟨rfl, t, d, hi⟩ : ea = .var w ∧ ∃ t d, S[w]? = some (.own t d) := by
      unfold lentO at q
      split at q
      · split at q
        · rename_i j _ z
          split at q
          · rename_i t' d' z'
            cases q
            injection z with z1 z2
            exact ⟨z1, t', d', z'⟩
          · cases q
        · cases q
      · cases q
    obtain ⟨ad, ead, _⟩ := rel.own hi
    unfold evT at fi
    refine (pe_callS (E := fun σ => WE C.W σ) F hr hg hm hk hb (fun σ => L2N.passAt tk σ) (pa_cons (ha.nm w rfl) hl he) hdb he hpl).run pins s σ H Q I ⟨_, ead, ?_⟩
    refine ⟨G, S, rel, (Fin.bndL fi).mono fun vs H1 ⟨G1, S1, ds, r1, s1, n1, f1⟩ => ?_⟩
    unfold lendO at f1
    dsimp only at f1
    cases q1 : S1[w]? with
    | none => rw [q1] at f1; exact fin_none f1
    | some sl =>
      rw [q1] at f1
      cases sl with
      | un => exact fin_none f1
      | val _ => exact fin_none f1
      | own t' d' =>
        dsimp only at f1
        have st := r1.forget w
        rw [← callO_un] at f1
        exact call_own r1 q1 ead (Stp.refl st.rel) n1 f1

/-! ### append, pop(0) of a slot's own list -/
theorem Rel.write {K : PySem.W.Frag} {L : Lk} {G H : Hp} {S : SS} {σ : L2.St} (rel : Rel K L G H S σ) {i t : Nat} {d : D} {a : Addr} (e : S[i]? = some (.own t d)) (ea : σ[i]? = some (some (.ref a))) {ys : List D} {ws : List V} (hd : DenL K G ys ws) :
    Stp K L G H S σ G (upd H a (.lst ws)) (S.set i (.own t (.lst ys))) σ := by
  obtain ⟨a', ea', own, ⟨_, vs0, _, hva, _⟩, ga, tg⟩ := rel.own e
  rw [ea] at ea'; cases ea'
  have oo : ∀ j b, OwnS (S.set i (.own t (.lst ys))) σ j b → OwnS S σ j b := fun j b ⟨t1, d1, p1, p2⟩ => by
    rcases set_at p1 with ⟨rfl, _, _⟩ | ⟨_, q⟩
    · rw [ea] at p2; cases p2; exact own
    · exact ⟨t1, d1, q, p2⟩
  refine ⟨⟨fun b o h => ?_, by rw [List.length_set]; exact rel.len, fun j s h => ?_, fun j k b h1 h2 => rel.inj j k b (oo j b h1) (oo k b h2), tabs_lst rel.tabs hva, rel.gt⟩, Same.refl _, fun b o nt h n => ?_, fun b h => ?_, fun b ⟨j, h⟩ => .inl ⟨j, oo j b h⟩⟩
  · rw [upd_ne (ne_of_none h ga)]; exact rel.sub _ _ h
  · rcases set_at h with ⟨rfl, rfl, _⟩ | ⟨hj, h⟩
    · exact ⟨a, ea, ⟨ys, ws, rfl, upd_same, hd⟩, ga, tg⟩
    · refine (rel.at_ j s h).mono (Same.refl _) fun b eb ⟨t1, d1, es⟩ => ⟨upd_ne fun z => ?_, rfl⟩
      subst es z
      exact hj (rel.inj _ _ _ ⟨t1, d1, h, eb⟩ own)
  · rw [upd_ne (show b ≠ a from fun z => n (by rw [z]; exact ⟨i, own⟩))]; exact ⟨h, rfl⟩
  · unfold upd
    split
    · simp
    · exact h
theorem appR_some {i : Nat} {x : D} {S : SS} {r : R} {S' : SS} (h : appR i x S = some (r, S')) : ∃ t xs, S[i]? = some (.own t (.lst xs)) ∧ xs.length < sizeLine ∧ r = .v .non ∧ S' = S.set i (.own t (.lst (xs ++ [x]))) := by
  unfold appR at h
  split at h
  · rename_i t xs e
    split at h
    · rename_i hz
      cases h
      exact ⟨t, xs, e, hz, rfl, rfl⟩
    · cases h
  · cases h
theorem fin_some {K : PySem.W.Frag} {σ : L2.St} {G H : Hp} {S : SS} {Q : VK} {o : Option (R × SS)} {P : Prop} (f : Fin K C σ G H S Q o) (h : ∀ r S', o = some (r, S') → Fin K C σ G H S Q (some (r, S')) → P) : P := by
  obtain ⟨r, S', e, q⟩ := f
  exact h r S' e ⟨r, S', rfl, q⟩
theorem fin_step {K : PySem.W.Frag} {σ : L2.St} {G H G' H' : Hp} {S S' : SS} {Q : VK} {d : D} {v : V} (f : Fin K C σ G H S Q (some (.v d, S'))) (y : Stp K C.L G H S σ G' H' S' σ) (hd : Den K G' d v) : Q v H' := by
  obtain ⟨r, S0, e, _, h2⟩ := f
  cases e
  exact h2 G' H' v y hd
theorem s_app {i : Nat} {o : Expr} {apos : Pos} (ho : PE X o (tVar i)) (ha : SEv X C a ea) (hbase : attributeBase o "append" X.env (eval o X.env) = eval o X.env)
    (hs : starEach [a] X.env = [(false, eval a X.env)]) (hline : (apos.endLine == pos.line) = true) :
    SEv X C (.Call (.Attribute o "append" apos) [a] [] pos) (.app i ea) := by
  have hfew : ((backTo pos (starEach [a] X.env)).all (fun x => !x.1) && (backToKw pos (keywordEach [] X.env)).all (fun x => x.1.isSome)
      && decide ([a].length + ([] : List Keyword).length + (if ([] : List Keyword).isEmpty then 0 else 1) < 30)) = true := by rw [hs]; rfl
  refine ⟨PE.imp (pe_bm PySem.F.plainAttrs_list PySem.F.slot_list_append PySem.F.type_list_append mt_append ho (pa_cons ha.se pa_nil hs) hbase hfew hline hs (by rfl)) fun σ H Q ⟨G, S, rel, f⟩ => ?_, fun _ h => nomatch h⟩
  unfold ev chkL at f
  dsimp only at f
  cases q : rdS S i with
  | none => rw [q] at f; exact fin_none f
  | some d0 =>
    rw [q] at f
    cases d0 with
    | lst xs0 =>
      obtain ⟨v0, ex, hb⟩ := rel.rd q
      obtain ⟨x, ys, rfl, hy⟩ : ∃ x ys, v0 = .ref x ∧ H x = some (.lst ys) := by
        have k := hb.toH rel.sub
        cases k with
        | lst h _ => exact ⟨_, _, rfl, h⟩
      refine ⟨_, ex, .inl ⟨rfl, ys, .inl (.inl hy)⟩, G, S, rel, (Fin.bnd f).mono fun v H1 ⟨G1, S1, d1, r1, s1, n1, f1⟩ => ?_⟩
      refine fin_some f1 fun r S' e f2 => ?_
      obtain ⟨t, xs, e1, hz, rfl, rfl⟩ := appR_some e
      obtain ⟨a', ea', own, ⟨xs', vs, ee, oc, td⟩, ga, tg⟩ := r1.own e1
      cases ee
      rw [ex] at ea'; cases ea'
      exact ⟨x, vs, v, rfl, rfl, oc, by rw [← td.length]; exact hz, fin_step f2 (r1.write e1 ex (td.append (.cons n1 .nil))) .non⟩
    | _ => exact fin_none f
theorem popR_some {i : Nat} {S : SS} {r : R} {S' : SS} (h : popR i S = some (r, S')) : ∃ t x xs, S[i]? = some (.own t (.lst (x :: xs))) ∧ r = .v x ∧ S' = S.set i (.own t (.lst xs)) := by
  unfold popR at h
  split at h
  · rename_i t x xs e
    cases h
    exact ⟨t, x, xs, e, rfl, rfl⟩
  · cases h
theorem s_pop0 {i k : Nat} {o : Expr} {apos p1 : Pos} (ho : PE X o (tVar i)) (hbase : attributeBase o "pop" X.env (eval o X.env) = eval o X.env) (hline : (apos.endLine == pos.line) = true) :
    SEv X C (.Call (.Attribute o "pop" apos) [.Constant (.int 0) k p1] [] pos) (.pop0 i) := by
  refine ⟨PE.imp (pe_bm PySem.F.plainAttrs_list PySem.F.slot_list_pop PySem.F.type_list_pop mt_popAt ho (pa_cons pe_int pa_nil (by rfl)) hbase (by rfl) hline (by rfl) (by rfl)) fun σ H Q ⟨G, S, rel, f⟩ => ?_, fun _ h => nomatch h⟩
  unfold ev at f
  refine fin_some f fun r S' e f2 => ?_
  obtain ⟨t, x, xs, e1, rfl, rfl⟩ := popR_some e
  obtain ⟨a', ea', own, ⟨xs', vs, ee, oc, td⟩, ga, tg⟩ := rel.own e1
  cases ee
  cases td with
  | @cons _ _ v _ vs hx ht =>
    refine ⟨_, ea', .inl ⟨rfl, _, .inl (.inl oc)⟩, a', v :: vs, 0, 0, v, rfl, rfl, oc, by decide, by decide, ?_, rfl, ?_⟩
    · unfold seqIndex?
      simp
    · exact fin_step f2 (rel.write e1 ea' ht) hx
end
end MX

set_option Elab.async false
set_option linter.all false
set_option maxRecDepth 100000
set_option autoImplicit false
/-! MXe: enumerate of a tuple; what is walked, a list or a tuple. -/
namespace MX
open PySem PySem.Spec PyProof.Rows L2
open Sem (wp)

set_option maxHeartbeats 1000000 in
theorem meets_enumerate_new0 {v : Value} {o : Obj} {H : Heap → Prop} (B : Begins v o H) :
    Meets (Builtin.«enumerate.__new__» ⟨[.type "enumerate", v], []⟩) (fun _ R s => H s.heap ∧
      R (.ok (.ret (.ref (s.heap.push o).objs.size))) { s with heap := (s.heap.push o).push { cls := .type "enumerate", data := .fields #[.none, .bool false, .ref s.heap.objs.size, rawInt 0, .none, .none] } }) :=
  .of_wp fun prog w A R s h => by
    obtain ⟨hp, g, d, tk, os⟩ := s; obtain ⟨h1, h⟩ := h
    have hsub := sub_enumerate
    have q1 : ∀ {A' : Around} {E : Value → Shared → Prop} {Q : Value → Shared → Prop}, Q (.ref hp.objs.size) ⟨hp.push o, g, d, tk, os⟩ → wpAny (model prog w) A' (pyIter v) Q E ⟨hp, g, d, tk, os⟩ :=
      fun q => B.iter prog w _ _ ⟨hp, g, d, tk, os⟩ _ h1 q
    wp_walk using q1
    refine wpAny_stack_any fun st => wpAny_pure ?_
    split
    · rename_i c _ _ _ _ _
      cases (c == Value.type "enumerate")
      · wp_walk using q1
        exact ⟨_, rfl, h⟩
      · wp_walk using q1
        exact ⟨_, rfl, h⟩
    · wp_walk using q1
      exact ⟨_, rfl, h⟩
theorem call_enumerate_begins {prog : Program} {w : World} {A : Around} {E : Value → Shared → Prop} {s : Shared} {v : Value} {o : Obj} {H : Heap → Prop} {Q : Value → Shared → Prop} (B : Begins v o H) (h1 : H s.heap)
    (h : ∀ h', IsEnum h' (s.heap.objs.size + 1) s.heap.objs.size 0 .none → h'.get? s.heap.objs.size = some o → h'.objs.size = s.heap.objs.size + 2 →
      (∀ b o, s.heap.get? b = some o → h'.get? b = some o) → Q (.ref (s.heap.objs.size + 1)) { s with heap := h' }) :
    wpAny (model prog w) A (call (.type "enumerate") [v]) Q E s := by
  refine callType_new F.called_enumerate (by decide) (F.typeCall_enumerate_1 _) (F.newCall_enumerate_1 _) (fun obj => F.args_object_init_2 obj _) F.entry_enumerate_new
    (meets_enumerate_new0 B) ⟨h1, ?_⟩
  have hz : (s.heap.push o).objs.size = s.heap.objs.size + 1 := Heap.size_push ..
  show _ ∧ _
  rw [hz]
  have he : IsEnum ((s.heap.push o).push { cls := .type "enumerate", data := .fields #[.none, .bool false, .ref s.heap.objs.size, rawInt 0, .none, .none] }) (s.heap.objs.size + 1) s.heap.objs.size 0 .none := by
    have := Heap.get?_push_size (s.heap.push o) (o := { cls := .type "enumerate", data := .fields #[.none, .bool false, .ref s.heap.objs.size, rawInt 0, .none, .none] }) rfl
    rw [hz] at this; exact this
  refine ⟨⟨_, he, rfl⟩, h _ he (Heap.get?_push_of_some _ (Heap.get?_push_size _ B.free)) (by rw [Heap.size_push, hz]) fun b o x => Heap.get?_push_of_some _ (Heap.get?_push_of_some _ x)⟩

/-- a tuple's items in new pairs -/
def IteT (K : PySem.W.Frag) (a : Addr) : It :=
  ⟨fun i H => ∃ (xs : List V) (x : V), SqT K H a xs ∧ xs[i]? = some x, fun i H v H' => ∃ T x, v = .ref T ∧ H T = none ∧ H' = upd H T (.tup [.int (i : Nat), x]) ∧ ∀ xs, SqT K H a xs → xs[i]? = some x, fun i H => ∃ xs : List V, SqT K H a xs ∧ xs.length ≤ i⟩
theorem turn_enumT {P : Program} {w : World} {K : PySem.W.Frag} {elts : List Expr} {kk : Nat} {tpos : Pos} (a e it : Addr) :
    Turn P w K (.Tuple elts kk tpos) (IteT K a) [e, it] e (fun i h => (∃ old, IsEnum h e it ((i : Nat) : Int) old) ∧ h.IsTupleIter it a i ∧ e ≠ it ∧ a ≠ it ∧ a ≠ e) where
  mem := by simp
  obj := fun i h st b hb => by
    obtain ⟨⟨old, he⟩, ⟨o, ho, hc, hd⟩, _⟩ := st
    have e' : b = e ∨ b = it := by simpa using hb
    rcases e' with z | z
    · rw [z]; exact ⟨_, he, fun v q => nomatch q⟩
    · rw [z]; exact ⟨o, ho, fun v q => by rw [hd] at q; cases q⟩
  keep := fun i h h' st k => let ⟨⟨old, he⟩, hi, hne⟩ := st; ⟨⟨old, k e (by simp) _ he⟩, hi.at fun o q => k it (by simp) o q, hne⟩
  item := by
    intro X hP hw hK hc i pins s σ H E I hf st hg
    subst hP hw hK
    obtain ⟨⟨old, he⟩, hit, hne, hai, hae⟩ := st
    obtain ⟨xs, x, hq, hx⟩ := hg
    obtain ⟨its, rv, p, hz⟩ := I.tuple hq
    obtain ⟨u, hu, ru⟩ := rv.get hx
    have hel : e < s.heap.objs.size := Heap.lt_size he
    have hil : it < s.heap.objs.size := by obtain ⟨_, q, _⟩ := hit; exact Heap.lt_size q
    have hlt : i < its.toArray.size := by
      rw [List.size_toArray]
      exact (List.getElem?_eq_some_iff.mp hu).1
    refine wpAny_pyNext_enum_itemD (Draws.tuple (A := X.A.in1) (I.ok.hd hc) it a hai its.toArray) he ⟨hit, p⟩ hlt hne (by simp; exact ⟨hne, Ne.symm hae⟩) fun u' h' tk hu' ho hst' hT hsz hk => ?_
    obtain rfl : u' = u := by
      have q : its.toArray[i]? = some u' := hu'
      rw [List.getElem?_toArray, hu] at q
      exact (Option.some.inj q).symm
    refine ⟨_, rfl, wpAny_letOwnedTupleGo_enum (s := { s with heap := h', toks := tk + 1 }) ho fun h'' he' sb => ?_⟩
    have hT2 : h''.get? s.heap.objs.size = some { cls := .type "tuple", data := .seq #[.int i tk, u'] } := (sb.2 _ (Nat.ne_of_gt hel)).trans hT
    have new : ObjOk X.prog X.w (upd H s.heap.objs.size (.tup [.int (i : Nat), x])) h'' s.heap.objs.size (.tup [.int (i : Nat), x]) :=
      ⟨by show 2 ≤ sizeLine; decide, [.int i tk, u'], .cons ⟨_, rfl⟩ (.cons ru .nil), ⟨_, hT2, rfl, _, rfl⟩⟩
    have I1 : Inv X pins σ (upd H s.heap.objs.size (.tup [.int (i : Nat), x])) { s with heap := h'', toks := tk + 1 } :=
      I.turnedNew (ch := [e, it]) (fun b ob hb q => (sb.2 b (fun z => hb (by simp [z]))).trans (hk b ob (fun z => hb (by simp [z])) (fun z => hb (by simp [z])) q)) hf (Nat.le_refl _) new
    refine ⟨.ref s.heap.objs.size, _, I1, rfl, ⟨_, x, rfl, I.hok.fresh (Nat.le_refl _), rfl, fun ys hy => by rw [I.tuple_inj hy hq]; exact hx⟩, ⟨⟨u', ?_⟩, hst'.1.at fun o q => (sb.2 it (Ne.symm hne)).trans q, hne, hai, hae⟩, fun b hb => ?_⟩
    · have e1 : ((i + 1 : Nat) : Int) = (i : Int) + 1 := by omega
      rw [e1]; exact he'
    · have hb' : b < s.heap.objs.size := by
        have e' : b = e ∨ b = it := by simpa using hb
        rcases e' with z | z
        · rw [z]; exact hel
        · rw [z]; exact hil
      rw [upd_ne (Nat.ne_of_lt hb')]
      exact (hf b hb).1
  done := by
    intro X hP hw hK hc i pins s σ H E I hf st hg
    subst hP hw hK
    obtain ⟨⟨old, he⟩, hit, hne, hai, hae⟩ := st
    obtain ⟨xs, hq, hx⟩ := hg
    obtain ⟨its, rv, p, hz⟩ := I.tuple hq
    obtain ⟨f0, f1, f2, f3, f4, f5⟩ := hf it (by simp)
    have hl := rv.length
    -- a walk that is over, whatever i
    have D : Draws X.prog X.w X.A.in1 it [it, a] i (fun _ _ => False) (fun j h => (h.IsTupleIter it a j ∧ h.IsTuple a its.toArray) ∧ j = i) :=
      { live := fun _ _ st => let ⟨o, ho, _⟩ := st.1.1; ⟨o, ho⟩
        frame := fun _ _ _ st hk => ⟨⟨st.1.1.at fun o e => hk it (by simp) o e, st.1.2.at fun o e => hk a (by simp) o e⟩, st.2⟩
        item := fun j s Q E hj st hQ => absurd st.2 (by omega)
        done := fun s Q E st hE => wpAny_nextOf_tuple_end (I.ok.hd hc) st.1.1 st.1.2 (by simp; omega) hE }
    exact wpAny_pyNext_enum_endD D he ⟨⟨hit, p⟩, rfl⟩ fun h' eb => ⟨rfl, I.turned (t' := s.toks) (fun b o hb q => eb b o hb q) f0 f1 f3 f4 f5⟩
  self := fun A i s Q E st h => let ⟨⟨_, he⟩, _⟩ := st; wpAny_pyIter_enum he h
/-- enumerate(e), e a list or a tuple -/
def iEnumA (K : PySem.W.Frag) (ta : TA) : TI := fun σ H R => ta σ H fun vs H1 => ∃ a xs, vs = [.ref a] ∧ ((SqL K H1 a xs ∧ R (Ite K a) H1) ∨ (SqT K H1 a xs ∧ R (IteT K a) H1))
theorem pi_enumA {X : Cx} {e : Expr} {ta : TA} {p pos tpos : Pos} {elts : List Expr} {kk : Nat} (hg : Gl X "enumerate") (hm : X.mg "enumerate" = none) (ha : PA X [e] ta) (hs : starEach [e] X.env = [(false, eval e X.env)]) :
    PI X (.Tuple elts kk tpos) (.Call (.Name "enumerate" p) [e] [] pos) (iEnumA X.K ta) := by
  refine ⟨fun pins s σ H R I h => ?_⟩
  refine Call_ (ld_blt I hg hm boot_enumerate (PyProof.Rows.callWith_type1 (thn (ha.run pos pins s σ H _ I h) fun us s1 ⟨vs, H1, I1, r1, q1⟩ => ?_) hs rfl))
  obtain ⟨a, xs, ex, q⟩ := q1
  subst ex
  cases r1 with
  | cons r rr =>
    cases rr
    cases r
    have fp : ∀ b ∈ [s1.heap.objs.size + 1, s1.heap.objs.size], FpOk X pins H1 b := fun b hb => by
      have e' : b = s1.heap.objs.size + 1 ∨ b = s1.heap.objs.size := by simpa using hb
      have hle : s1.heap.objs.size ≤ b := by
        rcases e' with z | z
        · rw [z]; exact Nat.le_add_right _ _
        · rw [z]; exact Nat.le_refl _
      exact I1.fpOk hle (I1.hok.fresh hle)
    rcases q with ⟨hq, q⟩ | ⟨hq, q⟩
    · obtain ⟨its, rv, p', hz⟩ := I1.list hq
      refine call_enumerate_list p'.isList fun h' he hit hsz hk => wpAny_pyIter_enum he ?_
      have I2 : Inv X pins σ H1 { s1 with heap := h' } := I1.kept (t' := s1.toks) hk
      exact ⟨s1.heap.objs.size + 1, [s1.heap.objs.size + 1, s1.heap.objs.size], _, _, H1, rfl, I2, turn_enum a (s1.heap.objs.size + 1) s1.heap.objs.size, ⟨⟨.none, he⟩, hit, Nat.succ_ne_self _⟩, fp, q⟩
    · obtain ⟨its, rv, p', hz⟩ := I1.tuple hq
      refine call_enumerate_begins (begins_tuple a its.toArray) (show s1.heap.IsTuple a its.toArray from p') fun h' he hit hsz hk => wpAny_pyIter_enum he ?_
      have I2 : Inv X pins σ H1 { s1 with heap := h' } := I1.kept (t' := s1.toks) hk
      have hal : a < s1.heap.objs.size := p'.lt
      exact ⟨s1.heap.objs.size + 1, [s1.heap.objs.size + 1, s1.heap.objs.size], _, _, H1, rfl, I2, turn_enumT a (s1.heap.objs.size + 1) s1.heap.objs.size,
        ⟨⟨.none, he⟩, ⟨_, hit, rfl, rfl⟩, Nat.succ_ne_self _, Nat.ne_of_lt hal, Nat.ne_of_lt (Nat.lt_succ_of_lt hal)⟩, fp, q⟩
/-- a list or a tuple -/
def iSeq (K : PySem.W.Frag) (tl : TE) : TI := fun σ H R => tl σ H fun x H1 => ∃ a xs, x = .ref a ∧ ((SqL K H1 a xs ∧ R (Itl K a) H1) ∨ (SqT K H1 a xs ∧ R (Itt K a) H1))
theorem pi_seq {X : Cx} {tg : Expr} {l : Expr} {tl : TE} (hl : PE X l tl) : PI X tg l (iSeq X.K tl) := by
  refine ⟨fun pins s σ H R I h => ?_⟩
  refine thn (hl.run pins s σ H _ I h) fun v s1 ⟨x, H1, I1, r1, q1⟩ => ?_
  obtain ⟨a, xs, e, q⟩ := q1
  subst e
  cases r1
  rcases q with ⟨hq, q⟩ | ⟨hq, q⟩
  · obtain ⟨its, rv, p, hz⟩ := I1.list hq
    refine wpAny_pyIter_list p.isList ?_
    refine ⟨s1.heap.objs.size, [s1.heap.objs.size], _, _, H1, rfl, I1.kept (t' := s1.toks) fun b o e => Heap.get?_push_of_some _ e, turn_list a _, ⟨_, Heap.get?_push_size _ rfl, rfl, rfl⟩, fun b hb => ?_, q⟩
    have e : b = s1.heap.objs.size := by simpa using hb
    subst e
    exact I1.fpOk (Nat.le_refl _) (I1.hok.fresh (Nat.le_refl _))
  · obtain ⟨its, rv, p, hz⟩ := I1.tuple hq
    refine wpAny_pyIter_tuple (show s1.heap.IsTuple a its.toArray from p) ?_
    refine ⟨s1.heap.objs.size, [s1.heap.objs.size], _, _, H1, rfl, I1.kept (t' := s1.toks) fun b o e => Heap.get?_push_of_some _ e, turn_tuple a _, ⟨_, Heap.get?_push_size _ rfl, rfl, rfl⟩, fun b hb => ?_, q⟩
    have e : b = s1.heap.objs.size := by simpa using hb
    subst e
    exact I1.fpOk (Nat.le_refl _) (I1.hok.fresh (Nat.le_refl _))
theorem walk_enumT {K : PySem.W.Frag} {a : Addr} {xs : List V} : Walk (IteT K a) xs.length (fun H => SqT K H a xs) (YPair (fun i => some (.int (i : Nat))) (fun i => xs[i]?)) := by
  refine ⟨fun i _ hi q => ⟨xs, xs[i], q, by simp [hi]⟩, fun _ q => ⟨xs, q, Nat.le_refl _⟩, fun i H v H' _ q y => ?_⟩
  obtain ⟨T, x, h1, h2, h3, h4⟩ := y
  exact ⟨T, .int (i : Nat), x, h1, h2, h3, rfl, h4 xs q⟩
end MX

set_option Elab.async false
set_option linter.all false
set_option maxRecDepth 100000
set_option autoImplicit false
/-! MX6: a dict that is written and asked at once; what is walked; targets; comprehensions. -/
namespace MX
open PySem PySem.Spec PyProof.Rows L2
section
variable {X : Cx} {C : Ctx} {a b c e : Expr} {ea eb ec : E} {pos p : Pos}

/-! ### {k: v, ..}[i] with written keys -/
def keyE : Str → Nat → Pos → Option Expr := fun k j p => some (.Constant (.str k) j p)
def SP (X : Cx) (C : Ctx) (pos : Pos) (keys : List (Option Expr)) (es : List Expr) (ks : List Str) (xs : List E) : Prop :=
  ∃ trs, PPs X pos keys es trs ∧ ks.length = xs.length ∧ ∀ σ G H S Q, Rel X.K C.L G H S σ → FinL X.K C σ G H S (fun vs H1 => Q ((ks.map V.str).zip vs) H1) (evs C.cl xs S) → tPairs trs σ H Q
theorem p_nil : SP X C pos [] [] [] [] := ⟨[], pps_nil, rfl, fun σ G H S Q rel f => by
  unfold evs at f
  obtain ⟨r, S', e, _, h2⟩ := f
  cases e
  exact h2 [] rfl G H [] (Stp.refl rel) .nil⟩
theorem p_cons {keys : List (Option Expr)} {es : List Expr} {ks : List Str} {xs : List E} {k : Str} {j : Nat} {pk : Pos} (ha : SEv X C a ea) (h : SP X C pos keys es ks xs) : SP X C pos (some (.Constant (.str k) j pk) :: keys) (a :: es) (k :: ks) (ea :: xs) := by
  obtain ⟨trs, h1, hl, h2⟩ := h
  refine ⟨_, pps_cons pe_str ha.se h1, by simp [hl], fun σ G H S Q rel f => ?_⟩
  unfold evs at f
  exact ⟨G, S, rel, (FinL.cons f).mono fun v H1 ⟨G1, S1, r1, _, f1⟩ => h2 σ G1 H1 S1 (fun ps H3 => Q ((V.str k, v) :: ps) H3) r1 f1⟩
theorem pick_val : ∀ (ks : List Str) (ds : List D) (vs : List V) (acc : List (Key × V)) {K : PySem.W.Frag} {G : Hp} (x : Str) (d : D), DenL K G ds vs → pickD ks ds x = some d →
    ∃ v, valV (mergeK acc ((ks.map Sum.inr).zip vs)) (Sum.inr x) = some v ∧ Den K G d v
  | [], _, _, _, _, _, _, _, _, e => by simp [pickD] at e
  | _ :: _, [], _, _, _, _, _, _, _, e => by simp [pickD] at e
  | k :: ks, d0 :: ds, _, acc, K, G, x, d, .cons (v := v) (vs := vs) h t, e => by
    show ∃ w, valV (mergeK (putK acc (Sum.inr k) v) ((ks.map Sum.inr).zip vs)) (Sum.inr x) = some w ∧ Den K G d w
    unfold pickD at e
    cases q : pickD ks ds x with
    | some d' =>
      rw [q] at e
      cases e
      exact pick_val ks ds vs _ x d t q
    | none =>
      rw [q] at e
      dsimp only at e
      split at e
      · rename_i hk
        cases e
        subst hk
        refine ⟨v, ?_, h⟩
        have key : ∀ (ks : List Str) (ds : List D) (vs : List V) (acc : List (Key × V)), DenL K G ds vs → pickD ks ds k = none → valV (mergeK acc ((ks.map Sum.inr).zip vs)) (Sum.inr k) = valV acc (Sum.inr k) := by
          intro ks
          induction ks with
          | nil => intro _ _ _ _ _; rfl
          | cons j ks ih =>
            intro ds vs acc t q
            cases t with
            | nil => rfl
            | @cons _ d1 v1 ds vs h1 t =>
              unfold pickD at q
              cases q1 : pickD ks ds k with
              | some _ => rw [q1] at q; cases q
              | none =>
                rw [q1] at q
                dsimp only at q
                split at q
                · cases q
                · rename_i hj
                  show valV (mergeK (putK acc (Sum.inr j) v1) ((ks.map Sum.inr).zip vs)) (Sum.inr k) = _
                  rw [ih ds vs _ t q1, valV_put, if_neg]
                  intro z
                  exact hj (Sum.inr.inj z).symm
        rw [key ks ds vs _ t q, valV_put, if_pos rfl]
      · cases e
theorem zip_pairs : ∀ (ks : List Str) (vs : List V), ((ks.map V.str).zip vs) = ((ks.map (Sum.inr : Str → Key)).zip vs).map fun kv => (kV kv.1, kv.2)
  | [], _ => rfl
  | _ :: _, [] => rfl
  | k :: ks, v :: vs => by
    rw [List.map_cons, List.map_cons, List.zip_cons_cons, List.zip_cons_cons, List.map_cons, zip_pairs ks vs]
    rfl
theorem s_pick {keys : List (Option Expr)} {es : List Expr} {ks : List Str} {xs : List E} {p1 : Pos} (g : Good X C) (hp : SP X C p1 keys es ks xs) (hb : SEv X C b eb) (hs : NoSl b) (hall : keys.all (·.isSome) = true) (hl : keys.length = es.length) (h0 : keys ≠ []) (h15 : keys.length ≤ 15) (hk : ks.length ≤ 15) :
    SEv X C (.Subscript (.Dict keys es p1) b pos) (.pick ks xs eb) := by
  obtain ⟨trs, h1, hlen, h2⟩ := hp
  have hu : X.A.units + 1 < cLine := Nat.lt_of_le_of_lt (Nat.add_le_add_left (by decide) _) g.hu
  refine ⟨PE.imp (pe_dget hu (pe_disp h1 hall hl h0 h15) hb.se hs) fun σ H Q ⟨G, S, rel, f⟩ => ?_, fun _ h => nomatch h⟩
  unfold ev at f
  dsimp only at f
  intro q hq
  obtain ⟨st, _, _⟩ := rel.fresh (o := .dK []) hq
  refine h2 σ G (upd H q (.dK [])) S _ st.rel ?_
  -- the values are reckoned while the dict stands empty
  have f' := Fin.rebase f st
  cases e : evs C.cl xs S with
  | none => rw [e] at f; exact fin_none f
  | some w =>
    obtain ⟨r, S1⟩ := w
    have f0 := Fin.bndL f'
    rw [e] at f0
    obtain ⟨r', S', ee, x1, x2⟩ := f0
    cases ee
    refine ⟨r, S1, rfl, x1, fun ds ed G' H' vs y n => ?_⟩
    subst ed
    have hq' : H' q = some (.dK []) := (y.keep q _ nt_dK upd_same fun z => (rel.ownH z).1 hq).1
    refine ⟨hq', (ks.map Sum.inr).zip vs, zip_pairs ks vs, by rw [List.length_zip, List.length_map]; exact Nat.le_trans (Nat.min_le_left _ _) hk, ?_⟩
    -- the dict filled, the index
    have f1 : Fin X.K C σ G H S Q (bnd (ev C.cl eb S1) fun y S => pickR S ks ds y) := by
      rw [e] at f
      exact f
    have y0 := st.trans y
    have gq : G' q = none := by
      have := (y.keep q _ nt_dK upd_same fun z => (rel.ownH z).1 hq).2
      rw [this]
      cases z : G q with
      | none => rfl
      | some u => rw [rel.sub _ _ z] at hq; cases hq
    have nq : ¬ Own S1 σ q := fun z => by
      obtain ⟨i, t, d, z1, z2⟩ := z
      obtain ⟨a', ea', _, ⟨_, _, _, oc, _⟩, _, _⟩ := y0.rel.own z1
      rw [z2] at ea'; cases ea'
      rw [hq'] at oc; cases oc
    have stq : Stp X.K C.L G H S σ G' (upd H' q (.dK (mergeK [] ((ks.map Sum.inr).zip vs)))) S1 σ := by
      refine ⟨⟨fun b o z => ?_, y0.rel.len, fun j s z => ?_, y0.rel.inj, tabs_dK y0.rel.tabs hq', y0.rel.gt⟩, y0.gm, fun b o nt z n' => ?_, fun b z => ?_, y0.ow⟩
      · rw [upd_ne (ne_of_none z gq)]; exact y0.rel.sub _ _ z
      · refine (y0.rel.at_ j s z).mono (Same.refl _) fun b eb ⟨t, d, es⟩ => ⟨upd_ne ?_, rfl⟩
        subst es
        rintro rfl
        exact nq ⟨j, t, d, z, eb⟩
      · rw [upd_ne (ne_of_none z hq)]
        exact y0.keep b o nt z n'
      · unfold upd
        split
        · simp
        · exact y0.th b z
    have f2 := Fin.rebase f1 stq
    refine ⟨G', S1, stq.rel, (Fin.bndS f2).mono fun w H2 ⟨G2, S2, d2, y2, n2, f3⟩ => ?_⟩
    obtain ⟨x, rfl⟩ : ∃ x, d2 = .str x := by
      cases d2 with
      | str x => exact ⟨x, rfl⟩
      | _ => exact fin_none f3
    obtain ⟨d, ed, qd⟩ := fin_retD y2.rel (show Fin X.K C σ G2 H2 S2 Q (retD S2 (pickD ks ds x)) from f3)
    obtain ⟨v, ev1, dv⟩ := pick_val ks ds vs [] x d n ed
    cases n2
    have hq2 : H2 q = some (.dK (mergeK [] ((ks.map Sum.inr).zip vs))) := by
      refine (y2.keep q _ nt_dK upd_same fun z => ?_).1
      obtain ⟨j, t, d', z1, z2⟩ := z
      exact nq ⟨j, t, d', z1, z2⟩
    have gg := DGet.k (k := Sum.inr x) hq2
    rw [ev1] at gg
    exact ⟨q, v, rfl, gg, qd v (dv.mono y2.gm)⟩

/-! ### what is walked -/
def WalkOK (K : PySem.W.Frag) (G1 : Hp) (J : It) (xs : List D) : Prop := ∃ Gd Y, Walk J xs.length Gd Y ∧ (∀ G' H', Same G1 G' → Same G' H' → Gd H') ∧
  ∀ (i : Nat) H x H', i < xs.length → Y i H x H' → ∀ G', Same G1 G' → Same G' H → ∃ d, xs[i]? = some d ∧ ((H' = H ∧ Den K G' d x) ∨ ∃ T ws, H T = none ∧ H' = upd H T (.tup ws) ∧ Den K (upd G' T (.tup ws)) d x)
def SI (X : Cx) (C : Ctx) (tg iter : Expr) (k : ItK) (args : List E) : Prop := ∃ wi, PI X tg iter wi ∧ ∀ σ G H S R, Rel X.K C.L G H S σ →
  FinL X.K C σ G H S (fun vs H1 => ∃ G1 ds xs, Same G1 H1 ∧ DenL X.K G1 ds vs ∧ itD k ds = some xs ∧ ∀ J, WalkOK X.K G1 J xs → R J H1) (evs C.cl args S) → wi σ H R
theorem walk_seqL {K : PySem.W.Frag} {G : Hp} {p : Addr} {vs : List V} {ds : List D} (h : SqL K G p vs) (t : DenL K G ds vs) : WalkOK K G (Itl K p) ds := by
  refine ⟨fun H => SqL K H p vs, YAt vs, by rw [t.length]; exact walk_list, fun G' H' m m' => m'.seq (m.seq h), fun i H x H' hi y G' m m' => ?_⟩
  obtain ⟨rfl, e⟩ := y
  obtain ⟨d, e1, e2⟩ := t.getv e
  exact ⟨d, e1, .inl ⟨rfl, e2.mono m⟩⟩
theorem walk_seqT {K : PySem.W.Frag} {G : Hp} {p : Addr} {vs : List V} {ds : List D} (h : SqT K G p vs) (t : DenL K G ds vs) : WalkOK K G (Itt K p) ds := by
  refine ⟨fun H => SqT K H p vs, YAt vs, by rw [t.length]; exact walk_tup, fun G' H' m m' => Same.tup m' (Same.tup m h), fun i H x H' hi y G' m m' => ?_⟩
  obtain ⟨rfl, e⟩ := y
  obtain ⟨d, e1, e2⟩ := t.getv e
  exact ⟨d, e1, .inl ⟨rfl, e2.mono m⟩⟩
theorem enumF_len : ∀ (ds : List D) (n : Nat), (enumF n ds).length = ds.length
  | [], _ => rfl
  | _ :: r, n => congrArg (· + 1) (enumF_len r (n + 1))
theorem enumF_get : ∀ (ds : List D) (n i : Nat) (d : D), ds[i]? = some d → (enumF n ds)[i]? = some (.tup [.int ((n + i : Nat) : Int), d])
  | [], _, _, _, e => by simp at e
  | x :: r, n, 0, d, e => by simp at e; subst e; rfl
  | x :: r, n, i + 1, d, e => by
    have := enumF_get r (n + 1) i d (by simpa using e)
    rw [show n + 1 + i = n + (i + 1) by omega] at this
    simpa [enumF] using this
theorem zipD_len : ∀ (xs ys : List D), (zipD xs ys).length = min xs.length ys.length
  | [], ys => by simp [zipD]
  | _ :: _, [] => by simp [zipD]
  | x :: r, y :: q => by
    show (zipD r q).length + 1 = _
    rw [zipD_len r q, List.length_cons, List.length_cons]
    omega
theorem zipD_get : ∀ (xs ys : List D) (i : Nat) (x y : D), xs[i]? = some x → ys[i]? = some y → (zipD xs ys)[i]? = some (.tup [x, y])
  | [], _, _, _, _, e, _ => by simp at e
  | _ :: _, [], _, _, _, _, e => by simp at e
  | a :: r, b :: q, 0, x, y, e, e' => by simp at e e'; subst e e'; rfl
  | a :: r, b :: q, i + 1, x, y, e, e' => by
    have := zipD_get r q i x y (by simpa using e) (by simpa using e')
    simpa [zipD] using this
theorem den_pair {K : PySem.W.Frag} {G H : Hp} {T : Addr} {d1 d2 : D} {v1 v2 : V} (m : Same G H) (hT : H T = none) (h1 : Den K G d1 v1) (h2 : Den K G d2 v2) : Den K (upd G T (.tup [v1, v2])) (.tup [d1, d2]) (.ref T) := by
  have hg : G T = none := by
    cases e : G T with
    | none => rfl
    | some u => rw [m _ _ e] at hT; cases hT
  have m' : Same G (upd G T (.tup [v1, v2])) := fun b o q => by rw [upd_ne (ne_of_none q hg)]; exact q
  exact .tup (.inl (.inl upd_same)) (.cons (h1.mono m') (.cons (h2.mono m') .nil))
theorem walk_enumL {K : PySem.W.Frag} {G : Hp} {p : Addr} {vs : List V} {ds : List D} {J : It} (t : DenL K G ds vs) {Gd : Hp → Prop} (w : Walk J vs.length Gd (YPair (fun i => some (.int (i : Nat))) (fun i => vs[i]?))) (hg : ∀ G' H', Same G G' → Same G' H' → Gd H') : WalkOK K G J (enumF 0 ds) := by
  refine ⟨Gd, _, by rw [enumF_len, t.length]; exact w, hg, fun i H x H' hi y G' m m' => ?_⟩
  obtain ⟨T, x1, x2, rfl, hT, rfl, e1, e2⟩ := y
  cases e1
  obtain ⟨d, q1, q2⟩ := t.getv e2
  refine ⟨_, enumF_get ds 0 i d q1, .inr ⟨T, _, hT, rfl, ?_⟩⟩
  rw [Nat.zero_add]
  exact den_pair m' hT (.int _) (q2.mono m)
theorem walk_zipL {K : PySem.W.Frag} {G : Hp} {p q : Addr} {vs ws : List V} {ds es : List D} (h : SqL K G p vs) (h' : SqL K G q ws) (t : DenL K G ds vs) (t' : DenL K G es ws) : WalkOK K G (Itz K p q) (zipD ds es) := by
  refine ⟨fun H => SqL K H p vs ∧ SqL K H q ws, YPair (fun i => vs[i]?) (fun i => ws[i]?), by rw [zipD_len, t.length, t'.length]; exact walk_zip rfl, fun G' H' m m' => ⟨m'.seq (m.seq h), m'.seq (m.seq h')⟩, fun i H x H' hi y G' m m' => ?_⟩
  obtain ⟨T, x1, x2, rfl, hT, rfl, e1, e2⟩ := y
  obtain ⟨d1, q1, q2⟩ := t.getv e1
  obtain ⟨d2, q3, q4⟩ := t'.getv e2
  exact ⟨_, zipD_get ds es i d1 d2 q1 q3, .inr ⟨T, _, hT, rfl, den_pair m' hT (q2.mono m) (q4.mono m)⟩⟩
theorem walk_rng {K : PySem.W.Frag} {G : Hp} {lo hi : Int} : WalkOK K G (Itr lo (hi - lo).toNat) (rngD lo hi) := by
  have hl : (rngD lo hi).length = (hi - lo).toNat := by unfold rngD; simp
  refine ⟨fun _ => True, YFn fun i => .int (lo + i), by rw [hl]; exact walk_range, fun _ _ _ _ => trivial, fun i H x H' hi' y G' m m' => ?_⟩
  obtain ⟨rfl, rfl⟩ := y
  refine ⟨.int (lo + (i : Nat)), ?_, .inl ⟨rfl, .int _⟩⟩
  unfold rngD
  rw [List.getElem?_map, List.getElem?_range (by rw [← hl]; exact hi')]
  rfl
theorem finL_one {K : PySem.W.Frag} {σ : L2.St} {G H : Hp} {S : SS} {Q : List V → Hp → Prop} (rel : Rel K C.L G H S σ) (f : FinL K C σ G H S Q (evs C.cl [ea] S)) : Fin K C σ G H S (fun v H1 => Q [v] H1) (ev C.cl ea S) := by
  unfold evs at f
  refine (FinL.cons f).mono fun v H1 ⟨G1, S1, r1, _, f1⟩ => ?_
  unfold evs at f1
  obtain ⟨r, S', e, _, h2⟩ := f1
  cases e
  exact h2 [] rfl G1 H1 [] (Stp.refl r1) .nil
theorem i_seq {tg : Expr} (ha : SEv X C a ea) : SI X C tg a .seq [ea] := by
  refine ⟨_, pi_seq ha.se, fun σ G H S R rel f => ⟨G, S, rel, (finL_one rel f).mono fun v H1 ⟨G1, ds, xs, m, t, e, k⟩ => ?_⟩⟩
  cases t with
  | cons h t =>
    cases t
    cases h with
    | @tup _ p vs ds hp t =>
      cases e
      exact ⟨p, vs, rfl, .inr ⟨Same.tup m hp, k _ (walk_seqT hp t)⟩⟩
    | @lst _ p vs ds hp t =>
      cases e
      exact ⟨p, vs, rfl, .inl ⟨.inl (.inl (m _ _ hp)), k _ (walk_seqL (.inl (.inl hp)) t)⟩⟩
    | @scr _ p ns hp =>
      cases e
      have t : DenL X.K G1 (ns.map D.int) (ns.map V.int) := by
        clear hp k m
        induction ns with
        | nil => exact .nil
        | cons n ns ih => exact .cons (.int n) ih
      exact ⟨p, _, rfl, .inl ⟨m.seq hp, k _ (walk_seqL hp t)⟩⟩
    | _ => cases e
theorem i_rng1 {tg : Expr} (g : Good X C) (ha : SEv X C a ea) (hg : Gl X "range") (hs : starEach [a] X.env = [(false, eval a X.env)]) : SI X C tg (.Call (.Name "range" p) [a] [] pos) .rng1 [ea] := by
  refine ⟨_, pi_range1 hg (g.bl _ (by simp)) (l_cons ha l_nil hs) hs, fun σ G H S R rel f => ⟨G, S, rel, f.mono fun vs H1 ⟨G1, ds, xs, m, t, e, k⟩ => ?_⟩⟩
  cases t with
  | nil => cases e
  | cons h t =>
    cases t with
    | cons _ _ => cases h <;> cases e
    | nil =>
      cases h with
      | int n =>
        have e' : (if smallB n then some (rngD 0 n) else none) = some xs := e
        split at e'
        · rename_i hb
          cases e'
          refine ⟨n, rfl, hb.1, hb.2, ?_⟩
          have := k _ (walk_rng (lo := 0) (hi := n))
          rw [Int.sub_zero] at this
          exact this
        · cases e'
      | _ => cases e
theorem i_rng2 {tg : Expr} (g : Good X C) (ha : SEv X C a ea) (hb : SEv X C b eb) (hg : Gl X "range") (hs : starEach [a, b] X.env = (false, eval a X.env) :: starEach [b] X.env) (hs2 : starEach [b] X.env = [(false, eval b X.env)]) : SI X C tg (.Call (.Name "range" p) [a, b] [] pos) .rng2 [ea, eb] := by
  refine ⟨_, pi_range2 hg (g.bl _ (by simp)) (l_cons ha (l_cons hb l_nil hs2) hs) (by rw [hs, hs2]) hs2, fun σ G H S R rel f => ⟨G, S, rel, f.mono fun vs H1 ⟨G1, ds, xs, m, t, e, k⟩ => ?_⟩⟩
  cases t with
  | nil => cases e
  | cons h t =>
    cases t with
    | nil => cases h <;> cases e
    | cons h2 t =>
      cases t with
      | cons _ _ => cases h <;> cases h2 <;> cases e
      | nil =>
        cases h with
        | int n =>
          cases h2 with
          | int n2 =>
            have e' : (if smallB n ∧ smallB n2 then some (rngD n n2) else none) = some xs := e
            split at e'
            · rename_i hb
              cases e'
              exact ⟨n, n2, rfl, ⟨hb.1.1, hb.1.2, hb.2.1, hb.2.2⟩, k _ walk_rng⟩
            · cases e'
          | _ => cases e
        | _ => cases h2 <;> cases e
theorem i_enum {elts : List Expr} {kk : Nat} {tpos : Pos} (g : Good X C) (ha : SEv X C a ea) (hg : Gl X "enumerate") (hs : starEach [a] X.env = [(false, eval a X.env)]) : SI X C (.Tuple elts kk tpos) (.Call (.Name "enumerate" p) [a] [] pos) .enum [ea] := by
  refine ⟨_, pi_enumA hg (g.bl _ (by simp)) (l_cons ha l_nil hs) hs, fun σ G H S R rel f => ⟨G, S, rel, f.mono fun vs H1 ⟨G1, ds, xs, m, t, e, k⟩ => ?_⟩⟩
  cases t with
  | nil => cases e
  | cons h t =>
    cases t with
    | cons _ _ => cases h <;> cases e
    | nil =>
      cases h with
      | @tup _ q vs ds hp t =>
        cases e
        exact ⟨q, vs, rfl, .inr ⟨Same.tup m hp, k _ (walk_enumL (p := q) t walk_enumT fun G' H' m m' => Same.tup m' (Same.tup m hp))⟩⟩
      | @lst _ q vs ds hp t =>
        cases e
        exact ⟨q, vs, rfl, .inl ⟨.inl (.inl (m _ _ hp)), k _ (walk_enumL (p := q) t walk_enum fun G' H' m m' => .inl (.inl (m' _ _ (m _ _ hp))))⟩⟩
      | _ => cases e
theorem i_zip {elts : List Expr} {kk : Nat} {tpos : Pos} (g : Good X C) (ha : SEv X C a ea) (hb : SEv X C b eb) (hg : Gl X "zip") (hs : starEach [a, b] X.env = (false, eval a X.env) :: starEach [b] X.env) (hs2 : starEach [b] X.env = [(false, eval b X.env)]) : SI X C (.Tuple elts kk tpos) (.Call (.Name "zip" p) [a, b] [] pos) .zip [ea, eb] := by
  refine ⟨_, pi_zip hg (g.bl _ (by simp)) (l_cons ha (l_cons hb l_nil hs2) hs) hs (by rw [hs2]; rfl), fun σ G H S R rel f => ⟨G, S, rel, f.mono fun vs H1 ⟨G1, ds, xs, m, t, e, k⟩ => ?_⟩⟩
  cases t with
  | nil => cases e
  | cons h t =>
    cases t with
    | nil => cases h <;> cases e
    | cons h2 t =>
      cases t with
      | cons _ _ => cases h <;> cases h2 <;> cases e
      | nil =>
        cases h with
        | @lst _ q vs ds hp t =>
          cases h2 with
          | @lst _ q2 vs2 ds2 hp2 t2 =>
            cases e
            exact ⟨q, q2, vs, vs2, rfl, .inl (.inl (m _ _ hp)), .inl (.inl (m _ _ hp2)), k _ (walk_zipL (.inl (.inl hp)) (.inl (.inl hp2)) t t2)⟩
          | _ => cases e
        | _ => cases h2 <;> cases e

/-! ### targets -/
theorem Rel.assign {K : PySem.W.Frag} {L : Lk} {G H : Hp} {S : SS} {σ : L2.St} {d : D} {v : V} (rel : Rel K L G H S σ) (i : Nat) (hd : Den K G d v) : Stp K L G H S σ G H (S.set i (.val d)) (σ.set i (some v)) := by
  have oo : ∀ j b, OwnS (S.set i (.val d)) (σ.set i (some v)) j b → OwnS S σ j b := fun j b ⟨t, d', h1, h2⟩ => by
    rcases set_at h1 with ⟨_, z, _⟩ | ⟨hj, h1⟩
    · cases z
    · rw [List.getElem?_set_ne (Ne.symm hj)] at h2
      exact ⟨t, d', h1, h2⟩
  refine ⟨⟨rel.sub, by rw [List.length_set, List.length_set]; exact rel.len, fun j s h => ?_, fun j k b h1 h2 => rel.inj j k b (oo j b h1) (oo k b h2), rel.tabs, rel.gt⟩, Same.refl _, fun _ _ _ h _ => ⟨h, rfl⟩, fun _ h => h, fun b ⟨j, h⟩ => .inl ⟨j, oo j b h⟩⟩
  rcases set_at h with ⟨rfl, rfl, hl⟩ | ⟨hj, h⟩
  · refine ⟨v, ?_, hd⟩
    rw [List.getElem?_set_self (by rw [← rel.len]; exact hl)]
  · rw [List.getElem?_set_ne (Ne.symm hj)]
    exact rel.at_ j s h
theorem wipe_set {σ : L2.St} {i : Nat} {x : Option V} : ∀ {vs : List Nat}, i ∈ vs → wipe (σ.set i x) vs = wipe σ vs
  | [], h => by simp at h
  | v :: vs, h => by
    unfold wipe
    by_cases q : i ∈ vs
    · rw [wipe_set q]
    · have e : i = v := by
        rcases List.mem_cons.mp h with e | e
        · exact e
        · exact absurd e q
      subst e
      have key : ∀ (vs : List Nat), i ∉ vs → wipe (σ.set i x) vs = (wipe σ vs).set i x := by
        intro vs
        induction vs with
        | nil => intro _; rfl
        | cons w ws ih =>
          intro hn
          simp only [List.mem_cons, not_or] at hn
          unfold wipe
          rw [ih hn.2, List.set_comm _ _ (Ne.symm (Ne.symm hn.1))]
      rw [key vs q, List.set_set]
def gsR : List Nat → TGs
  | [] => gNil
  | i :: is => gCons (gName i) (gsR is)
def tgR (K : PySem.W.Frag) : Tg → TG
  | .nm i => gName i
  | .tp is => gTup K is.length (gsR is)
def SG (X : Cx) (tgE : Expr) (tg : Tg) : Prop := PG X tgE (tgR X.K tg)
theorem gs_read {K : PySem.W.Frag} {L : Lk} {G H : Hp} : ∀ (is : List Nat) (ds : List D) (vs : List V) (S : SS) (σ : L2.St) (S' : SS) (Q : L2.St → Hp → Prop), Rel K L G H S σ → DenL K G ds vs → setsS S is ds = some S' →
    (∀ σ', Stp K L G H S σ G H S' σ' → (∀ us, (∀ i ∈ is, i ∈ us) → wipe σ' us = wipe σ us) → Q σ' H) → gsR is vs σ H Q
  | [], ds, vs, S, σ, S', Q, rel, t, e, k => by
    cases t with
    | nil => cases e; exact ⟨rfl, k _ (Stp.refl rel) fun _ _ => rfl⟩
    | cons _ _ => cases e
  | i :: is, ds, vs, S, σ, S', Q, rel, td, e, k => by
    cases td with
    | nil => cases e
    | @cons _ d v ds vs hd td =>
      have st := rel.assign i hd
      refine ⟨v, vs, rfl, ?_⟩
      refine gs_read is ds vs _ _ S' Q st.rel td e fun σ' y w => k σ' (st.trans y) fun us hu => ?_
      rw [w us fun j hj => hu j (List.mem_cons_of_mem _ hj), wipe_set (hu i List.mem_cons_self)]
theorem setsS_len : ∀ (is : List Nat) (ds : List D) (S : SS) (S' : SS), setsS S is ds = some S' → is.length = ds.length
  | [], [], _, _, _ => rfl
  | [], _ :: _, _, _, e => by cases e
  | _ :: _, [], _, _, e => by cases e
  | _ :: is, _ :: ds, _, _, e => congrArg (· + 1) (setsS_len is ds _ _ e)
theorem tg_read {K : PySem.W.Frag} {L : Lk} {G H : Hp} {tg : Tg} {d : D} {v : V} {S S' : SS} {σ : L2.St} {Q : L2.St → Hp → Prop} (rel : Rel K L G H S σ) (hd : Den K G d v) (e : tgS S tg d = some S')
    (k : ∀ σ', Stp K L G H S σ G H S' σ' → (∀ us, (∀ i ∈ tg.slots, i ∈ us) → wipe σ' us = wipe σ us) → Q σ' H) : tgR K tg v σ H Q := by
  cases tg with
  | nm i =>
    cases e
    exact k _ (rel.assign i hd) fun vs hv => wipe_set (hv i (by simp [Tg.slots]))
  | tp is =>
    cases hd with
    | @tup _ q vs ds hp td =>
      have e' : setsS S is ds = some S' := e
      exact ⟨q, vs, rfl, Same.tup rel.sub hp, by rw [← td.length, setsS_len is ds S S' e'], gs_read is ds vs S σ S' Q rel td e' k⟩
    | _ => cases e
theorem g_nm {i : Nat} {x : Str} (hN : X.N.Nodup) (hi : X.N[i]? = some x) (hx : Loc X.env.scope x) (hf : X.fn x = true ∨ X.env.scope.names.lookup x = some .local) : SG X (.Name x pos) (.nm i) := pg_name hN hi hx hf
def SGs (X : Cx) (es : List Expr) (is : List Nat) : Prop := PGs X es (gsR is)
theorem gs_nil : SGs X [] [] := pgs_nil
theorem gs_cons {i : Nat} {x : Str} {es : List Expr} {is : List Nat} {px : Pos} (hN : X.N.Nodup) (hi : X.N[i]? = some x) (hx : Loc X.env.scope x) (hf : X.fn x = true ∨ X.env.scope.names.lookup x = some .local) (h : SGs X es is) : SGs X (.Name x px :: es) (i :: is) :=
  pgs_cons (pg_name hN hi hx hf) h (by rfl)
theorem g_tp {es : List Expr} {is : List Nat} {kk : Nat} (hc : X.calm = true) (h : SGs X es is) (hn : (assignEach es X.env).length = is.length) (hst : (assignEach es X.env).findIdx? (·.1) = none) : SG X (.Tuple es kk pos) (.tp is) := pg_tup hc h hn hst
end
end MX

set_option Elab.async false
set_option linter.all false
set_option maxRecDepth 100000
set_option autoImplicit false
/-! MX7: comprehensions. -/
namespace MX
open PySem PySem.Spec PyProof.Rows L2

section
variable {K : PySem.W.Frag} {L : Lk} {G G1 G' H H1 H' : Hp} {S S0 S1 S' : SS} {σ : L2.St}
theorem wipeS_len : ∀ {is : List Nat}, (wipeS S is).length = S.length
  | [] => rfl
  | i :: is => by unfold wipeS; rw [List.length_set]; exact wipeS_len
theorem wipeS_at {s : Sl} : ∀ {is : List Nat} {j : Nat}, (wipeS S is)[j]? = some s → (j ∈ is ∧ s = .un) ∨ (j ∉ is ∧ S[j]? = some s)
  | [], j, h => .inr ⟨by simp, h⟩
  | i :: is, j, h => by
    unfold wipeS at h
    rcases set_at h with ⟨rfl, rfl, _⟩ | ⟨hj, h⟩
    · exact .inl ⟨List.mem_cons_self, rfl⟩
    · rcases wipeS_at h with ⟨h1, h2⟩ | ⟨h1, h2⟩
      · exact .inl ⟨List.mem_cons_of_mem _ h1, h2⟩
      · exact .inr ⟨by simp only [List.mem_cons, not_or]; exact ⟨hj, h1⟩, h2⟩
theorem wipe_not : ∀ {is : List Nat} {j : Nat}, j ∉ is → (wipe σ is)[j]? = σ[j]?
  | [], _, _ => rfl
  | i :: is, j, h => by
    simp only [List.mem_cons, not_or] at h
    unfold wipe
    rw [List.getElem?_set_ne (Ne.symm h.1)]
    exact wipe_not h.2
theorem backW_len : ∀ {is : List Nat}, (backW S0 is S).length = S.length
  | [] => rfl
  | i :: is => by
    unfold backW
    split
    · rw [List.length_set]; exact backW_len
    · exact backW_len
theorem backW_at {s : Sl} (hl : S.length = S0.length) : ∀ {is : List Nat} {j : Nat}, (backW S0 is S)[j]? = some s → (j ∈ is ∧ S0[j]? = some s) ∨ (j ∉ is ∧ S[j]? = some s)
  | [], j, h => .inr ⟨by simp, h⟩
  | i :: is, j, h => by
    unfold backW at h
    split at h
    · rename_i s' e
      rcases set_at h with ⟨rfl, rfl, _⟩ | ⟨hj, h⟩
      · exact .inl ⟨List.mem_cons_self, e⟩
      · rcases backW_at hl h with ⟨h1, h2⟩ | ⟨h1, h2⟩
        · exact .inl ⟨List.mem_cons_of_mem _ h1, h2⟩
        · exact .inr ⟨by simp only [List.mem_cons, not_or]; exact ⟨hj, h1⟩, h2⟩
    · rename_i e
      rcases backW_at hl h with ⟨h1, h2⟩ | ⟨h1, h2⟩
      · exact .inl ⟨List.mem_cons_of_mem _ h1, h2⟩
      · refine .inr ⟨?_, h2⟩
        simp only [List.mem_cons, not_or]
        refine ⟨?_, h1⟩
        rintro rfl
        have q1 := (List.getElem?_eq_some_iff.mp h2).1
        have q2 := List.getElem?_eq_none_iff.mp e
        omega
theorem own_wipe {is : List Nat} {j : Nat} {b : Addr} (h : OwnS (wipeS S is) (wipe σ is) j b) : OwnS S σ j b ∧ j ∉ is := by
  obtain ⟨t, d, h1, h2⟩ := h
  rcases wipeS_at h1 with ⟨_, z⟩ | ⟨h3, h4⟩
  · cases z
  · rw [wipe_not h3] at h2
    exact ⟨⟨t, d, h4, h2⟩, h3⟩
theorem Rel.wipe (rel : Rel K L G H S σ) (is : List Nat) : Rel K L G H (wipeS S is) (L2.wipe σ is) := by
  refine ⟨rel.sub, by rw [wipeS_len, wipe_length]; exact rel.len, fun j s h => ?_, fun j k b h1 h2 => rel.inj j k b (own_wipe h1).1 (own_wipe h2).1, rel.tabs, rel.gt⟩
  rcases wipeS_at h with ⟨_, rfl⟩ | ⟨h1, h2⟩
  · trivial
  · rw [wipe_not h1]; exact rel.at_ j s h2
end

section
variable {X : Cx} {C : Ctx} {a b c e : Expr} {ea eb ec : E} {pos p : Pos}
/-- the context of a block: nothing may be raised there -/
def Ctx.nox (C : Ctx) : Ctx := { C with W := fun _ _ _ _ => False }

/-- behind some turns -/
structure Trn (K : PySem.W.Frag) (L : Lk) (G1 H1 : Hp) (Sw : SS) (σw : L2.St) (q : Addr) (G' H' : Hp) (S' : SS) (acc : List D) : Prop where
  rel : Rel K L G' H' S' σw
  gm : Same G1 G'
  keep : ∀ a o, NT o → H1 a = some o → ¬ Own Sw σw a → H' a = some o ∧ G' a = G1 a
  th : ∀ a, H1 a ≠ none → H' a ≠ none
  ow : ∀ a, Own S' σw a → Own Sw σw a ∨ H1 a = none
  new : ∃ vs, H' q = some (.lst vs) ∧ DenL K G' acc vs
  gq : G' q = none
  oq : ¬ Own S' σw q
theorem Trn.step {K : PySem.W.Frag} {L : Lk} {G1 H1 G' H' G2 H2 : Hp} {Sw S' S2 : SS} {σw σ2 : L2.St} {q : Addr} {acc : List D} {is : List Nat} (x : Trn K L G1 H1 Sw σw q G' H' S' acc) (y : Stp K L G' H' S' σw G2 H2 S2 σ2) (hw : L2.wipe σ2 is = σw) :
    Trn K L G1 H1 Sw σw q G2 H2 (wipeS S2 is) acc := by
  have rel := y.rel.wipe is
  rw [hw] at rel
  have ow' : ∀ a, Own (wipeS S2 is) σw a → Own S2 σ2 a := fun a ⟨j, h⟩ => by
    rw [← hw] at h
    exact ⟨j, (own_wipe h).1⟩
  obtain ⟨vs, hq, hv⟩ := x.new
  have kq : H2 q = H' q ∧ G2 q = G' q := by
    rw [hq]
    exact y.keep q _ nt_lst hq x.oq
  refine ⟨rel, x.gm.trans y.gm, fun a o nt h n => ?_, fun a h => y.th a (x.th a h), fun a h => ?_, ⟨vs, by rw [kq.1]; exact hq, hv.mono y.gm⟩, by rw [kq.2]; exact x.gq, fun h => ?_⟩
  · obtain ⟨h1, g1⟩ := x.keep a o nt h n
    obtain ⟨h2, g2⟩ := y.keep a o nt h1 fun z => by
      rcases x.ow a z with z | z
      · exact n z
      · rw [h] at z; cases z
    exact ⟨h2, g2.trans g1⟩
  · rcases y.ow a (ow' a h) with z | z
    · exact x.ow a z
    · cases e : H1 a with
      | none => exact .inr rfl
      | some o => exact absurd z (x.th a (by rw [e]; simp))
  · rcases y.ow q (ow' q h) with z | z
    · exact x.oq z
    · rw [hq] at z; cases z
/-- the item's part goes to the list's end -/
theorem Trn.add {K : PySem.W.Frag} {L : Lk} {G1 H1 G' H' : Hp} {Sw S' : SS} {σw : L2.St} {q : Addr} {acc : List D} {d : D} {v : V} (hq1 : H1 q = none) (x : Trn K L G1 H1 Sw σw q G' H' S' acc) (hd : Den K G' d v) :
    ∃ vs, H' q = some (.lst vs) ∧ vs.length = acc.length ∧ Trn K L G1 H1 Sw σw q G' (upd H' q (.lst (vs ++ [v]))) S' (acc ++ [d]) := by
  obtain ⟨vs, hq, hv⟩ := x.new
  refine ⟨vs, hq, hv.length.symm, ⟨⟨fun b o e => ?_, x.rel.len, fun j s e => ?_, x.rel.inj, tabs_lst x.rel.tabs hq, x.rel.gt⟩, x.gm, fun a o nt h n => ?_, fun a h => ?_, x.ow, ⟨_, upd_same, hv.append (.cons hd .nil)⟩, x.gq, x.oq⟩⟩
  · rw [upd_ne (ne_of_none e x.gq)]; exact x.rel.sub _ _ e
  · refine (x.rel.at_ j s e).mono (Same.refl _) fun b eb ⟨t, d', es⟩ => ⟨upd_ne fun z => ?_, rfl⟩
    subst es z
    exact x.oq ⟨j, t, d', e, eb⟩
  · obtain ⟨h1, g1⟩ := x.keep a o nt h n
    rw [upd_ne (show a ≠ q from fun z => by rw [z, hq1] at h; cases h)]
    exact ⟨h1, g1⟩
  · unfold upd
    split
    · simp
    · exact x.th a h
theorem out_some {r : Option (R × SS)} {S : SS} {d : D} (h : (match r with | some (.v d, S2) => some (some d, S2) | some (.fr d, S2) => some (some d, S2) | _ => none) = some (some d, S)) : r = some (.v d, S) ∨ r = some (.fr d, S) := by
  split at h
  · cases h; exact .inl rfl
  · cases h; exact .inr rfl
  · cases h
def condO (K : PySem.W.Frag) (C : Ctx) : List E → TT
  | [] => tYes
  | c :: _ => L2.tB (tF K C fun S => ev C.cl c S)
theorem fin_of {K : PySem.W.Frag} {σ : L2.St} {G H : Hp} {S S1 : SS} {Q : VK} {r : R} {o : Option (R × SS)} (e : o = some (r, S1)) (nx : ∀ c, r ≠ .ex c) (h : ∀ G' H' v, Stp K C.L G H S σ G' H' S1 σ → RR K H S σ G' H' S1 σ r v → Q v H') : Fin K C σ G H S Q o :=
  ⟨r, S1, e, fun c z => absurd z (nx c), h⟩
theorem comp_read {wi : TI} {k : ItK} {args : List E} {tg : Tg} {cond : List E} {σ : L2.St} {H : Hp} {Q : VK}
    (hi : ∀ σ G H S R, Rel X.K C.L G H S σ → FinL X.K C σ G H S (fun vs H1 => ∃ G1 ds xs, Same G1 H1 ∧ DenL X.K G1 ds vs ∧ itD k ds = some xs ∧ ∀ J, WalkOK X.K G1 J xs → R J H1) (evs C.cl args S) → wi σ H R)
    (h : tF X.K C (fun S => ev C.cl (.comp ea tg k args cond) S) σ H Q) : tLc wi (tgR X.K tg) (condO X.K C.nox cond) (tF X.K C.nox fun S => ev C.cl ea S) tg.slots σ H Q := by
  obtain ⟨G, S, rel, f⟩ := h
  unfold ev at f
  dsimp only at f
  refine hi σ G H S _ rel ((Fin.bndL f).mono fun vs H1 ⟨G1, S1, ds, r1, s1, n1, f1⟩ => ?_)
  dsimp only at f1
  cases ex : itD k ds with
  | none => rw [ex] at f1; exact fin_none f1
  | some xs =>
  rw [ex] at f1
  dsimp only at f1
  cases ey : compL (compF (fun S => ev C.cl ea S) (hdO (evC C.cl cond)) tg) xs [] (wipeS S1 tg.slots) with
  | none => rw [ey] at f1; exact fin_none f1
  | some w =>
  obtain ⟨ys, SE⟩ := w
  rw [ey] at f1
  dsimp only at f1
  refine ⟨G1, ds, xs, r1.sub, n1, ex, fun J wk q hq => ?_⟩
  obtain ⟨Gd, Y, W, hG, hY⟩ := wk
  have gq1 : G1 q = none := by
    cases z : G1 q with
    | none => rfl
    | some u => rw [r1.sub _ _ z] at hq; cases hq
  -- the start
  have t0 : Trn X.K C.L G1 H1 (wipeS S1 tg.slots) (L2.wipe σ tg.slots) q G1 (upd H1 q (.lst [])) (wipeS S1 tg.slots) [] := by
    obtain ⟨st, h1, h2⟩ := (r1.wipe tg.slots).fresh (o := .lst []) hq
    refine ⟨st.rel, st.gm, st.keep, st.th, st.ow, ⟨[], upd_same, .nil⟩, h1, h2⟩
  refine lc_it W (fun i H' => ∃ G' S' acc, Trn X.K C.L G1 H1 (wipeS S1 tg.slots) (L2.wipe σ tg.slots) q G' H' S' acc ∧ compL (compF (fun S => ev C.cl ea S) (hdO (evC C.cl cond)) tg) (xs.drop i) acc S' = some (ys, SE))
    ⟨G1, _, [], t0, ey⟩ (fun i H' _ ⟨G', S', acc, t, _⟩ => hG G' H' t.gm t.rel.sub) ?_ ?_
  · rintro i x H2 H3 hlt ⟨G', S', acc, t, run⟩ y
    obtain ⟨d, ed, hx⟩ := hY i H2 x H3 hlt y G' t.gm t.rel.sub
    -- the item lies in the heap
    obtain ⟨G3, y3, dx⟩ : ∃ G3, Stp X.K C.L G' H2 S' (L2.wipe σ tg.slots) G3 H3 S' (L2.wipe σ tg.slots) ∧ Den X.K G3 d x := by
      rcases hx with ⟨rfl, hx⟩ | ⟨T, ws, hT, rfl, hx⟩
      · exact ⟨G', Stp.refl t.rel, hx⟩
      · exact ⟨_, t.rel.grow hT, hx⟩
    have run' : compL (compF (fun S => ev C.cl ea S) (hdO (evC C.cl cond)) tg) (d :: xs.drop (i + 1)) acc S' = some (ys, SE) := by
      have : xs.drop i = d :: xs.drop (i + 1) := by
        rw [List.drop_eq_getElem_cons hlt]
        rw [List.getElem?_eq_getElem hlt] at ed
        rw [Option.some.inj ed]
      rw [← this]
      exact run
    unfold compL at run'
    cases eF : compF (fun S => ev C.cl ea S) (hdO (evC C.cl cond)) tg d S' with
    | none => rw [eF] at run'; cases run'
    | some w =>
    obtain ⟨od, S4⟩ := w
    rw [eF] at run'
    try dsimp only at run'
    unfold compF at eF
    cases eT : tgS S' tg d with
    | none => rw [eT] at eF; cases eF
    | some S5 =>
    rw [eT] at eF
    dsimp only at eF
    refine tg_read y3.rel dx eT fun σ2 y5 w5 => ?_
    have hw2 : L2.wipe σ2 tg.slots = L2.wipe σ tg.slots := by
      rw [w5 _ fun i h => h]
      have idem : ∀ (is : List Nat) (σ : L2.St), L2.wipe (L2.wipe σ is) is = L2.wipe σ is := by
        have sub : ∀ (is js : List Nat) (σ : L2.St), (∀ j ∈ js, j ∈ is) → L2.wipe (L2.wipe σ js) is = L2.wipe σ is := by
          intro is js
          induction js with
          | nil => intro σ _; rfl
          | cons j js ih =>
            intro σ h
            show L2.wipe ((L2.wipe σ js).set j none) is = _
            rw [wipe_set (h j List.mem_cons_self)]
            exact ih σ fun k hk => h k (List.mem_cons_of_mem _ hk)
        exact fun is σ => sub is is σ fun _ h => h
      exact idem _ _
    refine ⟨hw2, ?_⟩
    have y35 := y3.trans y5
    -- what a turn's value leads to
    have fin : ∀ {S6 : SS} {G6 H6 : Hp} {d6 : D} {v6 : V}, Stp X.K C.L G' H2 S' (L2.wipe σ tg.slots) G6 H6 S6 σ2 → Den X.K G6 d6 v6 → od = some d6 → S4 = wipeS S6 tg.slots →
        ∃ acc', H6 q = some (.lst acc') ∧ acc'.length < sizeLine ∧ ∃ G' S' acc, Trn X.K C.L G1 H1 (wipeS S1 tg.slots) (L2.wipe σ tg.slots) q G' (upd H6 q (.lst (acc' ++ [v6]))) S' acc ∧ compL (compF (fun S => ev C.cl ea S) (hdO (evC C.cl cond)) tg) (xs.drop (i + 1)) acc S' = some (ys, SE) := by
      intro S6 G6 H6 d6 v6 y6 dv e1 e2
      subst e1 e2
      dsimp only at run'
      have t6 := t.step y6 hw2
      obtain ⟨vs6, q1, q2, t7⟩ := t6.add hq dv
      split at run'
      · rename_i hz
        exact ⟨vs6, q1, by rw [q2]; exact hz, G6, _, _, t7, run'⟩
      · cases run'
    have skip : ∀ {S6 : SS} {G6 H6 : Hp}, Stp X.K C.L G' H2 S' (L2.wipe σ tg.slots) G6 H6 S6 σ2 → od = none → S4 = wipeS S6 tg.slots →
        ∃ G' S' acc, Trn X.K C.L G1 H1 (wipeS S1 tg.slots) (L2.wipe σ tg.slots) q G' H6 S' acc ∧ compL (compF (fun S => ev C.cl ea S) (hdO (evC C.cl cond)) tg) (xs.drop (i + 1)) acc S' = some (ys, SE) := by
      intro S6 G6 H6 y6 e1 e2
      subst e1 e2
      exact ⟨G6, _, _, t.step y6 hw2, run'⟩
    -- the element
    have elem : ∀ {S6 : SS} {G6 H6 : Hp}, Stp X.K C.L G' H2 S' (L2.wipe σ tg.slots) G6 H6 S6 σ2 → (match ev C.cl ea S6 with | some (.v d, S2) => some (some d, wipeS S2 tg.slots) | some (.fr d, S2) => some (some d, wipeS S2 tg.slots) | _ => none) = some (od, S4) →
        tF X.K C.nox (fun S => ev C.cl ea S) σ2 H6 fun y H4 => ∃ acc, H4 q = some (.lst acc) ∧ acc.length < sizeLine ∧ ∃ G' S' acc', Trn X.K C.L G1 H1 (wipeS S1 tg.slots) (L2.wipe σ tg.slots) q G' (upd H4 q (.lst (acc ++ [y]))) S' acc' ∧ compL (compF (fun S => ev C.cl ea S) (hdO (evC C.cl cond)) tg) (xs.drop (i + 1)) acc' S' = some (ys, SE) := by
      intro S6 G6 H6 y6 eE
      refine ⟨G6, S6, y6.rel, ?_⟩
      cases eV : ev C.cl ea S6 with
      | none => rw [eV] at eE; cases eE
      | some w =>
        obtain ⟨r, S7⟩ := w
        rw [eV] at eE
        cases r with
        | ex c => cases eE
        | v d7 =>
          cases eE
          exact fin_of (C := C.nox) eV (fun _ z => nomatch z) fun G8 H8 v8 y8 r8 => fin (y6.trans y8) r8 rfl rfl
        | fr d7 =>
          cases eE
          refine fin_of (C := C.nox) eV (fun _ z => nomatch z) fun G8 H8 v8 y8 r8 => ?_
          obtain ⟨G9, y9, d9, _⟩ := y8.freeze r8
          exact fin (y6.trans y9) d9 rfl rfl
    cases cond with
    | nil =>
      refine elem y35 ?_
      have eF' : (match ev C.cl ea S5 with | some (.v d, S2) => some (some d, wipeS S2 tg.slots) | some (.fr d, S2) => some (some d, wipeS S2 tg.slots) | _ => none) = some (od, S4) := by
        unfold evC hdO at eF
        exact eF
      exact eF'
    | cons c0 cr =>
      unfold evC hdO at eF
      dsimp only at eF
      refine ⟨G3, S5, y5.rel, ?_⟩
      cases eC : ev C.cl c0 S5 with
      | none => rw [eC] at eF; cases eF
      | some w =>
        obtain ⟨r, S6⟩ := w
        rw [eC] at eF
        cases r with
        | ex c => cases eF
        | fr d => cases eF
        | v dc =>
          cases dc with
          | bl b =>
            refine fin_of (C := C.nox) eC (fun _ z => nomatch z) fun G6 H6 v6 y6 r6 => ?_
            cases r6
            refine ⟨b, rfl, ?_⟩
            cases b with
            | true =>
              rw [if_pos rfl]
              exact elem (y35.trans y6) eF
            | false =>
              rw [if_neg Bool.false_ne_true]
              cases eF
              exact skip (y35.trans y6) rfl rfl
          | _ => cases eF
  · rintro H' ⟨G', S', acc, t, run⟩
    rw [List.drop_of_length_le (Nat.le_refl _)] at run
    obtain ⟨e1, e2⟩ : ys = acc ∧ SE = S' := by cases run; exact ⟨rfl, rfl⟩
    rw [e1, e2] at f1
    -- the slots come back
    obtain ⟨r', S0, e0, _, h2⟩ := f1
    cases e0
    obtain ⟨vs, hqv, hv⟩ := t.new
    have lS : S'.length = S1.length := by rw [t.rel.len, wipe_length, r1.len]
    -- an object that a wiped slot holds
    have held : ∀ j s, j ∈ tg.slots → S1[j]? = some s → ∀ b, OwnS S1 σ j b → H' b = H1 b ∧ G' b = G1 b ∧ b ≠ q ∧ ¬ Own S' (L2.wipe σ tg.slots) b := by
      intro j s hj _ b hb
      have nb : ¬ Own (wipeS S1 tg.slots) (L2.wipe σ tg.slots) b := fun ⟨k, hk⟩ => by
        obtain ⟨h3, h4⟩ := own_wipe hk
        rw [r1.inj _ _ _ hb h3] at hj
        exact h4 hj
      obtain ⟨vs0, z⟩ := r1.ownL ⟨j, hb⟩
      · obtain ⟨k1, k2⟩ := t.keep b _ nt_lst z nb
        refine ⟨k1.trans z.symm, k2, (fun w => by rw [w, hq] at z; cases z), fun w => ?_⟩
        rcases t.ow b w with w | w
        · exact nb w
        · rw [z] at w; cases w
    have back : ∀ j b, OwnS (backW S1 tg.slots S') σ j b → (j ∈ tg.slots ∧ OwnS S1 σ j b) ∨ (j ∉ tg.slots ∧ OwnS S' (L2.wipe σ tg.slots) j b) := fun j b ⟨t1, d1, p1, p2⟩ => by
      rcases backW_at lS p1 with ⟨h3, h4⟩ | ⟨h3, h4⟩
      · exact .inl ⟨h3, t1, d1, h4, p2⟩
      · exact .inr ⟨h3, t1, d1, h4, by rw [wipe_not h3]; exact p2⟩
    have toW : ∀ b, Own (wipeS S1 tg.slots) (L2.wipe σ tg.slots) b → Own S1 σ b := fun b ⟨j, hj⟩ => ⟨j, (own_wipe hj).1⟩
    have rel' : Rel X.K C.L G' H' (backW S1 tg.slots S') σ := by
      refine ⟨t.rel.sub, by rw [backW_len, lS]; exact r1.len, fun j s hs => ?_, fun j k b hj hk => ?_, t.rel.tabs, t.rel.gt⟩
      · rcases backW_at lS hs with ⟨h3, h4⟩ | ⟨h3, h4⟩
        · refine (r1.at_ j s h4).mono t.gm fun b eb ⟨t1, d1, es⟩ => ?_
          subst es
          obtain ⟨k1, k2, _⟩ := held j _ h3 h4 b ⟨t1, d1, h4, eb⟩
          exact ⟨k1, k2⟩
        · have := t.rel.at_ j s h4
          rw [wipe_not h3] at this
          exact this
      · rcases back j b hj with ⟨h3, h4⟩ | ⟨h3, h4⟩
        · rcases back k b hk with ⟨h5, h6⟩ | ⟨h5, h6⟩
          · exact r1.inj j k b h4 h6
          · obtain ⟨t1, d1, p1, p2⟩ := id h4
            exact absurd ⟨k, h6⟩ (held j _ h3 p1 b h4).2.2.2
        · rcases back k b hk with ⟨h5, h6⟩ | ⟨h5, h6⟩
          · obtain ⟨t1, d1, p1, p2⟩ := id h6
            exact absurd ⟨j, h4⟩ (held k _ h5 p1 b h6).2.2.2
          · exact t.rel.inj j k b h4 h6
    have ownB : ∀ b, Own (backW S1 tg.slots S') σ b → Own S1 σ b ∨ H1 b = none := fun b ⟨j, hj⟩ => by
      rcases back j b hj with ⟨_, h4⟩ | ⟨_, h4⟩
      · exact .inl ⟨j, h4⟩
      · exact (t.ow b ⟨j, h4⟩).imp (toW b) id
    refine h2 G' H' _ ⟨rel', t.gm, fun b o nt h n => t.keep b o nt h fun z => n (toW b z), t.th, ownB⟩ ⟨q, rfl, ⟨acc, vs, rfl, hqv, hv⟩, t.gq, fun ⟨j, hj⟩ => ?_, .inl hq⟩
    rcases back j q hj with ⟨_, h4⟩ | ⟨_, h4⟩
    · exact (r1.ownH ⟨j, h4⟩).1 hq
    · exact t.oq ⟨j, h4⟩
end
end MX

set_option Elab.async false
set_option linter.all false
set_option maxRecDepth 100000
set_option autoImplicit false
/-! MX8: statements. -/
namespace MX
open PySem PySem.Spec PyProof.Rows L2

def FinS (K : PySem.W.Frag) (C : Ctx) (σ : L2.St) (G H : Hp) (S : SS) (D : Ends) (o : Option (Fl × SS)) : Prop :=
  ∃ fl S', o = some (fl, S') ∧
    (fl = .nx → ∀ G' H' σ', Stp K C.L G H S σ G' H' S' σ' → D.nx σ' H') ∧
    (fl = .brk → ∀ G' H' σ', Stp K C.L G H S σ G' H' S' σ' → D.bk σ' H') ∧
    (fl = .ct → ∀ G' H' σ', Stp K C.L G H S σ G' H' S' σ' → D.ct σ' H') ∧
    (∀ r, fl = .ret r → ∀ G' H' σ' v, Stp K C.L G H S σ G' H' S' σ' → RR K H S σ G' H' S' σ' r v → D.rt v H') ∧
    (∀ c, fl = .exc c → ∀ G' H' σ', Stp K C.L G H S σ G' H' S' σ' → C.W (C.cv c) none σ' H')
def tS (K : PySem.W.Frag) (C : Ctx) (f : SS → Option (Fl × SS)) : TS := fun D σ H => ∃ G S, Rel K C.L G H S σ ∧ FinS K C σ G H S D (f S)

section
variable {K : PySem.W.Frag} {C : Ctx} {σ σ1 : L2.St} {G H G1 H1 : Hp} {S S1 : SS} {D : Ends} {o : Option (Fl × SS)}
theorem FinS.rebase (h : FinS K C σ G H S D o) (x : Stp K C.L G H S σ G1 H1 S1 σ1) : FinS K C σ1 G1 H1 S1 D o := by
  obtain ⟨fl, S', e, h1, h2, h3, h4, h5⟩ := h
  exact ⟨fl, S', e, fun z G' H' σ' y => h1 z G' H' σ' (x.trans y), fun z G' H' σ' y => h2 z G' H' σ' (x.trans y), fun z G' H' σ' y => h3 z G' H' σ' (x.trans y),
    fun r z G' H' σ' v y q => h4 r z G' H' σ' v (x.trans y) (q.rebase x), fun c z G' H' σ' y => h5 c z G' H' σ' (x.trans y)⟩
theorem finS_none {P : Prop} (h : FinS K C σ G H S D none) : P := by
  obtain ⟨_, _, e, _⟩ := h; cases e
theorem FinS.now (h : FinS K C σ G H S D (some (.nx, S1))) (x : Stp K C.L G H S σ G1 H1 S1 σ1) : D.nx σ1 H1 := by
  obtain ⟨fl, S', e, h1, _⟩ := h
  cases e
  exact h1 rfl G1 H1 σ1 x
/-- behind an expression -/
theorem FinS.thenS {x : Option (R × SS)} {k : R → SS → Option (Fl × SS)} (h : FinS K C σ G H S D (MX.thenS x k)) :
    Fin K C σ G H S (fun v H1 => ∃ G1 S1 r, Stp K C.L G H S σ G1 H1 S1 σ ∧ RR K H S σ G1 H1 S1 σ r v ∧ FinS K C σ G1 H1 S1 D (k r S1)) x := by
  cases x with
  | none => obtain ⟨_, _, e, _⟩ := h; cases e
  | some w =>
    obtain ⟨r, S1⟩ := w
    cases r with
    | ex c =>
      obtain ⟨fl, S', e, _, _, _, _, h5⟩ := h
      cases e
      exact ⟨.ex c, S1, rfl, (fun c' z G' H' y => by cases z; exact h5 c rfl G' H' σ y), fun _ _ _ _ z => z.elim⟩
    | v d => exact ⟨.v d, S1, rfl, (fun _ z => nomatch z), fun G' H' v y q => ⟨G', S1, _, y, q, FinS.rebase h y⟩⟩
    | fr d => exact ⟨.fr d, S1, rfl, (fun _ z => nomatch z), fun G' H' v y q => ⟨G', S1, _, y, q, FinS.rebase h y⟩⟩
theorem FinS.seq {x : Option (Fl × SS)} {k : SS → Option (Fl × SS)} (h : FinS K C σ G H S D (seqS x k)) :
    FinS K C σ G H S { D with nx := fun σ' H' => ∃ G' S', Rel K C.L G' H' S' σ' ∧ FinS K C σ' G' H' S' D (k S') } x := by
  cases x with
  | none => obtain ⟨_, _, e, _⟩ := h; cases e
  | some w =>
    obtain ⟨fl, S1⟩ := w
    cases fl with
    | nx => exact ⟨.nx, S1, rfl, fun _ G' H' σ' y => ⟨G', S1, y.rel, FinS.rebase h y⟩, (fun z => nomatch z), (fun z => nomatch z), (fun _ z => nomatch z), fun _ z => nomatch z⟩
    | _ =>
      obtain ⟨fl, S', e, h1, h2, h3, h4, h5⟩ := h
      cases e
      exact ⟨_, S1, rfl, (fun z => nomatch z), h2, h3, h4, h5⟩
/-- a loop's turn -/
theorem FinS.turn {x : Option (Fl × SS)} {k : SS → Option (Fl × SS)} (h : FinS K C σ G H S D (match x with | some (.nx, S') => k S' | some (.ct, S') => k S' | some (.brk, S') => some (.nx, S') | o => o)) :
    FinS K C σ G H S { D with nx := fun σ' H' => ∃ G' S', Same G G' ∧ Rel K C.L G' H' S' σ' ∧ FinS K C σ' G' H' S' D (k S'), ct := fun σ' H' => ∃ G' S', Same G G' ∧ Rel K C.L G' H' S' σ' ∧ FinS K C σ' G' H' S' D (k S'), bk := D.nx } x := by
  cases x with
  | none => obtain ⟨_, _, e, _⟩ := h; cases e
  | some w =>
    obtain ⟨fl, S1⟩ := w
    cases fl with
    | nx => exact ⟨.nx, S1, rfl, fun _ G' H' σ' y => ⟨G', S1, y.gm, y.rel, FinS.rebase h y⟩, (fun z => nomatch z), (fun z => nomatch z), (fun _ z => nomatch z), fun _ z => nomatch z⟩
    | ct => exact ⟨.ct, S1, rfl, (fun z => nomatch z), (fun z => nomatch z), fun _ G' H' σ' y => ⟨G', S1, y.gm, y.rel, FinS.rebase h y⟩, (fun _ z => nomatch z), fun _ z => nomatch z⟩
    | brk =>
      refine ⟨.brk, S1, rfl, (fun z => nomatch z), fun _ G' H' σ' y => ?_, (fun z => nomatch z), (fun _ z => nomatch z), fun _ z => nomatch z⟩
      exact FinS.now h y
    | ret r =>
      obtain ⟨fl, S', e, h1, h2, h3, h4, h5⟩ := h
      cases e
      exact ⟨_, S1, rfl, (fun z => nomatch z), (fun z => nomatch z), (fun z => nomatch z), h4, fun _ z => nomatch z⟩
    | exc c =>
      obtain ⟨fl, S', e, h1, h2, h3, h4, h5⟩ := h
      cases e
      exact ⟨_, S1, rfl, (fun z => nomatch z), (fun z => nomatch z), (fun z => nomatch z), (fun _ z => nomatch z), h5⟩
/-- a name takes what an expression gave -/
theorem Rel.assignOwn {L : Lk} {d : MX.D} {a : Addr} (rel : Rel K L G H S σ) (i : Nat) (hc : OwnC K G H d a) (hg : G a = none) (ho : ¬ Own S σ a) :
    Rel K L G H (S.set i (.own 0 d)) (σ.set i (some (.ref a))) ∧ ∀ b, Own (S.set i (.own 0 d)) (σ.set i (some (.ref a))) b → b = a ∨ Own S σ b := by
  have oo : ∀ j b, OwnS (S.set i (.own 0 d)) (σ.set i (some (.ref a))) j b → (j = i ∧ b = a) ∨ (j ≠ i ∧ OwnS S σ j b) := fun j b ⟨t, d', h1, h2⟩ => by
    rcases set_at h1 with ⟨rfl, _, hl⟩ | ⟨hj, h1⟩
    · rw [List.getElem?_set_self (by rw [← rel.len]; exact hl)] at h2
      cases h2
      exact .inl ⟨rfl, rfl⟩
    · rw [List.getElem?_set_ne (Ne.symm hj)] at h2
      exact .inr ⟨hj, t, d', h1, h2⟩
  refine ⟨⟨rel.sub, by rw [List.length_set, List.length_set]; exact rel.len, fun j s h => ?_, fun j k b h1 h2 => ?_, rel.tabs, rel.gt⟩, fun b ⟨j, h⟩ => ?_⟩
  · rcases set_at h with ⟨rfl, rfl, hl⟩ | ⟨hj, h⟩
    · exact ⟨a, by rw [List.getElem?_set_self (by rw [← rel.len]; exact hl)], hc, hg, fun _ z => nomatch z⟩
    · rw [List.getElem?_set_ne (Ne.symm hj)]
      exact rel.at_ j s h
  · rcases oo j b h1 with ⟨ej, eb⟩ | ⟨hj, g1⟩
    · rcases oo k b h2 with ⟨ek, _⟩ | ⟨_, g2⟩
      · rw [ej, ek]
      · exact absurd ⟨k, eb ▸ g2⟩ ho
    · rcases oo k b h2 with ⟨ek, eb⟩ | ⟨_, g2⟩
      · exact absurd ⟨j, eb ▸ g1⟩ ho
      · exact rel.inj j k b g1 g2
  · rcases oo j b h with ⟨_, rfl⟩ | ⟨_, h⟩
    · exact .inl rfl
    · exact .inr ⟨j, h⟩
theorem Stp.assignR {L : Lk} {r : R} {v : V} {s : Sl} {i : Nat} (x : Stp K L G H S σ G1 H1 S1 σ) (q : RR K H S σ G1 H1 S1 σ r v) (e : stR r = some s) : Stp K L G H S σ G1 H1 (S1.set i s) (σ.set i (some v)) := by
  cases r with
  | v d => cases e; exact x.trans (x.rel.assign i q)
  | ex c => cases e
  | fr d =>
    cases e
    obtain ⟨a, rfl, hc, hg, ho, hn⟩ := q
    obtain ⟨r1, r2⟩ := x.rel.assignOwn i hc hg ho
    refine ⟨r1, x.gm, x.keep, x.th, fun b h => ?_⟩
    rcases r2 b h with rfl | h
    · exact hn.symm
    · exact x.ow b h
end

/-- a class of exceptions of the text -/
def ExcG (X : Cx) (C : Ctx) (x : Str) (c : Nat) : Prop := ∃ B newId initId bmB Ca, ExcBaseFacts B newId initId bmB ∧ PySem.W.excIn X.K Ca bmB newId = true ∧ X.mg x = some (.ref Ca) ∧ PySem.W.keepIn X.K (.ref Ca) = true ∧
  PySem.W.subIn X.K (.ref Ca) (.type "BaseException") = some true ∧ PySem.W.typeIn X.K (.ref Ca) = some (.type "type") ∧ C.cv c = .ref Ca
section
variable {X : Cx} {C : Ctx} {a b c e : Expr} {ea eb ec : E} {pos p : Pos} {st : Stmt} {sts : List Stmt}
def SSv (X : Cx) (C : Ctx) (st : Stmt) (s : MX.S) : Prop := PS X st (tS X.K C fun S => ex C.cl s S)
def SSs (X : Cx) (C : Ctx) (sts : List Stmt) (ss : List MX.S) : Prop := PSs X sts (tS X.K C fun S => exs C.cl ss S)
theorem PSs.imp {sts : List Stmt} {t t' : TS} (h : PSs X sts t) (m : ∀ D σ H, t' D σ H → t D σ H) : PSs X sts t' := ⟨fun pins s σ H D I q => h.run pins s σ H D I (m D σ H q)⟩
theorem b_nil : SSs X C [] [] := PSs.imp pss_nil fun D σ H ⟨G, S, rel, f⟩ => by
  unfold exs at f
  exact f.now (Stp.refl rel)
theorem b_cons {s : MX.S} {ss : List MX.S} (h1 : SSv X C st s) (h2 : SSs X C sts ss) : SSs X C (st :: sts) (s :: ss) := by
  refine PSs.imp (pss_cons h1 h2) fun D σ H ⟨G, S, rel, f⟩ => ?_
  unfold exs at f
  exact ⟨G, S, rel, FinS.seq f⟩
theorem x_pass : SSv X C (.Pass pos) .pass := PS.imp ps_pass fun D σ H ⟨G, S, rel, f⟩ => by
  unfold ex at f
  exact f.now (Stp.refl rel)
theorem x_doc {x : Str} {j : Nat} {pos' : Pos} : SSv X C (.Expr (.Constant (.str x) j pos) pos') .pass := PS.imp ps_doc fun D σ H ⟨G, S, rel, f⟩ => by
  unfold ex at f
  exact f.now (Stp.refl rel)
theorem nxS_map {r : R} {S : SS} {i : Nat} {fl : Fl} {S' : SS} (h : nxS ((stR r).map fun s => S.set i s) = some (fl, S')) : ∃ s, stR r = some s ∧ fl = .nx ∧ S' = S.set i s := by
  cases e : stR r with
  | none => rw [e] at h; cases h
  | some s => rw [e] at h; cases h; exact ⟨s, rfl, rfl, rfl⟩
theorem set_read {i : Nat} {x : E} {D : Ends} {σ : L2.St} {H : Hp} (h : tS X.K C (fun S => ex C.cl (.set i x) S) D σ H) : tAsg (tF X.K C fun S => ev C.cl x S) (gName i) D σ H := by
  obtain ⟨G, S, rel, f⟩ := h
  unfold ex at f
  dsimp only at f
  refine ⟨G, S, rel, ?_⟩
  have f0 := f
  obtain ⟨fl, S', e, h1, h2, h3, h4, h5⟩ := f0
  cases q : ev C.cl x S with
  | none => rw [q] at e; cases e
  | some w =>
    obtain ⟨r, S1⟩ := w
    rw [q] at e
    cases r with
    | ex c =>
      cases e
      exact ⟨.ex c, _, q, (fun c' z G' H' y => by cases z; exact h5 c rfl G' H' σ y), fun _ _ _ _ z => z.elim⟩
    | v d =>
      cases e
      exact ⟨.v d, _, q, (fun _ z => nomatch z), fun G' H' v y z => h1 rfl G' H' _ (y.assignR z rfl)⟩
    | fr d =>
      cases e
      exact ⟨.fr d, _, q, (fun _ z => nomatch z), fun G' H' v y z => h1 rfl G' H' _ (y.assignR z rfl)⟩
theorem x_set {i : Nat} {x : Str} {p' : Pos} (hN : X.N.Nodup) (hi : X.N[i]? = some x) (hx : Loc X.env.scope x) (he : SEv X C e ea) (hs : swapsWith e (some (.Name x p')) pos.line X.env = pure false) (hf : X.fn x = true ∨ X.env.scope.names.lookup x = some .local) :
    SSv X C (.Assign [.Name x p'] e pos) (.set i ea) := PS.imp (ps_set hN hi hx he.se hs hf) fun D σ H h => set_read h
/-- name = [..], where the name is stored within the comprehension -/
theorem x_setLc {i : Nat} {y : Str} {py spos : Pos} {tgE iter : Expr} {ifs : List Expr} {scope : Scope} {own : List (Str × Nat)} {tg : Tg} {k : ItK} {args cond : List E} (g : Good X C) (hy : X.N[i]? = some y) (hyl : X.env.scope.names.lookup y = some .local)
    (hsw : swapsWith (.ListComp e [⟨tgE, iter, ifs, 0⟩] scope pos) (some (.Name y py)) spos.line X.env = pure true) (hi : SI X C tgE iter k args) (ok : BlkOk X.N X.env.scope scope own) (ho : own.map (·.2) = tg.slots)
    (hg : ∀ (s : Shared) (H : Hp) (Cc : Addr) (cl : List (Str × Addr)) (fp : List Addr), SG (X.blk s H scope (compEnvC scope cl Cc X.env) fp) tgE tg)
    (ht : ∀ (s : Shared) (H : Hp) (Cc : Addr) (cl : List (Str × Addr)) (fp : List Addr), PTs (X.blk s H scope (compEnvC scope cl Cc X.env) fp) ifs (condO X.K C.nox cond))
    (he : ∀ (s : Shared) (H : Hp) (Cc : Addr) (cl : List (Str × Addr)) (fp : List Addr), PE (X.blk s H scope (compEnvC scope cl Cc X.env) fp) e (tF X.K C.nox fun S => ev C.cl ea S)) (hs : ∀ x, foldedSetIterable iter X.env x = pure x) :
    SSv X C (.Assign [.Name y py] (.ListComp e [⟨tgE, iter, ifs, 0⟩] scope pos) spos) (.set i (.comp ea tg k args cond)) := by
  obtain ⟨wi, hi, hr⟩ := hi
  refine PS.imp (ps_setLc (g := tgR X.K tg) (tt := condO X.K C.nox cond) (te := tF X.K C.nox fun S => ev C.cl ea S) g.calm g.nd hy hyl hsw hi ok hg ht he hs) fun D σ H h => ?_
  have := set_read h
  rw [ho]
  exact comp_read hr this
theorem s_comp {tgE iter : Expr} {ifs : List Expr} {scope : Scope} {own : List (Str × Nat)} {tg : Tg} {k : ItK} {args cond : List E} (g : Good X C) (hi : SI X C tgE iter k args) (ok : BlkOk X.N X.env.scope scope own) (ho : own.map (·.2) = tg.slots)
    (hg : ∀ (s : Shared) (H : Hp) (Cc : Addr) (cl : List (Str × Addr)) (fp : List Addr), SG (X.blk s H scope (compEnvC scope cl Cc X.env) fp) tgE tg)
    (ht : ∀ (s : Shared) (H : Hp) (Cc : Addr) (cl : List (Str × Addr)) (fp : List Addr), PTs (X.blk s H scope (compEnvC scope cl Cc X.env) fp) ifs (condO X.K C.nox cond))
    (he : ∀ (s : Shared) (H : Hp) (Cc : Addr) (cl : List (Str × Addr)) (fp : List Addr), PE (X.blk s H scope (compEnvC scope cl Cc X.env) fp) e (tF X.K C.nox fun S => ev C.cl ea S)) (hs : ∀ x, foldedSetIterable iter X.env x = pure x) :
    SEv X C (.ListComp e [⟨tgE, iter, ifs, 0⟩] scope pos) (.comp ea tg k args cond) := by
  obtain ⟨wi, hi, hr⟩ := hi
  refine ⟨PE.imp (pe_lc (g := tgR X.K tg) (tt := condO X.K C.nox cond) (te := tF X.K C.nox fun S => ev C.cl ea S) g.calm g.nd hi ok hg ht he hs) fun σ H Q h => ?_, fun _ h => nomatch h⟩
  rw [ho]
  exact comp_read hr h
theorem x_exp (he : SEv X C e ea) (hs : swapsWith e none pos.line X.env = pure false) : SSv X C (.Expr e pos) (.exp ea) := by
  refine PS.imp (ps_expr he.se hs) fun D σ H ⟨G, S, rel, f⟩ => ?_
  unfold ex at f
  refine ⟨G, S, rel, (FinS.thenS f).mono fun v H1 ⟨G1, S1, r, y, _, f1⟩ => f1.now (Stp.refl y.rel)⟩
theorem x_retn : SSv X C (.Return none pos) .retn := PS.imp ps_retN fun D σ H ⟨G, S, rel, f⟩ => by
  unfold ex at f
  obtain ⟨fl, S', e, _, _, _, h4, _⟩ := f
  cases e
  exact h4 _ rfl G H σ _ (Stp.refl rel) .non
theorem x_ret (he : SEv X C e ea) : SSv X C (.Return (some e) pos) (.ret ea) := by
  have plain : ∀ {D : Ends} {σ : L2.St} {G H : Hp} {S : SS}, Rel X.K C.L G H S σ → FinS X.K C σ G H S D (thenS (ev C.cl ea S) fun r S => some (.ret r, S)) → (tF X.K C fun S => ev C.cl ea S) σ H D.rt := fun {D σ G H S} rel f => by
    refine ⟨G, S, rel, ?_⟩
    try dsimp only at f
    have f0 := f
    obtain ⟨fl, S', e, _, _, _, h4, h5⟩ := f0
    cases q : ev C.cl ea S with
    | none => rw [q] at e; cases e
    | some w =>
      obtain ⟨r, S1⟩ := w
      rw [q] at e
      cases r with
      | ex c =>
        cases e
        exact ⟨.ex c, _, q, (fun c' z G' H' y => by cases z; exact h5 c rfl G' H' σ y), fun _ _ _ _ z => z.elim⟩
      | v d =>
        cases e
        exact ⟨.v d, _, q, (fun _ z => nomatch z), fun G' H' v y z => h4 _ rfl G' H' σ v y z⟩
      | fr d =>
        cases e
        exact ⟨.fr d, _, q, (fun _ z => nomatch z), fun G' H' v y z => h4 _ rfl G' H' σ v y z⟩
  cases hv : vr ea with
  | none =>
    refine PS.imp (ps_ret he.se) fun D σ H ⟨G, S, rel, f⟩ => ?_
    unfold ex retV at f
    try dsimp only at f
    rw [hv] at f
    exact plain rel f
  | some i =>
    have hx := vr_some hv
    refine PS.imp (ps_ret (he.nm i hx)) fun D σ H ⟨G, S, rel, f⟩ => ?_
    have f0 := f
    unfold ex retV at f
    try dsimp only at f
    rw [hv] at f
    try dsimp only at f
    subst hx
    cases q : S[i]? with
    | none =>
      rw [q] at f
      try dsimp only at f
      unfold ev varR at f
      rw [q] at f
      exact finS_none f
    | some s =>
      rw [q] at f
      cases s with
      | un =>
        try dsimp only at f
        unfold ev varR at f
        rw [q] at f
        exact finS_none f
      | val d =>
        try dsimp only at f
        unfold ev varR at f
        rw [q] at f
        obtain ⟨v, e1, e2⟩ := rel.at_ i _ q
        obtain ⟨fl, S', e, _, _, _, h4, _⟩ := f
        cases e
        exact ⟨v, e1, h4 _ rfl G H σ v (Stp.refl rel) e2⟩
      | own t d =>
        cases t with
        | succ t =>
          try dsimp only at f
          unfold ev varR at f
          rw [q] at f
          exact finS_none f
        | zero =>
          try try dsimp only at f
          obtain ⟨x, e1, own, oc, gx, _⟩ := rel.own q
          obtain ⟨fl, S', e, _, _, _, h4, _⟩ := f
          cases e
          refine ⟨_, e1, h4 _ rfl G H σ _ (rel.forget i) ⟨x, rfl, oc, gx, fun ⟨j, hj⟩ => ?_, .inr ⟨i, own⟩⟩⟩
          obtain ⟨h6, h7⟩ := own_un hj
          exact h7 (rel.inj _ _ _ h6 own)
theorem x_raise {x m : Str} {k j : Nat} {p2 pos' : Pos} (hc : X.calm = true) (tk : L2N.Takes X C.W) (h : ExcG X C x k) (hg : Gl X x) (hdb : (x == ("__debug__" : Str)) = false) : SSv X C (.Raise (some (.Call (.Name x p) [.Constant (.str m) j p2] [] pos)) none pos') (.raise k) := by
  obtain ⟨B, n1, n2, bm, Ca, F, h1, h2, h3, h4, h5, h6⟩ := h
  refine PS.imp (L2N.ps_raise hc tk (L2N.pmk_own F h1 h2 h3 (raises_own h4 h5) hg hdb)) fun D σ H ⟨G, S, rel, f⟩ => ?_
  unfold ex at f
  obtain ⟨fl, S', e, _, _, _, _, h7⟩ := f
  cases e
  have := h7 k rfl G H σ (Stp.refl rel)
  rw [h6] at this
  exact this
theorem thenB_read {D : Ends} {σ : L2.St} {G H : Hp} {S : SS} {o : Option (R × SS)} {ka kb : SS → Option (Fl × SS)} (f : FinS X.K C σ G H S D (thenB o ka kb)) :
    Fin X.K C σ G H S (fun v H1 => ∃ b, v = .bl b ∧ ∃ G1 S1, Stp X.K C.L G H S σ G1 H1 S1 σ ∧ FinS X.K C σ G1 H1 S1 D (if b = true then ka S1 else kb S1)) o := by
  cases o with
  | none => exact finS_none f
  | some w =>
    obtain ⟨r, S1⟩ := w
    cases r with
    | ex c =>
      obtain ⟨fl, S', e, _, _, _, _, h5⟩ := f
      cases e
      exact ⟨.ex c, S1, rfl, (fun c' z G' H' y => by cases z; exact h5 c rfl G' H' σ y), fun _ _ _ _ z => z.elim⟩
    | fr d => exact finS_none f
    | v d =>
      cases d with
      | bl b =>
        refine ⟨_, S1, rfl, (fun _ z => nomatch z), fun G' H' v y q => ?_⟩
        cases q
        refine ⟨b, rfl, G', S1, y, ?_⟩
        cases b with
        | true => exact FinS.rebase f y
        | false => exact FinS.rebase f y
      | _ => exact finS_none f
theorem x_ifs {as bs : List Stmt} {xa xb : List MX.S} (hc : STv X C c ec) (ha : SSs X C as xa) (hb : SSs X C bs xb) : SSv X C (.If c as bs pos) (.ifs ec xa xb) := by
  refine PS.imp (ps_if hc ha hb) fun D σ H ⟨G, S, rel, f⟩ => ?_
  unfold ex at f
  refine ⟨G, S, rel, (thenB_read f).mono fun v H1 ⟨b, ev, G1, S1, y, f1⟩ => ⟨b, ev, ?_⟩⟩
  cases b with
  | true => rw [if_pos rfl] at f1 ⊢; exact ⟨G1, S1, y.rel, f1⟩
  | false => rw [if_neg Bool.false_ne_true] at f1 ⊢; exact ⟨G1, S1, y.rel, f1⟩
theorem x_whl {bs : List Stmt} {xb : List MX.S} (hp : PassesOwn (model X.prog X.w) X.A X.env X.xe) (hc : STv X C c ec) (hb : SSs X C bs xb) : SSv X C (.While c bs [] pos) (.whl ec xb) := by
  refine PS.imp (ps_while hp hc hb) fun D σ H ⟨G, S, rel, f⟩ => ?_
  unfold ex at f
  refine ⟨fun m σ' H' => ∃ G' S', Rel X.K C.L G' H' S' σ' ∧ FinS X.K C σ' G' H' S' D (whlL (fun S => ev C.cl ec S) (fun S => exs C.cl xb S) m S'), ⟨FUEL, G, S, rel, f⟩, fun m σ' H' ⟨G', S', rel', f'⟩ => ?_⟩
  cases m with
  | zero => exact finS_none f'
  | succ m =>
    unfold whlL at f'
    refine ⟨G', S', rel', (thenB_read f').mono fun v H1 ⟨b, ev, G1, S1, y, f1⟩ => ⟨b, ev, ?_⟩⟩
    cases b with
    | false => rw [if_neg Bool.false_ne_true] at f1 ⊢; exact f1.now (Stp.refl y.rel)
    | true =>
      rw [if_pos rfl] at f1 ⊢
      refine ⟨fun σ'' H'' => ∃ G'' S'', Same G1 G'' ∧ Rel X.K C.L G'' H'' S'' σ'' ∧ FinS X.K C σ'' G'' H'' S'' D (whlL (fun S => MX.ev C.cl ec S) (fun S => exs C.cl xb S) m S''), fun σ'' H'' ⟨G'', S'', _, r, f⟩ => ⟨m, Nat.lt_succ_self _, G'', S'', r, f⟩, G1, S1, y.rel, ?_⟩
      have f2 : FinS X.K C σ' G1 H1 S1 D (match exs C.cl xb S1 with | some (.nx, S') => whlL (fun S => MX.ev C.cl ec S) (fun S => exs C.cl xb S) m S' | some (.ct, S') => whlL (fun S => MX.ev C.cl ec S) (fun S => exs C.cl xb S) m S' | some (.brk, S') => some (.nx, S') | o => o) := f1
      exact FinS.turn f2
theorem FinS.thenL {K : PySem.W.Frag} {σ : L2.St} {G H : Hp} {S : SS} {D : Ends} {x : Option (RL × SS)} {k : List MX.D → SS → Option (Fl × SS)} (h : FinS K C σ G H S D (MX.thenL x k)) :
    FinL K C σ G H S (fun vs H1 => ∃ G1 S1 ds, Rel K C.L G1 H1 S1 σ ∧ DenL K G1 ds vs ∧ FinS K C σ G1 H1 S1 D (k ds S1)) x := by
  cases x with
  | none => exact finS_none h
  | some w =>
    obtain ⟨r, S1⟩ := w
    cases r with
    | ex c =>
      obtain ⟨fl, S', e, _, _, _, _, h5⟩ := h
      cases e
      exact ⟨.ex c, S1, rfl, (fun c' z G' H' y => by cases z; exact h5 c rfl G' H' σ y), fun _ z => nomatch z⟩
    | v ds =>
      refine ⟨_, S1, rfl, (fun _ z => nomatch z), fun ds' e G' H' vs y t => ?_⟩
      cases e
      exact ⟨G', S1, ds, y.rel, t, FinS.rebase h y⟩
theorem x_for {tgE iter : Expr} {bs : List Stmt} {xb : List MX.S} {tg : Tg} {k : ItK} {args : List E} (hp : PassesOwn (model X.prog X.w) X.A X.env X.xe) (hc : X.calm = true) (hi : SI X C tgE iter k args) (hg : SG X tgE tg) (hb : SSs X C bs xb) (hs : ∀ x, foldedSetIterable iter X.env x = pure x) :
    SSv X C (.For tgE iter bs [] pos) (.for_ tg k args xb) := by
  obtain ⟨wi, hi, hr⟩ := hi
  refine PS.imp (ps_for hp hc hi hg hb hs) fun D σ H ⟨G, S, rel, f⟩ => ?_
  unfold ex at f
  refine hr σ G H S _ rel ((FinS.thenL f).mono fun vs H1 ⟨G1, S1, ds, r1, t, f1⟩ => ?_)
  cases e : itD k ds with
  | none => rw [e] at f1; exact finS_none f1
  | some xs =>
  rw [e] at f1
  dsimp only at f1
  refine ⟨G1, ds, xs, r1.sub, t, e, fun J wk => ?_⟩
  obtain ⟨Gd, Y, W, hG, hY⟩ := wk
  refine for_it W (fun i σ' H' => ∃ G' S', Same G1 G' ∧ Rel X.K C.L G' H' S' σ' ∧ FinS X.K C σ' G' H' S' D (forL (fun x S => match tgS S tg x with | some S1 => exs C.cl xb S1 | none => none) (xs.drop i) S'))
    ⟨G1, S1, Same.refl _, r1, f1⟩ (fun i σ' H' _ ⟨G', S', m, r, _⟩ => hG G' H' m r.sub) ?_ ?_
  · rintro i x σ2 H2 H3 hlt ⟨G', S', m, r, run⟩ y
    obtain ⟨d, ed, hx⟩ := hY i H2 x H3 hlt y G' m r.sub
    obtain ⟨G3, y3, dx⟩ : ∃ G3, Stp X.K C.L G' H2 S' σ2 G3 H3 S' σ2 ∧ Den X.K G3 d x := by
      rcases hx with ⟨rfl, hx⟩ | ⟨T, ws, hT, rfl, hx⟩
      · exact ⟨G', Stp.refl r, hx⟩
      · exact ⟨_, r.grow hT, hx⟩
    have dr : xs.drop i = d :: xs.drop (i + 1) := by
      rw [List.drop_eq_getElem_cons hlt]
      rw [List.getElem?_eq_getElem hlt] at ed
      rw [Option.some.inj ed]
    rw [dr] at run
    unfold forL at run
    cases eT : tgS S' tg d with
    | none => rw [eT] at run; exact finS_none run
    | some S5 =>
      rw [eT] at run
      dsimp only at run
      refine tg_read y3.rel dx eT fun σ3 y5 w5 => ?_
      have y35 := y3.trans y5
      have run2 := FinS.rebase run y35
      have run3 := FinS.turn run2
      refine ⟨G3, S5, y5.rel, ?_⟩
      obtain ⟨fl, S6, e6, h1, h2, h3, h4, h5⟩ := run3
      have mm : Same G1 G3 := m.trans y35.gm
      exact ⟨fl, S6, e6, fun z G' H' σ' y => let ⟨G'', S'', a1, a2, a3⟩ := h1 z G' H' σ' y; ⟨G'', S'', mm.trans a1, a2, a3⟩, h2, fun z G' H' σ' y => let ⟨G'', S'', a1, a2, a3⟩ := h3 z G' H' σ' y; ⟨G'', S'', mm.trans a1, a2, a3⟩, h4, h5⟩
  · rintro σ2 H2 ⟨G', S', m, r, run⟩
    rw [List.drop_of_length_le (Nat.le_refl _)] at run
    exact run.now (Stp.refl r)
end
end MX

set_option Elab.async false
set_option linter.all false
set_option maxRecDepth 100000
set_option autoImplicit false
/-! MX9: several targets; names; blocks; defs. -/
namespace MX
open PySem PySem.Spec PyProof.Rows L2

/-! ### a, b = e, f -/
section
variable {K : PySem.W.Frag} {L : Lk} {G G1 G2 H H1 H2 : Hp} {S S1 S2 : SS} {σ σ1 σ2 : L2.St}
theorem Stp.assignR1 {r : R} {v : V} {s : Sl} {i : Nat} (x : Stp K L G H S σ G1 H1 S1 σ1) (q : RR K H S σ G1 H1 S1 σ1 r v) (e : stR r = some s) : Stp K L G H S σ G1 H1 (S1.set i s) (σ1.set i (some v)) := by
  cases r with
  | v d => cases e; exact x.trans (x.rel.assign i q)
  | ex c => cases e
  | fr d =>
    cases e
    obtain ⟨a, rfl, hc, hg, ho, hn⟩ := q
    obtain ⟨r1, r2⟩ := x.rel.assignOwn i hc hg ho
    refine ⟨r1, x.gm, x.keep, x.th, fun b h => ?_⟩
    rcases r2 b h with rfl | h
    · exact hn.symm
    · exact x.ow b h
/-- a value on its way into a slot -/
def SV (K : PySem.W.Frag) (H : Hp) (S : SS) (σ : L2.St) (G' H' : Hp) (S' : SS) (σ' : L2.St) : Sl → V → Prop
  | .val d, v => Den K G' d v
  | .own 0 d, v => ∃ a, v = .ref a ∧ OwnC K G' H' d a ∧ G' a = none ∧ ¬ Own S' σ' a ∧ (H a = none ∨ Own S σ a)
  | _, _ => False
def Hld (rs : List Sl) (vs : List V) (a : Addr) : Prop := ∃ (i : Nat) (d : D), rs[i]? = some (.own 0 d) ∧ vs[i]? = some (.ref a)
def SVs (K : PySem.W.Frag) (H : Hp) (S : SS) (σ : L2.St) (G' H' : Hp) (S' : SS) (σ' : L2.St) : List Sl → List V → Prop
  | [], [] => True
  | s :: rs, v :: vs => SV K H S σ G' H' S' σ' s v ∧ SVs K H S σ G' H' S' σ' rs vs ∧ ∀ a d, s = .own 0 d → v = .ref a → ¬ Hld rs vs a
  | _, _ => False
def setV (σ : L2.St) : List Nat → List V → L2.St
  | i :: is, v :: vs => setV (σ.set i (some v)) is vs
  | _, _ => σ
theorem SVs.hld : ∀ {rs : List Sl} {vs : List V} {a : Addr}, SVs K H S σ G1 H1 S1 σ1 rs vs → Hld rs vs a → ¬ Own S1 σ1 a ∧ (H a = none ∨ Own S σ a)
  | [], _, _, _, ⟨i, d, e, _⟩ => by simp at e
  | s :: rs, [], _, h, _ => h.elim
  | s :: rs, v :: vs, a, ⟨h1, h2, _⟩, ⟨i, d, e1, e2⟩ => by
    cases i with
    | zero =>
      simp at e1 e2
      subst e1 e2
      obtain ⟨b, eb, _, _, ho, hn⟩ := h1
      cases eb
      exact ⟨ho, hn⟩
    | succ i => exact SVs.hld h2 ⟨i, d, by simpa using e1, by simpa using e2⟩
/-- other slots are written: what is on its way stands -/
theorem SVs.keep {S2 : SS} {σ2 : L2.St} : ∀ {rs : List Sl} {vs : List V}, SVs K H S σ G1 H1 S1 σ1 rs vs → (∀ a, Hld rs vs a → ¬ Own S2 σ2 a) → SVs K H S σ G1 H1 S2 σ2 rs vs
  | [], [], _, _ => trivial
  | [], _ :: _, h, _ => h.elim
  | s :: rs, [], h, _ => h.elim
  | s :: rs, v :: vs, ⟨h1, h2, h3⟩, k => by
    refine ⟨?_, SVs.keep h2 fun a ⟨i, d, e1, e2⟩ => k a ⟨i + 1, d, by simpa using e1, by simpa using e2⟩, h3⟩
    cases s with
    | un => exact h1
    | val d => exact h1
    | own t d =>
      cases t with
      | succ t => exact h1
      | zero =>
        obtain ⟨b, eb, c1, c2, c3, c4⟩ := h1
        subst eb
        exact ⟨b, rfl, c1, c2, k b ⟨0, d, rfl, rfl⟩, c4⟩
theorem par_set : ∀ (is : List Nat) (rs : List Sl) (vs : List V) {S1 S2 : SS} {σ1 : L2.St}, Stp K L G H S σ G1 H1 S1 σ1 → SVs K H S σ G1 H1 S1 σ1 rs vs → setP S1 is rs = some S2 → Stp K L G H S σ G1 H1 S2 (setV σ1 is vs)
  | [], [], vs, _, _, _, x, h, e => by
    cases e
    cases vs <;> exact x
  | [], _ :: _, _, _, _, _, _, _, e => by cases e
  | _ :: _, [], _, _, _, _, _, _, e => by cases e
  | i :: is, s :: rs, [], _, _, _, _, h, _ => h.elim
  | i :: is, s :: rs, v :: vs, S1, S2, σ1, x, ⟨h1, h2, h3⟩, e => by
    have e' : setP (S1.set i s) is rs = some S2 := e
    cases s with
    | un => exact h1.elim
    | val d =>
      have y := x.trans (x.rel.assign i h1)
      refine par_set is rs vs y (SVs.keep h2 fun a ha => ?_) e'
      intro ⟨j, t, d', z1, z2⟩
      rcases set_at z1 with ⟨_, z, _⟩ | ⟨hj, z1⟩
      · cases z
      · rw [List.getElem?_set_ne (Ne.symm hj)] at z2
        exact (SVs.hld h2 ha).1 ⟨j, t, d', z1, z2⟩
    | own t d =>
      cases t with
      | succ t => exact h1.elim
      | zero =>
        have hq : RR K H S σ G1 H1 S1 σ1 (.fr d) v := h1
        have y := x.assignR1 (i := i) hq rfl
        refine par_set is rs vs y (SVs.keep h2 fun a ha => ?_) e'
        obtain ⟨b, eb, c1, c2, c3, c4⟩ := h1
        subst eb
        intro w
        rcases (x.rel.assignOwn i c1 c2 c3).2 a w with z | z
        · subst z
          exact h3 a d rfl rfl ha
        · exact (SVs.hld h2 ha).1 z
end
section
variable {X : Cx} {C : Ctx} {a b c e : Expr} {ea eb ec : E} {pos p : Pos}
def FinP (K : PySem.W.Frag) (C : Ctx) (σ : L2.St) (G H : Hp) (S : SS) (Q : List V → Hp → Prop) (o : Option (RP × SS)) : Prop :=
  ∃ r S', o = some (r, S') ∧
    (∀ c, r = .ex c → ∀ G' H', Stp K C.L G H S σ G' H' S' σ → C.W (C.cv c) none σ H') ∧
    (∀ rs, r = .v rs → ∀ G' H' vs, Stp K C.L G H S σ G' H' S' σ → SVs K H S σ G' H' S' σ rs vs → Q vs H')
def tP (K : PySem.W.Frag) (C : Ctx) (es : List E) : TA := fun σ H Q => ∃ G S, Rel K C.L G H S σ ∧ FinP K C σ G H S Q (evP C.cl es S)
def SPs (X : Cx) (C : Ctx) (es : List Expr) (xs : List E) : Prop := PA X es (tP X.K C xs)
theorem pl_nil : SPs X C [] [] := PA.imp pa_nil fun σ H Q ⟨G, S, rel, r, S', e, _, h2⟩ => by
  unfold evP at e
  cases e
  exact h2 [] rfl G H [] (Stp.refl rel) trivial
theorem pl_step {K : PySem.W.Frag} {σ : L2.St} {G H G1 H1 : Hp} {S S1 : SS} {Q : List V → Hp → Prop} {s : Sl} {v : V} {k : Option (RP × SS)}
    (x : Stp K C.L G H S σ G1 H1 S1 σ) (sv : SV K H S σ G1 H1 S1 σ s v) (f : FinP K C σ G H S Q (consP s k)) : FinP K C σ G1 H1 S1 (fun vs H2 => Q (v :: vs) H2) k := by
  obtain ⟨r, S', e, h1, h2⟩ := f
  cases k with
  | none => cases e
  | some w =>
    obtain ⟨r', S2⟩ := w
    cases r' with
    | ex c =>
      cases e
      exact ⟨.ex c, _, rfl, fun c' z G' H' y => h1 c' z G' H' (x.trans y), fun _ z => nomatch z⟩
    | v rs =>
      cases e
      refine ⟨.v rs, _, rfl, (fun _ z => nomatch z), fun rs' z G' H' vs y svs => ?_⟩
      cases z
      have xy := x.trans y
      -- the items behind, seen from the start
      have conv : ∀ {ps : List Sl} {us : List V}, SVs K H1 S1 σ G' H' S' σ ps us → SVs K H S σ G' H' S' σ ps us := by
        intro ps
        induction ps with
        | nil => intro us h; cases us with
          | nil => trivial
          | cons _ _ => exact h.elim
        | cons p ps ih =>
          intro us h
          cases us with
          | nil => exact h.elim
          | cons u us =>
            obtain ⟨a1, a2, a3⟩ := h
            refine ⟨?_, ih a2, a3⟩
            cases p with
            | un => exact a1
            | val d => exact a1
            | own t d =>
              cases t with
              | succ t => exact a1
              | zero =>
                obtain ⟨b, eb, c1, c2, c3, c4⟩ := a1
                exact ⟨b, eb, c1, c2, c3, x.new c4⟩
      refine h2 (s :: rs) rfl G' H' (v :: vs) xy ⟨?_, conv svs, ?_⟩
      · cases s with
        | un => exact sv
        | val d => exact Den.mono y.gm sv
        | own t d =>
          cases t with
          | succ t => exact sv
          | zero =>
            obtain ⟨b, eb, ⟨xs, ws, c0, c1, c11⟩, c2, c3, c4⟩ := sv
            obtain ⟨k1, k2⟩ := y.keep b _ nt_lst c1 c3
            refine ⟨b, eb, ⟨xs, ws, c0, k1, DenL.mono y.gm c11⟩, k2.trans c2, fun z => ?_, c4⟩
            rcases y.ow b z with z | z
            · exact c3 z
            · rw [c1] at z; cases z
      · intro b d es ev hh
        subst es ev
        obtain ⟨b', eb, ⟨xs, ws, c0, c1, c11⟩, c2, c3, c4⟩ := sv
        cases eb
        obtain ⟨_, n⟩ := SVs.hld svs hh
        rcases n with n | n
        · rw [c1] at n; cases n
        · exact c3 n
theorem pl_cons {es : List Expr} {xs : List E} (ha : SEv X C a ea) (hr : SPs X C es xs) (hs : starEach (a :: es) X.env = (false, eval a X.env) :: starEach es X.env) : SPs X C (a :: es) (ea :: xs) := by
  refine PA.imp (pa_cons ha.se hr hs) fun σ H Q ⟨G, S, rel, f⟩ => ?_
  unfold evP at f
  refine ⟨G, S, rel, ?_⟩
  cases q : ev C.cl ea S with
  | none => rw [q] at f; obtain ⟨_, _, e, _⟩ := f; cases e
  | some w =>
    obtain ⟨r, S1⟩ := w
    rw [q] at f
    cases r with
    | ex c =>
      obtain ⟨r, S', e, h1, _⟩ := f
      cases e
      exact ⟨.ex c, _, q, (fun c' z G' H' y => by cases z; exact h1 c rfl G' H' y), fun _ _ _ _ z => z.elim⟩
    | v d => exact ⟨.v d, _, q, (fun _ z => nomatch z), fun G' H' v y z => ⟨G', S1, y.rel, pl_step (s := .val d) y z f⟩⟩
    | fr d => exact ⟨.fr d, _, q, (fun _ z => nomatch z), fun G' H' v y z => ⟨G', S1, y.rel, pl_step (s := .own 0 d) y z f⟩⟩
theorem par_read {is : List Nat} {xs : List E} {D : Ends} {σ : L2.St} {H : Hp} (h : tS X.K C (fun S => ex C.cl (.par is xs) S) D σ H) : tP X.K C xs σ H fun vs H1 => vs.length = is.length ∧ D.nx (setV σ is vs) H1 := by
  obtain ⟨G, S, rel, f⟩ := h
  unfold ex at f
  dsimp only at f
  refine ⟨G, S, rel, ?_⟩
  cases q : evP C.cl xs S with
  | none => rw [q] at f; exact finS_none f
  | some w =>
    obtain ⟨r, S1⟩ := w
    rw [q] at f
    cases r with
    | ex c =>
      obtain ⟨fl, S', e, h1, h2, h3, h4, h5⟩ := f
      cases e
      exact ⟨.ex c, _, rfl, (fun c' z G' H' y => by cases z; exact h5 c rfl G' H' σ y), fun _ z => nomatch z⟩
    | v rs =>
      refine ⟨.v rs, _, rfl, (fun _ z => nomatch z), fun rs' z G' H' vs y svs => ?_⟩
      cases z
      dsimp only at f
      cases e2 : setP S1 is rs with
      | none => rw [e2] at f; exact finS_none f
      | some S2 =>
        rw [e2] at f
        have l1 : ∀ (is : List Nat) (rs : List Sl) (S1 : SS), setP S1 is rs = some S2 → is.length = rs.length := by
          intro is
          induction is with
          | nil => intro rs S1 e; cases rs with
            | nil => rfl
            | cons _ _ => cases e
          | cons i is ih => intro rs S1 e; cases rs with
            | nil => cases e
            | cons r rs => exact congrArg (· + 1) (ih rs _ e)
        have l2 : ∀ (rs : List Sl) (vs : List V), SVs X.K H S σ G' H' S1 σ rs vs → vs.length = rs.length := by
          intro rs
          induction rs with
          | nil => intro vs h; cases vs with
            | nil => rfl
            | cons _ _ => exact h.elim
          | cons r rs ih => intro vs h; cases vs with
            | nil => exact h.elim
            | cons v vs => exact congrArg (· + 1) (ih vs h.2.1)
        refine ⟨(l2 rs vs svs).trans (l1 is rs S1 e2).symm, ?_⟩
        exact FinS.now f (par_set is rs vs y svs e2)
theorem x_par2 {i j : Nat} {x y : Str} {xs : List E} {px py pt : Pos} {kt k2 pt2} (g : Good X C) (hi : X.N[i]? = some x) (hj : X.N[j]? = some y) (hij : i ≠ j) (hx : X.env.scope.names.lookup x = some .local) (hy : X.env.scope.names.lookup y = some .local) (ha : SPs X C [a, b] xs)
    (hw : swappedStores [.Tuple [.Name x px, .Name y py] kt pt] (.Tuple [a, b] k2 pt2) X.env = pure (some [x, y]))
    (hs : swapsWithSole [.Tuple [.Name x px, .Name y py] kt pt] (.Tuple [a, b] k2 pt2) pos.line X.env = pure false) :
    SSv X C (.Assign [.Tuple [.Name x px, .Name y py] kt pt] (.Tuple [a, b] k2 pt2) pos) (.par [i, j] xs) :=
  PS.imp (ps_par g.calm g.nd hi hj hij hx hy ha hw hs) fun D σ H h => by
    obtain ⟨G, S, rel, r, S', e, h1, h2⟩ := par_read h
    refine ⟨G, S, rel, r, S', e, h1, fun rs er G' H' vs y svs => ?_⟩
    obtain ⟨l, q⟩ := h2 rs er G' H' vs y svs
    match vs, l with
    | [v, w], _ => exact ⟨v, w, rfl, q⟩
theorem x_par3 {i j l : Nat} {x y z : Str} {xs : List E} {px py pz pt : Pos} {kt k2 pt2} (g : Good X C) (hi : X.N[i]? = some x) (hj : X.N[j]? = some y) (hl : X.N[l]? = some z) (hij : i ≠ j) (hil : i ≠ l) (hjl : j ≠ l)
    (hx : X.env.scope.names.lookup x = some .local) (hy : X.env.scope.names.lookup y = some .local) (hz : X.env.scope.names.lookup z = some .local) (ha : SPs X C [a, b, c] xs)
    (hw : swappedStores [.Tuple [.Name x px, .Name y py, .Name z pz] kt pt] (.Tuple [a, b, c] k2 pt2) X.env = pure (some [x, y, z]))
    (hs : swapsWithSole [.Tuple [.Name x px, .Name y py, .Name z pz] kt pt] (.Tuple [a, b, c] k2 pt2) pos.line X.env = pure false) :
    SSv X C (.Assign [.Tuple [.Name x px, .Name y py, .Name z pz] kt pt] (.Tuple [a, b, c] k2 pt2) pos) (.par [i, j, l] xs) :=
  PS.imp (ps_par3 g.calm g.nd hi hj hl hij hil hjl hx hy hz ha hw hs) fun D σ H h => by
    obtain ⟨G, S, rel, r, S', e, h1, h2⟩ := par_read h
    refine ⟨G, S, rel, r, S', e, h1, fun rs er G' H' vs y svs => ?_⟩
    obtain ⟨l, q⟩ := h2 rs er G' H' vs y svs
    match vs, l with
    | [v, w, u], _ => exact ⟨v, w, u, rfl, q⟩
/-- a tuple's or a list's items to the targets -/
theorem pg_both {es : List Expr} {kk : Nat} {t : TGs} {n : Nat} {pt : Pos} (hc : X.calm = true) (h : PGs X es t) (hn : (assignEach es X.env).length = n) (hst : (assignEach es X.env).findIdx? (·.1) = none) :
    PG X (.Tuple es kk pt) (fun v σ H Q => gTup X.K n t v σ H Q ∨ gLst X.K n t v σ H Q) :=
  ⟨fun pins s σ H v u Q I r hw => hw.elim ((pg_tup hc h hn hst).run pins s σ H v u Q I r) ((pg_lst hc h hn hst).run pins s σ H v u Q I r)⟩
/-- a, b = e -/
theorem x_unp {tgs : List Expr} {is : List Nat} {kk : Nat} {pt : Pos} (g : Good X C) (he : SEv X C e ea) (ht : SGs X tgs is) (hn : (assignEach tgs X.env).length = is.length) (hst : (assignEach tgs X.env).findIdx? (·.1) = none)
    (hs : swapsWithSole [.Tuple tgs kk pt] e pos.line X.env = pure false) (hw : swappedStores [.Tuple tgs kk pt] e X.env = pure none) (h1 : (assignEach [.Tuple tgs kk pt] X.env).map (·.2) = [assign (.Tuple tgs kk pt) X.env]) :
    SSv X C (.Assign [.Tuple tgs kk pt] e pos) (.unp is ea) := by
  refine PS.imp (ps_asg he.se (pg_both (kk := kk) (pt := pt) g.calm ht hn hst) hs hw h1) fun D σ H ⟨G, S, rel, f⟩ => ?_
  unfold ex at f
  refine ⟨G, S, rel, (FinS.thenS f).mono fun v H1 ⟨G1, S1, r, y, q, f1⟩ => ?_⟩
  cases r with
  | ex c => exact q.elim
  | fr d =>
    obtain ⟨b, e0, ⟨xs, vs, e3, e4, e5⟩, _⟩ := q
    subst e3
    unfold unpR at f1
    dsimp only at f1
    cases e2 : setsS S1 is xs with
    | none => rw [e2] at f1; exact finS_none f1
    | some S2 =>
      rw [e2] at f1
      exact .inr ⟨b, vs, e0, .inl (.inl e4), by rw [← e5.length, setsS_len is xs S1 S2 e2], gs_read is xs vs S1 σ S2 _ y.rel e5 e2 fun σ' z _ => f1.now z⟩
  | v d =>
    cases d with
    | tup ds =>
      unfold unpR at f1
      dsimp only at f1
      cases e2 : setsS S1 is ds with
      | none => rw [e2] at f1; exact finS_none f1
      | some S2 =>
        rw [e2] at f1
        exact .inl (tg_read (tg := .tp is) (d := .tup ds) y.rel q e2 fun σ' z _ => f1.now z)
    | lst ds =>
      unfold unpR at f1
      dsimp only at f1
      cases e2 : setsS S1 is ds with
      | none => rw [e2] at f1; exact finS_none f1
      | some S2 =>
        rw [e2] at f1
        have q' : Den X.K G1 (.lst ds) v := q
        cases q' with
        | @lst _ b vs _ hp td => exact .inr ⟨b, vs, rfl, .inl (.inl (y.rel.sub _ _ hp)), by rw [← td.length, setsS_len is ds S1 S2 e2], gs_read is ds vs S1 σ S2 _ y.rel td e2 fun σ' z _ => f1.now z⟩
    | _ => exact finS_none f1
/-! ### names, constants -/
theorem s_nm (i : Nat) {x : Str} (hN : X.N[i]? = some x := by rfl) (hv : Vis X.env.scope x := by first | exact Or.inl rfl | exact Or.inr (Or.inl rfl) | exact Or.inr (Or.inr rfl)) (hd : (x == ("__debug__" : Str)) = false := by decide) (hcd : (x == ("__classdict__" : Str)) = false := by decide) : SEv X C (.Name x pos) (.var i) :=
  ⟨s_var (pe_var hN hv hd hcd), fun j h => by cases h; exact pe_var hN hv hd hcd⟩
theorem s_of {d : D} {v : V} (h : PE X e (tC v)) (hd : ∀ G, Den X.K G d v) : SEv X C e (.cst d) := ⟨s_cst h hd, fun _ z => nomatch z⟩
theorem s_int {i : Int} {j : Nat} : SEv X C (.Constant (.int i) j pos) (.cst (.int i)) := s_of pe_int fun _ => .int i
theorem s_bl {i : Bool} {j : Nat} : SEv X C (.Constant (.bool i) j pos) (.cst (.bl i)) := s_of pe_bl fun _ => .bl i
theorem s_str {i : Str} {j : Nat} : SEv X C (.Constant (.str i) j pos) (.cst (.str i)) := s_of pe_str fun _ => .str i
theorem s_non {j : Nat} : SEv X C (.Constant .none j pos) (.cst .non) := s_of pe_non fun _ => .non
/-- a constant of the module -/
def KG (X : Cx) (x : Str) (d : D) : Prop := ∃ u v, X.mg x = some u ∧ RelV v u ∧ ∀ G, Den X.K G d v
theorem s_glob {x : Str} {d : D} (h : KG X x d) (hg : Gl X x) (hd : (x == ("__debug__" : Str)) = false := by decide) : SEv X C (.Name x pos) (.cst d) := by
  obtain ⟨u, v, h1, h2, h3⟩ := h
  exact s_of (pe_glob hg h1 h2 hd) h3
def St1 (X : Cx) (a : Expr) : Prop := ∀ r, starEach (a :: r) X.env = (false, eval a X.env) :: starEach r X.env
theorem stars1 {a1 : Expr} (h1 : ∀ r, starEach (a1 :: r) X.env = (false, eval a1 X.env) :: starEach r X.env) : ∀ y ∈ [a1], ∀ r, starEach (y :: r) X.env = (false, eval y X.env) :: starEach r X.env := by
  intro y hy
  simp only [List.mem_cons, List.not_mem_nil, or_false] at hy
  subst hy; exact h1
theorem stars2 {a1 a2 : Expr} (h1 : ∀ r, starEach (a1 :: r) X.env = (false, eval a1 X.env) :: starEach r X.env) (h2 : ∀ r, starEach (a2 :: r) X.env = (false, eval a2 X.env) :: starEach r X.env) : ∀ y ∈ [a1, a2], ∀ r, starEach (y :: r) X.env = (false, eval y X.env) :: starEach r X.env := by
  intro y hy
  simp only [List.mem_cons, List.not_mem_nil, or_false] at hy
  rcases hy with rfl | rfl
  · exact h1
  · exact h2
theorem stars3 {a1 a2 a3 : Expr} (h1 : ∀ r, starEach (a1 :: r) X.env = (false, eval a1 X.env) :: starEach r X.env) (h2 : ∀ r, starEach (a2 :: r) X.env = (false, eval a2 X.env) :: starEach r X.env) (h3 : ∀ r, starEach (a3 :: r) X.env = (false, eval a3 X.env) :: starEach r X.env) : ∀ y ∈ [a1, a2, a3], ∀ r, starEach (y :: r) X.env = (false, eval y X.env) :: starEach r X.env := by
  intro y hy
  simp only [List.mem_cons, List.not_mem_nil, or_false] at hy
  rcases hy with rfl | rfl | rfl
  · exact h1
  · exact h2
  · exact h3
theorem stars4 {a1 a2 a3 a4 : Expr} (h1 : ∀ r, starEach (a1 :: r) X.env = (false, eval a1 X.env) :: starEach r X.env) (h2 : ∀ r, starEach (a2 :: r) X.env = (false, eval a2 X.env) :: starEach r X.env) (h3 : ∀ r, starEach (a3 :: r) X.env = (false, eval a3 X.env) :: starEach r X.env) (h4 : ∀ r, starEach (a4 :: r) X.env = (false, eval a4 X.env) :: starEach r X.env) : ∀ y ∈ [a1, a2, a3, a4], ∀ r, starEach (y :: r) X.env = (false, eval y X.env) :: starEach r X.env := by
  intro y hy
  simp only [List.mem_cons, List.not_mem_nil, or_false] at hy
  rcases hy with rfl | rfl | rfl | rfl
  · exact h1
  · exact h2
  · exact h3
  · exact h4
theorem stars5 {a1 a2 a3 a4 a5 : Expr} (h1 : ∀ r, starEach (a1 :: r) X.env = (false, eval a1 X.env) :: starEach r X.env) (h2 : ∀ r, starEach (a2 :: r) X.env = (false, eval a2 X.env) :: starEach r X.env) (h3 : ∀ r, starEach (a3 :: r) X.env = (false, eval a3 X.env) :: starEach r X.env) (h4 : ∀ r, starEach (a4 :: r) X.env = (false, eval a4 X.env) :: starEach r X.env) (h5 : ∀ r, starEach (a5 :: r) X.env = (false, eval a5 X.env) :: starEach r X.env) : ∀ y ∈ [a1, a2, a3, a4, a5], ∀ r, starEach (y :: r) X.env = (false, eval y X.env) :: starEach r X.env := by
  intro y hy
  simp only [List.mem_cons, List.not_mem_nil, or_false] at hy
  rcases hy with rfl | rfl | rfl | rfl | rfl
  · exact h1
  · exact h2
  · exact h3
  · exact h4
  · exact h5
theorem stars6 {a1 a2 a3 a4 a5 a6 : Expr} (h1 : ∀ r, starEach (a1 :: r) X.env = (false, eval a1 X.env) :: starEach r X.env) (h2 : ∀ r, starEach (a2 :: r) X.env = (false, eval a2 X.env) :: starEach r X.env) (h3 : ∀ r, starEach (a3 :: r) X.env = (false, eval a3 X.env) :: starEach r X.env) (h4 : ∀ r, starEach (a4 :: r) X.env = (false, eval a4 X.env) :: starEach r X.env) (h5 : ∀ r, starEach (a5 :: r) X.env = (false, eval a5 X.env) :: starEach r X.env) (h6 : ∀ r, starEach (a6 :: r) X.env = (false, eval a6 X.env) :: starEach r X.env) : ∀ y ∈ [a1, a2, a3, a4, a5, a6], ∀ r, starEach (y :: r) X.env = (false, eval y X.env) :: starEach r X.env := by
  intro y hy
  simp only [List.mem_cons, List.not_mem_nil, or_false] at hy
  rcases hy with rfl | rfl | rfl | rfl | rfl | rfl
  · exact h1
  · exact h2
  · exact h3
  · exact h4
  · exact h5
  · exact h6
theorem se_of (h : SEv X C e ea) : PE X e (tF X.K C fun S => ev C.cl ea S) := h.se
theorem w_pt (h : SWv X C e ea) : STv X C e ea := h.pt
/-! ### blocks -/
theorem Good.blk {s : Shared} {H : Hp} {scope : Scope} {cenv : Env} {fp : List Addr} (g : Good X C) : Good (X.blk s H scope cenv fp) C.nox := ⟨g.nd, g.calm, g.hu, g.bl⟩
theorem FnG.blk {s : Shared} {H : Hp} {scope : Scope} {cenv : Env} {fp : List Addr} {x : Str} {f : Nat} (g : FnG X C x f) : FnG (X.blk s H scope cenv fp) C.nox x f := g
theorem KG.blk {s : Shared} {H : Hp} {scope : Scope} {cenv : Env} {fp : List Addr} {x : Str} {d : D} (g : KG X x d) : KG (X.blk s H scope cenv fp) x d := g
theorem takes_nox : L2N.Takes X C.nox.W := fun _ _ x => by
  obtain ⟨_, _, _, _, _, _, _, _, _, _, _, _, _, _, _, _, z⟩ := x
  exact z.elim
theorem cond_nil : PTs X [] (condO X.K C []) := pts_nil
theorem cond_one (h : STv X C c ec) : PTs X [c] (condO X.K C [ec]) := pts_one h
end
/-! ### defs -/
/-- how a def's run is read -/
theorem fn_read {K : PySem.W.Frag} {cv : Nat → Value} {T : List (Addr × Str)} {f n : Nat} {defs : Nat → Option Df} {d : Df} {vs : List V} {H : Hp} {Q : VK} {E : XK} {N : List Str} (hd : defs f = some d) (hN : N.length = d.ns) (hle : d.np ≤ d.ns)
    (h : FnS (callN defs (n + 1)) K cv T f vs H Q E) :
    vs.length = d.np ∧ ∃ L : Lk, L.T = T ∧ (tS K ⟨callN defs n, L, fun c d _ H => E c d H, cv⟩ fun S => exs (callN defs n) d.body S) { nx := fun _ H' => Q .non H', rt := Q } (L2.start N vs) H := by
  obtain ⟨G, L, as, r, S', hT, rel, ht, hrun, hx, hq⟩ := h
  have e : (callN defs (n + 1)).run f as = runD (callN defs n) d as := by
    show (match defs f with | some d => runD (callN defs n) d as | none => none) = _
    rw [hd]
  rw [e] at hrun
  unfold runD at hrun
  split at hrun
  case isFalse => cases hrun
  case isTrue hl =>
  have hlen : vs.length = d.np := by
    have := rel.len
    rw [List.length_map] at this
    rw [← this, hl]
  have hst : L2.start N vs = vs.map some ++ List.replicate (d.ns - d.np) none := by
    unfold L2.start
    rw [hN, hlen]
  have lv : as.length = (vs.map some).length := rel.len
  have own1 : ∀ i b, OwnS (as ++ List.replicate (d.ns - d.np) .un) (L2.start N vs) i b → OwnS as (vs.map some) i b := fun i b ⟨t, dd, h1, h2⟩ => by
    by_cases q : i < as.length
    · rw [List.getElem?_append_left q] at h1
      rw [hst, List.getElem?_append_left (by rw [← lv]; exact q)] at h2
      exact ⟨t, dd, h1, h2⟩
    · rw [List.getElem?_append_right (by omega), List.getElem?_replicate] at h1
      split at h1 <;> cases h1
  have own2 : ∀ i b, OwnS as (vs.map some) i b → OwnS (as ++ List.replicate (d.ns - d.np) .un) (L2.start N vs) i b := fun i b ⟨t, dd, h1, h2⟩ => by
    have q : i < as.length := by
      rcases Nat.lt_or_ge i as.length with q | q
      · exact q
      · rw [List.getElem?_eq_none q] at h1; cases h1
    refine ⟨t, dd, ?_, ?_⟩
    · rw [List.getElem?_append_left q]; exact h1
    · rw [hst, List.getElem?_append_left (by rw [← lv]; exact q)]; exact h2
  have ow : ∀ b, Own (as ++ List.replicate (d.ns - d.np) .un) (L2.start N vs) b ↔ Own as (vs.map some) b := fun b => ⟨fun ⟨i, h⟩ => ⟨i, own1 i b h⟩, fun ⟨i, h⟩ => ⟨i, own2 i b h⟩⟩
  have rel' : Rel K L G H (as ++ List.replicate (d.ns - d.np) .un) (L2.start N vs) := by
    refine ⟨rel.sub, ?_, fun i s h => ?_, fun i j b h1 h2 => rel.inj i j b (own1 i b h1) (own1 j b h2), rel.tabs, rel.gt⟩
    · rw [hst, List.length_append, List.length_append, List.length_replicate, List.length_replicate, lv]
    · by_cases q : i < as.length
      · rw [List.getElem?_append_left q] at h
        rw [hst, List.getElem?_append_left (by rw [← lv]; exact q)]
        exact rel.at_ i s h
      · rw [List.getElem?_append_right (by omega), List.getElem?_replicate] at h
        split at h
        · cases h; trivial
        · cases h
  have cv : ∀ {G' H' S' σ'}, Stp K L G H (as ++ List.replicate (d.ns - d.np) .un) (L2.start N vs) G' H' S' σ' → Stp K L G H as (vs.map some) G' H' S' σ' := fun y =>
    ⟨y.rel, y.gm, fun a o nt h n => y.keep a o nt h fun z => n ((ow a).mp z), y.th, fun a h => (y.ow a h).imp (fun z => (ow a).mp z) id⟩
  have rr : ∀ {G' H' S' σ' r v}, RR K H (as ++ List.replicate (d.ns - d.np) .un) (L2.start N vs) G' H' S' σ' r v → RR K H as (vs.map some) G' H' S' σ' r v := fun {G' H' S' σ' r v} h => by
    cases r with
    | v d => exact h
    | ex c => exact h
    | fr d =>
      obtain ⟨a, e, o, g, n, q⟩ := h
      exact ⟨a, e, o, g, n, q.imp id fun z => (ow a).mp z⟩
  refine ⟨hlen, L, hT, G, as ++ List.replicate (d.ns - d.np) .un, rel', ?_⟩
  cases q : exs (callN defs n) d.body (as ++ List.replicate (d.ns - d.np) .un) with
  | none => rw [q] at hrun; cases hrun
  | some w =>
    obtain ⟨fl, S2⟩ := w
    rw [q] at hrun
    cases fl with
    | nx =>
      cases hrun
      exact ⟨.nx, _, q, (fun _ G' H' σ' y => hq G' H' σ' .non (cv y) .non), (fun z => nomatch z), (fun z => nomatch z), (fun _ z => nomatch z), fun _ z => nomatch z⟩
    | brk => cases hrun
    | ct => cases hrun
    | ret r2 =>
      cases hrun
      exact ⟨.ret _, _, q, (fun z => nomatch z), (fun z => nomatch z), (fun z => nomatch z), (fun r' z G' H' σ' v y qq => by cases z; exact hq G' H' σ' v (cv y) (rr qq)), fun _ z => nomatch z⟩
    | exc c =>
      cases hrun
      exact ⟨.exc _, _, q, (fun z => nomatch z), (fun z => nomatch z), (fun z => nomatch z), (fun _ z => nomatch z), fun c' z G' H' σ' y => by cases z; exact hx c rfl G' H' σ' (cv y)⟩
end MX

set_option Elab.async false
set_option linter.all false
set_option maxRecDepth 100000
set_option autoImplicit false
/-! MX10: the defs' promises put together; the law's end. -/
namespace MX
open PySem PySem.Spec PyProof.Rows L2
def ExcK (K : PySem.W.Frag) (mg : Str → Option Value) (x : Str) (u : Value) : Prop := ∃ B newId initId bmB Ca, ExcBaseFacts B newId initId bmB ∧ PySem.W.excIn K Ca bmB newId = true ∧ mg x = some (.ref Ca) ∧ PySem.W.keepIn K (.ref Ca) = true ∧
  PySem.W.subIn K (.ref Ca) (.type "BaseException") = some true ∧ PySem.W.typeIn K (.ref Ca) = some (.type "type") ∧ u = .ref Ca
def KK (K : PySem.W.Frag) (mg : Str → Option Value) (x : Str) (d : D) : Prop := ∃ u v, mg x = some u ∧ RelV v u ∧ ∀ G, Den K G d v
theorem rel_int {i : Int} {t : Tok} : RelV (.int i) (.int i t) := ⟨t, rfl⟩
theorem rel_str {i : Str} {t : Tok} : RelV (.str i) (.str i t) := ⟨t, rfl⟩
theorem rel_bl {i : Bool} : RelV (.bl i) (.bool i) := rfl
theorem rel_non : RelV .non .none := rfl
theorem rel_ref {a : Addr} : RelV (.ref a) (.ref a) := rfl
theorem hu64 {A : Around} {k : Nat} (hr : Room k A) : A.units + 64 < cLine := by
  have := hr.un
  omega
section
variable {X : Cx} {C : MX.Ctx} {defs : Nat → Option Df} {cv : Nat → Value} {T : List (Addr × Str)} {n f : Nat} {x : Str} {fa : Addr} {fd : FuncData} {ps : List Str}
theorem fng_of (h1 : C.cl = callN defs n) (h2 : C.cv = cv) (o : FnOk X.prog X.w X.K X.mg X.base (L2N.CX X.prog X.w) (n + 1) fa fd ps (FnS (callN defs n) X.K cv T f)) (hT : C.L.T = T) (hr : Room (n + 1) X.A) (hm : X.mg x = some (.ref fa)) (hk : PySem.W.keepIn X.K (.ref fa) = true) (hb : Binds X.K fd ps []) : FnG X C x f := by
  subst h2
  refine ⟨fa, fd, ps, n + 1, ?_, hr, hm, hk, hb⟩
  rw [h1, hT]
  exact o
theorem excg_of {c : Nat} (h2 : C.cv = cv) (h : ExcK X.K X.mg x (cv c)) : ExcG X C x c := by
  subst h2
  obtain ⟨B, n1, n2, bm, Ca, h1, h2, h3, h4, h5, h6, h7⟩ := h
  exact ⟨B, n1, n2, bm, Ca, h1, h2, h3, h4, h5, h6, h7⟩
end
theorem fn_zero {P : Program} {w : World} {K : PySem.W.Frag} {mg : Str → Option Value} {base : Heap} {CX : CXT} {defs : Nat → Option Df} {cv : Nat → Value} {T : List (Addr × Str)} {f : Nat} {fa : Addr} {fd : FuncData} {ps : List Str} :
    FnOk P w K mg base CX (0 + 1) fa fd ps (FnS (callN defs 0) K cv T f) :=
  ⟨(fun _ _ _ _ h => by obtain ⟨_, _, _, _, _, _, _, _, z, _⟩ := h; cases z), (fun _ _ _ _ _ _ _ _ _ _ _ _ _ h => by obtain ⟨_, _, _, _, _, _, _, _, z, _⟩ := h; cases z)⟩
/-- the law's promise -/
def lawSp (K : PySem.W.Frag) (T : List (Addr × Str)) (n : Nat) : Sp := fun vs H Q _ => ∃ (a : Addr) (ns : List Int), vs = [.ref a] ∧ SqL K H a (ns.map V.int) ∧ (∀ p ∈ T, H p.1 = some (.tbl #[])) ∧ ns.length ≤ n ∧ (∀ z ∈ ns, Builtin.Int.intBits z ≤ 1048576) ∧ ∀ H', Q (.bl true) H'
def LawTrue (defs : Nat → Option Df) (lev f n : Nat) : Prop := ∀ ns : List Int, ns.length ≤ n → (∀ z ∈ ns, Builtin.Int.intBits z ≤ 1048576) → ∃ S', (callN defs lev).run f [.val (.scr ns)] = some (.v (.bl true), S')
/-- the heap without its tables -/
def noT (H : Hp) : Hp := fun b => match H b with
  | some (.tbl _) => none
  | o => o
theorem noT_same {H : Hp} : Same (noT H) H := fun b o e => by
  unfold noT at e
  split at e
  · cases e
  · exact e
theorem noT_at {H : Hp} {b : Addr} {o : HO} (e : H b = some o) (n : NT o) : noT H b = some o := by
  unfold noT
  rw [e]
  cases o with
  | tbl ps => exact absurd rfl (n ps)
  | _ => rfl
theorem noT_seq {K : PySem.W.Frag} {H : Hp} {a : Addr} {xs : List V} (h : SqL K H a xs) : SqL K (noT H) a xs := by
  rcases h with (h | ⟨o, h⟩) | h
  · exact .inl (.inl (noT_at h nt_lst))
  · exact .inl (.inr ⟨o, noT_at h fun _ z => nomatch z⟩)
  · exact .inr h
theorem law_sp {K : PySem.W.Frag} {T : List (Addr × Str)} {defs : Nat → Option Df} {lev f n : Nat} {cv : Nat → Value} (h : LawTrue defs lev f n) : ∀ vs H Q E, lawSp K T n vs H Q E → FnS (callN defs lev) K cv T f vs H Q E := by
  intro vs H Q E ⟨a, ns, e, hs, tb, hl, hb, hq⟩
  subst e
  obtain ⟨S', hr⟩ := h ns hl hb
  have tg : TabsG T (noT H) H := fun p hp => ⟨#[], tb p hp, True.intro, fun pos cv hc => by
    have z : codeAmong pos [] = some cv := hc
    simp [codeAmong] at z⟩
  refine ⟨noT H, ⟨fun _ => 0, T⟩, [.val (.scr ns)], _, S', rfl, ⟨noT_same, rfl, fun i s e => ?_, fun i j b h1 _ => ?_, tg, fun p hp => ?_⟩, fun j t d e => ?_, hr, (fun c z => nomatch z), fun G' H' σ' v y q => ?_⟩
  · cases i with
    | zero => cases e; exact ⟨.ref a, rfl, .scr (noT_seq hs)⟩
    | succ i => simp at e
  · obtain ⟨t, d, e, _⟩ := h1
    cases i with
    | zero => cases e
    | succ i => simp at e
  · unfold noT
    rw [tb p hp]
  · cases j with
    | zero => cases e
    | succ i => simp at e
  · cases q
    exact hq H'
/-- the end of a law whose defs make no lambdas -/
theorem mk_law {P : Program} {w : World} {K : PySem.W.Frag} {mg : Str → Option Value} {h : Heap} {fa : Addr} {defs : Nat → Option Df} {f lev : Nat} {x : Str}
    (A : ∃ (fd : FuncData) (cv : Nat → Value), (∀ (s : Shared) (v : Value), BindsTo s fd ⟨[v], []⟩ [(x, v)]) ∧ ∀ (n : Nat) (base : Heap), K.In base → base.Ns mainGlobals mg → FnOk P w K mg base (L2N.CX P w) (n + 1) fa fd [x] (FnS (callN defs n) K cv [] f))
    (t : LawTrue defs lev f 63) :
    ∃ fd : FuncData, (∀ (s : Shared) (v : Value), BindsTo s fd ⟨[v], []⟩ [(x, v)]) ∧ ∀ base : Heap, K.In base → base.Ns mainGlobals mg → FnOk P w K mg base (L2N.CX P w) (lev + 1) fa fd [x] (lawSp K [] 63) := by
  obtain ⟨fd, cv, hb, hF⟩ := A
  exact ⟨fd, hb, fun base h1 h2 => (hF lev base h1 h2).imp (law_sp t)⟩
theorem cx_false {P : Program} {w : World} {o : List Env} {H : Hp} {s : Shared} {e : Value} {s' : Shared} (h : L2N.CX P w o H s (fun _ _ _ => False) e s') : False := by
  obtain ⟨_, _, _, _, _, _, _, _, _, _, _, _, z⟩ := h
  exact z
end MX

set_option Elab.async false
set_option linter.all false
set_option maxRecDepth 100000
set_option autoImplicit false
/-! MX11: what a name holds is called: defs and lambdas' objects. -/
namespace MX
open PySem PySem.Spec PyProof.Rows L2
/-- every def that has a name keeps its promise -/
def FnN (X : Cx) (C : Ctx) : Prop := ∀ (f : Nat) (x : Str) (a : Addr), C.cl.nm f = some x → PySem.W.nsIn X.K mainGlobals x = some (some (.ref a)) →
  ∃ fd ps k, FnOk X.prog X.w X.K X.mg X.base (L2N.CX X.prog X.w) k a fd ps (FnS C.cl X.K C.cv C.L.T f) ∧ Room k X.A ∧ PySem.W.keepIn X.K (.ref a) = true ∧ Binds X.K fd ps []
/-- the object of the k-th lambda, called at a state of X -/
def LamN (X : Cx) (C : Ctx) : Prop := ∀ (k : Nat) (l : LamD) (a : Addr) (cl : List (Str × Addr)) (c : Addr) (pins : List (Addr × Obj)) (s : Shared) (σ : L2.St) (G H : Hp) (S : SS) (us : List Value) (vs ws : List V) (ds cs : List D) (r : R) (S' : SS) (Q : VK),
  lamTab[k]? = some l → Inv X pins σ H s → Rel X.K C.L G H S σ → CloAt G a l cl c ws → DenL X.K (delG G cl) cs ws → DenL X.K G ds vs → D.flatL ds = true → Vals vs us → C.cl.run (lamN k) (valsS (ds ++ cs)) = some (r, S') →
  Fin X.K C σ G H S Q (some (r, S)) → wpAny (model X.prog X.w) X.A (call (.ref a) us) (EP X pins σ Q) X.xe s
section
variable {X : Cx} {C : Ctx} {a b c e : Expr} {ea eb ec : E} {pos p : Pos}
theorem fn_at {H : Hp} {s : Shared} {pins : List (Addr × Obj)} {σ : L2.St} {f : Addr} {l : LamD} {cl : List (Str × Addr)} {c : Addr} (I : Inv X pins σ H s) (h : H f = some (LamO f l cl c)) : PySem.W.FnAt f s.heap := by
  obtain ⟨⟨pm, ctv, ho⟩, _, _⟩ := I.hok f _ h
  exact ⟨_, _, _, _, ho⟩
theorem s_callv {i : Nat} {x : Str} {es : List Expr} {xs : List E} (hN : X.N[i]? = some x) (hv : Vis X.env.scope x) (hdb : (x == ("__debug__" : Str)) = false) (hcd : (x == ("__classdict__" : Str)) = false) (tk : L2N.Takes X C.W) (F : FnN X C) (Lm : LamN X C)
    (ha : SEv X C a ea) (hl : SL X C es xs) (hst : ∀ y ∈ a :: es, ∀ r, starEach (y :: r) X.env = (false, eval y X.env) :: starEach r X.env) : SEv X C (.Call (.Name x p) (a :: es) [] pos) (.callv i (ea :: xs)) := by
  have he := hst a List.mem_cons_self es
  have hpl := any_star (xs := xs) (fun y hy => hst y (List.mem_cons_of_mem _ hy)) pos
  have hall : SL X C (a :: es) (ea :: xs) := l_cons ha hl he
  refine ⟨⟨fun pins s σ H Q I ⟨G, S, rel, fi⟩ => ?_⟩, fun _ h => nomatch h⟩
  unfold ev at fi
  dsimp only at fi
  cases q : rdS S i with
  | none => rw [q] at fi; exact fin_none fi
  | some d =>
    rw [q] at fi
    dsimp only at fi
    obtain ⟨v0, ev0, hb⟩ := rel.rd q
    refine wpAny_Call_Name_kw (thn ((pe_var (pos := p) hN hv hdb hcd).run pins s σ H (fun v H1 => v = v0 ∧ H1 = H) I ⟨v0, ev0, rfl, rfl⟩) fun u s1 ⟨v, H1, I1, r1, q1⟩ => ?_)
    obtain ⟨e1, e2⟩ := q1
    subst e1 e2
    cases d with
    | fn f y =>
      unfold calB at fi
      dsimp only at fi
      by_cases hn : C.cl.nm f = some y
      · rw [if_pos hn] at fi
        rcases hb with hb | ⟨_, _, ⟨_, _, z, _⟩⟩
        · cases hb with
          | @fn _ fa _ _ hns =>
            cases r1
            obtain ⟨fd, ps, k, Fo, hr, hk, hbi⟩ := F f y fa hn hns
            refine PySem.W.callWith_K (h₀ := X.base) I1.ok.mod.kin hk (thn (hall.run pos pins s1 σ _ _ I1 ⟨G, S, rel, Fin.bndL fi⟩) fun us s2 ⟨vs, H2, I2, r, G1, S1, ds, rel1, sm, hd, f1⟩ => ⟨I2.kIn, ?_⟩) he hpl
            unfold callF at f1
            dsimp only at f1
            rw [if_pos hn] at f1
            exact run_fnS (E := fun σ => WE C.W σ) Fo hr hbi (L2N.passAt tk σ) I2 r (call_vals rel1 hd rfl f1)
        · cases z
      · rw [if_neg hn] at fi; exact fin_none fi
    | clo k cs =>
      unfold calB at fi
      dsimp only at fi
      rcases hb with hb | ⟨_, _, ⟨_, _, z, _⟩⟩
      · cases hb with
        | @clo _ fa _ l cl c _ ws htab hc hd =>
          cases r1
          refine PySem.W.callWith_F (first := []) (fn_at I1 (rel.sub _ _ hc.obj)) (thn (hall.run pos pins s1 σ _ _ I1 ⟨G, S, rel, Fin.bndL fi⟩) fun us s2 ⟨vs, H2, I2, r, G1, S1, ds, rel1, sm, hdd, f1⟩ => ⟨fn_at I2 (rel1.sub _ _ (sm _ _ hc.obj)), ?_⟩) he hpl
          unfold callF at f1
          dsimp only at f1
          by_cases hfl : D.flatL ds = true
          · rw [if_pos hfl] at f1
            cases qr : C.cl.run (lamN k) (valsS (ds ++ cs)) with
            | none => rw [qr] at f1; exact fin_none f1
            | some w =>
              obtain ⟨rr, S'⟩ := w
              rw [qr] at f1
              exact Lm k l fa cl c pins s2 σ G1 H2 S1 us vs ws ds cs rr S' Q htab I2 rel1 (hc.mono sm) (hd.mono (delG_mono sm)) hdd hfl r qr f1
          · rw [if_neg hfl] at f1; exact fin_none f1
      · cases z
    | _ => exact fin_none fi
end
end MX

set_option Elab.async false
set_option linter.all false
set_option maxRecDepth 100000
set_option autoImplicit false
/-! MX12: the run of a lambda's object: its cells leave the tracked heap while it runs. -/
namespace MX
open PySem PySem.Spec PyProof.Rows L2
/-- the cells' addresses -/
abbrev cellsOf (cl : List (Str × Addr)) : List Addr := cl.map (·.2)
/-- the cells of cl are tracked as they stand -/
def CellsIn (H : Hp) (cl : List (Str × Addr)) : Prop := ∀ b ∈ cellsOf cl, ∃ o, H b = some (CellX b o)
/-- .. put back from H -/
def addC (H2 H : Hp) (cl : List (Str × Addr)) : Hp := fun b => if b ∈ cellsOf cl then H b else H2 b
theorem delG_in {H : Hp} {cl : List (Str × Addr)} {b : Addr} (h : b ∈ cellsOf cl) : delG H cl b = none := if_pos h
theorem delG_out {H : Hp} {cl : List (Str × Addr)} {b : Addr} (h : b ∉ cellsOf cl) : delG H cl b = H b := if_neg h
theorem addC_in {H2 H : Hp} {cl : List (Str × Addr)} {b : Addr} (h : b ∈ cellsOf cl) : addC H2 H cl b = H b := if_pos h
theorem addC_out {H2 H : Hp} {cl : List (Str × Addr)} {b : Addr} (h : b ∉ cellsOf cl) : addC H2 H cl b = H2 b := if_neg h
section
variable {P : Program} {w : World} {H H2 : Hp} {cl : List (Str × Addr)} {h h' : Heap} {fs : List Addr}
theorem cell_not {b : Addr} {o : HO} (hc : CellsIn H cl) (e : H b = some o) (n : ∀ φ, o ≠ .ext φ) : b ∉ cellsOf cl := fun z => by
  obtain ⟨ob, e2⟩ := hc b z
  rw [e] at e2
  exact n _ (Option.some.inj e2)
theorem hok_del (hc : CellsIn H cl) (x : HOk P w H h) : HOk P w (delG H cl) h := fun b u e => by
  by_cases hb : b ∈ cellsOf cl
  · rw [delG_in hb] at e; cases e
  · rw [delG_out hb] at e
    refine (x b u e).stay (fun c v _ q => q) (fun c q => ?_) fun c xs q => ?_
    · rw [delG_out (cell_not hc q fun φ z => nomatch z)]; exact q
    · rw [delG_out (cell_not hc q fun φ z => nomatch z)]; exact q
theorem cell_at (hc : CellsIn H cl) (x : HOk P w H h) {b : Addr} (hb : b ∈ cellsOf cl) : ∃ o, H b = some (CellX b o) ∧ h.get? b = some o := by
  obtain ⟨o, e⟩ := hc b hb
  obtain ⟨z, _, _⟩ := x b _ e
  exact ⟨o, e, z⟩
theorem un_add (hc : CellsIn H cl) (x : HOk P w H h) (u : Un fs [] (delG H cl) H2 h h') : Un fs [] H (addC H2 H cl) h h' where
  keep := fun b o e n h1 h2 => u.keep b o e (by by_cases hb : b ∈ cellsOf cl; exact delG_in hb; rw [delG_out hb]; exact n) h1 h2
  slot := fun b o e n h1 h2 => u.slot b o e (by by_cases hb : b ∈ cellsOf cl; exact delG_in hb; rw [delG_out hb]; exact n) h1 h2
  free := fun b o e n h1 => by
    have hb : b ∉ cellsOf cl := fun z => by
      obtain ⟨o', e', _⟩ := cell_at hc x z
      rw [n] at e'; cases e'
    rw [addC_out hb]
    exact u.free b o e (by rw [delG_out hb]; exact n) h1
  there := u.there
  tups := fun b xs e => by
    have hb := cell_not hc e fun φ z => nomatch z
    rw [addC_out hb]
    exact u.tups b xs (by rw [delG_out hb]; exact e)
  frzs := fun b o v e => by
    have hb := cell_not hc e fun φ z => nomatch z
    rw [addC_out hb]
    exact u.frzs b o v (by rw [delG_out hb]; exact e)
  tbls := fun b ps e => by
    have hb := cell_not hc e fun φ z => nomatch z
    rw [addC_out hb]
    exact u.tbls b ps (by rw [delG_out hb]; exact e)
theorem hok_add (hc : CellsIn H cl) (x : HOk P w H h) (nf : ∀ b ∈ cellsOf cl, b ∉ fs) (u : Un fs [] (delG H cl) H2 h h') (y : HOk P w H2 h') : HOk P w (addC H2 H cl) h' := fun b v e => by
  have fr : ∀ c ∈ cellsOf cl, H2 c = none := fun c hcc => by
    obtain ⟨o, _, e2⟩ := cell_at hc x hcc
    exact u.free c o e2 (delG_in hcc) (by simp)
  by_cases hb : b ∈ cellsOf cl
  · rw [addC_in hb] at e
    obtain ⟨o, e1, e2⟩ := cell_at hc x hb
    rw [e1] at e
    cases e
    have e3 := u.keep b o e2 (delG_in hb) (nf b hb) (by simp)
    exact ⟨e3, ⟨o, e3⟩, fun h1 h2 z k => k _ z⟩
  · rw [addC_out hb] at e
    have out : ∀ c u', H2 c = some u' → c ∉ cellsOf cl := fun c u' q z => by rw [fr c z] at q; cases q
    refine (y b v e).stay (fun c v _ q => q) (fun c q => ?_) fun c xs q => ?_
    · rw [addC_out (out c _ q)]; exact q
    · rw [addC_out (out c _ q)]; exact q
theorem ub_add {B : Heap} (hc : CellsIn H cl) (x : HOk P w H h) (u : UB fs (delG H cl) H2 h B h') : UB fs H (addC H2 H cl) h B h' where
  keep := fun b o e n h1 => u.keep b o e (by by_cases hb : b ∈ cellsOf cl; exact delG_in hb; rw [delG_out hb]; exact n) h1
  slot := u.slot
  free := fun b o e n => by
    have hb : b ∉ cellsOf cl := fun z => by
      obtain ⟨o', e', _⟩ := cell_at hc x z
      rw [n] at e'; cases e'
    rw [addC_out hb]
    exact u.free b o e (by rw [delG_out hb]; exact n)
  there := u.there
  tups := fun b xs e => by
    have hb := cell_not hc e fun φ z => nomatch z
    rw [addC_out hb]
    exact u.tups b xs (by rw [delG_out hb]; exact e)
  frzs := fun b o v e => by
    have hb := cell_not hc e fun φ z => nomatch z
    rw [addC_out hb]
    exact u.frzs b o v (by rw [delG_out hb]; exact e)
  tbls := fun b ps e => by
    have hb := cell_not hc e fun φ z => nomatch z
    rw [addC_out hb]
    exact u.tbls b ps (by rw [delG_out hb]; exact e)
theorem hok_addB {B : Heap} (hc : CellsIn H cl) (x : HOk P w H h) (nf : ∀ b ∈ cellsOf cl, b ∉ fs) (u : UB fs (delG H cl) H2 h B h') (y : HOk P w H2 B) : HOk P w (addC H2 H cl) B := fun b v e => by
  have fr : ∀ c ∈ cellsOf cl, H2 c = none := fun c hcc => by
    obtain ⟨o, _, e2⟩ := cell_at hc x hcc
    exact u.free c o e2 (delG_in hcc)
  by_cases hb : b ∈ cellsOf cl
  · rw [addC_in hb] at e
    obtain ⟨o, e1, e2⟩ := cell_at hc x hb
    rw [e1] at e
    cases e
    have e3 := u.keep b o e2 (delG_in hb) (nf b hb)
    exact ⟨e3, ⟨o, e3⟩, fun h1 h2 z k => k _ z⟩
  · rw [addC_out hb] at e
    have out : ∀ c u', H2 c = some u' → c ∉ cellsOf cl := fun c u' q z => by rw [fr c z] at q; cases q
    refine (y b v e).stay (fun c v _ q => q) (fun c q => ?_) fun c xs q => ?_
    · rw [addC_out (out c _ q)]; exact q
    · rw [addC_out (out c _ q)]; exact q
end
/-! ### the run -/
/-- the lambda as the kit's nested def knows its words -/
abbrev lamF (l : LamD) (cl : List (Str × Addr)) (c : Addr) : NdefX.NF := ⟨"<lambda>", l.qual, l.params, [], l.scope, cl, c⟩
theorem lam_call {P : Program} {w : World} {K : PySem.W.Frag} {mg : Str → Option Value} {base : Heap} {N : List Str} {l : LamD} {cl : List (Str × Addr)} {c f : Addr} {k : Nat} {A : Around} {outer : List Env} {s : Shared} {H : Hp} {us : List Value} {vs : List V} {ws : List (Option V)} {Q : VK} {E : XK} {t : TE}
    (Sc : NdefX.NScope N l.ps l.fr l.scope) (hb : ∀ (pm ctv : Value) (us : List Value), us.length = l.ps.length → bindArgs (PySem.W.kla_fn "<lambda>" l.qual l.params l.body l.scope cl pm (.ref c) ctv) ⟨us, []⟩ = pure (l.ps.zip us))
    (hr : Room (k + 1) A) (e0 : Env0 P w K mg base A outer s H) (hf : H f = some (LamO f l cl c)) (hc : H c = some (LamX.CodeO c l.qual)) (C : NdefX.CellsAt cl l.fr ws s.heap H) (r : Vals vs us) (hl : vs.length = l.ps.length)
    (hbody : Room k (A.deeper (NdefX.envF (lamF l cl c) f s.heap.objs.size)) → PE (NdefX.ncx (L2N.CX P w) P w K mg base N (lamF l cl c) f A outer s H E) l.body t) (h : t (NdefX.startF N vs ws) H Q) :
    codeAny (model P w) A (.call (.ref f) ⟨us, []⟩) (CR (L2N.CX P w) outer P w H s Q E) s := by
  have lim : s.heap.NoLimit := e0.mod.nolimit.keeps fun b o e => (e0.bs b o e).1
  obtain ⟨⟨pm, ctv, ho⟩, _, _⟩ := e0.hok f _ hf
  refine PySem.W.kla_callFunE hr.depth ho rfl Sc.co Sc.gen rfl (NdefX.codeO_at e0.hok hc) ?_
  rw [hb pm ctv us (by rw [← r.length]; exact hl)]
  refine wpAny_pure (wpAny_newFunctionEnv Sc.nocell (fun ⟨n, _⟩ hy => Sc.par n (List.of_mem_zip hy).1) (fun h₁ hns hsb => ⟨lim.fresh _ hsb, ?_⟩) Sc.kind)
  show codeAny _ _ (.expr l.body (NdefX.envF (lamF l cl c) f s.heap.objs.size)) _ _
  have kp : ∀ b o, s.heap.get? b = some o → h₁.get? b = some o := fun b o e => hsb.extBut b o (Nat.ne_of_lt (Heap.lt_size e)) (Heap.get?_push_of_some _ e)
  have I : Inv (NdefX.ncx (L2N.CX P w) P w K mg base N (lamF l cl c) f A outer s H E) [] (NdefX.startF N vs ws) H { s with heap := h₁, toks := s.toks + (l.ps.zip us).length } := NdefX.inv_startN Sc hr.hd e0 hl r C hns kp
  refine PySem.W.kla_codeExpr (wpAny_mono ((hbody (hr.deeper _)).run [] _ _ H Q I h) (fun v s' hq => ?_) fun e s' hq => hq)
  obtain ⟨v', H', J, rv, q⟩ := hq
  exact ⟨v', H', J.os, J.bare, J.base, J.hok, rv, q⟩
theorem start_startF {N : List Str} {vs ws : List V} : NdefX.startF N vs (ws.map some) = L2.start N (vs ++ ws) := by
  unfold NdefX.startF L2.start
  rw [List.map_append, List.append_assoc, List.length_map, List.length_append, Nat.sub_sub]
/-- return e, e no name: what the value's reading asks -/
theorem ret_plain {K : PySem.W.Frag} {C : Ctx} {e : E} {σ : L2.St} {H : Hp} {D : Ends} (hv : vr e = none) (h : tS K C (fun S => exs C.cl [.ret e] S) D σ H) : tF K C (fun S => ev C.cl e S) σ H D.rt := by
  obtain ⟨G, S, rel, f⟩ := h
  refine ⟨G, S, rel, ?_⟩
  show Fin K C σ G H S D.rt (ev C.cl e S)
  have e0 : exs C.cl [.ret e] S = thenS (ev C.cl e S) fun r S => some (.ret r, S) := by
    unfold exs ex retV
    try dsimp only
    rw [hv]
    try dsimp only
    unfold exs
    cases ev C.cl e S with
    | none => rfl
    | some w =>
      obtain ⟨r, S'⟩ := w
      cases r <;> rfl
  have f : FinS K C σ G H S D (exs C.cl [.ret e] S) := f
  rw [e0] at f
  obtain ⟨fl, S', ee, _, _, _, h4, h5⟩ := f
  cases q : ev C.cl e S with
  | none => rw [q] at ee; cases ee
  | some w =>
    obtain ⟨r, S1⟩ := w
    rw [q] at ee
    cases r with
    | ex c =>
      cases ee
      exact ⟨.ex c, _, rfl, (fun c' z G' H' y => by cases z; exact h5 c rfl G' H' σ y), fun _ _ _ _ z => z.elim⟩
    | v d =>
      cases ee
      exact ⟨.v d, _, rfl, (fun _ z => nomatch z), fun G' H' v y z => h4 _ rfl G' H' σ v y z⟩
    | fr d =>
      cases ee
      exact ⟨.fr d, _, rfl, (fun _ z => nomatch z), fun G' H' v y z => h4 _ rfl G' H' σ v y z⟩
section
variable {K : PySem.W.Frag} {L : Lk} {G H G1 H1 G2 H2 : Hp} {S S2 : SS} {σ σ2 : L2.St} {cl : List (Str × Addr)}
/-- the cells lie in the frozen part and in the heap alike -/
theorem cells_in {f c : Addr} {l : LamD} {ws : List V} (m : Same G H) (h : CloAt G f l cl c ws) : CellsIn H cl := fun b hb => by
  obtain ⟨p, hp, e⟩ := List.mem_map.mp hb
  obtain ⟨o, v, h1, _⟩ := h.cells p hp
  exact ⟨o, e ▸ m _ _ h1⟩
theorem same_add (m : Same (delG G cl) G2) (hg : ∀ b ∈ cellsOf cl, G2 b = none) : Same G (addC G2 G cl) := fun b o e => by
  by_cases hb : b ∈ cellsOf cl
  · rw [addC_in hb]; exact e
  · rw [addC_out hb]; exact m _ _ (by rw [delG_out hb]; exact e)
theorem same_up (hg : ∀ b ∈ cellsOf cl, G2 b = none) : Same G2 (addC G2 G cl) := fun b o e => by
  rw [addC_out (fun z => by rw [hg b z] at e; cases e)]; exact e
end
end MX

set_option Elab.async false
set_option linter.all false
set_option maxRecDepth 100000
set_option autoImplicit false
/-! MX13: lambdas' promises. -/
namespace MX
open PySem PySem.Spec PyProof.Rows L2
section
variable {P : Program} {w : World} {K : PySem.W.Frag} {G G' H : Hp} {h : Heap} {f c : Addr} {l : LamD} {cl : List (Str × Addr)} {ws : List V}
theorem cellX_at {b : Addr} {o : Obj} (x : HOk P w H h) (e : H b = some (CellX b o)) : h.get? b = some o := by
  obtain ⟨z, _, _⟩ := x b _ e
  exact z
theorem clo_not (m : Same G H) (x : HOk P w H h) (hc : CloAt G f l cl c ws) {b : Addr} {ob : Obj} (e : h.get? b = some ob) (nd : ∀ v, ob.data ≠ .cell v) : b ∉ cellsOf cl := fun hb => by
  obtain ⟨p, hp, e1⟩ := List.mem_map.mp hb
  obtain ⟨o, v, h1, h2⟩ := hc.cells p hp
  have z := cellX_at x (m _ _ h1)
  rw [e1, e] at z
  cases z
  exact nd v h2
/-- what is not a cell, a function, a code object stays -/
def AgN (G G' : Hp) : Prop := ∀ a o, G a = some o → (∀ φ, o ≠ .ext φ) → G' a = some o
theorem AgN.seq (m : AgN G G') {a : Addr} {xs : List V} (h : SqL K G a xs) : SqL K G' a xs := by
  rcases h with (h | ⟨o, h⟩) | h
  · exact .inl (.inl (m _ _ h fun _ z => nomatch z))
  · exact .inl (.inr ⟨o, m _ _ h fun _ z => nomatch z⟩)
  · exact .inr h
theorem AgN.tup (m : AgN G G') {a : Addr} {xs : List V} (h : SqT K G a xs) : SqT K G' a xs := by
  rcases h with (h | ⟨o, h⟩) | h
  · exact .inl (.inl (m _ _ h fun _ z => nomatch z))
  · exact .inl (.inr ⟨o, m _ _ h fun _ z => nomatch z⟩)
  · exact .inr h
mutual
theorem Den.ag (m : AgN G G') : ∀ {d : D} {v : V}, Den K G d v → d.flat = true → Den K G' d v
  | _, _, .non, _ => .non
  | _, _, .bl b, _ => .bl b
  | _, _, .int i, _ => .int i
  | _, _, .str x, _ => .str x
  | _, _, .scr h, _ => .scr (m.seq h)
  | _, _, .tup h t, e => .tup (m.tup h) (DenL.ag m t (by simpa [D.flat] using e))
  | _, _, .lst h t, e => .lst (m _ _ h fun _ z => nomatch z) (DenL.ag m t (by simpa [D.flat] using e))
  | _, _, .fn h, _ => .fn h
  | _, _, .clo _ _ _, e => by simp [D.flat] at e
  | _, _, .adr, _ => .adr
theorem DenL.ag (m : AgN G G') : ∀ {ds : List D} {vs : List V}, DenL K G ds vs → D.flatL ds = true → DenL K G' ds vs
  | _, _, .nil, _ => .nil
  | _, _, .cons h t, e => by
    simp only [D.flatL, Bool.and_eq_true] at e
    exact .cons (Den.ag m h e.1) (DenL.ag m t e.2)
end
theorem ag_del (hx : ∀ b ∈ cellsOf cl, ∃ o, G b = some (CellX b o)) : AgN G (delG G cl) := fun a o e n => by
  rw [delG_out]
  · exact e
  · intro hb
    obtain ⟨ob, z⟩ := hx a hb
    rw [e] at z
    exact n _ (Option.some.inj z)
end
/-- a lambda's promise -/
structure LamOk (P : Program) (w : World) (K : PySem.W.Frag) (mg : Str → Option Value) (base : Heap) (j : Nat) (l : LamD) (sp : Sp) : Prop where
  run : ∀ (A : Around) (outer : List Env) (s : Shared) (H : Hp) (f c : Addr) (cl : List (Str × Addr)) (us : List Value) (vs ws : List V) (Q : VK) (E : XK), Room j A → Env0 P w K mg base A outer s H → H f = some (LamO f l cl c) → H c = some (LamX.CodeO c l.qual) →
    NdefX.CellsAt cl l.fr (ws.map some) s.heap H → Vals vs us → ws.length = l.fr.length → sp (vs ++ ws) H Q E → codeAny (model P w) A (.call (.ref f) ⟨us, []⟩) (CR (L2N.CX P w) outer P w H s Q E) s
theorem lam_zero {P : Program} {w : World} {K : PySem.W.Frag} {mg : Str → Option Value} {base : Heap} {defs : Nat → Option Df} {cv : Nat → Value} {T : List (Addr × Str)} {f : Nat} {l : LamD} : LamOk P w K mg base 1 l (FnS (callN defs 0) K cv T f) :=
  ⟨fun _ _ _ _ _ _ _ _ _ _ _ _ _ _ _ _ _ _ _ h => by obtain ⟨_, _, _, _, _, _, _, _, z, _⟩ := h; cases z⟩
theorem lam_of {P : Program} {w : World} {K : PySem.W.Frag} {mg : Str → Option Value} {base : Heap} {defs : Nat → Option Df} {cv : Nat → Value} {T : List (Addr × Str)} {f n : Nat} {l : LamD} {d : Df} {e : E} {N : List Str}
    (hd : defs f = some d) (hbd : d.body = [.ret e]) (hv : vr e = none) (hN : N.length = d.ns) (hnp : d.np = l.ps.length + l.fr.length) (hle : d.np ≤ d.ns) (Sc : NdefX.NScope N l.ps l.fr l.scope)
    (hb : ∀ (cl : List (Str × Addr)) (c : Addr) (pm ctv : Value) (us : List Value), us.length = l.ps.length → bindArgs (PySem.W.kla_fn "<lambda>" l.qual l.params l.body l.scope cl pm (.ref c) ctv) ⟨us, []⟩ = pure (l.ps.zip us))
    (hbody : ∀ (A : Around) (outer : List Env) (s : Shared) (H : Hp) (f c : Addr) (cl : List (Str × Addr)) (E : XK) (L : Lk), L.T = T → Room (n + 1) (A.deeper (NdefX.envF (lamF l cl c) f s.heap.objs.size)) →
      PE (NdefX.ncx (L2N.CX P w) P w K mg base N (lamF l cl c) f A outer s H E) l.body (tF K ⟨callN defs n, L, fun c d _ H => E c d H, cv⟩ fun S => ev (callN defs n) e S)) :
    LamOk P w K mg base (n + 2) l (FnS (callN defs (n + 1)) K cv T f) := by
  refine ⟨fun A outer s H fo c cl us vs ws Q E hr e0 hf hc C r hl hsp => ?_⟩
  obtain ⟨h1, L, hT, h2⟩ := fn_read (N := N) hd hN hle hsp
  rw [List.length_append, hnp] at h1
  rw [hbd] at h2
  have h3 := ret_plain hv h2
  rw [← start_startF] at h3
  exact lam_call Sc (hb cl c) hr e0 hf hc C r (by omega) (fun hr' => hbody A outer s H fo c cl E L hT hr') h3
/-- every lambda keeps its promise -/
def LamG (X : Cx) (C : Ctx) : Prop := ∀ (k : Nat) (l : LamD), lamTab[k]? = some l → ∃ j, LamOk X.prog X.w X.K X.mg X.base j l (FnS C.cl X.K C.cv C.L.T (lamN k)) ∧ Room j X.A
theorem lamN_of {X : Cx} {C : Ctx} (tk : L2N.Takes X C.W) (LG : LamG X C) : LamN X C := by
  intro k l a cl c pins s σ G H S us vs ws ds cs r S' Q htab I rel hc hcs hds hfl rv hrun hfin
  obtain ⟨j, LO, hr⟩ := LG k l htab
  have hci : CellsIn H cl := cells_in rel.sub hc
  have hHa : H a = some (LamO a l cl c) := rel.sub _ _ hc.obj
  have hHc : H c = some (LamX.CodeO c l.qual) := rel.sub _ _ hc.code
  have na : a ∉ cellsOf cl := by
    obtain ⟨⟨pm, ctv, ho⟩, _, _⟩ := I.hok a _ hHa
    exact clo_not rel.sub I.hok hc ho fun v z => by cases (show Data.func _ = Data.cell v from z)
  have notC : ∀ (b : Addr) (q : Str), H b = some (LamX.CodeO b q) → b ∉ cellsOf cl := fun b q e => by
    obtain ⟨⟨oc, vs, t, h1, h2, h3⟩, _, _⟩ := I.hok b _ e
    exact clo_not rel.sub I.hok hc h1 fun v z => by rw [h2] at z; cases z
  have nc : c ∉ cellsOf cl := notC c _ hHc
  have e0 := I.env0
  have e0' : Env0 X.prog X.w X.K X.mg X.base X.A X.stack s (delG H cl) :=
    ⟨e0.frames, e0.mod, fun b o e => ⟨(e0.bs b o e).1, by
      by_cases hb : b ∈ cellsOf cl
      · exact delG_in hb
      · rw [delG_out hb]; exact (e0.bs b o e).2⟩, e0.bsz, e0.funs, fun b hb => by
      by_cases hb' : b ∈ cellsOf cl
      · exact delG_in hb'
      · rw [delG_out hb']; exact e0.frf b hb, hok_del hci e0.hok, e0.bare⟩
  have nfr : ∀ b ∈ cellsOf cl, b ∉ frs X.stack := fun b hb z => by
    obtain ⟨o, e⟩ := hci b hb
    rw [I.stkFree b z] at e
    cases e
  have CA : NdefX.CellsAt cl l.fr (ws.map some) s.heap (delG H cl) := by
    refine ⟨by rw [List.length_map]; exact hc.len, fun y b e => ?_, hc.inj, fun i y e => ?_⟩
    · have hb : b ∈ cellsOf cl := List.mem_map.mpr ⟨(y, b), PySem.mem_of_lookup e, rfl⟩
      obtain ⟨o, v, h1, h2⟩ := hc.cells _ (PySem.mem_of_lookup e)
      exact ⟨delG_in hb, v, o, cellX_at I.hok (rel.sub _ _ h1), h2⟩
    · obtain ⟨b, o, u, v, h1, h2, h3, h4, h5⟩ := hc.has i y e
      refine ⟨b, h1, fun v' e' => ?_⟩
      rw [List.getElem?_map, h4] at e'
      cases e'
      exact ⟨u, h5, o, cellX_at I.hok (rel.sub _ _ h2), h3⟩
  have agG : AgN G (delG G cl) := ag_del fun b hb => by
    obtain ⟨p, hp, e⟩ := List.mem_map.mp hb
    obtain ⟨o, v, h1, _⟩ := hc.cells p hp
    exact ⟨o, e ▸ h1⟩
  have nT : ∀ p ∈ C.L.T, p.1 ∉ cellsOf cl := fun p hp z => by
    obtain ⟨ps, h3, _⟩ := rel.tabs p hp
    exact cell_not hci h3 (fun φ z => nomatch z) z
  have tb : TabsG C.L.T (delG G cl) (delG H cl) := fun p hp => by
    obtain ⟨ps, h3, h4, h5⟩ := rel.tabs p hp
    refine ⟨ps, by rw [delG_out (nT p hp)]; exact h3, h4, fun pos cv hcv => ?_⟩
    obtain ⟨b, e, q⟩ := h5 pos cv hcv
    exact ⟨b, e, by rw [delG_out (notC b _ (rel.sub _ _ q))]; exact q⟩
  have gt : ∀ p ∈ C.L.T, (delG G cl) p.1 = none := fun p hp => by rw [delG_out (nT p hp)]; exact rel.gt p hp
  -- behind the run
  have back : ∀ {L : Lk} {G2 H2 : Hp} {σ2 : L2.St}, L.T = C.L.T → Stp X.K L (delG G cl) (delG H cl) (valsS (ds ++ cs)) ((vs ++ ws).map some) G2 H2 S' σ2 → (∀ b ∈ cellsOf cl, H2 b = none) →
      Stp X.K C.L G H S σ (addC G2 G cl) (addC H2 H cl) S σ ∧ ∀ r v, RR X.K (delG H cl) (valsS (ds ++ cs)) ((vs ++ ws).map some) G2 H2 S' σ2 r v → RR X.K H S σ (addC G2 G cl) (addC H2 H cl) S σ r v := by
    intro L G2 H2 σ2 hT y hn
    have gn : ∀ b ∈ cellsOf cl, G2 b = none := fun b hb => by
      cases e : G2 b with
      | none => rfl
      | some o =>
        have z := hn b hb
        rw [y.rel.sub _ _ e] at z
        cases z
    have up := same_up (G := G) gn
    have hup : Same H2 (addC H2 H cl) := same_up hn
    have lstK : ∀ b xs, H b = some (.lst xs) → H2 b = some (.lst xs) ∧ G2 b = G b := fun b xs e => by
      have hb : b ∉ cellsOf cl := cell_not hci e fun φ z => nomatch z
      have z := y.keep b _ nt_lst (by rw [delG_out hb]; exact e) own_vals
      rw [delG_out hb] at z
      exact z
    have sm : Same G (addC G2 G cl) := same_add y.gm gn
    refine ⟨⟨⟨fun b o e => ?_, rel.len, fun i sl hs => ?_, rel.inj, fun p hp => ?_, fun p hp => ?_⟩, sm, fun b o nt e no => ?_, fun b e => ?_, fun b hb => .inl hb⟩, fun r v hq => ?_⟩
    · by_cases hb : b ∈ cellsOf cl
      · rw [addC_in hb] at e ⊢; exact rel.sub _ _ e
      · rw [addC_out hb] at e ⊢; exact y.rel.sub _ _ e
    · refine (rel.at_ i sl hs).mono sm fun b eb ⟨t, d, es⟩ => ?_
      subst es
      obtain ⟨vs0, hv0⟩ := rel.ownL ⟨i, t, d, hs, eb⟩
      have hb : b ∉ cellsOf cl := cell_not hci hv0 fun φ z => nomatch z
      obtain ⟨z1, z2⟩ := lstK b vs0 hv0
      rw [addC_out hb, addC_out hb, hv0]
      exact ⟨z1, z2⟩
    · obtain ⟨ps, h3, h4, h5⟩ := y.rel.tabs p (hT ▸ hp)
      refine ⟨ps, hup _ _ h3, h4, fun pos cv hcv => ?_⟩
      obtain ⟨b, e, q⟩ := h5 pos cv hcv
      exact ⟨b, e, up _ _ q⟩
    · rw [addC_out (nT p hp)]
      exact y.rel.gt p (hT ▸ hp)
    · by_cases hb : b ∈ cellsOf cl
      · rw [addC_in hb, addC_in hb]; exact ⟨e, rfl⟩
      · rw [addC_out hb, addC_out hb]
        have z := y.keep b o nt (by rw [delG_out hb]; exact e) own_vals
        rw [delG_out hb] at z
        exact z
    · by_cases hb : b ∈ cellsOf cl
      · rw [addC_in hb]; exact e
      · rw [addC_out hb]
        exact y.th b (by rw [delG_out hb]; exact e)
    · cases r with
      | v d => exact Den.mono up hq
      | ex c => exact hq
      | fr d =>
        obtain ⟨b, e, ⟨xs, vs1, e1, e2, e3⟩, g, no, nw⟩ := hq
        have hb : b ∉ cellsOf cl := fun z => by rw [hn b z] at e2; cases e2
        have nb : H b = none := by
          rcases nw with z | z
          · rw [delG_out hb] at z; exact z
          · exact absurd z own_vals
        exact ⟨b, e, ⟨xs, vs1, e1, hup _ _ e2, e3.mono up⟩, by rw [addC_out hb]; exact g, fun z => (rel.ownH z).1 nb, .inl nb⟩
  obtain ⟨r0, S0, e1, x1, x2⟩ := hfin
  cases e1
  have hsp : FnS C.cl X.K C.cv C.L.T (lamN k) (vs ++ ws) (delG H cl) (fun v H2 => (∀ b ∈ cellsOf cl, H2 b = none) → Q v (addC H2 H cl)) (fun cls d H2 => (∀ b ∈ cellsOf cl, H2 b = none) → C.W cls d σ (addC H2 H cl)) := by
    refine ⟨delG G cl, ⟨fun _ => 0, C.L.T⟩, valsS (ds ++ cs), r, S', rfl, rel_vals (delG_mono rel.sub) ((hds.ag agG hfl).append hcs) tb gt, (fun j t d e => ?_), hrun, fun b eb G2 H2 σ2 y hn => ?_, fun G2 H2 σ2 v y q hn => ?_⟩
    · obtain ⟨_, _, z⟩ := vals_at e
      cases z
    · exact x1 b eb _ _ (back (L := ⟨fun _ => 0, C.L.T⟩) rfl y hn).1
    · obtain ⟨y1, y2⟩ := back (L := ⟨fun _ => 0, C.L.T⟩) rfl y hn
      exact x2 _ _ v y1 (y2 _ _ q)
  refine wpAny_call (codeAny_mono (LO.run X.A X.stack s (delG H cl) a c cl us vs ws _ _ hr e0' (by rw [delG_out na]; exact hHa) (by rw [delG_out nc]; exact hHc) CA rv hc.len hsp) fun r s' hq => ?_)
  cases r with
  | error e =>
    refine L2N.passAt tk σ pins H s e s' I ?_
    obtain ⟨a1, B, H2, cls, d, e1, fl, hok, ub, n1, os, ag, q⟩ := hq
    have hn : ∀ b ∈ cellsOf cl, H2 b = none := fun b hb => by
      obtain ⟨o, _, e2⟩ := cell_at hci I.hok hb
      exact ub.free b o e2 (delG_in hb)
    have n2 : a1 ∉ cellsOf cl := fun hb => by
      obtain ⟨o, _, e2⟩ := cell_at hci I.hok hb
      have z := ub.keep a1 o e2 (delG_in hb) (nfr a1 hb)
      rw [fl.2.1] at z
      cases z
    exact ⟨a1, B, addC H2 H cl, cls, d, e1, fl, hok_addB hci I.hok nfr ub hok, ub_add hci I.hok ub, by rw [addC_out n2]; exact n1, os, ag, q hn⟩
  | ok fl =>
    cases fl with
    | ret u =>
      refine I.after ?_
      obtain ⟨v, H2, os, bare, un, hok, r2, q⟩ := hq
      have hn : ∀ b ∈ cellsOf cl, H2 b = none := fun b hb => by
        obtain ⟨o, _, e2⟩ := cell_at hci I.hok hb
        exact un.free b o e2 (delG_in hb) (by simp)
      exact ⟨v, addC H2 H cl, os, bare, un_add hci I.hok un, hok_add hci I.hok nfr un hok, r2, q hn⟩
    | next => exact False.elim hq
    | brk => exact False.elim hq
    | cont => exact False.elim hq
end MX

set_option Elab.async false
set_option linter.all false
set_option maxRecDepth 100000
set_option autoImplicit false
/-! MX14: a lambda is made; a def is called with it. -/
namespace MX
open PySem PySem.Spec PyProof.Rows L2
section
variable {X : Cx} {pins : List (Addr × Obj)} {σ : L2.St} {G H : Hp} {S : SS} {s : Shared} {L : Lk}
/-- the cells that the lambda captures -/
abbrev lamCl (X : Cx) (scope : Scope) : List (Str × Addr) := cloFrom X.env.cells scope.names []
theorem lamCl_at {scope : Scope} (hfree : ∀ y ∈ scope.names, y.2 = .free → ∃ c, X.env.cells.lookup y.1 = some c) {y : Str} {b : Addr} (h : (y, b) ∈ lamCl X scope) : X.env.cells.lookup y = some b := by
  rcases cloFrom_mem h with z | ⟨z1, z2⟩
  · cases z
  · obtain ⟨c, e⟩ := hfree _ z1 rfl
    have e : X.env.cells.lookup y = some c := e
    rw [z2, e]
    rfl
theorem lamCl_has {scope : Scope} {y : Str} {b : Addr} (hy : scope.names.lookup y = some .free) (e : X.env.cells.lookup y = some b) (hfree : ∀ y ∈ scope.names, y.2 = .free → ∃ c, X.env.cells.lookup y.1 = some c) : (lamCl X scope).lookup y = some b := by
  obtain ⟨c', h⟩ := mem_lookup (cloFrom_has (cells := X.env.cells) (acc := []) (PySem.mem_of_lookup hy))
  have z := lamCl_at hfree (PySem.mem_of_lookup h)
  rw [e] at z
  cases z
  exact h
/-- the reading of a lambda: its object is new, tracked, in the frozen part -/
def tLamE (K : PySem.W.Frag) (L : Lk) (l : LamD) (cl : List (Str × Addr)) : TE := fun σ H Q => ∃ G S, Rel K L G H S σ ∧ ∀ f c G1 H1, Stp K L G H S σ G1 H1 S σ → G1 f = some (LamO f l cl c) → G1 c = some (LamX.CodeO c l.qual) → Q (.ref f) H1
theorem stp_code {K : PySem.W.Frag} {P c : Addr} {q : Str} {ps : Array Value} {pos : Pos} (rel : Rel K L G H S σ) (hm : (P, q) ∈ L.T) (hu : ∀ p ∈ L.T, p.1 = P → p.2 = q) (hP : H P = some (.tbl ps)) (ht : TriplesOk ps.toList)
    (ha : ∀ (pos : Pos) (cv : Value), codeAmong pos ps.toList = some cv → ∃ c, cv = .ref c ∧ G c = some (LamX.CodeO c q)) (hc : H c = none) :
    Stp K L G H S σ (upd G c (LamX.CodeO c q)) (upd (upd H P (.tbl (ps ++ #[rawInt pos.line, rawInt pos.col, .ref c]))) c (LamX.CodeO c q)) S σ := by
  have gP : G P = none := rel.gt _ hm
  have gc : G c = none := by
    cases e : G c with
    | none => rfl
    | some o => rw [rel.sub _ _ e] at hc; cases hc
  have nPc : P ≠ c := ne_of_none hP hc
  have m : Same G (upd G c (LamX.CodeO c q)) := fun b o e => by rw [upd_ne (ne_of_none e gc)]; exact e
  have at_ : ∀ b, b ≠ P → b ≠ c → upd (upd H P (.tbl (ps ++ #[rawInt pos.line, rawInt pos.col, .ref c]))) c (LamX.CodeO c q) b = H b := fun b h1 h2 => by rw [upd_ne h2, upd_ne h1]
  refine ⟨⟨fun b o e => ?_, rel.len, fun i sl e => ?_, rel.inj, fun p hp => ?_, fun p hp => ?_⟩, m, fun b o nt e no => ?_, fun b e => ?_, fun b h => .inl h⟩
  · by_cases hb : b = c
    · rw [hb, upd_same] at e ⊢; exact e
    · rw [upd_ne hb] at e
      rw [at_ b (fun z => by rw [z, gP] at e; cases e) hb]
      exact rel.sub _ _ e
  · refine (rel.at_ i sl e).mono m fun b eb ⟨t, d, es⟩ => ?_
    subst es
    obtain ⟨vs, hv⟩ := rel.ownL ⟨i, t, d, e, eb⟩
    have h1 : b ≠ P := fun z => by rw [z, hP] at hv; cases hv
    have h2 : b ≠ c := ne_of_none hv hc
    exact ⟨at_ b h1 h2, upd_ne h2⟩
  · by_cases hb : p.1 = P
    · have eq : p.2 = q := hu p hp hb
      rw [eq, hb]
      have eL : (ps ++ #[rawInt pos.line, rawInt pos.col, Value.ref c]).toList = ps.toList ++ [rawInt pos.line, rawInt pos.col, .ref c] := by simp
      refine ⟨_, by rw [upd_ne nPc, upd_same], by rw [eL]; exact PySem.TriplesOk_snoc _ _ _ _ ht, fun pos' cv hcv => ?_⟩
      rw [eL] at hcv
      rcases LamX.among_app _ ht hcv with z | z
      · obtain ⟨c0, e1, e2⟩ := ha pos' cv z
        exact ⟨c0, e1, m _ _ e2⟩
      · exact ⟨c, z, upd_same⟩
    · obtain ⟨ps', a1, a2, a3⟩ := rel.tabs p hp
      refine ⟨ps', by rw [at_ p.1 hb (ne_of_none a1 hc)]; exact a1, a2, fun pos' cv hcv => ?_⟩
      obtain ⟨c0, e1, e2⟩ := a3 pos' cv hcv
      exact ⟨c0, e1, m _ _ e2⟩
  · obtain ⟨ps', a1, _⟩ := rel.tabs p hp
    rw [upd_ne (ne_of_none a1 hc)]
    exact rel.gt p hp
  · have h1 : b ≠ P := fun z => by rw [z, hP] at e; exact nt _ (Option.some.inj e).symm
    have h2 : b ≠ c := ne_of_none e hc
    exact ⟨by rw [at_ b h1 h2]; exact e, upd_ne h2⟩
  · by_cases h1 : b = P
    · rw [h1, upd_ne nPc, upd_same]; simp
    · by_cases h2 : b = c
      · rw [h2] at e; exact absurd hc e
      · rw [at_ b h1 h2]; exact e
theorem pe_lam {c P : Addr} {params : Arguments} {body : Expr} {scope : Scope} {pos : Pos} {l : LamD} (hq : l.qual = X.env.qual ++ "<lambda>") (hp : l.params = params) (hb : l.body = body) (hs : l.scope = scope) (TB : LamX.TabB X.base X.mg c P) (hcode : X.env.code = .ref c)
    (hm : (P, l.qual) ∈ L.T) (hu : ∀ p ∈ L.T, p.1 = P → p.2 = l.qual) (hdef : defaultsOf params X.env = ([], [])) (hfree : ∀ y ∈ scope.names, y.2 = .free → X.env.kindOf y.1 = some .cell ∨ X.env.kindOf y.1 = some .free) :
    PE X (.Lambda params body scope pos) (tLamE X.K L l (lamCl X scope)) := by
  subst hp hb hs
  refine ⟨fun pins s σ H Q I ⟨G, S, rel, h⟩ => ?_⟩
  have hfree : ∀ y ∈ l.scope.names, y.2 = .free → ∃ c, X.env.cells.lookup y.1 = some c := fun y hy e => I.ok.has _ (hfree y hy e)
  obtain ⟨ps, hP, ht, ha⟩ := rel.tabs _ hm
  refine PySem.W.kla_eval hdef ?_
  rw [← hq]
  have bP : s.heap.BuiltinsAt X.mg P := TB.bm.keeps I.bk
  have hPh : s.heap.get? P = some { cls := .none, data := .fields ps } := I.hok P _ hP
  -- its object is laid
  have lay : ∀ {H1 : Hp} {G1 : Hp} {h' : Heap} {c' : Addr} {ctv : Value} {tk : Nat}, Inv X pins σ H1 { s with heap := h', toks := tk } → Stp X.K L G H S σ G1 H1 S σ → G1 c' = some (LamX.CodeO c' l.qual) →
      EP X pins σ Q (.ref h'.objs.size) { s with heap := h'.push (PySem.W.kla_obj "<lambda>" l.qual l.params l.body l.scope (lamCl X l.scope) ((X.mg "__name__").getD .none) c' ctv), toks := tk } := by
    intro H1 G1 h' c' ctv tk I1 st hc
    have fr : H1 h'.objs.size = none := I1.hok.fresh (Nat.le_refl _)
    have e : (h'.push (PySem.W.kla_obj "<lambda>" l.qual l.params l.body l.scope (lamCl X l.scope) ((X.mg "__name__").getD .none) c' ctv)).get? h'.objs.size = some (PySem.W.kla_obj "<lambda>" l.qual l.params l.body l.scope (lamCl X l.scope) ((X.mg "__name__").getD .none) c' ctv) := Heap.get?_push_size _ rfl
    have I2 := I1.laid (o := LamO h'.objs.size l (lamCl X l.scope) c') (h' := h'.push (PySem.W.kla_obj "<lambda>" l.qual l.params l.body l.scope (lamCl X l.scope) ((X.mg "__name__").getD .none) c' ctv)) (t' := tk) (a := h'.objs.size) (fun b u e => Heap.get?_push_of_some _ e) (Nat.le_refl _)
      ⟨⟨_, ctv, e⟩, ⟨_, e⟩, fun h1 h2 ⟨pm, ct, z⟩ k => ⟨pm, ct, k _ z⟩⟩
    have st2 := st.rel.grow (o := LamO h'.objs.size l (lamCl X l.scope) c') fr
    refine ⟨.ref h'.objs.size, _, I2, rfl, h _ c' _ _ (st.trans st2) upd_same ?_⟩
    rw [upd_ne]
    · exact hc
    · exact ne_of_none (st.rel.sub _ _ hc) fr
  cases hc : codeAmong pos ps.toList with
  | none =>
    refine PySem.W.kla_makeFunction (mg := X.mg) (c := c) (P := P) (ps := ps) (closure_ok hfree) I.ok.glob (I.mod.glob.keeps I.bk) hcode (TB.code.keeps I.bk) hPh ht hc TB.gP bP fun c' ctv h' tk hx hge hlt hrec htb => ?_
    obtain ⟨c2, oc, vs, t, e2, hoc, hd, hv⟩ := hrec
    cases e2
    have nC : H c' = none := I.hok.fresh hge
    have I1 := LamX.inv_table (t' := tk) (h' := h') I hP (fun b o hb e => hx b o hb e) htb hge ⟨oc, vs, t, hoc, hd, hv⟩
    exact lay I1 (stp_code rel hm hu hP ht ha nC) upd_same
  | some cv =>
    obtain ⟨c', e, hco⟩ := ha pos cv hc
    subst e
    refine PySem.W.kla_makeFunctionHit (mg := X.mg) (c := c) (P := P) (ps := ps) (closure_ok hfree) I.ok.glob (I.mod.glob.keeps I.bk) hcode (TB.code.keeps I.bk) hPh ht hc bP fun ctv h' tk hx hsz => ?_
    have I1 : Inv X pins σ H { s with heap := h', toks := tk } := I.kept hx
    exact lay I1 (Stp.refl rel) hco
end
/-! ### the cells are tracked while the callee runs -/
def withC (H : Hp) (h : Heap) (cl : List (Str × Addr)) : Hp := fun b => if b ∈ cellsOf cl then (match h.get? b with | some o => some (CellX b o) | none => none) else H b
theorem withC_in {H : Hp} {h : Heap} {cl : List (Str × Addr)} {b : Addr} {o : Obj} (hb : b ∈ cellsOf cl) (e : h.get? b = some o) : withC H h cl b = some (CellX b o) := by
  unfold withC
  rw [if_pos hb, e]
theorem withC_out {H : Hp} {h : Heap} {cl : List (Str × Addr)} {b : Addr} (hb : b ∉ cellsOf cl) : withC H h cl b = H b := if_neg hb
/-- where the cells of a frame lie -/
def CellsOut (X : Cx) : Prop := ∀ y c, X.env.cells.lookup y = some c → X.base.get? c = none ∧ c ∉ frs X.stack
theorem cells_out {X : Cx} {pins : List (Addr × Obj)} {σ : L2.St} {H : Hp} {s : Shared} (I : Inv X pins σ H s) (h : ∀ y c, X.env.cells.lookup y = some c → X.fn y = true ∨ (X.base.get? c = none ∧ c ∉ frs X.stack)) : CellsOut X := fun y c e => by
  rcases h y c e with f | f
  · have ge := I.ok.cab y c f e
    refine ⟨?_, fun z => ?_⟩
    · cases q : X.base.get? c with
      | none => rfl
      | some o => exact absurd (Nat.lt_of_lt_of_le (Heap.lt_size q) (Nat.le_trans I.ok.bsz ge)) (Nat.lt_irrefl _)
    · rcases List.mem_cons.mp (I.stkSub c z) with z | z
      · exact I.cne y c e z
      · obtain ⟨_, o, ho, _⟩ := I.ok.funs.mem z
        exact absurd (Nat.lt_of_lt_of_le (Heap.lt_size ho) ge) (Nat.lt_irrefl _)
  · exact f
end MX

set_option Elab.async false
set_option linter.all false
set_option maxRecDepth 100000
set_option autoImplicit false
/-! MX15: a def is called with a lambda. -/
namespace MX
open PySem PySem.Spec PyProof.Rows L2
theorem capS_den {K : PySem.W.Frag} {L : Lk} {G H : Hp} {S : SS} {σ : L2.St} (rel : Rel K L G H S σ) : ∀ {caps : List Nat} {cs : List D}, capS S caps = some cs →
    ∃ ws : List V, DenL K G cs ws ∧ ws.length = caps.length ∧ ∀ (i j : Nat), caps[i]? = some j → ∃ v : V, ws[i]? = some v ∧ σ[j]? = some (some v)
  | [], cs, e => by
    cases e
    exact ⟨[], .nil, rfl, fun i j h => by simp at h⟩
  | k :: caps, cs, e => by
    unfold capS at e
    cases q : S[k]? with
    | none => rw [q] at e; cases e
    | some sl =>
      rw [q] at e
      cases sl with
      | un => cases e
      | own t d => cases e
      | val d =>
        obtain ⟨cs', e1, rfl⟩ := Option.map_eq_some_iff.mp e
        obtain ⟨ws, h1, h2, h3⟩ := capS_den rel e1
        obtain ⟨v, v1, v2⟩ := rel.at_ k _ q
        refine ⟨v :: ws, .cons v2 h1, by simp [h2], fun i j hi => ?_⟩
        cases i with
        | zero => simp at hi; subst hi; exact ⟨v, rfl, v1⟩
        | succ i =>
          obtain ⟨v', a1, a2⟩ := h3 i j (by simpa using hi)
          exact ⟨v', by simpa using a1, a2⟩
/-- the captured names are cells of the frame, held by the slots caps -/
structure CapOk (X : Cx) (l : LamD) (caps : List Nat) : Prop where
  len : caps.length = l.fr.length
  at_ : ∀ (i : Nat) (y : Str), l.fr[i]? = some y → ∃ j, caps[i]? = some j ∧ X.N[j]? = some y ∧ (X.env.scope.names.lookup y = some .cell ∨ X.env.scope.names.lookup y = some .free) ∧ l.scope.names.lookup y = some .free
  free : ∀ y ∈ l.scope.names, y.2 = .free → X.env.kindOf y.1 = some .cell ∨ X.env.kindOf y.1 = some .free
theorem callL_flat {S S' : SS} {r : R} {x : Option (R × SS)} (h : callL S x = some (r, S')) : S' = S ∧ ∃ S0, x = some (r, S0) ∧ (∀ d, r = .v d → d.flat = true) ∧ ∀ d, r = .fr d → d.flat = true := by
  unfold callL at h
  split at h
  · split at h
    · rename_i hf
      cases h
      exact ⟨rfl, _, rfl, (fun d z => by cases z; exact hf), fun d z => nomatch z⟩
    · cases h
  · split at h
    · rename_i hf
      cases h
      exact ⟨rfl, _, rfl, (fun d z => nomatch z), fun d z => by cases z; exact hf⟩
    · cases h
  · cases h; exact ⟨rfl, _, rfl, (fun d z => nomatch z), fun d z => nomatch z⟩
  · cases h
section
variable {X : Cx} {C : Ctx} {a b c e : Expr} {ea eb ec : E} {pos p : Pos}
theorem run_fnL {g k : Nat} {l : LamD} {caps : List Nat} {fa f c : Addr} {fd : FuncData} {ps : List Str} {j : Nat} {pins : List (Addr × Obj)} {s : Shared} {σ : L2.St} {G H : Hp} {S : SS} {us : List Value} {vs : List V} {ds : List D} {Q : VK}
    (tk : L2N.Takes X C.W) (F : FnOk X.prog X.w X.K X.mg X.base (L2N.CX X.prog X.w) j fa fd ps (FnS C.cl X.K C.cv C.L.T g)) (hr : Room j X.A) (hbi : Binds X.K fd ps []) (Lt : lamTab[k]? = some l) (cap : CapOk X l caps) (out : CellsOut X)
    (I : Inv X pins σ H s) (rel : Rel X.K C.L G H S σ) (hf : G f = some (LamO f l (lamCl X l.scope) c)) (hc : G c = some (LamX.CodeO c l.qual)) (hd : DenL X.K G ds vs) (r : Vals (.ref f :: vs) us)
    (fi : Fin X.K C σ G H S Q (capK S caps fun cs => callL S (C.cl.run g (valsS (.clo k cs :: ds))))) : wpAny (model X.prog X.w) X.A (call (.ref fa) us) (EP X pins σ Q) X.xe s := by
  obtain ⟨cs, ecs⟩ : ∃ cs, capS S caps = some cs := by
    cases q : capS S caps with
    | none => unfold capK at fi; rw [q] at fi; exact fin_none fi
    | some cs => exact ⟨cs, rfl⟩
  unfold capK at fi
  rw [ecs] at fi
  dsimp only at fi
  obtain ⟨r0, S0, e0, x1, x2⟩ := fi
  obtain ⟨rfl, S', hrun, fl1, fl2⟩ := callL_flat e0
  obtain ⟨ws, wd, wl, wa⟩ := capS_den rel ecs
  have hfree : ∀ y ∈ l.scope.names, y.2 = .free → ∃ c, X.env.cells.lookup y.1 = some c := fun y hy e => I.ok.has _ (cap.free y hy e)
  generalize ecl : lamCl X l.scope = cl at hf
  have clAt : ∀ y b, (y, b) ∈ cl → X.env.cells.lookup y = some b := fun y b h => by subst ecl; exact lamCl_at hfree h
  have cell : ∀ b ∈ cellsOf cl, ∃ y o v, X.env.cells.lookup y = some b ∧ s.heap.get? b = some o ∧ o.data = .cell v := fun b hb => by
    obtain ⟨p, hp, e⟩ := List.mem_map.mp hb
    have hp' : (p.1, b) ∈ cl := by rw [← e]; exact hp
    obtain ⟨v, o, h1, h2⟩ := I.cell p.1 b (clAt _ _ hp')
    exact ⟨p.1, o, v, clAt _ _ hp', h1, h2⟩
  have Hn : ∀ b ∈ cellsOf cl, H b = none := fun b hb => by
    obtain ⟨y, _, _, e, _⟩ := cell b hb
    exact I.freeC y b e
  have Gn : ∀ b ∈ cellsOf cl, G b = none := fun b hb => by
    cases e : G b with
    | none => rfl
    | some o => have z := rel.sub _ _ e; rw [Hn b hb] at z; cases z
  have upG : Same G (withC G s.heap cl) := fun b o e => by
    rw [withC_out (fun z => by rw [Gn b z] at e; cases e)]; exact e
  have upH : Same H (withC H s.heap cl) := fun b o e => by
    rw [withC_out (fun z => by rw [Hn b z] at e; cases e)]; exact e
  have delW : Same G (delG (withC G s.heap cl) cl) := fun b o e => by
    have nb : b ∉ cellsOf cl := fun z => by rw [Gn b z] at e; cases e
    rw [delG_out nb, withC_out nb]; exact e
  have sub : Same (withC G s.heap cl) (withC H s.heap cl) := fun b o e => by
    by_cases hb : b ∈ cellsOf cl
    · unfold withC at e ⊢
      rw [if_pos hb] at e ⊢
      exact e
    · rw [withC_out hb] at e ⊢
      exact rel.sub _ _ e
  -- the closure
  have clo : CloAt (withC G s.heap cl) f l cl c ws := by
    refine ⟨upG _ _ hf, upG _ _ hc, fun p hp => ?_, fun x y b h1 h2 => ?_, by rw [wl, cap.len], fun i y hy => ?_⟩
    · have hb : p.2 ∈ cellsOf cl := List.mem_map.mpr ⟨p, hp, rfl⟩
      obtain ⟨_, o, v, _, h1, h2⟩ := cell p.2 hb
      exact ⟨o, v, withC_in hb h1, h2⟩
    · exact I.ok.inj x y b (clAt _ _ (PySem.mem_of_lookup h1)) (clAt _ _ (PySem.mem_of_lookup h2))
    · obtain ⟨jj, h1, h2, h3, h4⟩ := cap.at_ i y hy
      obtain ⟨v, v1, v2⟩ := wa i jj h1
      obtain ⟨m, hn, hl⟩ := I.loc
      obtain ⟨u, ru, q⟩ := hl jj y v h2 v2 (h3.elim (fun z => .inr (.inl z)) fun z => .inr (.inr z))
      rcases q with ⟨k', _⟩ | ⟨_, b, e1, o, ho, hdd⟩
      · have k' : X.env.scope.names.lookup y = some .local := k'
        rcases h3 with z | z <;> rw [k'] at z <;> cases z
      · have lk : cl.lookup y = some b := by subst ecl; exact lamCl_has h4 e1 hfree
        have hb : b ∈ cellsOf cl := List.mem_map.mpr ⟨(y, b), PySem.mem_of_lookup lk, rfl⟩
        exact ⟨b, o, u, v, lk, withC_in hb ho, hdd, v1, ru⟩
  have e0 := I.env0
  have e1 : Env0 X.prog X.w X.K X.mg X.base X.A X.stack s (withC H s.heap cl) := by
    refine ⟨e0.frames, e0.mod, fun b o e => ⟨(e0.bs b o e).1, ?_⟩, e0.bsz, e0.funs, fun b hb => ?_, fun b u e => ?_, e0.bare⟩
    · rw [withC_out]
      · exact (e0.bs b o e).2
      · intro hb
        obtain ⟨y, _, _, q, _⟩ := cell b hb
        rw [(out y b q).1] at e; cases e
    · rw [withC_out]
      · exact e0.frf b hb
      · intro hb'
        obtain ⟨y, _, _, q, _⟩ := cell b hb'
        exact (out y b q).2 hb
    · by_cases hb : b ∈ cellsOf cl
      · obtain ⟨_, o, v, _, h1, h2⟩ := cell b hb
        rw [withC_in hb h1] at e
        cases e
        exact ⟨h1, ⟨o, h1⟩, fun h1 h2 z k => k _ z⟩
      · rw [withC_out hb] at e
        exact (e0.hok b u e).stay (fun c v _ q => q) (fun c q => upH _ _ q) fun c xs q => upH _ _ q
  -- behind the call
  have nT : ∀ p ∈ C.L.T, p.1 ∉ cellsOf cl := fun p hp z => by
    obtain ⟨ps', h3, _⟩ := rel.tabs p hp
    rw [Hn _ z] at h3; cases h3
  have tb : TabsG C.L.T (withC G s.heap cl) (withC H s.heap cl) := fun p hp => by
    obtain ⟨ps', h3, h4, h5⟩ := rel.tabs p hp
    refine ⟨ps', upH _ _ h3, h4, fun pos cv hcv => ?_⟩
    obtain ⟨b, eb, q⟩ := h5 pos cv hcv
    exact ⟨b, eb, upG _ _ q⟩
  have gt : ∀ p ∈ C.L.T, (withC G s.heap cl) p.1 = none := fun p hp => by rw [withC_out (nT p hp)]; exact rel.gt p hp
  have back : ∀ {L : Lk} {G2 H2 : Hp} {σ2 : L2.St}, L.T = C.L.T → Stp X.K L (withC G s.heap cl) (withC H s.heap cl) (valsS (.clo k cs :: ds)) ((V.ref f :: vs).map some) G2 H2 S' σ2 →
      (∀ b ∈ cellsOf cl, H2 b = withC H s.heap cl b) ∧ Stp X.K C.L G H S0 σ (delG G2 cl) (delG H2 cl) S0 σ ∧ ∀ v, RR X.K (withC H s.heap cl) (valsS (.clo k cs :: ds)) ((V.ref f :: vs).map some) G2 H2 S' σ2 r0 v → RR X.K H S0 σ (delG G2 cl) (delG H2 cl) S0 σ r0 v := by
    intro L G2 H2 σ2 hT y
    have g2 : ∀ b ∈ cellsOf cl, ∃ o v, s.heap.get? b = some o ∧ o.data = .cell v ∧ G2 b = some (CellX b o) := fun b hb => by
      obtain ⟨_, o, v, _, h1, h2⟩ := cell b hb
      exact ⟨o, v, h1, h2, y.gm _ _ (withC_in hb h1)⟩
    have h2 : ∀ b ∈ cellsOf cl, H2 b = withC H s.heap cl b := fun b hb => by
      obtain ⟨o, v, q1, _, q3⟩ := g2 b hb
      rw [y.rel.sub _ _ q3, withC_in hb q1]
    have notC : ∀ b q, G2 b = some (LamX.CodeO b q) → b ∉ cellsOf cl := fun b q e hb => by
      obtain ⟨o, v, q1, q2, q3⟩ := g2 b hb
      rw [e] at q3
      have z : (fun h : Heap => ∃ (oc : Obj) (vs : Array Value) (t : Tok), h.get? b = some oc ∧ oc.data = .fields vs ∧ vs[1]? = some (.str q t)) = fun h : Heap => h.get? b = some o := by
        have z := Option.some.inj q3
        unfold LamX.CodeO CellX at z
        injection z
      have z2 : (fun h : Heap => h.get? b = some o) s.heap := q1
      rw [← z] at z2
      obtain ⟨oc, vs', t, a1, a2, _⟩ := z2
      rw [q1] at a1
      cases a1
      rw [q2] at a2
      cases a2
    have nT2 : ∀ p ∈ L.T, p.1 ∉ cellsOf cl := fun p hp => nT p (hT ▸ hp)
    have gm : Same G (delG G2 cl) := fun b o e => by
      rw [delG_out (fun z => by rw [Gn b z] at e; cases e)]
      exact y.gm _ _ (upG _ _ e)
    have kp : ∀ b o, NT o → H b = some o → H2 b = some o ∧ G2 b = G b ∧ b ∉ cellsOf cl := fun b o nt e => by
      have nb : b ∉ cellsOf cl := fun z => by rw [Hn b z] at e; cases e
      obtain ⟨q1, q2⟩ := y.keep b o nt (upH _ _ e) own_vals
      rw [withC_out nb] at q2
      exact ⟨q1, q2, nb⟩
    refine ⟨h2, ⟨⟨delG_mono y.rel.sub, rel.len, fun i sl hs => ?_, rel.inj, fun p hp => ?_, fun p hp => ?_⟩, gm, fun b o nt e _ => ?_, fun b e => ?_, fun b h => .inl h⟩, fun v q => ?_⟩
    · refine (rel.at_ i sl hs).mono gm fun b eb ⟨t, d, es⟩ => ?_
      subst es
      obtain ⟨vs0, hv0⟩ := rel.ownL ⟨i, t, d, hs, eb⟩
      obtain ⟨q1, q2, nb⟩ := kp b _ nt_lst hv0
      rw [delG_out nb, delG_out nb, hv0]
      exact ⟨q1, q2⟩
    · obtain ⟨ps', h3, h4, h5⟩ := y.rel.tabs p (hT ▸ hp)
      refine ⟨ps', by rw [delG_out (nT p hp)]; exact h3, h4, fun pos cv hcv => ?_⟩
      obtain ⟨b, eb, q⟩ := h5 pos cv hcv
      exact ⟨b, eb, by rw [delG_out (notC b _ q)]; exact q⟩
    · rw [delG_out (nT p hp)]
      exact y.rel.gt p (hT ▸ hp)
    · obtain ⟨q1, q2, nb⟩ := kp b o nt e
      rw [delG_out nb, delG_out nb]
      exact ⟨q1, q2⟩
    · have nb : b ∉ cellsOf cl := fun z => e (Hn b z)
      rw [delG_out nb]
      exact y.th b (by rw [withC_out nb]; exact e)
    · have ag : AgN G2 (delG G2 cl) := ag_del fun b hb => by
        obtain ⟨o, v, _, _, q3⟩ := g2 b hb
        exact ⟨o, q3⟩
      cases r0 with
      | v d => exact Den.ag ag q (fl1 d rfl)
      | ex c => exact q
      | fr d =>
        obtain ⟨b, eb, ⟨xs, vs1, a1, a2, a3⟩, gg, no, nw⟩ := q
        have nb : b ∉ cellsOf cl := fun z => by
          obtain ⟨o, v, _, _, q3⟩ := g2 b z
          rw [gg] at q3; cases q3
        have hn : H b = none := by
          rcases nw with z | z
          · rw [withC_out nb] at z; exact z
          · exact absurd z own_vals
        have fx : D.flatL xs = true := by
          have := fl2 d rfl
          rw [a1] at this
          simpa [D.flat] using this
        exact ⟨b, eb, ⟨xs, vs1, a1, by rw [delG_out nb]; exact a2, a3.ag ag fx⟩, by rw [delG_out nb]; exact gg, fun z => (rel.ownH z).1 hn, .inl hn⟩
  have hsp : FnS C.cl X.K C.cv C.L.T g (.ref f :: vs) (withC H s.heap cl) (fun v H2 => (∀ b ∈ cellsOf cl, H2 b = withC H s.heap cl b) ∧ Q v (delG H2 cl)) (fun cls d H2 => (∀ b ∈ cellsOf cl, H2 b = withC H s.heap cl b) ∧ C.W cls d σ (delG H2 cl)) := by
    have dl : DenL X.K (withC G s.heap cl) (.clo k cs :: ds) (.ref f :: vs) := .cons (.clo Lt clo (wd.mono delW)) (hd.mono upG)
    refine ⟨withC G s.heap cl, ⟨fun _ => 0, C.L.T⟩, valsS (.clo k cs :: ds), r0, S', rfl, rel_vals sub dl tb gt, (fun j t d e => ?_), hrun, fun b eb G2 H2 σ2 y => ?_, fun G2 H2 σ2 v y q => ?_⟩
    · obtain ⟨_, _, z⟩ := vals_at e
      cases z
    · obtain ⟨y1, y2, _⟩ := back (L := ⟨fun _ => 0, C.L.T⟩) rfl y
      exact ⟨y1, x1 b eb _ _ y2⟩
    · obtain ⟨y1, y2, y3⟩ := back (L := ⟨fun _ => 0, C.L.T⟩) rfl y
      exact ⟨y1, x2 _ _ v y2 (y3 v q)⟩
  have hl : us.length = ps.length := by rw [← r.length]; exact F.len _ _ _ _ hsp
  have bi := hbi s us I.kIn (by rw [List.append_nil]; exact hl)
  rw [List.append_nil] at bi
  refine wpAny_call (codeAny_mono (F.run X.A X.stack s (withC H s.heap cl) ⟨us, []⟩ us (.ref f :: vs) _ _ hr e1 bi r hsp) fun r s' hq => ?_)
  have cellW : ∀ b ∈ cellsOf cl, ∃ o, s.heap.get? b = some o ∧ withC H s.heap cl b = some (CellX b o) := fun b hb => by
    obtain ⟨_, o, v, _, h1, h2⟩ := cell b hb
    exact ⟨o, h1, withC_in hb h1⟩
  have outH : ∀ {H2 : Hp}, (∀ b ∈ cellsOf cl, H2 b = withC H s.heap cl b) → ∀ b u, H2 b = some u → (∀ φ, u ≠ .ext φ) → b ∉ cellsOf cl := fun {H2} h2 b u e n z => by
    obtain ⟨o, _, q⟩ := cellW b z
    rw [h2 b z, q] at e
    exact n _ (Option.some.inj e).symm
  have hokD : ∀ {H2 : Hp} {h : Heap}, (∀ b ∈ cellsOf cl, H2 b = withC H s.heap cl b) → HOk X.prog X.w H2 h → HOk X.prog X.w (delG H2 cl) h := fun {H2 h} h2 ok b u e => by
    have nb : b ∉ cellsOf cl := fun z => by rw [delG_in z] at e; cases e
    rw [delG_out nb] at e
    refine (ok b u e).stay (fun c v _ q => q) (fun c q => ?_) fun c xs q => ?_
    · rw [delG_out (outH h2 c _ q fun φ z => nomatch z)]; exact q
    · rw [delG_out (outH h2 c _ q fun φ z => nomatch z)]; exact q
  cases r with
  | error e =>
    refine L2N.passAt tk σ pins H s e s' I ?_
    obtain ⟨a1, B, H2, cls, d, e2, fl, hok, ub, n1, os, ag, h2, q⟩ := hq
    refine ⟨a1, B, delG H2 cl, cls, d, e2, fl, hokD h2 hok, ⟨fun b o e n nf => ?_, ub.slot, fun b o e n => ?_, ub.there, fun b xs e => ?_, fun b o u e => ?_, fun b ps' e => ?_⟩, ?_, os, ag, q⟩
    · by_cases hb : b ∈ cellsOf cl
      · obtain ⟨o', q1, q2⟩ := cellW b hb
        rw [e] at q1; cases q1
        exact cellX_at hok ((h2 b hb).trans q2)
      · exact ub.keep b o e (by rw [withC_out hb]; exact n) nf
    · by_cases hb : b ∈ cellsOf cl
      · exact delG_in hb
      · rw [delG_out hb]; exact ub.free b o e (by rw [withC_out hb]; exact n)
    · have nb : b ∉ cellsOf cl := fun z => by rw [Hn b z] at e; cases e
      rw [delG_out nb]; exact ub.tups b xs (upH _ _ e)
    · have nb : b ∉ cellsOf cl := fun z => by rw [Hn b z] at e; cases e
      rw [delG_out nb]; exact ub.frzs b o u (upH _ _ e)
    · have nb : b ∉ cellsOf cl := fun z => by rw [Hn b z] at e; cases e
      rw [delG_out nb]; exact ub.tbls b ps' (upH _ _ e)
    · by_cases hb : a1 ∈ cellsOf cl
      · exact delG_in hb
      · rw [delG_out hb]; exact n1
  | ok fl =>
    cases fl with
    | ret u =>
      refine I.after ?_
      obtain ⟨v, H2, os, bare, un, hok, r2, h2, q⟩ := hq
      refine ⟨v, delG H2 cl, os, bare, ⟨fun b o e n h1 h3 => ?_, fun b o e n h1 h3 => ?_, fun b o e n h1 => ?_, un.there, fun b xs e => ?_, fun b o u e => ?_, fun b ps' e => ?_⟩, hokD h2 hok, r2, q⟩
      · by_cases hb : b ∈ cellsOf cl
        · obtain ⟨o', q1, q2⟩ := cellW b hb
          rw [e] at q1; cases q1
          exact cellX_at hok ((h2 b hb).trans q2)
        · exact un.keep b o e (by rw [withC_out hb]; exact n) h1 h3
      · by_cases hb : b ∈ cellsOf cl
        · obtain ⟨o', q1, q2⟩ := cellW b hb
          rw [e] at q1; cases q1
          exact ⟨o.slots, cellX_at hok ((h2 b hb).trans q2)⟩
        · exact un.slot b o e (by rw [withC_out hb]; exact n) h1 h3
      · by_cases hb : b ∈ cellsOf cl
        · exact delG_in hb
        · rw [delG_out hb]; exact un.free b o e (by rw [withC_out hb]; exact n) h1
      · have nb : b ∉ cellsOf cl := fun z => by rw [Hn b z] at e; cases e
        rw [delG_out nb]; exact un.tups b xs (upH _ _ e)
      · have nb : b ∉ cellsOf cl := fun z => by rw [Hn b z] at e; cases e
        rw [delG_out nb]; exact un.frzs b o u (upH _ _ e)
      · have nb : b ∉ cellsOf cl := fun z => by rw [Hn b z] at e; cases e
        rw [delG_out nb]; exact un.tbls b ps' (upH _ _ e)
    | next => exact False.elim hq
    | brk => exact False.elim hq
    | cont => exact False.elim hq
/-- g(lambda: .., es) -/
theorem s_callL {x : Str} {g k : Nat} {l : LamD} {caps : List Nat} {es : List Expr} {xs : List E} {params : Arguments} {body : Expr} {scope : Scope} {lpos : Pos} {c P : Addr} (tk : L2N.Takes X C.W) (F : FnG X C x g) (hg : Gl X x) (hdb : (x == ("__debug__" : Str)) = false)
    (Lt : lamTab[k]? = some l) (hq : l.qual = X.env.qual ++ "<lambda>") (hp : l.params = params) (hb : l.body = body) (hs : l.scope = scope) (TB : LamX.TabB X.base X.mg c P) (hcode : X.env.code = .ref c) (hm : (P, l.qual) ∈ C.L.T) (hu : ∀ p ∈ C.L.T, p.1 = P → p.2 = l.qual)
    (hdef : defaultsOf params X.env = ([], [])) (cap : CapOk X l caps) (hfn : ∀ y c, X.env.cells.lookup y = some c → X.fn y = true ∨ (X.base.get? c = none ∧ c ∉ frs X.stack))
    (hl : SL X C es xs) (hst : ∀ y ∈ es, ∀ r, starEach (y :: r) X.env = (false, eval y X.env) :: starEach r X.env) : SEv X C (.Call (.Name x p) (.Lambda params body scope lpos :: es) [] pos) (.callL g k caps xs) := by
  obtain ⟨fa, fd, ps, j, Fo, hr, hmg, hk, hbi⟩ := F
  have hpl := any_star (xs := xs) hst pos
  have pl : PE X (.Lambda params body scope lpos) (tLamE X.K C.L l (lamCl X l.scope)) := by
    subst hs
    exact pe_lam hq hp hb rfl TB hcode hm hu hdef cap.free
  refine ⟨⟨fun pins s σ H Q I ⟨G, S, rel, fi⟩ => ?_⟩, fun _ h => nomatch h⟩
  unfold ev at fi
  dsimp only at fi
  refine wpAny_Call_Name_kw (ld_glob I hg hmg ?_ hdb)
  refine PySem.W.callWith_K (h₀ := X.base) I.ok.mod.kin hk (thn ((pa_cons pl hl).run pos pins s σ H (fun us H1 => ∃ f c G1 S1 ds vs, us = .ref f :: vs ∧ Rel X.K C.L G1 H1 S1 σ ∧ G1 f = some (LamO f l (lamCl X l.scope) c) ∧ G1 c = some (LamX.CodeO c l.qual) ∧ DenL X.K G1 ds vs ∧ Fin X.K C σ G1 H1 S1 Q (capK S1 caps fun cs => callL S1 (C.cl.run g (valsS (.clo k cs :: ds))))) I ?_) fun us s1 ⟨vs, H1, I1, r, f, c', G1, S1, ds, vs', e1, rel1, h1, h2, hd, f1⟩ => ⟨I1.kIn, ?_⟩) (by rfl) hpl
  · refine ⟨G, S, rel, fun f c' G1 H1 st h1 h2 => ?_⟩
    refine ⟨G1, S, st.rel, (Fin.bndL (Fin.rebase fi st)).mono fun vs H2 ⟨G2, S2, ds, r2, sm, n2, f2⟩ => ?_⟩
    exact ⟨f, c', G2, S2, ds, vs, rfl, r2, sm _ _ h1, sm _ _ h2, n2, f2⟩
  · subst e1
    exact run_fnL tk Fo hr hbi Lt cap (cells_out I1 hfn) I1 rel1 h1 h2 hd r f1
end
end MX

set_option Elab.async false
set_option linter.all false
set_option maxRecDepth 100000
set_option autoImplicit false
/-! MX16: what a name holds is called without arguments. -/
namespace MX
open PySem PySem.Spec PyProof.Rows L2
section
variable {X : Cx} {C : Ctx} {a b c e : Expr} {ea eb ec : E} {pos p : Pos}
theorem s_callv0 {i : Nat} {x : Str} (hN : X.N[i]? = some x) (hv : Vis X.env.scope x) (hdb : (x == ("__debug__" : Str)) = false) (hcd : (x == ("__classdict__" : Str)) = false) (tk : L2N.Takes X C.W) (F : FnN X C) (Lm : LamN X C) : SEv X C (.Call (.Name x p) [] [] pos) (.callv i []) := by
  refine ⟨⟨fun pins s σ H Q I ⟨G, S, rel, fi⟩ => ?_⟩, fun _ h => nomatch h⟩
  unfold ev at fi
  dsimp only at fi
  cases q : rdS S i with
  | none => rw [q] at fi; exact fin_none fi
  | some d =>
    rw [q] at fi
    dsimp only at fi
    obtain ⟨v0, ev0, hb⟩ := rel.rd q
    refine wpAny_Call_Name_kw (thn ((pe_var (pos := p) hN hv hdb hcd).run pins s σ H (fun v H1 => v = v0 ∧ H1 = H) I ⟨v0, ev0, rfl, rfl⟩) fun u s1 ⟨v, H1, I1, r1, q1⟩ => ?_)
    obtain ⟨e1, e2⟩ := q1
    subst e1 e2
    cases d with
    | fn f y =>
      unfold calB at fi
      dsimp only at fi
      by_cases hn : C.cl.nm f = some y
      · rw [if_pos hn] at fi
        rcases hb with hb | ⟨_, _, ⟨_, _, z, _⟩⟩
        · cases hb with
          | @fn _ fa _ _ hns =>
            cases r1
            obtain ⟨fd, ps, k, Fo, hr, hk, hbi⟩ := F f y fa hn hns
            refine PySem.W.callWith_K0 I1.kIn hk ?_
            unfold evs at fi
            have f1 : Fin X.K C σ G H1 S Q (callF C.cl [] S (.fn f y)) := fi
            unfold callF at f1
            dsimp only at f1
            rw [if_pos hn] at f1
            exact run_fnS (us := []) (vs := []) (E := fun σ => WE C.W σ) Fo hr hbi (L2N.passAt tk σ) I1 .nil (call_vals (ds := []) rel .nil rfl f1)
        · cases z
      · rw [if_neg hn] at fi; exact fin_none fi
    | clo k cs =>
      unfold calB at fi
      dsimp only at fi
      rcases hb with hb | ⟨_, _, ⟨_, _, z, _⟩⟩
      · cases hb with
        | @clo _ fa _ l cl c _ ws htab hc hd =>
          cases r1
          refine PySem.W.callWith_F0 (fn_at I1 (rel.sub _ _ hc.obj)) ?_
          unfold evs at fi
          have f1 : Fin X.K C σ G H1 S Q (callF C.cl [] S (.clo k cs)) := fi
          unfold callF at f1
          dsimp only at f1
          rw [if_pos (show D.flatL [] = true from rfl)] at f1
          cases qr : C.cl.run (lamN k) (valsS ([] ++ cs)) with
          | none => rw [qr] at f1; exact fin_none f1
          | some w =>
            obtain ⟨rr, S'⟩ := w
            rw [qr] at f1
            exact Lm k l fa cl c pins s1 σ G H1 S [] [] ws [] cs rr S' Q htab I1 rel hc hd .nil rfl .nil qr f1
      · cases z
    | _ => exact fin_none fi
end
end MX

set_option Elab.async false
set_option linter.all false
set_option maxRecDepth 100000
set_option autoImplicit false
set_option maxHeartbeats 1000000
/-! MX17: where an exception is handled: the ends of iterators, tuples taken apart. -/
namespace MX
open PySem PySem.Spec PyProof.Rows L2 HotX
section
variable {prog : Program} {w : World} {A : Around} {E : Value → Shared → Prop} {s : Shared}
/-- a StopIteration is raised while x1 is handled; what was there stays -/
theorem stop_hot {α : Type} {x1 : Addr} {Q : α → Shared → Prop} (hot : HotAt A x1 s.heap) (hE : ∀ g e, (∀ b o, s.heap.get? b = some o → g.get? b = some o) → (∃ o, g.get? e = some o ∧ o.cls = .type "StopIteration") → E (.ref e) { s with heap := g }) :
    wpAny (model prog w) A (do let v ← newExc (.type "StopIteration") []; (raiseNew v : Sem α)) Q E s := by
  obtain ⟨hh, o1, vs1, h1, d1, c1⟩ := hot
  refine wpAny_bind ?_; simp only [newExc, newTuple]
  refine wpAny_bind (wpAny_newObj_type ?_ (by size_fits)); refine wpAny_bind (m := firstArgMember _ _) (wpAny_of_eq (a := Value.none) (by first | rfl | (simp only [firstArgMember]; rfl)) ?_)
  refine wpAny_newObj_type ?_ (by size_fits); have k1 := Heap.get?_push_of_some { cls := .type "tuple", data := .seq #[] } h1
  refine raiseNew_hot ⟨hh, o1, vs1, Heap.get?_push_of_some _ (Heap.get?_push_of_some _ h1), d1, c1⟩ (Nat.ne_of_lt (Heap.lt_size (Heap.get?_push_of_some _ h1))) (Heap.get?_push_size _ rfl) rfl (by first | (simp; done) | (simp; omega) | (simp only [Array.size_append]; simp; omega)) ?_
  refine hE _ _ (fun b o e => ?_) ⟨_, Heap.get?_update_self _ (Heap.get?_push_size _ rfl) rfl, rfl⟩
  rw [Heap.get?_update_other _ _ (Nat.ne_of_gt (Heap.lt_size (Heap.get?_push_of_some _ e)))]; exact Heap.get?_push_of_some _ (Heap.get?_push_of_some _ e)
theorem HotAt.upd {x1 it : Addr} {h g : Heap} (hot : HotAt A x1 h) (ne : x1 ≠ it) (k : Heap.SameBut it h g) : HotAt A x1 g := by
  obtain ⟨hh, o1, vs1, h1, d1, c1⟩ := hot
  exact ⟨hh, o1, vs1, (k.2 _ ne).trans h1, d1, c1⟩
theorem listEnd_hot {it l x1 : Addr} {i : Nat} {items : Array Value} {Q : Value → Shared → Prop} (hot : HotAt A x1 s.heap) (ne : x1 ≠ it) (hit : s.heap.IsListIter it l i) (hl : s.heap.IsList l items) (hx : items[i]? = none)
    (hE : ∀ g e, Heap.ExtBut it s.heap g → (∃ o, g.get? e = some o ∧ o.cls = .type "StopIteration") → E (.ref e) { s with heap := g }) : wpAny (model prog w) A (Builtin.SmallTypes.nextOf (.ref it)) Q E s := by
  obtain ⟨oi, hoi, ci, di⟩ := id hit
  obtain ⟨oo, hoo, _, nn, dd⟩ := hl
  unfold Builtin.SmallTypes.nextOf
  refine wpAny_bind (wpAny_callSpecial?_slot (name := Str.ofString "__next__") hit.typeIs slot_listiter_next (wpAny_call_entry slot_listiter_next hit.typeIs entry_listiter_next ?_ (args_listiter_next _)))
  show wpAny _ _ (field (.ref it) 0 >>= _) _ _ s
  refine wpAny_bind (wpAny_field hoi di (x := .ref l) rfl ?_); show wpAny _ _ (if (Value.ref l == Value.none) = true then _ else _) _ _ s
  rw [if_neg (show ¬ ((Value.ref l == Value.none) = true) from Bool.false_ne_true)]; show wpAny _ _ (field (.ref it) 1 >>= _) _ _ s
  refine wpAny_bind (wpAny_field hoi di (x := .int i 0) rfl ?_); show wpAny _ _ (seqItems? (.ref l) >>= _) _ _ s
  refine wpAny_bind (wpAny_seqItems hoo dd ?_)
  simp only [Int.toNat_natCast, hx]
  refine wpAny_bind (wpAny_rule (wpAny_bind (wpAny_setField hoi di (by simp) ?_)))
  have hot2 := HotAt.upd (A := A) hot ne (g := s.heap.update it (Obj.mapFields (·.setIfInBounds 0 .none))) (Heap.SameBut.update ..)
  refine stop_hot hot2 fun g e k he => ?_
  exact hE g e (fun b o hb q => k b o (((Heap.SameBut.update ..).2 b hb).trans q)) he
theorem tupleEnd_hot {it t x1 : Addr} {i : Nat} {items : Array Value} {Q : Option Value → Shared → Prop} (hot : HotAt A x1 s.heap) (ne : x1 ≠ it) (hit : IsTupIter s.heap it t i) (ht : IsTup s.heap t items) (hx : items[i]? = none)
    (hQ : ∀ g, Heap.ExtBut it s.heap g → Q none { s with heap := g }) : wpAny (model prog w) A (pyNext (.ref it)) Q E s := by
  obtain ⟨oi, hoi, ci, di⟩ := id hit
  obtain ⟨oo, hoo, _, nn, dd⟩ := ht
  unfold pyNext
  refine wpAny_bind (wpAny_attempt (wpAny_callSpecial?_slot (name := Str.ofString "__next__") hit.typeIs slot_tupleiter_next (wpAny_call_entry slot_tupleiter_next hit.typeIs entry_tupleiter_next ?_ (args_tupleiter_next _))))
  show wpAny _ _ (field (.ref it) 0 >>= _) _ _ s
  refine wpAny_bind (wpAny_field hoi di (x := .ref t) rfl ?_); show wpAny _ _ (if (Value.ref t == Value.none) = true then _ else _) _ _ s
  rw [if_neg (show ¬ ((Value.ref t == Value.none) = true) from Bool.false_ne_true)]; show wpAny _ _ (field (.ref it) 1 >>= _) _ _ s
  refine wpAny_bind (wpAny_field hoi di (x := .int i 0) rfl ?_); show wpAny _ _ (seqItems? (.ref t) >>= _) _ _ s
  refine wpAny_bind (wpAny_seqItems hoo dd ?_)
  simp only [Int.toNat_natCast, hx]
  refine wpAny_bind (wpAny_rule (wpAny_bind (wpAny_setField hoi di (by simp) ?_)))
  have hot2 := HotAt.upd (A := A) hot ne (g := s.heap.update it (Obj.mapFields (·.setIfInBounds 0 .none))) (Heap.SameBut.update ..)
  refine stop_hot hot2 fun g e k ⟨o, he, hc⟩ => ?_
  refine wpAny_bind (wpAny_isInstance (T := "StopIteration") (b := true) ⟨o, he, hc⟩ isSubtype_stop ?_)
  exact wpAny_pure (hQ g fun b o hb q => k b o (((Heap.SameBut.update ..).2 b hb).trans q))
end
end MX

set_option Elab.async false
set_option linter.all false
set_option maxRecDepth 100000
set_option autoImplicit false
set_option maxHeartbeats 1000000
/-! MX18: where an exception is handled: a pair taken apart, zip, a comprehension. -/
namespace MX
open PySem PySem.Spec PyProof.Rows L2 HotX L2H
section
variable {prog : Program} {w : World} {A : Around} {E : Value → Shared → Prop} {s : Shared}
theorem HotAt.kp {x1 : Addr} {h g : Heap} (hot : HotAt A x1 h) (k : ∀ o, h.get? x1 = some o → g.get? x1 = some o) : HotAt A x1 g := by
  obtain ⟨hh, o1, vs1, h1, d1, c1⟩ := hot
  exact ⟨hh, o1, vs1, k _ h1, d1, c1⟩
theorem HotAt.lt {x1 : Addr} {h : Heap} (hot : HotAt A x1 h) : x1 < h.objs.size := by
  obtain ⟨hh, o1, vs1, h1, d1, c1⟩ := hot
  exact Heap.lt_size h1
theorem unpackHot {t x1 : Addr} {items : Array Value} {Q : List Value → Shared → Prop} (hot : HotAt A x1 s.heap) (ht : IsTup s.heap t items)
    (hQ : ∀ g, Heap.ExtBut s.heap.objs.size s.heap g → Q items.toList { s with heap := g }) : wpAny (model prog w) A (unpackItems (.ref t) items.size none) Q E s := by
  have hlt : t ≠ s.heap.objs.size := by obtain ⟨o, ho, _⟩ := ht; exact Nat.ne_of_lt (Heap.lt_size ho)
  have hne : x1 ≠ s.heap.objs.size := Nat.ne_of_lt (HotAt.lt hot)
  unfold unpackItems; refine wpAny_bind ?_
  unfold notIterableAtAll; refine wpAny_bind (wpAny_specialOf ht.typeIs slot_tuple_iter.lookup (wpAny_pure ?_))
  simp only [Bool.false_eq_true, if_false]
  refine wpAny_bind (wpAny_holding (iter_tuple ht (wpAny_bind (wpAny_holding (draw_tuple hlt items.size 0 _ _ ⟨_, Heap.get?_push_size _ rfl, rfl, rfl⟩ (ht.push _) (by omega) fun g1 it1 sb1 => ?_)))))
  rw [show List.take items.size (List.drop 0 items.toList) = items.toList from by rw [List.drop_zero]; exact List.take_of_length_le (by simp), if_neg (by simp)]
  have tup1 : IsTup g1 t items := (ht.push _).extBut sb1.extBut hlt
  have hot1 : HotAt A x1 g1 := HotAt.kp hot fun o e => sb1.extBut x1 o hne (Heap.get?_push_of_some _ e)
  refine wpAny_bind (wpAny_holding (tupleEnd_hot (s := { s with heap := g1 }) hot1 hne it1 tup1 (by simp) fun g2 k2 => ?_))
  simp only [Option.isSome_none, Bool.false_eq_true, if_false]
  exact wpAny_pure (hQ g2 fun b o hb e => k2 b o hb (sb1.extBut b o hb (Heap.get?_push_of_some _ e)))
theorem assignTupHot {env : Env} {elts : List Expr} {k1} {pos : Pos} {t x1 : Addr} {items : Array Value} {Q : Unit → Shared → Prop} (hot : HotAt A x1 s.heap) (ht : IsTup s.heap t items) (hn : (assignEach elts env).length = items.size)
    (hst : (assignEach elts env).findIdx? (·.1) = none) (h : ∀ g, Heap.ExtBut s.heap.objs.size s.heap g → wpAny (model prog w) A (assignInOrder ((assignEach elts env).map (·.2)) items.toList) Q E { s with heap := g }) :
    wpAny (model prog w) A (assign (.Tuple elts k1 pos) env (.ref t)) Q E s := by
  rw [assign_Tuple]
  refine wpAny_bind (wpAny_standAt ?_)
  unfold unpack
  rw [hn, hst]; exact wpAny_bind (wpAny_holding (unpackHot hot ht h))
/-- the end of a zip whose first list is at its end -/
theorem zipEnd_hot {z TI TO i1 i2 l1 l2 x1 : Addr} {k1 : Nat} {xs : Array Value} {a b : Value} {Q : Option Value → Shared → Prop} (hot : HotAt A x1 s.heap) (nz : x1 ≠ z) (ni : x1 ≠ i1) (D : ZipApart z TI TO i1 i2 l1 l2) (hz : IsZip s.heap z TI TO .none)
    (hTI : IsPair s.heap TI (.ref i1) (.ref i2)) (hTO : IsPair s.heap TO a b) (h1 : s.heap.IsListIter i1 l1 k1) (hl1 : s.heap.IsList l1 xs) (hend : xs[k1]? = none)
    (hQ : ∀ g, (∀ c o, c ≠ z → c ≠ i1 → s.heap.get? c = some o → g.get? c = some o) → Q none { s with heap := g }) : wpAny (model prog w) A (pyNext (.ref z)) Q E s := by
  have hT : s.TypeIs (.ref z) "zip" := ⟨_, hz, rfl⟩
  unfold pyNext
  refine wpAny_bind (wpAny_attempt (wpAny_callSpecial?_slot (name := Str.ofString "__next__") hT F.slot_zip_next (wpAny_call_entry F.slot_zip_next hT F.entry_zip_next ?_ (F.args_zip_next_1 _))))
  show wpAny _ _ (field (.ref z) 2 >>= _) _ _ _
  refine wpAny_bind (wpAny_field hz rfl (x := .bool false) rfl ?_); show wpAny _ _ (field (.ref z) 3 >>= _) _ _ _
  refine wpAny_bind (wpAny_field hz rfl (x := .ref TI) rfl (wpAny_bind (wpAny_seqItems hTI rfl ?_))); show wpAny _ _ (Builtin.SmallTypes.ownedTupleIsFree (.ref z) >>= _) _ _ _
  refine wpAny_bind ?_; unfold Builtin.SmallTypes.ownedTupleIsFree
  refine wpAny_bind (wpAny_field hz rfl (x := .none) rfl (wpAny_pure ?_)); simp only [if_true]
  refine wpAny_bind (wpAny_rule (wpAny_bind (wpAny_field hz rfl (x := .ref TO) rfl (wpAny_bind (wpAny_setField_rec hz (by simp) fun g1 hz1 sb1 => ?_)))))
  replace hz1 : IsZip g1 z TI TO .ellipsis := hz1
  have hot1 : HotAt A x1 g1 := HotAt.upd hot nz sb1
  refine wpAny_bind ?_; simp only [List.zipIdx_cons, List.zipIdx_nil, List.forIn_cons, List.forIn_nil]
  refine wpAny_bind (wpAny_bind (wpAny_onRaise ?_)); show wpAny _ _ (Builtin.SmallTypes.nextOf (.ref i1) >>= _) _ _ _
  refine wpAny_bind (listEnd_hot hot1 ni (h1.extBut sb1.extBut D.i1z) (hl1.extBut sb1.extBut D.l1z) hend fun g2 e k2 he => ?_)
  obtain ⟨oe, hoe, hce⟩ := he
  have hz2 : IsZip g2 z TI TO .ellipsis := k2 _ _ D.i1z.symm hz1
  have hez : e ≠ z := fun q => by subst q; rw [hz2] at hoe; cases hoe; simp at hce
  refine wpAny_setField_rec hz2 (by simp) fun g3 _ sb3 => ?_
  refine wpAny_bind (wpAny_isInstance (T := "StopIteration") (b := true) ⟨oe, sb3.extBut _ _ hez hoe, hce⟩ isSubtype_stop ?_)
  exact wpAny_pure (hQ g3 fun c o c1 c2 q => sb3.extBut _ _ c1 (k2 _ _ c2 (sb1.extBut _ _ c1 q)))
end
end MX

set_option Elab.async false
set_option linter.all false
set_option maxRecDepth 100000
set_option autoImplicit false
set_option maxHeartbeats 1000000
/-! MX19: where an exception is handled: a comprehension over zip. -/
namespace MX
open PySem PySem.Spec PyProof.Rows L2 HotX L2H
/-- zip of two lists, the first one no longer than the second -/
def ItzL (K : PySem.W.Frag) (a b : Addr) : It := ⟨(Itz K a b).go, (Itz K a b).yld, fun i H => ∃ xs : List V, SqL K H a xs ∧ (∃ ys : List V, SqL K H b ys) ∧ xs.length ≤ i⟩
theorem walk_zipLe {K : PySem.W.Frag} {a b : Addr} {xs ys : List V} (hn : xs.length ≤ ys.length) : Walk (ItzL K a b) xs.length (fun H => SqL K H a xs ∧ SqL K H b ys) (YPair (fun i => xs[i]?) (fun i => ys[i]?)) :=
  ⟨fun i H hi q => (walk_zip (n := xs.length) (by omega)).goes i H hi q, fun H q => ⟨xs, q.1, ⟨ys, q.2⟩, Nat.le_refl _⟩, fun i H v H' hi q y => (walk_zip (n := xs.length) (by omega)).yields i H v H' hi q y⟩
theorem fp5 {z TI TO i1 i2 c : Addr} (h : c ∈ [z, TI, TO, i1, i2]) : c = z ∨ c = TI ∨ c = TO ∨ c = i1 ∨ c = i2 := by simpa using h
/-- the zip's objects at its i-th turn -/
def ZSt (z TI TO i1 i2 a b : Addr) (i : Nat) (h : Heap) : Prop := IsZip h z TI TO .none ∧ IsPair h TI (.ref i1) (.ref i2) ∧ (∃ x y, IsPair h TO x y) ∧ h.IsListIter i1 a i ∧ h.IsListIter i2 b i
theorem ZSt.there {z TI TO i1 i2 a b : Addr} {i : Nat} {h : Heap} (st : ZSt z TI TO i1 i2 a b i h) : ∀ c ∈ [z, TI, TO, i1, i2], ∃ o, h.get? c = some o ∧ ∀ v, o.data ≠ .cell v := by
  obtain ⟨hz, hTI, ⟨x, y, hTO⟩, ⟨o1, e1, _, d1⟩, ⟨o2, e2, _, d2⟩⟩ := st
  intro c hc
  rcases fp5 hc with rfl | rfl | rfl | rfl | rfl
  · exact ⟨_, hz, nofun⟩
  · exact ⟨_, hTI, nofun⟩
  · exact ⟨_, hTO, nofun⟩
  · exact ⟨o1, e1, fun v q => by rw [d1] at q; cases q⟩
  · exact ⟨o2, e2, fun v q => by rw [d2] at q; cases q⟩
theorem turn_zipLe {P : Program} {w : World} {K : PySem.W.Frag} {elts : List Expr} {kk : Nat} {tpos : Pos} {a b z TI TO i1 i2 : Addr} (D : ZipApart z TI TO i1 i2 a b) : TurnH P w K (.Tuple elts kk tpos) (ItzL K a b) [z, TI, TO, i1, i2] z (ZSt z TI TO i1 i2 a b) where
  mem := List.mem_cons_self
  obj := fun i h st => ZSt.there st
  keep := fun i h h' ⟨hz, hTI, ⟨x, y, hTO⟩, h1, h2⟩ k => ⟨k z (by simp) _ hz, k TI (by simp) _ hTI, ⟨x, y, k TO (by simp) _ hTO⟩, h1.at fun o q => k i1 (by simp) o q, h2.at fun o q => k i2 (by simp) o q⟩
  item := by
    intro X hP hw hK _ i pins s σ H E I hf st hg
    subst hP hw hK
    have far : ∀ c ∈ [z, TI, TO, i1, i2], c < s.heap.objs.size := fun c hc => let ⟨o, e, _⟩ := ZSt.there st c hc; Heap.lt_size e
    obtain ⟨hz, hTI, ⟨x0, y0, hTO⟩, h1, h2⟩ := st
    obtain ⟨xs, ys, x, y, qx, qy, hx, hy⟩ := hg
    obtain ⟨us, rv, pl, _⟩ := I.list qx
    obtain ⟨us2, rv2, pl2, _⟩ := I.list qy
    obtain ⟨u, hu, ru⟩ := rv.get hx
    obtain ⟨u2, hu2, ru2⟩ := rv2.get hy
    refine wpAny_pyNext_zip_item D hz hTI hTO h1 h2 pl.isList pl2.isList (x := u) (y := u2) (by simpa using hu) (by simpa using hu2) fun g z1 TO1 a1 a2 tup _ hk => ⟨_, rfl, ?_⟩
    refine wpAny_letOwnedTupleGo_zip (s := { s with heap := g }) z1 fun g2 z2 sb => ?_
    have up : ∀ c o, c ∉ [z, TI, TO, i1, i2] → s.heap.get? c = some o → g2.get? c = some o := fun c o hb q => by
      simp only [List.mem_cons, List.not_mem_nil, or_false, not_or] at hb
      exact (sb.2 c hb.1).trans (hk c o hb.1 hb.2.2.1 hb.2.2.2.1 hb.2.2.2.2 q)
    have tup2 : g2.get? s.heap.objs.size = some { cls := .type "tuple", data := .seq #[u, u2] } := (sb.2 _ (Nat.ne_of_gt (far z (by simp)))).trans tup
    have I1 := I.turnedNew (ob := .tup [x, y]) (h' := g2) (t' := s.toks) (ch := [z, TI, TO, i1, i2]) up hf (Nat.le_refl _) ⟨(by show 2 ≤ sizeLine; decide), [u, u2], .cons ru (.cons ru2 .nil), ⟨_, tup2, rfl, _, rfl⟩⟩
    refine ⟨.ref s.heap.objs.size, _, I1, rfl, ⟨_, x, y, rfl, I.hok.fresh (Nat.le_refl _), rfl, fun l hl => ?_, fun l hl => ?_⟩, ⟨z2, (sb.2 _ D.TIz).trans (hk _ _ D.TIz D.TITO D.TIi1 D.TIi2 hTI), ⟨u, u2, (sb.2 _ D.TOz).trans TO1⟩, a1.at fun o q => (sb.2 _ D.i1z).trans q, a2.at fun o q => (sb.2 _ D.i2z).trans q⟩, fun c hc => ?_⟩
    · rw [I.list_inj hl qx]; exact hx
    · rw [I.list_inj hl qy]; exact hy
    · rw [upd_ne (Nat.ne_of_lt (far c hc))]
      exact (hf c hc).1
  done := by
    intro X hP hw hK hc i pins s σ H E I hf st hg
    subst hP hw hK
    obtain ⟨p, ⟨hh, v1, e1, c1⟩, hp⟩ := hc
    have P1 := (I.pin p (List.mem_append_left _ hp)).1
    have hot : HotAt X.A p.1 s.heap := ⟨hh, p.2, v1, P1, e1, c1⟩
    have np : ∀ c ∈ [z, TI, TO, i1, i2], p.1 ≠ c := fun c hcm => (hf c hcm).2.2.2.2.2 p (List.mem_append_left _ hp)
    obtain ⟨hz, hTI, ⟨x0, y0, hTO⟩, h1, h2⟩ := st
    obtain ⟨xs, qx, _, hend⟩ := hg
    obtain ⟨us, rv, pl, _⟩ := I.list qx
    have l1 := rv.length
    refine zipEnd_hot hot (np z (by simp)) (np i1 (by simp)) D hz hTI hTO h1 pl.isList (by simp; omega) fun g hk => ⟨rfl, I.turnedL (t' := s.toks) (ch := [z, TI, TO, i1, i2]) (fun c o hb q => hk c o (fun e => hb (by simp [e])) (fun e => hb (by simp [e])) q) hf⟩
  self := fun A i s Q E st h => wpAny_pyIter_zip st.1 h
/-- zip(e, e2), what is walked -/
def iZipL (K : PySem.W.Frag) (ta : TA) : TI := fun σ H R => ta σ H fun vs H1 => ∃ a b xs ys, vs = [.ref a, .ref b] ∧ SqL K H1 a xs ∧ SqL K H1 b ys ∧ R (ItzL K a b) H1
theorem zip_fresh {n c : Nat} (h : c ∈ [n + 4, n + 2, n + 3, n, n + 1]) : n ≤ c := by
  simp only [List.mem_cons, List.not_mem_nil, or_false] at h
  omega
theorem pi_zipLe {X : Cx} {e e2 : Expr} {ta : TA} {p pos tpos : Pos} {elts : List Expr} {kk : Nat} (hg : Gl X "zip") (hm : X.mg "zip" = none) (ha : PA X [e, e2] ta)
    (hs : starEach [e, e2] X.env = (false, eval e X.env) :: starEach [e2] X.env) (hpl : (backTo pos (starEach [e2] X.env)).any (·.1) = false) :
    PIH X (.Tuple elts kk tpos) (.Call (.Name "zip" p) [e, e2] [] pos) (iZipL X.K ta) := by
  refine ⟨fun pins s σ H R I h => ?_⟩
  refine Call_ (ld_blt I hg hm PyProof.Rows.boot_zip (PyProof.Rows.callWith_type1 (thn (ha.run pos pins s σ H _ I h) fun us s1 hq => ?_) hs hpl))
  obtain ⟨vs, H1, I1, r1, a, b, xs, ys, ev, qx, qy, q⟩ := hq
  subst ev
  cases r1 with
  | cons ra rr =>
    cases rr with
    | cons rb rr =>
      cases rr
      cases ra
      cases rb
      obtain ⟨us1, rv, p1, _⟩ := I1.list qx
      obtain ⟨us2, rv2, p2, _⟩ := I1.list qy
      refine call_zip_2 p1.isList p2.isList fun g hz hTI hTO h1 h2 hsz hk => wpAny_pyIter_zip hz ?_
      have I2 : Inv X pins σ H1 { s1 with heap := g } := I1.kept (t' := s1.toks) hk
      exact ⟨s1.heap.objs.size + 4, [s1.heap.objs.size + 4, s1.heap.objs.size + 2, s1.heap.objs.size + 3, s1.heap.objs.size, s1.heap.objs.size + 1], _, _, H1, rfl, I2, turn_zipLe (PySem.W.ktu_apart s1.heap.objs.size a b p1.lt p2.lt), ⟨hz, hTI, ⟨_, _, hTO⟩, h1, h2⟩,
        fun c hcm => I1.fpOk (zip_fresh hcm) (I1.hok.fresh (zip_fresh hcm)), q⟩
end MX

set_option Elab.async false
set_option linter.all false
set_option maxRecDepth 100000
set_option autoImplicit false
set_option maxHeartbeats 1000000
/-! MX20: where an exception is handled: comprehensions. -/
namespace MX
open PySem PySem.Spec PyProof.Rows L2
/-- the block's context, the handled exception pinned -/
abbrev blkH (X : Cx) (s : Shared) (H : Hp) (scope : Scope) (cenv : Env) (fp : List Addr) : Cx := (X.blk s H scope cenv fp).tr X.pn fun _ _ => False
theorem pe_lcH {X : Cx} {elt tg iter : Expr} {ifs : List Expr} {scope : Scope} {own : List (Str × Nat)} {pos : Pos} {wi : TI} {g : TG} {tt : TT} {te : TE} (hc : L2H.HotC X) (hN : X.N.Nodup) (hi : L2H.PIH X tg iter wi) (ok : BlkOk X.N X.env.scope scope own)
    (hg : ∀ (s : Shared) (H : Hp) (C : Addr) (cl : List (Str × Addr)) (fp : List Addr), PG (blkH X s H scope (compEnvC scope cl C X.env) fp) tg g) (ht : ∀ (s : Shared) (H : Hp) (C : Addr) (cl : List (Str × Addr)) (fp : List Addr), PTs (blkH X s H scope (compEnvC scope cl C X.env) fp) ifs tt)
    (he : ∀ (s : Shared) (H : Hp) (C : Addr) (cl : List (Str × Addr)) (fp : List Addr), PE (blkH X s H scope (compEnvC scope cl C X.env) fp) elt te) (hs : ∀ x, foldedSetIterable iter X.env x = pure x) :
    PE X (.ListComp elt [⟨tg, iter, ifs, 0⟩] scope pos) (tLc wi g tt te (own.map (·.2))) := by
  refine ⟨fun pins s σ H Q I h => ?_⟩
  rw [eval_ListComp]
  have fr : ∀ y ∈ scope.names, y.2 = .free → ∃ c, X.env.cells.lookup y.1 = some c := fun y hy e => (ok.free y hy e).elim (fun k => I.ok.has _ (.inl k)) fun k => I.ok.has _ (.inr k)
  refine wpAny_comprehension_free rfl hs (closure_ok fr) ok.kind (fun y hy e => by rw [ok.uniq y hy, e]) (thn (hi.run pins s σ H _ I h) fun xv s1 hx => thn hx fun itv s2 ⟨it, fp, tn, J, H2, ei, I2, T, st2, f2, q⟩ => ?_)
  subst ei
  refine wpAny_newObj_type (newEnv_comp ?_) (by show 0 ≤ sizeLine; decide)
  obtain ⟨W, ⟨m0, w0⟩, turn⟩ := q s2.heap.objs.size (I2.hok.fresh (Nat.le_refl _))
  generalize eD : s2.heap.objs.size = D at w0 turn
  generalize e3 : ({ s2 with heap := s2.heap.push { cls := .type "list", data := .seq ([] : List Value).toArray } } : Shared) = s3
  have h3 : s3.heap = s2.heap.push { cls := .type "list", data := .seq ([] : List Value).toArray } := by rw [← e3]
  have up3 : ∀ b o, s2.heap.get? b = some o → s3.heap.get? b = some o := fun b o e => by rw [h3]; exact Heap.get?_push_of_some _ e
  have I3 : Inv X pins σ (upd H2 D (.lst [])) s3 := by
    rw [← e3]
    exact I2.laid (t' := s2.toks) (fun b o e => Heap.get?_push_of_some _ e) (Nat.le_of_eq eD) ⟨Nat.zero_le _, [], 0, .nil, by rw [← eD]; exact Heap.get?_push_size _ rfl⟩
  have f3 : ∀ b ∈ fp, FpOk X pins (upd H2 D (.lst [])) b ∧ b < s3.heap.objs.size := fun b hb => by
    obtain ⟨o, e, _⟩ := T.obj _ _ st2 b hb
    have lt := Heap.lt_size e
    refine ⟨⟨?_, (f2 b hb).2⟩, by rw [h3, Heap.size_push]; exact Nat.lt_succ_of_lt lt⟩
    rw [upd_ne (by rw [← eD]; exact Nat.ne_of_lt lt)]
    exact (f2 b hb).1
  have st3 : tn 0 s3.heap := T.keep _ _ _ st2 fun b _ o e => up3 b o e
  have I4 := block_start I3 ok hN f3
  have pg := hg s3 (upd H2 D (.lst [])) s3.heap.objs.size (cellsFrom (s3.heap.objs.size + 1) scope.names (cloFrom X.env.cells scope.names [])) fp
  have pt := ht s3 (upd H2 D (.lst [])) s3.heap.objs.size (cellsFrom (s3.heap.objs.size + 1) scope.names (cloFrom X.env.cells scope.names [])) fp
  have pe := he s3 (upd H2 D (.lst [])) s3.heap.objs.size (cellsFrom (s3.heap.objs.size + 1) scope.names (cloFrom X.env.cells scope.names [])) fp
  show codeAny _ _ (.compStart (.ListComp elt [⟨tg, iter, ifs, 0⟩] scope pos) 0 (.ref it) (.ref D) (compEnvC scope (cellsFrom (s3.heap.objs.size + 1) scope.names (cloFrom X.env.cells scope.names [])) s3.heap.objs.size X.env))
    (compPost (model X.prog X.w) X.A X.xe none (EP X pins σ Q) (.ref D) s3.heap.objs.size) { s3 with heap := pushCells (s3.heap.push { cls := .type "dict", data := .dict #[] }) scope.names }
  have n3 : ∀ b ∈ fp, (upd H2 D (.lst [])) b = none := fun b hb => (f3 b hb).1.1
  generalize ece : compEnvC scope (cellsFrom (s3.heap.objs.size + 1) scope.names (cloFrom X.env.cells scope.names [])) s3.heap.objs.size X.env = ce at I4 pg pt pe ⊢
  have cL : ce.locals = s3.heap.objs.size := by rw [← ece]; rfl
  generalize eH : upd H2 D (.lst []) = H3 at I3 I4 pg pt pe w0 n3 f3
  generalize e4 : ({ s3 with heap := pushCells (s3.heap.push { cls := .type "dict", data := .dict #[] }) scope.names } : Shared) = s4 at I4 ⊢
  have up4 : ∀ b o, s3.heap.get? b = some o → s4.heap.get? b = some o := fun b o e => by rw [← e4]; exact pushCells_keeps _ _ _ _ (Heap.get?_push_of_some _ e)
  have st4 : tn 0 s4.heap := T.keep _ _ _ st3 fun b _ o e => up4 b o e
  -- the pin in the block
  have J4 : Inv (blkH X s3 H3 scope ce fp) [] (wipe σ (own.map (·.2))) H3 s4 :=
    ⟨I4.ok.toTry _ _, I4.os, I4.bare, I4.base, I4.loc, I4.cell, I4.free, I4.freeC, fun p hp => by
      have hp : p ∈ X.pn := by rw [List.append_nil] at hp; exact hp
      obtain ⟨a1, a2, a3, a4, a5⟩ := I3.pin p (List.mem_append_left _ hp)
      refine ⟨up4 _ _ a1, a2, ?_, fun z => ?_, a5⟩
      · show p.1 ≠ ce.locals
        rw [cL]
        exact Nat.ne_of_lt (Heap.lt_size a1)
      · rcases List.mem_cons.mp (I3.stkSub p.1 z) with z | z
        · exact a3 z
        · exact a4 z, I4.hok, I4.len⟩
  have hcB : L2H.HotC (blkH X s3 H3 scope ce fp) := hc
  have stat : ∀ {σ' : L2.St} {H' : Hp} {s' : Shared}, Inv (blkH X s3 H3 scope ce fp) [] σ' H' s' → (∀ b ∈ fp, H' b = none) → ∀ b ∈ fp, FpOk (blkH X s3 H3 scope ce fp) [] H' b := fun {σ' H' s'} I' hn b hb =>
    ⟨hn b hb, (I'.ok.exf b hb).1, I'.ok.exfs b hb, .inl hb, fun x c e => (I'.ok.exf b hb).2 x c e, fun p hp => (f3 b hb).1.2.2.2.2.2 p (by rw [List.append_nil] at hp; exact List.mem_append_left _ hp)⟩
  have loop : codeAny (model X.prog X.w) X.A (.compLoop (.ListComp elt [⟨tg, iter, ifs, 0⟩] scope pos) 0 (.ref it) (.ref D) ce) (compPost (model X.prog X.w) X.A X.xe none (EP X pins σ Q) (.ref D) s3.heap.objs.size) s4 := by
    refine compLoop_any (fun n s' => ∃ i H', Inv (blkH X s3 H3 scope ce fp) [] (wipe σ (own.map (·.2))) H' s' ∧ tn i s'.heap ∧ (∀ b ∈ fp, H' b = none) ∧ W i n H') ?_ m0 ⟨0, H3, J4, st4, n3, w0⟩
    rintro n s5 ⟨i, H5, I5, st5, n5, w5⟩
    rcases turn i n H5 w5 with ⟨stop, qq⟩ | ⟨go, Nx, hNx, step⟩
    · refine thnF (T.done (blkH X s3 H3 scope ce fp) rfl rfl rfl hcB i [] s5 _ H5 (fun _ _ => False) I5 (stat I5 n5) st5 stop) fun r s6 ⟨hr, I6⟩ => ?_
      subst hr
      have I7 : Inv X pins σ H5 s6 := I3.call' (ch := fp) I6.os I6.base I6.hok I6.bare fun b hb => ⟨(f3 b hb).1.2.2.2.1, (f3 b hb).1.2.1, (f3 b hb).1.2.2.2.2.1, (f3 b hb).1.2.2.2.2.2⟩
      have nC : H5 s3.heap.objs.size = none := by
        have z : H5 ce.locals = none := I6.free
        rw [cL] at z
        exact z
      obtain ⟨m, hn, _⟩ := I6.loc
      have hn : s6.heap.Ns ce.locals m := hn
      rw [cL] at hn
      refine ⟨m, hn, fun g1 sb => ?_⟩
      obtain ⟨f0, f1, f2', f3', f4, f5⟩ := I3.fpOk (Nat.le_refl _) nC
      exact ⟨.ref D, H5, I7.turned (t' := s6.toks) (fun b o hb e => (sb.2 b hb).trans e) f0 f1 f3' f4 f5, rfl, qq⟩
    · refine thnF (T.item (blkH X s3 H3 scope ce fp) rfl rfl rfl hcB i [] s5 _ H5 (fun _ _ => False) I5 (stat I5 n5) st5 go) fun r s6 ⟨u, hr, h6⟩ => ?_
      subst hr
      refine thnF h6 fun _ s7 ⟨x, H7, I7, r7, y7, st7, n7⟩ => ?_
      have I7' := I7.pinned (stat I7 n7) (T.obj _ _ st7)
      refine thnF (pg.run _ s7 _ H7 x u _ I7' r7 (step x H7 y7)) fun _ s8 ⟨σ8, H8, I8, hw8, q8⟩ => thnF (pt.run _ s8 σ8 H8 _ I8 q8) fun b s9 ⟨H9, I9, q9⟩ => ?_
      have fin : ∀ {s' : Shared} {H' : Hp}, Inv (blkH X s3 H3 scope ce fp) ([] ++ pinsAt fp s7.heap) σ8 H' s' → Nx H' → ∃ m, m < n ∧ ∃ i H', Inv (blkH X s3 H3 scope ce fp) [] (wipe σ (own.map (·.2))) H' s' ∧ tn i s'.heap ∧ (∀ b ∈ fp, H' b = none) ∧ W i m H' := fun {s' H'} I' nx => by
        obtain ⟨m', hm, w'⟩ := hNx H' nx
        have pin' : ∀ b ∈ fp, ∀ o, s7.heap.get? b = some o → s'.heap.get? b = some o ∧ H' b = none := fun b hb o e =>
          let z := I'.pin (b, o) (List.mem_append_right _ (List.mem_append_right _ (mem_pinsAt hb e)))
          ⟨z.1, z.2.1⟩
        refine ⟨m', hm, i + 1, H', (I'.unpinned (pins := [])).weak (by rw [← hw8, wipe_length]) (fun j v e => ?_), T.keep _ _ _ st7 fun b hb o e => (pin' b hb o e).1, fun b hb => ?_, w'⟩
        · rw [← hw8] at e
          exact (wipe_some e).1
        · obtain ⟨o, e, _⟩ := T.obj _ _ st7 b hb
          exact (pin' b hb o e).2
      cases b with
      | false =>
        rw [if_neg Bool.false_ne_true] at q9
        exact (if_neg Bool.false_ne_true).mpr (fin I9 q9)
      | true =>
        rw [if_pos rfl] at q9
        refine (if_pos rfl).mpr (thnF (pe.run _ s9 σ8 H9 _ I9 q9) fun z s10 ⟨yv, H10, I10, r10, acc, hD10, hz10, nx⟩ => ?_)
        exact app_ok (X := blkH X s3 H3 scope ce fp) I10 hD10 hz10 r10 fun s11 I11 => fin I11 nx
  exact codeAny_compStart_list loop (T.self X.A 0 _ _ _ st4 loop)
end MX

set_option Elab.async false
set_option linter.all false
set_option maxRecDepth 100000
set_option autoImplicit false
set_option maxHeartbeats 1000000
/-! MX21: slices, reversed ones, split, join, f-strings. -/
namespace MX
open PySem PySem.Spec PyProof.Rows L2
section
variable {X : Cx} {C : Ctx} {a b c e : Expr} {ea eb ec : E} {pos p : Pos}
/-- a slice's bound: there (p), or not -/
inductive SO (X : Cx) (C : Ctx) : Option Expr → Bool → E → Prop where
  | no : SO X C none false (.cst .non)
  | yes {e : Expr} {x : E} (h : SEv X C e x) : SO X C (some e) true x
theorem PO.imp {o : Option Expr} {t t' : TO} (h : PO X o t) (m : ∀ σ H Q, t' σ H Q → t σ H Q) : PO X o t' := ⟨fun pins s σ H Q I q => h.run pins s σ H Q I (m σ H Q q)⟩
theorem SO.op {o : Option Expr} {p : Bool} {x : E} (h : SO X C o p x) : PO X o (fun σ H Q' => ∃ G S k Q, Rel X.K C.L G H S σ ∧ Fin X.K C σ G H S Q (obnd p (fun S => ev C.cl x S) S k) ∧
    ∀ o H1 G1 S1, Rel X.K C.L G1 H1 S1 σ → Same G G1 → Fin X.K C σ G1 H1 S1 Q (k o S1) → Q' o H1) := by
  cases h with
  | no => exact PO.imp po_none fun σ H Q' ⟨G, S, k, Q, rel, f, m⟩ => m none H G S rel (Same.refl _) f
  | yes h =>
    refine PO.imp (po_some h.se) fun σ H Q' ⟨G, S, k, Q, rel, f, m⟩ => ?_
    refine ⟨G, S, rel, (Fin.bnd f).mono fun v H1 ⟨G1, S1, d, r1, s1, n1, f1⟩ => ?_⟩
    cases n1 with
    | int i => exact ⟨i, rfl, m _ H1 G1 S1 r1 s1 f1⟩
    | _ => exact fin_none f1
theorem DenL.cut {K : PySem.W.Frag} {G : Hp} {ds : List D} {vs : List V} (h : DenL K G ds vs) (lo hi : Option Int) : DenL K G (cutD ds lo hi) (cutV vs lo hi) := by
  have dr : ∀ (n : Nat) {ds : List D} {vs : List V}, DenL K G ds vs → DenL K G (ds.drop n) (vs.drop n) := by
    intro n
    induction n with
    | zero => intro ds vs h; exact h
    | succ n ih => intro ds vs h; cases h with
      | nil => exact .nil
      | cons _ t => exact ih t
  have tk : ∀ (n : Nat) {ds : List D} {vs : List V}, DenL K G ds vs → DenL K G (ds.take n) (vs.take n) := by
    intro n
    induction n with
    | zero => intro ds vs h; exact .nil
    | succ n ih => intro ds vs h; cases h with
      | nil => exact .nil
      | cons a t => exact .cons a (ih t)
  unfold cutD cutV
  rw [h.length]
  exact tk _ (dr _ h)
theorem cut_whole {ds : List D} {lo hi : Option Int} (h : HT.sIx ds.length 0 lo = 0 ∧ HT.sIx ds.length ds.length hi = ds.length) : cutD ds lo hi = ds := by
  unfold cutD
  rw [h.1, h.2, List.drop_zero, Nat.sub_zero, List.take_of_length_le (Nat.le_refl _)]
theorem s_slc {lo hi : Option Expr} {xl xh : E} {kl kh : Bool} {p2 : Pos} (ha : SEv X C a ea) (hl : SO X C lo kl xl) (hh : SO X C hi kh xh) : SEv X C (.Subscript a (.Slice lo hi none p2) pos) (.slc ea kl xl kh xh) := by
  refine ⟨PE.imp (pe_slice (SlR.or sl_tupA (SlR.or sl_list sl_str)) ha.se hl.op hh.op) fun σ H Q ⟨G, S, rel, f⟩ => ?_, fun _ h => nomatch h⟩
  unfold ev at f
  refine ⟨G, S, rel, (Fin.bnd f).mono fun v H1 ⟨G1, S1, d, r1, s1, n1, f1⟩ => ?_⟩
  refine ⟨G1, S1, _, Q, r1, f1, fun l H2 G2 S2 r2 s2 f2 => ?_⟩
  refine ⟨G2, S2, _, Q, r2, f2, fun u H3 G3 S3 r3 s3 f3 => ?_⟩
  have n3 := n1.mono (s2.trans s3)
  cases n3 with
  | @tup _ q vs ds hp t =>
    have f4 : Fin X.K C σ G3 H3 S3 Q (some (.v (.tup (cutD ds l u)), S3)) := f3
    refine .inl ⟨q, vs, rfl, Same.tup r3.sub hp, fun e => ?_, fun _ => f4.newTup r3 (t.cut l u)⟩
    rw [← t.length] at e
    rw [cut_whole e] at f4
    exact f4.now r3 (.tup hp t)
  | @lst _ q vs ds hp t =>
    have f4 : Fin X.K C σ G3 H3 S3 Q (some (.fr (.lst (cutD ds l u)), S3)) := f3
    exact .inr (.inl ⟨q, vs, rfl, .inl (.inl (r3.sub _ _ hp)), f4.newLst r3 (t.cut l u)⟩)
  | str z =>
    have f4 : Fin X.K C σ G3 H3 S3 Q (retR S3 (if z.length ≤ sizeLine then some (.v (.str (L2.cutS z l u))) else none)) := f3
    by_cases hz : z.length ≤ sizeLine
    · rw [if_pos hz] at f4
      exact .inr (.inr ⟨z, rfl, hz, f4.now r3 (.str _)⟩)
    · rw [if_neg hz] at f4
      exact fin_none f4
  | _ => exact fin_none f3
theorem strsD_den {K : PySem.W.Frag} {G : Hp} : ∀ {ds : List D} {vs : List V} {ys : List Str}, strsD ds = some ys → DenL K G ds vs → vs = ys.map V.str
  | [], _, _, e, .nil => by cases e; rfl
  | _ :: _, _, _, e, .cons h t => by
    cases h with
    | str x =>
      obtain ⟨ys, e1, rfl⟩ := Option.map_eq_some_iff.mp e
      rw [strsD_den e1 t]
      rfl
    | _ => cases e
theorem den_strs {K : PySem.W.Frag} {G : Hp} : ∀ (ys : List Str), DenL K G (ys.map .str) (ys.map V.str)
  | [] => .nil
  | y :: ys => .cons (.str y) (den_strs ys)
theorem s_split {apos : Pos} (ha : SEv X C a ea) (hb : SEv X C b eb) (hbase : attributeBase a "split" X.env (eval a X.env) = eval a X.env) (hs : starEach [b] X.env = [(false, eval b X.env)]) (hline : (apos.endLine == pos.line) = true) :
    SEv X C (.Call (.Attribute a "split" apos) [b] [] pos) (.split ea eb) := by
  have hfew : ((backTo pos (starEach [b] X.env)).all (fun x => !x.1) && (backToKw pos (keywordEach [] X.env)).all (fun x => x.1.isSome)
      && decide ([b].length + ([] : List Keyword).length + (if ([] : List Keyword).isEmpty then 0 else 1) < 30)) = true := by rw [hs]; rfl
  refine ⟨PE.imp (pe_bm PySem.F.plainAttrs_str PySem.F.slot_str_split PySem.F.type_str_split mt_split ha.se (pa_cons hb.se pa_nil hs) hbase hfew hline hs (by rfl)) fun σ H Q ⟨G, S, rel, f⟩ => ?_, fun _ h => nomatch h⟩
  unfold ev at f
  refine ⟨G, S, rel, (Fin.bnd f).mono fun v H1 ⟨G1, S1, d, r1, s1, n1, f1⟩ => ?_⟩
  cases n1 with
  | str x =>
    refine ⟨rfl, G1, S1, r1, (Fin.bnd f1).mono fun w H2 ⟨G2, S2, d2, r2, s2, n2, f2⟩ => ?_⟩
    cases n2 with
    | str y =>
      have f3 : Fin X.K C σ G2 H2 S2 Q (retR S2 (if (y.length == 0) = false ∧ x.length + 2 ≤ sizeLine then some (.fr (.lst ((Txt.split x y).map .str))) else none)) := f2
      by_cases hz : (y.length == 0) = false ∧ x.length + 2 ≤ sizeLine
      · rw [if_pos hz] at f3
        exact ⟨x, y, rfl, rfl, hz.1, hz.2, f3.newLst r2 (den_strs _)⟩
      · rw [if_neg hz] at f3
        exact fin_none f3
    | _ => exact fin_none f2
  | _ => exact fin_none f1
theorem s_join {apos : Pos} (ha : SEv X C a ea) (hb : SEv X C b eb) (hbase : attributeBase a "join" X.env (eval a X.env) = eval a X.env) (hs : starEach [b] X.env = [(false, eval b X.env)]) (hline : (apos.endLine == pos.line) = true) :
    SEv X C (.Call (.Attribute a "join" apos) [b] [] pos) (.join ea eb) := by
  have hfew : ((backTo pos (starEach [b] X.env)).all (fun x => !x.1) && (backToKw pos (keywordEach [] X.env)).all (fun x => x.1.isSome)
      && decide ([b].length + ([] : List Keyword).length + (if ([] : List Keyword).isEmpty then 0 else 1) < 30)) = true := by rw [hs]; rfl
  refine ⟨PE.imp (pe_bm PySem.F.plainAttrs_str PySem.F.slot_str_join PySem.F.type_str_join mt_join ha.se (pa_cons hb.se pa_nil hs) hbase hfew hline hs (by rfl)) fun σ H Q ⟨G, S, rel, f⟩ => ?_, fun _ h => nomatch h⟩
  unfold ev at f
  refine ⟨G, S, rel, (Fin.bnd f).mono fun v H1 ⟨G1, S1, d, r1, s1, n1, f1⟩ => ?_⟩
  cases n1 with
  | str x =>
    refine ⟨rfl, G1, S1, r1, (Fin.bnd f1).mono fun w H2 ⟨G2, S2, d2, r2, s2, n2, f2⟩ => ?_⟩
    have f3 : Fin X.K C σ G2 H2 S2 Q (retR S2 (((seqD d2).bind strsD).bind (joinS x))) := f2
    refine fin_retR f3 fun r e f4 => ?_
    obtain ⟨ys, e1, e2⟩ := Option.bind_eq_some_iff.mp e
    obtain ⟨ds, e3, e4⟩ := Option.bind_eq_some_iff.mp e1
    unfold joinS at e2
    split at e2
    · rename_i hz
      cases e2
      cases n2 with
      | @tup _ q vs ds' hp t =>
        cases e3
        refine ⟨x, q, ys, rfl, rfl, .inr ?_, hz, f4.now r2 (.str _)⟩
        rw [← strsD_den e4 t]
        exact Same.tup r2.sub hp
      | @lst _ q vs ds' hp t =>
        cases e3
        refine ⟨x, q, ys, rfl, rfl, .inl ?_, hz, f4.now r2 (.str _)⟩
        rw [← strsD_den e4 t]
        exact .inl (.inl (r2.sub _ _ hp))
      | _ => cases e3
    · cases e2
  | _ => exact fin_none f1
/-- the parts of an f-string -/
def SJ (X : Cx) (C : Ctx) (es : List Expr) (xs : List E) : Prop := ∃ ts, PJ X es ts ∧ ∀ σ G H S (Q : VK) (acc : Str), Rel X.K C.L G H S σ → Fin X.K C σ G H S Q (evJ C.cl xs acc S) → tJs ts acc σ H fun out H1 => Q (.str out) H1
theorem j_nil : SJ X C [] [] := ⟨[], .nil, fun σ G H S Q acc rel f => by
  unfold evJ at f
  exact f.now rel (.str _)⟩
theorem fmtK_use {K : PySem.W.Frag} {σ : L2.St} {G H : Hp} {S : SS} {Q : VK} {acc : Str} {d : D} {k : Str → Option (R × SS)} (f : Fin K C σ G H S Q (fmtK acc d k)) : ∃ y, fmtD d = some y ∧ (acc ++ y).length ≤ sizeLine ∧ Fin K C σ G H S Q (k (acc ++ y)) := by
  unfold fmtK at f
  cases e : fmtD d with
  | none => rw [e] at f; exact fin_none f
  | some y =>
    rw [e] at f
    dsimp only at f
    by_cases hz : (acc ++ y).length ≤ sizeLine
    · rw [if_pos hz] at f
      exact ⟨y, rfl, hz, f⟩
    · rw [if_neg hz] at f
      exact fin_none f
theorem fmt_str {x y : Str} (e : fmtD (.str x) = some y) : x.length ≤ sizeLine ∧ y = x := by
  have e' : (if x.length ≤ sizeLine then some x else none) = some y := e
  split at e'
  · rename_i h
    exact ⟨h, (Option.some.inj e').symm⟩
  · cases e'
theorem fmt_int {i : Int} {y : Str} (e : fmtD (.int i) = some y) : i.natAbs.log2 < 1920 ∧ y = toString i := by
  have e' : (if i.natAbs.log2 < 1920 then some ((toString i : String) : Str) else none) = some y := e
  split at e'
  · rename_i h
    exact ⟨h, (Option.some.inj e').symm⟩
  · cases e'
theorem j_str {x : Str} {j : Nat} {p1 : Pos} {es : List Expr} {xs : List E} (h : SJ X C es xs) : SJ X C (.Constant (.str x) j p1 :: es) (.cst (.str x) :: xs) := by
  obtain ⟨ts, h1, h2⟩ := h
  refine ⟨_, .cons pe_str h1, fun σ G H S Q acc rel f => ?_⟩
  unfold evJ at f
  have f1 : Fin X.K C σ G H S Q (fmtK acc (.str x) fun acc' => evJ C.cl xs acc' S) := by
    unfold ev at f
    exact f
  obtain ⟨y, e, hz, f2⟩ := fmtK_use f1
  have ey := (fmt_str e).2
  subst ey
  exact ⟨y, rfl, hz, h2 σ G H S Q _ rel f2⟩
theorem j_fmt {p1 : Pos} {es : List Expr} {xs : List E} (ha : SEv X C a ea) (h : SJ X C es xs) : SJ X C (.FormattedValue a (-1) none p1 :: es) (ea :: xs) := by
  obtain ⟨ts, h1, h2⟩ := h
  refine ⟨_, .cons (pe_fmt ha.se) h1, fun σ G H S Q acc rel f => ?_⟩
  unfold evJ at f
  refine ⟨G, S, rel, (Fin.bnd f).mono fun v H1 ⟨G1, S1, d, r1, s1, n1, f1⟩ => ?_⟩
  obtain ⟨y, e, hz, f2⟩ := fmtK_use f1
  cases n1 with
  | str x =>
    obtain ⟨hx, ey⟩ := fmt_str e
    subst ey
    exact .inl ⟨_, rfl, hx, _, rfl, hz, h2 σ G1 H1 S1 Q _ r1 f2⟩
  | int i =>
    obtain ⟨hx, ey⟩ := fmt_int e
    subst ey
    exact .inr ⟨i, rfl, hx, _, rfl, hz, h2 σ G1 H1 S1 Q _ r1 f2⟩
  | _ => cases e
theorem s_fstr {v1 v2 : Expr} {rest : List Expr} {xs : List E} (h : SJ X C (v1 :: v2 :: rest) xs) : SEv X C (.JoinedStr (v1 :: v2 :: rest) pos) (.fstr xs) := by
  obtain ⟨ts, h1, h2⟩ := h
  refine ⟨PE.imp (pe_joined h1) fun σ H Q ⟨G, S, rel, f⟩ => ?_, fun _ h => nomatch h⟩
  unfold ev at f
  exact h2 σ G H S Q _ rel f
end
end MX

set_option Elab.async false
set_option linter.all false
set_option maxRecDepth 100000
set_option autoImplicit false
set_option maxHeartbeats 1000000
/-! MX22: a list, a tuple from behind. -/
namespace MX
open PySem PySem.Spec PyProof.Rows L2
section
variable {prog : Program} {w : World} {A : Around} {E : Value → Shared → Prop} {s : Shared}
theorem rev_places (n : Nat) : Builtin.Slice.slicePlaces ((n : Int) - 1) (-1) (-1) = n := by
  unfold Builtin.Slice.slicePlaces
  rw [if_neg (by decide)]
  by_cases h : (n : Int) - 1 > -1
  · rw [if_pos h]
    have e : ((n : Int) - 1 - -1 - 1) / (- -1) + 1 = n := by
      rw [show (- -1 : Int) = 1 by decide, Int.ediv_one]
      omega
    rw [e]
    rfl
  · rw [if_neg h]
    have : n = 0 := by omega
    subst this
    rfl
theorem rev_pick (xs : Array Value) : ((List.range xs.size).filterMap fun (k : Nat) => xs[(((xs.size : Int) - 1) + (k : Int) * (-1)).toNat]?).toArray = xs.toList.reverse.toArray := by
  congr 1
  have key : ∀ (n : Nat), n ≤ xs.size → ((List.range n).filterMap fun (k : Nat) => xs[(((xs.size : Int) - 1) + (k : Int) * (-1)).toNat]?) = xs.toList.reverse.take n := by
    intro n
    induction n with
    | zero => intro _; rfl
    | succ n ih =>
      intro h
      rw [List.range_succ, List.filterMap_append, ih (by omega)]
      have e : (((xs.size : Int) - 1) + (n : Int) * (-1)).toNat = xs.size - 1 - n := by omega
      have lt : xs.size - 1 - n < xs.size := by omega
      rw [List.take_succ]
      congr 1
      show ([n].filterMap fun (k : Nat) => xs[(((xs.size : Int) - 1) + (k : Int) * (-1)).toNat]?) = _
      rw [List.filterMap_cons, List.filterMap_nil]
      try dsimp only
      rw [e, List.getElem?_reverse (by rw [Array.length_toList]; omega), Array.length_toList, Array.getElem?_toList]
      rw [Array.getElem?_eq_getElem lt]
      rfl
  rw [key xs.size (Nat.le_refl _), List.take_of_length_le (by simp)]
theorem tuple_rev {t sl : Addr} {items : Array Value} {vl vu vs : Value} {Q : Value → Shared → Prop} (ht : IsTup s.heap t items) (hs : s.heap.IsSliceOf sl vl vu vs) (pl : IsPart vl none) (pu : IsPart vu none) (ps : IsPart vs (some (-1)))
    (h : Q (.ref s.heap.objs.size) { s with heap := s.heap.push { cls := .type "tuple", data := .seq items.toList.reverse.toArray } }) (hsz : items.size ≤ sizeLine) : wpAny (model prog w) A (getItem (.ref t) (.ref sl)) Q E s := by
  obtain ⟨os, ho, hc, hd⟩ := id hs
  have ty : s.TypeIs (.ref sl) "slice" := ⟨os, ho, hc⟩
  unfold getItem
  try with_reducible refine wpAny_holding ?_
  first | refine wpAny_bind (wpAny_pure ?_) | skip
  refine wpAny_bind (wpAny_sequenceKey ht.typeIs (by decide) ?_)
  refine wpAny_bind (wpAny_callSpecial?_slot (name := Str.ofString "__getitem__") ht.typeIs PyProof.Rows.slot_tuple_getitem (wpAny_call_entry PyProof.Rows.slot_tuple_getitem ht.typeIs PyProof.Rows.entry_tuple_getitem ?_ (args_tuple_getitem _ _)))
  show wpAny _ _ (Builtin.Tuple.tupleItemsOf (.ref t) >>= _) _ _ s
  refine wpAny_bind (tupleItemsOf_ ht (wpAny_bind (wpAny_typeOf ty ?_))); rw [if_pos (by decide)]
  refine wpAny_bind ?_
  unfold Builtin.Slice.sliceApplied Builtin.Slice.sliceFields
  refine wpAny_bind (wpAny_bind (wpAny_field ho hd (x := vl) rfl (wpAny_bind (wpAny_field ho hd (x := vu) rfl (wpAny_bind (wpAny_field ho hd (x := vs) rfl (wpAny_pure ?_)))))))
  refine wpAny_bind (HT.slicePart_ ps ?_)
  show wpAny _ _ (if ((-1 : Int) == 0) = true then _ else _) _ _ s
  rw [if_neg (by decide)]
  refine wpAny_bind (HT.slicePart_ pl (wpAny_bind (HT.slicePart_ pu (wpAny_bind (wpAny_pure ?_)))))
  show wpAny _ _ (pure (((items.size : Int) - 1), (-1 : Int), Builtin.Slice.slicePlaces ((items.size : Int) - 1) (-1) (-1))) _ _ s
  rw [rev_places]
  refine wpAny_pure ?_
  have no : ¬ ((((items.size : Int) - 1) == 0 && (-1 : Int) == 1 && items.size == items.size) = true) := by
    rw [show ((-1 : Int) == 1) = false from rfl]
    simp
  show wpAny _ _ (if (((items.size : Int) - 1) == 0 && (-1 : Int) == 1 && items.size == items.size) = true then _ else _) _ _ s
  rw [if_neg no, rev_pick]
  have sz : sizeOk (.seq items.toList.reverse.toArray) := by
    show items.toList.reverse.toArray.size ≤ sizeLine
    simpa using hsz
  first
    | exact wpAny_bind (m := Builtin.Tuple.tupleExact _) (wpAny_newObj_type (wpAny_pure ⟨_, rfl, wpAny_pure h⟩) sz)
    | exact wpAny_bind (m := Builtin.Tuple.tupleExact _) (wpAny_newObj_type (wpAny_bind (wpAny_pure (wpAny_pure ⟨_, rfl, wpAny_pure h⟩))) sz)
    | exact wpAny_bind (wpAny_bind (m := Builtin.Tuple.tupleExact _) (wpAny_newObj_type (wpAny_pure (wpAny_pure ⟨_, rfl, wpAny_pure h⟩)) sz))
    | exact wpAny_bind (wpAny_bind (m := Builtin.Tuple.tupleExact _) (wpAny_newObj_type (wpAny_pure ⟨_, rfl, wpAny_pure h⟩) sz))
end
section
variable {X : Cx} {C : Ctx} {a b c e : Expr} {ea eb ec : E} {pos p : Pos}
def tRevA (K : PySem.W.Frag) (te : TE) : TE := fun σ H Q => te σ H fun x H1 => (∃ a xs, x = .ref a ∧ SqL K H1 a xs ∧ ∀ p, H1 p = none → Q (.ref p) (upd H1 p (.lst xs.reverse))) ∨ ∃ a xs, x = .ref a ∧ SqT K H1 a xs ∧ ∀ p, H1 p = none → Q (.ref p) (upd H1 p (.tup xs.reverse))
theorem pe_revA {te : TE} {k : Nat} {p1 p2 p3 : Pos} (he : PE X e te) : PE X (.Subscript e (.Slice none none (some (.UnaryOp .USub (.Constant (.int 1) k p1) p2)) p3) pos) (tRevA X.K te) := by
  refine ⟨fun pins s σ H Q I h => Subscript_ (thn (he.run pins s σ H _ I h) fun v s1 ⟨x, H1, I1, r1, q1⟩ => ?_)⟩
  have one : PO X (some (.UnaryOp .USub (.Constant (.int 1) k p1) p2)) (tPart (tUn (rU fun i => .int (-i)) (tC (.int 1)))) := po_some (pe_un un_neg pe_int)
  refine wpAny_Slice (thn (po_none.run pins s1 σ H1 (fun o H2 => o = none ∧ H2 = H1) I1 ⟨rfl, rfl⟩) fun vl s2 ⟨l, H2, I2, pl, el, e2⟩ => ?_); subst el e2
  refine thn (po_none.run pins s2 σ H2 (fun o H3 => o = none ∧ H3 = H2) I2 ⟨rfl, rfl⟩) fun vu s3 ⟨u, H3, I3, pu, eu, e3⟩ => ?_; subst eu e3
  refine thn (one.run pins s3 σ H3 (fun o H4 => o = some (-1) ∧ H4 = H3) I3 ⟨1, rfl, -1, rfl, rfl, rfl⟩) fun vs s4 ⟨o, H4, I4, ps, eo, e4⟩ => ?_; subst eo e4
  have I5 : Inv X pins σ H4 { s4 with heap := s4.heap.push { cls := .type "slice", data := .fields #[vl, vu, vs] } } := I4.kept (t' := s4.toks) fun b ob q => Heap.get?_push_of_some _ q
  rcases q1 with ⟨a, xs, ex, hx, q⟩ | ⟨a, xs, ex, hx, q⟩
  · subst ex
    cases r1
    obtain ⟨us, r, ht, hz⟩ := I5.list hx
    have hlen := r.length
    show wpAny (model X.prog X.w) X.A (subscriptTail e (.Slice none none (some (.UnaryOp .USub (.Constant (.int 1) k p1) p2)) p3) (.ref a) (.ref s4.heap.objs.size)) (EP X pins σ Q) X.xe { s4 with heap := s4.heap.push { cls := .type "slice", data := .fields #[vl, vu, vs] } }
    refine tail_any (ops := [.ref a, .ref s4.heap.objs.size]) ht.isList.typeIs (PySem.slot_list_getitem.lookup) ?_ (by with_unfolding_all rfl)
    refine wpAny_getItem_list_slice ht.isList (Heap.IsSliceOf.new _ vl vu vs) pl pu ps (by decide) ?_ (by rw [List.size_toArray]; omega); rw [PySem.W.krv_pick]
    refine ⟨.ref _, _, I5.laid (t' := s4.toks) (o := .lst xs.reverse) (fun b ob q => Heap.get?_push_of_some _ q) (Nat.le_refl _) ?_, rfl, q _ (I5.hok.fresh (Nat.le_refl _))⟩
    exact ⟨by rw [List.length_reverse]; exact hz, _, 0, r.reverse, Heap.get?_push_size _ rfl⟩
  · subst ex
    cases r1
    obtain ⟨us, r, ht, hz⟩ := I5.tuple hx
    have hlen := r.length
    show wpAny (model X.prog X.w) X.A (subscriptTail e (.Slice none none (some (.UnaryOp .USub (.Constant (.int 1) k p1) p2)) p3) (.ref a) (.ref s4.heap.objs.size)) (EP X pins σ Q) X.xe { s4 with heap := s4.heap.push { cls := .type "slice", data := .fields #[vl, vu, vs] } }
    refine tail_any (ops := [.ref a, .ref s4.heap.objs.size]) ht.typeIs (PyProof.Rows.slot_tuple_getitem.lookup) ?_ (by with_unfolding_all rfl)
    refine tuple_rev ht (Heap.IsSliceOf.new _ vl vu vs) pl pu ps ?_ (by rw [List.size_toArray]; omega)
    refine ⟨.ref _, _, I5.laid (t' := s4.toks) (o := .tup xs.reverse) (fun b ob q => Heap.get?_push_of_some _ q) (Nat.le_refl _) ?_, rfl, q _ (I5.hok.fresh (Nat.le_refl _))⟩
    exact ⟨by rw [List.length_reverse]; exact hz, _, r.reverse, IsTup.new _ _⟩
theorem DenL.rev {K : PySem.W.Frag} {G : Hp} : ∀ {ds : List D} {vs : List V}, DenL K G ds vs → DenL K G ds.reverse vs.reverse
  | _, _, .nil => .nil
  | _, _, .cons h t => by
    rw [List.reverse_cons, List.reverse_cons]
    exact (DenL.rev t).append (.cons h .nil)
theorem s_rev {k : Nat} {p1 p2 p3 : Pos} (ha : SEv X C a ea) : SEv X C (.Subscript a (.Slice none none (some (.UnaryOp .USub (.Constant (.int 1) k p1) p2)) p3) pos) (.rev ea) := by
  refine ⟨PE.imp (pe_revA ha.se) fun σ H Q ⟨G, S, rel, f⟩ => ?_, fun _ h => nomatch h⟩
  unfold ev at f
  refine ⟨G, S, rel, (Fin.bnd f).mono fun v H1 ⟨G1, S1, d, r1, s1, n1, f1⟩ => ?_⟩
  cases n1 with
  | @tup _ q vs ds hp t =>
    have f4 : Fin X.K C σ G1 H1 S1 Q (some (.v (.tup ds.reverse), S1)) := f1
    exact .inr ⟨q, vs, rfl, Same.tup r1.sub hp, f4.newTup r1 t.rev⟩
  | @lst _ q vs ds hp t =>
    have f4 : Fin X.K C σ G1 H1 S1 Q (some (.fr (.lst ds.reverse), S1)) := f1
    exact .inl ⟨q, vs, rfl, .inl (.inl (r1.sub _ _ hp)), f4.newLst r1 t.rev⟩
  | _ => exact fin_none f1
end
end MX

set_option Elab.async false
set_option linter.all false
set_option maxRecDepth 100000
set_option autoImplicit false
set_option maxHeartbeats 1000000
/-! MX23: what is done with an error that is handled. -/
namespace MX
open PySem PySem.Spec PyProof.Rows L2
section
variable {X : Cx} {C : Ctx} {a b c e : Expr} {ea eb ec : E} {pos p : Pos}
/-- (a, b, ..) = a tuple, while an exception is handled -/
theorem pg_tupH {es : List Expr} {k : Nat} {t : TGs} {n : Nat} (hc : L2H.HotC X) (h : PGs X es t) (hn : (assignEach es X.env).length = n) (hst : (assignEach es X.env).findIdx? (·.1) = none) : PG X (.Tuple es k pos) (gTup X.K n t) := by
  refine ⟨fun pins s σ H v u Q I r ⟨q, xs, e1, hq, hl, hw⟩ => ?_⟩
  subst e1
  cases r
  obtain ⟨us, rv, ht, hz⟩ := I.tuple hq
  obtain ⟨x1, hot⟩ := hc.at I
  refine assignTupHot hot ht (by simp [hn, ← hl, rv.length]) hst fun g k => ?_
  have I1 : Inv X pins σ H { s with heap := g } := I.kept (t' := s.toks) fun b o e => k b o (Nat.ne_of_lt (Heap.lt_size e)) e
  exact h.run pins _ σ H xs _ Q I1 (by simpa using rv) hw
theorem g_tpH {es : List Expr} {is : List Nat} {kk : Nat} (hc : L2H.HotC X) (h : SGs X es is) (hn : (assignEach es X.env).length = is.length) (hst : (assignEach es X.env).findIdx? (·.1) = none) : SG X (.Tuple es kk pos) (.tp is) := pg_tupH hc h hn hst
theorem walk_zipD {K : PySem.W.Frag} {G : Hp} {p q : Addr} {vs ws : List V} {ds es : List D} (hl : ds.length ≤ es.length) (h : SqL K G p vs) (h' : SqL K G q ws) (t : DenL K G ds vs) (t' : DenL K G es ws) : WalkOK K G (ItzL K p q) (zipD ds es) := by
  have l1 := t.length
  have l2 := t'.length
  refine ⟨fun H => SqL K H p vs ∧ SqL K H q ws, YPair (fun i => vs[i]?) (fun i => ws[i]?), ?_, fun G' H' m m' => ⟨m'.seq (m.seq h), m'.seq (m.seq h')⟩, fun i H x H' hi y G' m m' => ?_⟩
  · have e : (zipD ds es).length = vs.length := by rw [zipD_len]; omega
    rw [e]
    exact walk_zipLe (by omega)
  · obtain ⟨T, x1, x2, rfl, hT, rfl, e1, e2⟩ := y
    obtain ⟨d1, q1, q2⟩ := t.getv e1
    obtain ⟨d2, q3, q4⟩ := t'.getv e2
    exact ⟨_, zipD_get ds es i d1 d2 q1 q3, .inr ⟨T, _, hT, rfl, den_pair m' hT (q2.mono m) (q4.mono m)⟩⟩
/-- [elt for a, b in zip(e, e2) if c], while an exception is handled -/
theorem s_compH {elt : Expr} {tgs : List Expr} {kk : Nat} {tpos zp zpos : Pos} {ifs : List Expr} {scope : Scope} {own : List (Str × Nat)} {xe : E} {is : List Nat} {cond : List E} (hc : L2H.HotC X) (nd : X.N.Nodup) (hz : X.mg "zip" = none) (hg0 : Gl X "zip") (ha : SEv X C a ea) (hb : SEv X C b eb)
    (hs : starEach [a, b] X.env = (false, eval a X.env) :: starEach [b] X.env) (hs2 : starEach [b] X.env = [(false, eval b X.env)]) (ok : BlkOk X.N X.env.scope scope own) (ho : own.map (·.2) = is)
    (hg : ∀ (s : Shared) (H : Hp) (Cc : Addr) (cl : List (Str × Addr)) (fp : List Addr), SG (blkH X s H scope (compEnvC scope cl Cc X.env) fp) (.Tuple tgs kk tpos) (.tp is))
    (ht : ∀ (s : Shared) (H : Hp) (Cc : Addr) (cl : List (Str × Addr)) (fp : List Addr), PTs (blkH X s H scope (compEnvC scope cl Cc X.env) fp) ifs (condO X.K C.nox cond))
    (he : ∀ (s : Shared) (H : Hp) (Cc : Addr) (cl : List (Str × Addr)) (fp : List Addr), PE (blkH X s H scope (compEnvC scope cl Cc X.env) fp) elt (tF X.K C.nox fun S => ev C.cl xe S))
    (hfs : ∀ x, foldedSetIterable (.Call (.Name "zip" zp) [a, b] [] zpos) X.env x = pure x) :
    SEv X C (.ListComp elt [⟨.Tuple tgs kk tpos, .Call (.Name "zip" zp) [a, b] [] zpos, ifs, 0⟩] scope pos) (.comp xe (.tp is) .zipH [ea, eb] cond) := by
  have hi := pi_zipLe (X := X) (elts := tgs) (kk := kk) (tpos := tpos) (p := zp) (pos := zpos) hg0 hz (l_cons ha (l_cons hb l_nil hs2) hs) hs (by rw [hs2]; rfl)
  refine ⟨PE.imp (pe_lcH (g := tgR X.K (.tp is)) (tt := condO X.K C.nox cond) (te := tF X.K C.nox fun S => ev C.cl xe S) hc nd hi ok hg ht he hfs) fun σ H Q h => ?_, fun _ h => nomatch h⟩
  rw [ho]
  refine comp_read (wi := iZipL X.K (tL X.K C [ea, eb])) (fun σ G H S R rel f => ⟨G, S, rel, f.mono fun vs H1 ⟨G1, ds, xs, m, t, e, k⟩ => ?_⟩) h
  cases t with
  | nil => cases e
  | cons h t =>
    cases t with
    | nil => cases h <;> cases e
    | cons h2 t =>
      cases t with
      | cons _ _ => cases h <;> cases h2 <;> cases e
      | nil =>
        cases h with
        | @lst _ q vs ds hp t =>
          cases h2 with
          | @lst _ q2 vs2 ds2 hp2 t2 =>
            have e' : (if ds.length ≤ ds2.length then some (zipD ds ds2) else none) = some xs := e
            split at e'
            · rename_i hl
              cases e'
              exact ⟨q, q2, vs, vs2, rfl, .inl (.inl (m _ _ hp)), .inl (.inl (m _ _ hp2)), k _ (walk_zipD hl (.inl (.inl hp)) (.inl (.inl hp2)) t t2)⟩
            · cases e'
          | _ => cases e
        | _ => cases h2 <;> cases e
/-- isinstance(e, c), e the exception that is handled -/
theorem call_isP {x D : Addr} {oe : Obj} (hp : (x, oe) ∈ X.pn) (F : ExcC X.K D) (hz : Zc (.ref D) none oe) (hf : ∃ vs, oe.data = .fields vs) : CallR X (.builtin "isinstance") (rIsE X.K D x) := by
  intro pins s σ H xs us Q I r ⟨cc, cv, b, ex, hcv, ek, q⟩
  subst ex
  cases r with
  | cons rx rr =>
    cases rr with
    | cons rt rr =>
      cases rr
      cases rx
      have ec := hcv _ rt
      subst ec
      have get := (I.pin (x, oe) (List.mem_append_left _ hp)).1
      obtain ⟨vs, hv⟩ := hf
      have J : PySem.W.InstAt s.heap x oe D none := by
        obtain ⟨oc, od, oda, osl⟩ := oe
        obtain ⟨h1, h2⟩ := hz
        dsimp only at h1 h2 hv
        subst h1 h2 hv
        exact ⟨get, rfl, rfl, trivial⟩
      refine PySem.W.kia_one (PySem.W.handS_kitx_exc F.hg F.hk F.hs F.hd F.ha F.hn F.ht F.hm) I.kIn J ek (fun z => nomatch z) fun tk => ?_
      exact ⟨.bl b, H, I.kept (t' := tk) fun _ _ z => z, rfl, q⟩
theorem s_isE {i : Nat} {x y : Str} {D K2 ad : Addr} {oe : Obj} {b0 : Bool} {p1 p2 p3 : Pos} (hp : (ad, oe) ∈ X.pn) (F : ExcC X.K D) (hz : Zc (.ref D) none oe) (hf : ∃ vs, oe.data = .fields vs) (hN : X.N[i]? = some x) (hv : Vis X.env.scope x) (hd : (x == ("__debug__" : Str)) = false) (hcd : (x == ("__classdict__" : Str)) = false)
    (hm : X.mg y = some (.ref K2)) (hg : Gl X y) (hdy : (y == ("__debug__" : Str)) = false) (hk : PySem.W.kitOne X.K (.ref D) (.ref K2) = some b0) (hgi : Gl X "isinstance") (hmi : X.mg "isinstance" = none)
    (hs : starEach [.Name x p1, .Name y p2] X.env = (false, eval (.Name x p1) X.env) :: starEach [.Name y p2] X.env) (hs2 : starEach [.Name y p2] X.env = [(false, eval (.Name y p2) X.env)]) :
    SEv X C (.Call (.Name "isinstance" p3) [.Name x p1, .Name y p2] [] pos) (.isE i ad b0) := by
  refine ⟨PE.imp (pe_callB (call_isP hp F hz hf) hgi hmi (by decide +kernel) (pa_cons (pe_var hN hv hd hcd) (pa_cons (pe_glob (v := .ref K2) hg hm rfl hdy) pa_nil hs2) hs) (by decide) (by decide) hs (by rw [hs2]; rfl)) fun σ H Q ⟨G, S, rel, f⟩ => ?_, fun _ h => nomatch h⟩
  unfold ev isER at f
  try dsimp only at f
  cases q : rdS S i with
  | none => rw [q] at f; exact fin_none f
  | some d =>
    rw [q] at f
    obtain ⟨v, e1, hb⟩ := rel.rd q
    cases d with
    | adr a' =>
      dsimp only at f
      by_cases ha : a' = ad
      · rw [if_pos ha] at f
        subst ha
        rcases hb with hb | ⟨_, _, ⟨_, _, z, _⟩⟩
        · cases hb
          refine ⟨_, e1, ?_⟩
          exact ⟨_, .ref K2, b0, rfl, fun u r => r, hk, f.now rel (.bl _)⟩
        · cases z
      · rw [if_neg ha] at f; exact fin_none f
    | _ => exact fin_none f
end
end MX

set_option Elab.async false
set_option linter.all false
set_option maxRecDepth 100000
set_option autoImplicit false
set_option maxHeartbeats 1000000
/-! MX24: a def that is called while an error is handled; try. -/
namespace MX
open PySem PySem.Spec PyProof.Rows L2
/-- what a def promises while p is handled -/
structure FnHp (P : Program) (w : World) (K : PySem.W.Frag) (mg : Str → Option Value) (base : Heap) (k : Nat) (f : Addr) (fd : FuncData) (ps : List Str) (sp : Addr × Obj → Sp) : Prop where
  len : ∀ p vs H Q E, sp p vs H Q E → vs.length = ps.length
  run : ∀ (A : Around) (outer : List Env) (s : Shared) (H : Hp) (args : Args) (us : List Value) (vs : List V) (Q : VK) (E : XK) (p : Addr × Obj), L2H.RoomH k A → L2H.Hot1 A p → L2H.PinOk outer H s p → Env0 P w K mg base A outer s H →
    BindsTo s fd args (ps.zip us) → Vals vs us → sp p vs H Q E → codeAny (model P w) A (.call (.ref f) args) (CR (L2N.CX P w) outer P w H s Q E) s
theorem fnHp_of {P : Program} {w : World} {K : PySem.W.Frag} {mg : Str → Option Value} {base : Heap} {k : Nat} {f : Addr} {fd : FuncData} {x : Str} {st : Stmt} {N ps : List Str} {sp : Addr × Obj → Sp} (F : Fun K x x st f fd) (Sc : FnScope N ps (defScope st))
    (len : ∀ p vs H Q E, sp p vs H Q E → vs.length = ps.length)
    (hbody : ∀ (cdv : Value) (A : Around) (outer : List Env) (s : Shared) (H : Hp) (vs : List V) (Q : VK) (E : XK) (p : Addr × Obj), L2H.Hot1 A p → L2H.RoomH k (A.deeper (envOfC x (defScope st) s.heap.objs.size f cdv)) → sp p vs H Q E →
      ∃ t, PSs (L2H.cxH (L2N.CX P w) P w K mg base N x (defScope st) f cdv A outer s H E p) (defBody st) t ∧ t { nx := fun _ H' => Q .non H', rt := Q } (L2.start N vs) H) : FnHp P w K mg base (k + 1) f fd ps sp := by
  obtain ⟨oc, od, kV, doc, pm, an, cdv, ct, osl, rfl, lk, hcd⟩ := F.ex
  refine ⟨len, fun A outer s H args us vs Q E p hr hot pin e0 bi r h => ?_⟩
  have KX : K.In s.heap := e0.mod.kin.keeps fun b o e => (e0.bs b o e).1
  have kinds : ∀ y ∈ ps.zip us, (defScope st).names.lookup y.1 = some .local ∨ ((defScope st).names.lookup y.1 = some .cell ∧ ((cellsFrom (s.heap.objs.size + 1) (defScope st).names []).lookup y.1).isSome = true) := fun ⟨n, v⟩ hy =>
    (Sc.par n (List.of_mem_zip hy).1).imp id fun q => ⟨q, PySem.W.cellsFrom_some _ _ _ (.inl q)⟩
  refine codeAny_call_function hr.depth (KX _ _ lk) rfl Sc.co Sc.gen rfl (PySem.W.codeRec_of KX hcd) (bi _ _ _ _ (wpAny_newFunctionEnv_cells Sc.kind kinds fun env he s1 inC => ?_)); subst he
  refine ⟨(e0.mod.nolimit.keeps fun b o e => (e0.bs b o e).1).keeps inC.toInCall.keep, codeAny_func ?_⟩
  obtain ⟨t, ht, hq⟩ := hbody cdv A outer s H vs Q E p hot (hr.deeper _) h
  refine wpAny_mono (ht.run [] s1 (L2.start N vs) H _ (L2H.inv_startH Sc pin e0 (len _ _ _ _ _ h) r inC) hq) (fun fl s' hs => ?_) fun e s' hs => hs
  have fin : ∀ {σ' : L2.St} {H' : Hp} {v : V} {u : Value}, Inv (L2H.cxH (L2N.CX P w) P w K mg base N x (defScope st) f cdv A outer s H E p) [] σ' H' s' → RelV v u → Q v H' → CE outer P w H s Q u s' := fun J rv q => ⟨_, _, J.os, J.bare, J.base, J.hok, rv, q⟩
  match fl, hs with
  | .ret u, ⟨v, σ', H', J, rv, q⟩ => exact fin J rv q
  | .next, ⟨σ', H', J, q⟩ => exact fin (v := V.non) (u := Value.none) J rfl q
  | .brk, ⟨_, _, _, q⟩ => exact False.elim q
  | .cont, ⟨_, _, _, q⟩ => exact False.elim q
/-- the label of the error that is handled -/
def spN (K : PySem.W.Frag) (cv : Nat → Value) (nm : List (Nat × Str)) (T : List (Addr × Str)) (p : Addr × Obj) : Sp := fun vs H Q _ => ∃ c x G L, vs = [.ref p.1] ∧ nm.lookup c = some x ∧ L2N.Zn (cv c) none p.2 ∧ (∃ vs, p.2.data = .fields vs) ∧ L.T = T ∧ Rel K L G H [.val (.adr p.1)] [some (.ref p.1)] ∧
  ∀ G' H' S' σ', Stp K L G H [.val (.adr p.1)] [some (.ref p.1)] G' H' S' σ' → Q (.str x) H'
/-- what is known of the classes that have a label -/
structure XF (K : PySem.W.Frag) (cv : Nat → Value) (nm : List (Nat × Str)) (B : Addr) : Prop where
  at_ : ∀ c x, nm.lookup c = some x → ∃ D, cv c = .ref D ∧ ExcC K D ∧ PySem.W.kitOne K (.ref D) (.type "ValueError") = some true ∧ PySem.W.exmOne K (.ref D) (.ref B) = some true
/-- the def that tells the label -/
def NmG (X : Cx) (C : Ctx) (x : Str) (nm : List (Nat × Str)) : Prop := ∃ fa fd k, FnHp X.prog X.w X.K X.mg X.base k fa fd ["e"] (spN X.K C.cv nm C.L.T) ∧ Room k X.A ∧ X.mg x = some (.ref fa) ∧ PySem.W.keepIn X.K (.ref fa) = true ∧ Binds X.K fd ["e"] []
section
variable {X : Cx} {C : Ctx} {a b c e : Expr} {ea eb ec : E} {pos p : Pos}
/-- the label's call in the suite -/
def tNmC (K : PySem.W.Frag) (C : Ctx) (nm : List (Nat × Str)) (i : Nat) (a : Addr) (oe : Obj) : TE := fun σ H Q => ∃ c x G S, nm.lookup c = some x ∧ L2N.Zn (C.cv c) none oe ∧ Rel K C.L G H S σ ∧ σ[i]? = some (some (.ref a)) ∧
  ∀ G' H', Stp K C.L G H S σ G' H' S σ → Q (.str x) H'
theorem pe_nm {x n : Str} {nm : List (Nat × Str)} {i : Nat} {ad : Addr} {oe : Obj} {pn : List (Addr × Obj)} {p1 p2 : Pos} (F : NmG X C x nm) (hz : PXN.CtxN oe) (hf : ∃ vs, oe.data = .fields vs) (hg : Gl X x) (hdb : (x == ("__debug__" : Str)) = false) (hN : X.N[i]? = some n) (hv : Vis X.env.scope n)
    (hd : (n == ("__debug__" : Str)) = false) (hcd : (n == ("__classdict__" : Str)) = false) (hs : starEach [.Name n p2] (X.suite ad ((ad, oe) :: pn)).env = [(false, eval (.Name n p2) (X.suite ad ((ad, oe) :: pn)).env)]) :
    PE (X.suite ad ((ad, oe) :: pn)) (.Call (.Name x p1) [.Name n p2] [] pos) (tNmC X.K C nm i ad oe) := by
  obtain ⟨fa, fd, k, Fo, hr, hm, hk, hb⟩ := F
  refine ⟨fun pins s σ H Q I ⟨cc, lb, G, S, h1, h2, rel, h3, h4⟩ => ?_⟩
  have hg' : Gl (X.suite ad ((ad, oe) :: pn)) x := hg
  refine wpAny_Call_Name_kw (ld_glob I hg' hm ?_ hdb)
  have hpa : PA (X.suite ad ((ad, oe) :: pn)) [.Name n p2] (tCons (tVar i) tNil) := pa_cons (pe_var hN hv hd hcd) pa_nil hs
  refine PySem.W.callWith_K (h₀ := X.base) I.ok.mod.kin hk (thn (hpa.run pos pins s σ H (fun vs H1 => vs = [.ref ad] ∧ H1 = H) I ⟨_, h3, rfl, rfl⟩) fun us s1 ⟨vs, H1, I1, r, e1, e2⟩ => ⟨I1.kIn, ?_⟩) (by rw [hs]; rfl) (by rfl)
  subst e1 e2
  have P1 := I1.pin (ad, oe) (List.mem_append_left _ List.mem_cons_self)
  have pin : L2H.PinOk X.stack H1 s1 (ad, oe) := ⟨P1.1, P1.2.1, fun hm => (List.mem_cons.mp (I1.stkSub ad hm)).elim P1.2.2.1 P1.2.2.2.1, P1.2.2.2.2⟩
  obtain ⟨fs, hfs⟩ := hf
  have hot : L2H.Hot1 (X.suite ad ((ad, oe) :: pn)).A (ad, oe) := ⟨rfl, fs, hfs, hz fs hfs⟩
  have hl : us.length = ["e"].length := by rw [← r.length]; rfl
  have bi := hb s1 us I1.kIn (by rw [List.append_nil]; exact hl)
  rw [List.append_nil] at bi
  have no : ∀ b, ¬ Own [Sl.val (.adr ad)] [some (V.ref ad)] b := fun b ⟨j, t, d, q, _⟩ => by
    cases j with
    | zero => cases q
    | succ j => simp at q
  have rel1 : Rel X.K C.L G H1 [.val (.adr ad)] [some (V.ref ad)] := by
    refine ⟨rel.sub, rfl, fun j sl q => ?_, fun i j b q _ => absurd ⟨i, q⟩ (no b), rel.tabs, rel.gt⟩
    cases j with
    | zero => cases q; exact ⟨.ref ad, rfl, .adr⟩
    | succ j => simp at q
  have hrH : L2H.RoomH k (X.suite ad ((ad, oe) :: pn)).A := ⟨hr.dp, hr.un⟩
  have sp : spN X.K C.cv nm C.L.T (ad, oe) [.ref ad] H1 Q (fun _ _ _ => False) := ⟨cc, lb, G, C.L, rfl, h1, h2, ⟨fs, hfs⟩, rfl, rel1, fun G' H' S' σ' y => h4 G' H' (back_vals (L := C.L) (L' := C.L) rfl no rel y).1⟩
  refine wpAny_call (codeAny_mono (Fo.run (X.suite ad ((ad, oe) :: pn)).A X.stack s1 H1 ⟨us, []⟩ us [.ref ad] Q _ (ad, oe) hrH hot pin I1.env0 bi r sp) fun r s' hq => ?_)
  cases r with
  | error e =>
    obtain ⟨_, _, _, _, _, _, _, _, _, _, _, _, z⟩ := hq
    exact False.elim z
  | ok fl =>
    cases fl with
    | ret u => exact I1.after hq
    | next => exact False.elim hq
    | brk => exact False.elim hq
    | cont => exact False.elim hq
def tSu (K : PySem.W.Frag) (C : Ctx) (nm : List (Nat × Str)) (told : Bool) (i : Nat) (a : Addr) (cls : Value) (d : Option Addr) : TS := fun D σ H => ∃ c x G S, cls = C.cv c ∧ d = none ∧ nm.lookup c = some x ∧ Rel K C.L G H S σ ∧ (i < σ.length → σ[i]? = some (some (.ref a))) ∧
  ∀ G' H' v, Stp K C.L G H S σ G' H' S σ → Den K G' (ndl told x) v → D.rt v H'
/-- the suite's judgement -/
def Su (X : Cx) (C : Ctx) (nm : List (Nat × Str)) (told : Bool) (i : Nat) (suite : List Stmt) : Prop := ∀ (a : Addr) (oe : Obj) (cls : Value) (d : Option Addr) (pn : List (Addr × Obj)), L2N.Zn cls d oe → (∃ vs, oe.data = .fields vs) → PSs (X.suite a ((a, oe) :: pn)) suite (tSu X.K C nm told i a cls d)
/-- try: b; except B as n: suite -/
theorem x_tryn {x n : Str} {B : Addr} {nm : List (Nat × Str)} {told : Bool} {i : Nat} {body : List Stmt} {b₀ : Stmt} {suite : List Stmt} {np pos' : Pos} {xb : List MX.S} (hs : X.stack = X.env :: X.outer) (hf : X.env.frame = some X.env.locals) (nd : X.N.Nodup) (hi : X.N[i]? = some n) (hln : X.env.kindOf n = some .local)
    (tk : L2N.Takes X C.W) (hm : X.mg x = some (.ref B)) (hg : Gl X x) (hdb : (x == ("__debug__" : Str)) = false) (F : XF X.K C.cv nm B)
    (hb : ∀ (W : WX) (pn : List (Addr × Obj)) (xe : Value → Shared → Prop), L2N.Takes (X.tr pn xe) W → PassesOwn (model X.prog X.w) X.A X.env xe → SSs (X.tr pn xe) { C with W := W } body xb)
    (hsu : Su X C nm told i (b₀ :: suite)) : SSv X C (.Try body [.ExceptHandler (some (.Name x np)) (some n) (b₀ :: suite) pos'] [] [] pos) (.tryn xb i told nm) := by
  refine PS.imp (L2N.ps_try_as (c := .ref B) (i := i) (Wout := C.W) (ts := tSu X.K C nm told i) (tb := fun W => tS X.K { C with W := W } fun S => exs C.cl xb S) hs hf nd hi hln ⟨hg, hdb, .inl hm⟩ tk (fun W pn xe t p => hb W pn xe t p) (fun a oe cls d pn hz hf => hsu a oe cls d pn hz hf)) fun D σ H ⟨G, S, rel, f⟩ => ?_
  unfold ex at f
  refine ⟨G, S, rel, ?_⟩
  try dsimp only at f
  cases q : exs C.cl xb S with
  | none => rw [q] at f; exact finS_none f
  | some w =>
    obtain ⟨fl, S1⟩ := w
    rw [q] at f
    have plain : (∀ c, fl ≠ .exc c) → FinS X.K { C with W := wAs X.K (.ref B) i (tSu X.K C nm told i) C.W D } σ G H S D (exs C.cl xb S) := fun ne => by
      have f' : FinS X.K C σ G H S D (some (fl, S1)) := by
        cases fl with
        | exc c => exact absurd rfl (ne c)
        | _ => exact f
      obtain ⟨fl', S', e, h1, h2, h3, h4, h5⟩ := f'
      cases e
      exact ⟨fl, S1, q, h1, h2, h3, h4, fun c z => absurd z (ne c)⟩
    cases fl with
    | exc c =>
      obtain ⟨lb, el⟩ : ∃ lb, nm.lookup c = some lb := by
        cases e : nm.lookup c with
        | none => simp [trynR, e] at f; exact finS_none f
        | some lb => exact ⟨lb, rfl⟩
      have f' : FinS X.K C σ G H S D (some (.ret (.v (ndl told lb)), S1.set i .un)) := by
        simp only [trynR, el] at f
        exact f
      obtain ⟨fl', S', e, _, _, _, h4, _⟩ := f'
      cases e
      refine ⟨.exc c, S1, q, (fun z => nomatch z), (fun z => nomatch z), (fun z => nomatch z), (fun _ z => nomatch z), fun c' z G' H' σ' y => ?_⟩
      cases z
      obtain ⟨Dc, ec, _, _, k2⟩ := F.at_ c lb el
      refine ⟨true, by show PySem.W.exmOne X.K (C.cv c) (.ref B) = some true; rw [ec]; exact k2, fun _ a na => ?_, fun z => nomatch z⟩
      have st := y.rel.assign i (Den.adr (a := a))
      refine ⟨c, lb, G', _, rfl, rfl, el, st.rel, fun hlt => ?_, fun G2 H2 v y2 dv => ?_⟩
      · rw [List.getElem?_set_self (by rw [List.length_set] at hlt; exact hlt)]
      · have y3 := ((y.trans st).trans y2).trans (y2.rel.forget i)
        rw [List.set_set] at y3
        exact h4 _ rfl G2 H2 _ v y3 dv
    | _ => exact plain fun c z => nomatch z
/-! ### the suites -/
/-- return nm(e) -/
theorem su_plain {x n : Str} {nm : List (Nat × Str)} {i : Nat} {p1 p2 p3 p4 : Pos} (hi : X.N[i]? = some n) (F : NmG X C x nm) (hg : Gl X x) (hdb : (x == ("__debug__" : Str)) = false) (hv : Vis X.env.scope n) (hd : (n == ("__debug__" : Str)) = false) (hcd : (n == ("__classdict__" : Str)) = false)
    (hs : starEach [.Name n p2] X.env = [(false, eval (.Name n p2) X.env)]) : Su X C nm false i [.Return (some (.Call (.Name x p1) [.Name n p2] [] p3)) p4] := by
  intro a oe cls d pn hz hf
  refine ⟨fun pins s σ H D I ⟨c, lb, G, S, h1, h2, h3, rel, h4, h5⟩ => ?_⟩
  subst h1 h2
  have h4 := h4 (by rw [I.len]; exact (List.getElem?_eq_some_iff.mp hi).1)
  refine (pss_one (ps_ret (pe_nm (X := X) (ad := a) F hz.2.2 hf hg hdb hi hv hd hcd hs))).run pins s σ H D I ⟨c, lb, G, S, h3, hz, rel, h4, fun G' H' y => h5 G' H' _ y (.str _)⟩
/-- return (None, nm(e)) -/
theorem su_told {x n : Str} {nm : List (Nat × Str)} {i kk kn : Nat} {p1 p2 p3 p4 p5 p6 : Pos} (hi : X.N[i]? = some n) (F : NmG X C x nm) (hg : Gl X x) (hdb : (x == ("__debug__" : Str)) = false) (hv : Vis X.env.scope n) (hd : (n == ("__debug__" : Str)) = false) (hcd : (n == ("__classdict__" : Str)) = false)
    (hs : starEach [.Name n p2] X.env = [(false, eval (.Name n p2) X.env)]) (hs1 : starEach [.Constant .none kn p6, .Call (.Name x p1) [.Name n p2] [] p3] X.env = (false, eval (.Constant .none kn p6) X.env) :: starEach [.Call (.Name x p1) [.Name n p2] [] p3] X.env)
    (hs2 : starEach [.Call (.Name x p1) [.Name n p2] [] p3] X.env = [(false, eval (.Call (.Name x p1) [.Name n p2] [] p3) X.env)]) : Su X C nm true i [.Return (some (.Tuple [.Constant .none kn p6, .Call (.Name x p1) [.Name n p2] [] p3] kk p5)) p4] := by
  intro a oe cls d pn hz hf
  refine ⟨fun pins s σ H D I ⟨c, lb, G, S, h1, h2, h3, rel, h4, h5⟩ => ?_⟩
  subst h1 h2
  have h4 := h4 (by rw [I.len]; exact (List.getElem?_eq_some_iff.mp hi).1)
  refine (pss_one (ps_ret (pe_tup (pa_cons pe_non (pa_cons (pe_nm (X := X) (ad := a) F hz.2.2 hf hg hdb hi hv hd hcd hs) pa_nil hs2) hs1)))).run pins s σ H D I ?_
  refine ⟨c, lb, G, S, h3, hz, rel, h4, fun G' H' y => ⟨by show 2 ≤ sizeLine; decide, fun q hq => ?_⟩⟩
  have st := y.rel.grow (o := .tup [.non, .str lb]) hq
  exact h5 _ _ _ (y.trans st) (.tup (.inl (.inl upd_same)) (.cons .non (.cons (.str _) .nil)))
/-- return nm(e) if isinstance(e, ValueError) else .. -/
theorem su_odd {x n : Str} {nm : List (Nat × Str)} {B : Addr} {i : Nat} {p1 p2 p3 p4 p5 p6 p7 p8 p9 : Pos} {odd : Expr} (hi : X.N[i]? = some n) (F : NmG X C x nm) (FX : XF X.K C.cv nm B) (hg : Gl X x) (hdb : (x == ("__debug__" : Str)) = false) (hv : Vis X.env.scope n) (hd : (n == ("__debug__" : Str)) = false) (hcd : (n == ("__classdict__" : Str)) = false)
    (hgi : Gl X "isinstance") (hmi : X.mg "isinstance" = none) (hgv : Gl X "ValueError") (hmv : X.mg "ValueError" = none) (hs : starEach [.Name n p2] X.env = [(false, eval (.Name n p2) X.env)])
    (hs1 : starEach [.Name n p6, .Name "ValueError" p7] X.env = (false, eval (.Name n p6) X.env) :: starEach [.Name "ValueError" p7] X.env) (hs2 : starEach [.Name "ValueError" p7] X.env = [(false, eval (.Name "ValueError" p7) X.env)])
    (hodd : ∀ (a : Addr) (oe : Obj) (pn : List (Addr × Obj)), PE (X.suite a ((a, oe) :: pn)) odd fun _ _ _ => False) :
    Su X C nm false i [.Return (some (.IfExp (.Call (.Name "isinstance" p8) [.Name n p6, .Name "ValueError" p7] [] p9) (.Call (.Name x p1) [.Name n p2] [] p3) odd p5)) p4] := by
  intro a oe cls d pn hz hf
  refine ⟨fun pins s σ H D I ⟨c, lb, G, S, h1, h2, h3, rel, h4, h5⟩ => ?_⟩
  subst h1 h2
  have h4 := h4 (by rw [I.len]; exact (List.getElem?_eq_some_iff.mp hi).1)
  obtain ⟨Dc, ec, fc, k1, _⟩ := FX.at_ c lb h3
  have hzc : Zc (.ref Dc) none oe := by
    have z := hz.zc
    rw [ec] at z
    exact z
  have hgi' : Gl (X.suite a ((a, oe) :: pn)) "isinstance" := hgi
  have hgv' : Gl (X.suite a ((a, oe) :: pn)) "ValueError" := hgv
  have test : PE (X.suite a ((a, oe) :: pn)) (.Call (.Name "isinstance" p8) [.Name n p6, .Name "ValueError" p7] [] p9) _ :=
    pe_callB (call_isE fc hzc hf) hgi' hmi (by decide +kernel) (pa_cons (pe_var (i := i) hi hv hd hcd) (pa_cons (pe_bltn (v := .ty "ValueError") hgv' hmv (by decide +kernel) rfl (by decide) (by decide)) pa_nil hs2) hs1) (by decide) (by decide) hs1 (by rw [hs2]; rfl)
  refine (pss_one (ps_ret (pe_ifExp (pt_val test (by intro _; rfl)) (pe_nm (X := X) (ad := a) F hz.2.2 hf hg hdb hi hv hd hcd hs) (hodd a oe pn)))).run pins s σ H D I ?_
  refine ⟨_, h4, .ty "ValueError", _, true, rfl, fun u r => r, k1, true, rfl, ?_⟩
  refine (if_pos rfl).mpr ?_
  exact ⟨c, lb, G, S, h3, hz, rel, h4, fun G' H' y => h5 G' H' _ y (.str _)⟩
end
end MX

set_option Elab.async false
set_option linter.all false
set_option maxRecDepth 100000
set_option autoImplicit false
set_option maxHeartbeats 1000000
/-! MX25: comprehensions in which lambdas are made. -/
namespace MX
open PySem PySem.Spec PyProof.Rows L2
/-- where the cells of a block lie -/
def CellQ (X : Cx) (scope : Scope) (cl : List (Str × Addr)) : Prop := ∀ y c, cl.lookup y = some c → scope.names.lookup y = some .cell ∨ (X.base.get? c = none ∧ c ∉ frs X.stack)
theorem cellQ_of {X : Cx} {pins : List (Addr × Obj)} {σ : L2.St} {H : Hp} {s : Shared} {scope : Scope} {own : List (Str × Nat)} (I : Inv X pins σ H s) (ok : BlkOk X.N X.env.scope scope own)
    (hfn : ∀ y c, X.env.cells.lookup y = some c → X.fn y = true ∨ (X.base.get? c = none ∧ c ∉ frs X.stack)) : CellQ X scope (cellsFrom (s.heap.objs.size + 1) scope.names (cloFrom X.env.cells scope.names [])) := fun y c e => by
  rw [← Heap.size_push s.heap { cls := .type "dict", data := .dict #[] }] at e
  have fr : ∀ y ∈ scope.names, y.2 = .free → ∃ c, X.env.cells.lookup y.1 = some c := fun y hy e => (ok.free y hy e).elim (fun k => I.ok.has _ (.inl k)) fun k => I.ok.has _ (.inr k)
  rcases cells_mem (PySem.mem_of_lookup e) with h | ⟨h, _, _⟩
  · exact .inr (cells_out I hfn y c (lamCl_at (scope := scope) fr h))
  · exact .inl (ok.uniq _ h)
theorem pe_lcQ {X : Cx} {elt tg iter : Expr} {ifs : List Expr} {scope : Scope} {own : List (Str × Nat)} {pos : Pos} {wi : TI} {g : TG} {tt : TT} {te : TE} (hc : X.calm = true) (hN : X.N.Nodup) (hi : PI X tg iter wi) (ok : BlkOk X.N X.env.scope scope own)
    (hg : ∀ (s : Shared) (H : Hp) (C : Addr) (cl : List (Str × Addr)) (fp : List Addr), CellQ X scope cl → PG (X.blk s H scope (compEnvC scope cl C X.env) fp) tg g) (ht : ∀ (s : Shared) (H : Hp) (C : Addr) (cl : List (Str × Addr)) (fp : List Addr), CellQ X scope cl → PTs (X.blk s H scope (compEnvC scope cl C X.env) fp) ifs tt)
    (he : ∀ (s : Shared) (H : Hp) (C : Addr) (cl : List (Str × Addr)) (fp : List Addr), CellQ X scope cl → PE (X.blk s H scope (compEnvC scope cl C X.env) fp) elt te) (hs : ∀ x, foldedSetIterable iter X.env x = pure x) (hfn : ∀ y c, X.env.cells.lookup y = some c → X.fn y = true ∨ (X.base.get? c = none ∧ c ∉ frs X.stack)) :
    PE X (.ListComp elt [⟨tg, iter, ifs, 0⟩] scope pos) (tLc wi g tt te (own.map (·.2))) := by
  refine ⟨fun pins s σ H Q I h => ?_⟩
  rw [eval_ListComp]
  have fr : ∀ y ∈ scope.names, y.2 = .free → ∃ c, X.env.cells.lookup y.1 = some c := fun y hy e => (ok.free y hy e).elim (fun k => I.ok.has _ (.inl k)) fun k => I.ok.has _ (.inr k)
  refine wpAny_comprehension_free rfl hs (closure_ok fr) ok.kind (fun y hy e => by rw [ok.uniq y hy, e]) (thn (hi.run pins s σ H _ I h) fun xv s1 hx => thn hx fun itv s2 ⟨it, fp, tn, J, H2, ei, I2, T, st2, f2, q⟩ => ?_)
  subst ei
  refine wpAny_newObj_type (newEnv_comp ?_) (by show 0 ≤ sizeLine; decide)
  obtain ⟨W, ⟨m0, w0⟩, turn⟩ := q s2.heap.objs.size (I2.hok.fresh (Nat.le_refl _))
  generalize eD : s2.heap.objs.size = D at w0 turn
  generalize e3 : ({ s2 with heap := s2.heap.push { cls := .type "list", data := .seq ([] : List Value).toArray } } : Shared) = s3
  have h3 : s3.heap = s2.heap.push { cls := .type "list", data := .seq ([] : List Value).toArray } := by rw [← e3]
  have up3 : ∀ b o, s2.heap.get? b = some o → s3.heap.get? b = some o := fun b o e => by rw [h3]; exact Heap.get?_push_of_some _ e
  have I3 : Inv X pins σ (upd H2 D (.lst [])) s3 := by
    rw [← e3]
    exact I2.laid (t' := s2.toks) (fun b o e => Heap.get?_push_of_some _ e) (Nat.le_of_eq eD) ⟨Nat.zero_le _, [], 0, .nil, by rw [← eD]; exact Heap.get?_push_size _ rfl⟩
  have f3 : ∀ b ∈ fp, FpOk X pins (upd H2 D (.lst [])) b ∧ b < s3.heap.objs.size := fun b hb => by
    obtain ⟨o, e, _⟩ := T.obj _ _ st2 b hb
    have lt := Heap.lt_size e
    refine ⟨⟨?_, (f2 b hb).2⟩, by rw [h3, Heap.size_push]; exact Nat.lt_succ_of_lt lt⟩
    rw [upd_ne (by rw [← eD]; exact Nat.ne_of_lt lt)]
    exact (f2 b hb).1
  have st3 : tn 0 s3.heap := T.keep _ _ _ st2 fun b _ o e => up3 b o e
  have I4 := block_start I3 ok hN f3
  have cq : CellQ X scope (cellsFrom (s3.heap.objs.size + 1) scope.names (cloFrom X.env.cells scope.names [])) := cellQ_of I3 ok hfn
  have pg := hg s3 (upd H2 D (.lst [])) s3.heap.objs.size (cellsFrom (s3.heap.objs.size + 1) scope.names (cloFrom X.env.cells scope.names [])) fp cq
  have pt := ht s3 (upd H2 D (.lst [])) s3.heap.objs.size (cellsFrom (s3.heap.objs.size + 1) scope.names (cloFrom X.env.cells scope.names [])) fp cq
  have pe := he s3 (upd H2 D (.lst [])) s3.heap.objs.size (cellsFrom (s3.heap.objs.size + 1) scope.names (cloFrom X.env.cells scope.names [])) fp cq
  show codeAny _ _ (.compStart (.ListComp elt [⟨tg, iter, ifs, 0⟩] scope pos) 0 (.ref it) (.ref D) (compEnvC scope (cellsFrom (s3.heap.objs.size + 1) scope.names (cloFrom X.env.cells scope.names [])) s3.heap.objs.size X.env))
    (compPost (model X.prog X.w) X.A X.xe none (EP X pins σ Q) (.ref D) s3.heap.objs.size) { s3 with heap := pushCells (s3.heap.push { cls := .type "dict", data := .dict #[] }) scope.names }
  have n3 : ∀ b ∈ fp, (upd H2 D (.lst [])) b = none := fun b hb => (f3 b hb).1.1
  generalize ece : compEnvC scope (cellsFrom (s3.heap.objs.size + 1) scope.names (cloFrom X.env.cells scope.names [])) s3.heap.objs.size X.env = ce at I4 pg pt pe ⊢
  have cL : ce.locals = s3.heap.objs.size := by rw [← ece]; rfl
  generalize eH : upd H2 D (.lst []) = H3 at I3 I4 pg pt pe w0 n3 f3
  generalize e4 : ({ s3 with heap := pushCells (s3.heap.push { cls := .type "dict", data := .dict #[] }) scope.names } : Shared) = s4 at I4 ⊢
  have up4 : ∀ b o, s3.heap.get? b = some o → s4.heap.get? b = some o := fun b o e => by rw [← e4]; exact pushCells_keeps _ _ _ _ (Heap.get?_push_of_some _ e)
  have st4 : tn 0 s4.heap := T.keep _ _ _ st3 fun b _ o e => up4 b o e
  have stat : ∀ {σ' : L2.St} {H' : Hp} {s' : Shared}, Inv (X.blk s3 H3 scope ce fp) [] σ' H' s' → (∀ b ∈ fp, H' b = none) → ∀ b ∈ fp, FpOk (X.blk s3 H3 scope ce fp) [] H' b := fun {σ' H' s'} I' hn b hb =>
    ⟨hn b hb, (I'.ok.exf b hb).1, I'.ok.exfs b hb, .inl hb, fun x c e => (I'.ok.exf b hb).2 x c e, fun p hp => absurd (show p ∈ ([] : List (Addr × Obj)) ++ [] from hp) (by simp)⟩
  have loop : codeAny (model X.prog X.w) X.A (.compLoop (.ListComp elt [⟨tg, iter, ifs, 0⟩] scope pos) 0 (.ref it) (.ref D) ce) (compPost (model X.prog X.w) X.A X.xe none (EP X pins σ Q) (.ref D) s3.heap.objs.size) s4 := by
    refine compLoop_any (fun n s' => ∃ i H', Inv (X.blk s3 H3 scope ce fp) [] (wipe σ (own.map (·.2))) H' s' ∧ tn i s'.heap ∧ (∀ b ∈ fp, H' b = none) ∧ W i n H') ?_ m0 ⟨0, H3, I4, st4, n3, w0⟩
    rintro n s5 ⟨i, H5, I5, st5, n5, w5⟩
    rcases turn i n H5 w5 with ⟨stop, qq⟩ | ⟨go, Nx, hNx, step⟩
    · refine thnF (T.done (X.blk s3 H3 scope ce fp) rfl rfl rfl hc i [] s5 _ H5 (fun _ _ => False) I5 (stat I5 n5) st5 stop) fun r s6 ⟨hr, I6⟩ => ?_
      subst hr
      have I7 : Inv X pins σ H5 s6 := I3.call' (ch := fp) I6.os I6.base I6.hok I6.bare fun b hb => ⟨(f3 b hb).1.2.2.2.1, (f3 b hb).1.2.1, (f3 b hb).1.2.2.2.2.1, (f3 b hb).1.2.2.2.2.2⟩
      have nC : H5 s3.heap.objs.size = none := by
        have z : H5 ce.locals = none := I6.free
        rw [cL] at z
        exact z
      obtain ⟨m, hn, _⟩ := I6.loc
      have hn : s6.heap.Ns ce.locals m := hn
      rw [cL] at hn
      refine ⟨m, hn, fun g1 sb => ?_⟩
      obtain ⟨f0, f1, f2', f3', f4, f5⟩ := I3.fpOk (Nat.le_refl _) nC
      exact ⟨.ref D, H5, I7.turned (t' := s6.toks) (fun b o hb e => (sb.2 b hb).trans e) f0 f1 f3' f4 f5, rfl, qq⟩
    · refine thnF (T.item (X.blk s3 H3 scope ce fp) rfl rfl rfl hc i [] s5 _ H5 (fun _ _ => False) I5 (stat I5 n5) st5 go) fun r s6 ⟨u, hr, h6⟩ => ?_
      subst hr
      refine thnF h6 fun _ s7 ⟨x, H7, I7, r7, y7, st7, n7⟩ => ?_
      have I7' := I7.pinned (stat I7 n7) (T.obj _ _ st7)
      refine thnF (pg.run _ s7 _ H7 x u _ I7' r7 (step x H7 y7)) fun _ s8 ⟨σ8, H8, I8, hw8, q8⟩ => thnF (pt.run _ s8 σ8 H8 _ I8 q8) fun b s9 ⟨H9, I9, q9⟩ => ?_
      have fin : ∀ {s' : Shared} {H' : Hp}, Inv (X.blk s3 H3 scope ce fp) ([] ++ pinsAt fp s7.heap) σ8 H' s' → Nx H' → ∃ m, m < n ∧ ∃ i H', Inv (X.blk s3 H3 scope ce fp) [] (wipe σ (own.map (·.2))) H' s' ∧ tn i s'.heap ∧ (∀ b ∈ fp, H' b = none) ∧ W i m H' := fun {s' H'} I' nx => by
        obtain ⟨m', hm, w'⟩ := hNx H' nx
        have pin' : ∀ b ∈ fp, ∀ o, s7.heap.get? b = some o → s'.heap.get? b = some o ∧ H' b = none := fun b hb o e =>
          let z := I'.pin (b, o) (List.mem_append_right _ (List.mem_append_right _ (mem_pinsAt hb e)))
          ⟨z.1, z.2.1⟩
        refine ⟨m', hm, i + 1, H', (I'.unpinned (pins := [])).weak (by rw [← hw8, wipe_length]) (fun j v e => ?_), T.keep _ _ _ st7 fun b hb o e => (pin' b hb o e).1, fun b hb => ?_, w'⟩
        · rw [← hw8] at e
          exact (wipe_some e).1
        · obtain ⟨o, e, _⟩ := T.obj _ _ st7 b hb
          exact (pin' b hb o e).2
      cases b with
      | false =>
        rw [if_neg Bool.false_ne_true] at q9
        exact (if_neg Bool.false_ne_true).mpr (fin I9 q9)
      | true =>
        rw [if_pos rfl] at q9
        refine (if_pos rfl).mpr (thnF (pe.run _ s9 σ8 H9 _ I9 q9) fun z s10 ⟨yv, H10, I10, r10, acc, hD10, hz10, nx⟩ => ?_)
        exact app_ok (X := X.blk s3 H3 scope ce fp) I10 hD10 hz10 r10 fun s11 I11 => fin I11 nx
  exact codeAny_compStart_list loop (T.self X.A 0 _ _ _ st4 loop)
section
variable {X : Cx} {C : Ctx} {a b c e : Expr} {ea eb ec : E} {pos p : Pos}
theorem s_compQ {tgE iter : Expr} {ifs : List Expr} {scope : Scope} {own : List (Str × Nat)} {tg : Tg} {k : ItK} {args cond : List E} (g : Good X C) (hfn : ∀ y c, X.env.cells.lookup y = some c → X.fn y = true ∨ (X.base.get? c = none ∧ c ∉ frs X.stack)) (hi : SI X C tgE iter k args) (ok : BlkOk X.N X.env.scope scope own) (ho : own.map (·.2) = tg.slots)
    (hg : ∀ (s : Shared) (H : Hp) (Cc : Addr) (cl : List (Str × Addr)) (fp : List Addr), CellQ X scope cl → SG (X.blk s H scope (compEnvC scope cl Cc X.env) fp) tgE tg)
    (ht : ∀ (s : Shared) (H : Hp) (Cc : Addr) (cl : List (Str × Addr)) (fp : List Addr), CellQ X scope cl → PTs (X.blk s H scope (compEnvC scope cl Cc X.env) fp) ifs (condO X.K C.nox cond))
    (he : ∀ (s : Shared) (H : Hp) (Cc : Addr) (cl : List (Str × Addr)) (fp : List Addr), CellQ X scope cl → PE (X.blk s H scope (compEnvC scope cl Cc X.env) fp) e (tF X.K C.nox fun S => ev C.cl ea S)) (hs : ∀ x, foldedSetIterable iter X.env x = pure x) :
    SEv X C (.ListComp e [⟨tgE, iter, ifs, 0⟩] scope pos) (.comp ea tg k args cond) := by
  obtain ⟨wi, hi, hr⟩ := hi
  refine ⟨PE.imp (pe_lcQ (g := tgR X.K tg) (tt := condO X.K C.nox cond) (te := tF X.K C.nox fun S => ev C.cl ea S) g.calm g.nd hi ok hg ht he hs hfn) fun σ H Q h => ?_, fun _ h => nomatch h⟩
  rw [ho]
  exact comp_read hr h
/-- the cells of a block -/
theorem blk_fn {s : Shared} {H : Hp} {scope : Scope} {cl : List (Str × Addr)} {Cc : Addr} {fp : List Addr} (q : CellQ X scope cl) : ∀ y c, (X.blk s H scope (compEnvC scope cl Cc X.env) fp).env.cells.lookup y = some c →
    (X.blk s H scope (compEnvC scope cl Cc X.env) fp).fn y = true ∨ ((X.blk s H scope (compEnvC scope cl Cc X.env) fp).base.get? c = none ∧ c ∉ frs (X.blk s H scope (compEnvC scope cl Cc X.env) fp).stack) := fun y c e => by
  rcases q y c e with z | z
  · left
    show (scope.names.lookup y == some NameKind.cell) = true
    rw [z]
    rfl
  · exact .inr z
/-- the context of a try's suite bears the same facts -/
theorem FnG.tr {pn : List (Addr × Obj)} {xe : Value → Shared → Prop} {W : WX} {x : Str} {f : Nat} (g : FnG X C x f) : FnG (X.tr pn xe) { C with W := W } x f := g
theorem Good.tr {pn : List (Addr × Obj)} {xe : Value → Shared → Prop} {W : WX} (g : Good X C) : Good (X.tr pn xe) { C with W := W } := ⟨g.nd, g.calm, g.hu, g.bl⟩
end
/-! ### the facts that the defs' texts lean on -/
/-- a def that makes lambdas: its code object, its table -/
structure MkT (K : PySem.W.Frag) (mg : Str → Option Value) (base : Heap) (c P : Addr) : Prop where
  tb : LamX.TabB base mg c P
/-- the cells of a def's frame -/
theorem def_fn {CX : CXT} {P : Program} {w : World} {K : PySem.W.Frag} {mg : Str → Option Value} {base : Heap} {N : List Str} {qual : Str} {scope : Scope} {f : Addr} {cd : Value} {A : Around} {outer : List Env} {s : Shared} {H : Hp} {E : XK} :
    ∀ y c, (cxOf CX P w K mg base N qual scope f cd A outer s H E).env.cells.lookup y = some c → (cxOf CX P w K mg base N qual scope f cd A outer s H E).fn y = true ∨ ((cxOf CX P w K mg base N qual scope f cd A outer s H E).base.get? c = none ∧ c ∉ frs (cxOf CX P w K mg base N qual scope f cd A outer s H E).stack) := fun _ _ _ => .inl rfl
end MX

set_option Elab.async false
set_option linter.all false
set_option maxRecDepth 100000
set_option autoImplicit false
set_option maxHeartbeats 1000000
/-! MX26: the defs' promises put together, with lambdas and labels of errors; the law's end. -/
namespace MX
open PySem PySem.Spec PyProof.Rows L2
/-- a def, its code object known -/
structure FunC (K : PySem.W.Frag) (x : Str) (st : Stmt) (f : Addr) (fd : FuncData) (c : Addr) : Prop where
  ex : ∃ (oc : Value) (od : Option Addr) (kV doc pm : Value) (an : Option Addr) (ct : Value) (osl : Array (Option Value)),
    fd = PySem.W.fnOf x x (defArgs st) (defBody st) (defScope st) .none kV doc pm an (.ref c) ct ∧ K.lookup f = some ⟨oc, od, .func fd, osl⟩ ∧ PySem.W.codeIn K (.ref c) x = true
theorem func_mk {K : PySem.W.Frag} {x : Str} {st : Stmt} {f c : Addr} {oc kV doc pm ct : Value} {an od : Option Addr} {osl : Array (Option Value)} (lk : K.lookup f = some ⟨oc, od, .func (PySem.W.fnOf x x (defArgs st) (defBody st) (defScope st) .none kV doc pm an (.ref c) ct), osl⟩)
    (hcd : PySem.W.codeIn K (.ref c) x = true) : FunC K x st f (PySem.W.fnOf x x (defArgs st) (defBody st) (defScope st) .none kV doc pm an (.ref c) ct) c := ⟨oc, od, kV, doc, pm, an, ct, osl, rfl, lk, hcd⟩
section
variable {P : Program} {w : World} {K : PySem.W.Frag} {mg : Str → Option Value} {base : Heap}
/-- a def that may raise, its errors' context None -/
theorem okN {x : Str} {st : Stmt} {f : Addr} {fd : FuncData} {N ps : List Str} {k : Nat} {sp : Sp} (F : Fun K x x st f fd) (S : FnScope N ps (defScope st)) (len : ∀ vs H Q E, sp vs H Q E → vs.length = ps.length)
    (hbody : ∀ (cdv : Value) (A : Around) (outer : List Env) (s : Shared) (H : Hp) (vs : List V) (Q : VK) (E : XK), Room k (A.deeper (envOfC x (defScope st) s.heap.objs.size f cdv)) → sp vs H Q E →
      ∃ t, PSs (cxOf (L2N.CX P w) P w K mg base N x (defScope st) f cdv A outer s H E) (defBody st) t ∧ t { nx := fun _ H' => Q .non H', rt := Q } (L2.start N vs) H) : FnOk P w K mg base (L2N.CX P w) (k + 1) f fd ps sp := by
  obtain ⟨oc, od, kV, doc, pm, an, cdv, ct, osl, rfl, lk, hcd⟩ := F.ex
  exact fn_of lk hcd S len fun A outer s H vs Q E => hbody cdv A outer s H vs Q E
theorem okC {x : Str} {st : Stmt} {f c : Addr} {fd : FuncData} {N ps : List Str} {k : Nat} {sp : Sp} (F : FunC K x st f fd c) (S : FnScope N ps (defScope st)) (len : ∀ vs H Q E, sp vs H Q E → vs.length = ps.length)
    (hbody : ∀ (A : Around) (outer : List Env) (s : Shared) (H : Hp) (vs : List V) (Q : VK) (E : XK), Room k (A.deeper (envOfC x (defScope st) s.heap.objs.size f (.ref c))) → sp vs H Q E →
      ∃ t, PSs (cxOf (L2N.CX P w) P w K mg base N x (defScope st) f (.ref c) A outer s H E) (defBody st) t ∧ t { nx := fun _ H' => Q .non H', rt := Q } (L2.start N vs) H) : FnOk P w K mg base (L2N.CX P w) (k + 1) f fd ps sp := by
  obtain ⟨oc, od, kV, doc, pm, an, ct, osl, rfl, lk, hcd⟩ := F.ex
  exact fn_of lk hcd S len fun A outer s H vs Q E => hbody A outer s H vs Q E
end
theorem takesN_of {X : Cx} {E : XK} (hs : X.stack = X.env :: X.outer) (hf : X.env.frame = some X.env.locals) (hex : X.ex = []) {E₁ : Value → Shared → Prop}
    (hx : X.xe = fun e s' => wpAny (model X.prog X.w) X.A (leaving X.env e) (fun _ s'' => L2N.CX X.prog X.w X.outer X.H_0 X.s_0 E e s'') E₁ s') : L2N.Takes X (fun cls d _ H => E cls d H) := L2N.takes_of hs hf hex hx
/-- the label's def in X -/
theorem nmg_of {X : Cx} {C : Ctx} {cv : Nat → Value} {T : List (Addr × Str)} {x : Str} {nm : List (Nat × Str)} {fa : Addr} {fd : FuncData} {k : Nat} (h2 : C.cv = cv) (hT : C.L.T = T) (o : FnHp X.prog X.w X.K X.mg X.base k fa fd ["e"] (spN X.K cv nm T)) (hr : Room k X.A) (hm : X.mg x = some (.ref fa)) (hk : PySem.W.keepIn X.K (.ref fa) = true) (hb : Binds X.K fd ["e"] []) : NmG X C x nm := by
  subst h2 hT
  exact ⟨fa, fd, k, o, hr, hm, hk, hb⟩
/-- the class of all errors, what is known of those with a label -/
def XFG (X : Cx) (C : Ctx) (x : Str) (nm : List (Nat × Str)) : Prop := ∃ B, X.mg x = some (.ref B) ∧ XF X.K C.cv nm B
theorem x_tryG {X : Cx} {C : Ctx} {x n : Str} {nm : List (Nat × Str)} {told : Bool} {i : Nat} {body : List Stmt} {b₀ : Stmt} {suite : List Stmt} {np pos pos' : Pos} {xb : List MX.S} (hs : X.stack = X.env :: X.outer) (hf : X.env.frame = some X.env.locals) (nd : X.N.Nodup) (hi : X.N[i]? = some n) (hln : X.env.kindOf n = some .local)
    (tk : L2N.Takes X C.W) (F : XFG X C x nm) (hg : Gl X x) (hdb : (x == ("__debug__" : Str)) = false)
    (hb : ∀ (W : WX) (pn : List (Addr × Obj)) (xe : Value → Shared → Prop), L2N.Takes (X.tr pn xe) W → PassesOwn (model X.prog X.w) X.A X.env xe → SSs (X.tr pn xe) { C with W := W } body xb)
    (hsu : Su X C nm told i (b₀ :: suite)) : SSv X C (.Try body [.ExceptHandler (some (.Name x np)) (some n) (b₀ :: suite) pos'] [] [] pos) (.tryn xb i told nm) := by
  obtain ⟨B, h1, h2⟩ := F
  exact x_tryn hs hf nd hi hln tk h1 hg hdb h2 hb hsu
theorem odd_no {X : Cx} {x : Str} {k : Nat} {p : Pos} : ∀ (a : Addr) (oe : Obj) (pn : List (Addr × Obj)), PE (X.suite a ((a, oe) :: pn)) (.Constant (.str x) k p) fun _ _ _ => False := fun _ _ _ => ⟨fun _ _ _ _ _ _ z => z.elim⟩
theorem su_oddG {X : Cx} {C : Ctx} {x n y : Str} {nm : List (Nat × Str)} {i : Nat} {p1 p2 p3 p4 p5 p6 p7 p8 p9 p10 : Pos} {o : Str} {ko : Nat} (hi : X.N[i]? = some n) (F : NmG X C x nm) (FX : XFG X C y nm) (hg : Gl X x) (hdb : (x == ("__debug__" : Str)) = false) (hv : Vis X.env.scope n) (hd : (n == ("__debug__" : Str)) = false) (hcd : (n == ("__classdict__" : Str)) = false)
    (hgi : Gl X "isinstance") (hmi : X.mg "isinstance" = none) (hgv : Gl X "ValueError") (hmv : X.mg "ValueError" = none) (hs : starEach [.Name n p2] X.env = [(false, eval (.Name n p2) X.env)])
    (hs1 : starEach [.Name n p6, .Name "ValueError" p7] X.env = (false, eval (.Name n p6) X.env) :: starEach [.Name "ValueError" p7] X.env) (hs2 : starEach [.Name "ValueError" p7] X.env = [(false, eval (.Name "ValueError" p7) X.env)]) :
    Su X C nm false i [.Return (some (.IfExp (.Call (.Name "isinstance" p8) [.Name n p6, .Name "ValueError" p7] [] p9) (.Call (.Name x p1) [.Name n p2] [] p3) (.Constant (.str o) ko p10) p5)) p4] := by
  obtain ⟨B, _, h2⟩ := FX
  exact su_odd hi F h2 hg hdb hv hd hcd hgi hmi hgv hmv hs hs1 hs2 odd_no
/-! ### the classes' facts -/
/-- what a class with a label is asked -/
def xrow (K : PySem.W.Frag) (B D : Addr) : Bool :=
  decide (PySem.W.findIn K (.ref D) "__getattribute__" = some (some (.builtin "BaseException.__getattribute__"))) && decide (PySem.W.findIn K (.ref D) "__getattr__" = some none) && decide (PySem.W.subIn K (.ref D) (.type "BaseException") = some true) &&
  PySem.W.hasDictIn K D && decide (PySem.W.findIn K (.ref D) "__class__" = some (some (.builtin "object.__class__"))) && decide (PySem.W.specialIn K (.builtin "object.__class__") "__get__" = some (some (.builtin "getset_descriptor.__get__"))) &&
  decide (PySem.W.takesIn K (.builtin "object.__class__") = some true) && decide (PySem.W.mroIn K D (.type "object") = some true) && decide (PySem.W.kitOne K (.ref D) (.type "ValueError") = some true) && decide (PySem.W.exmOne K (.ref D) (.ref B) = some true)
def kitRow (K : PySem.W.Frag) (ds : List Addr) : Bool := (List.range ds.length).all fun i => (List.range ds.length).all fun j => decide (PySem.W.kitOne K (.ref (ds.getD i 0)) (.ref (ds.getD j 0)) = some (i == j))
theorem xrow_use {K : PySem.W.Frag} {B D : Addr} (h : xrow K B D = true) : ExcC K D ∧ PySem.W.kitOne K (.ref D) (.type "ValueError") = some true ∧ PySem.W.exmOne K (.ref D) (.ref B) = some true := by
  unfold xrow at h
  simp only [Bool.and_eq_true, decide_eq_true_eq] at h
  obtain ⟨⟨⟨⟨⟨⟨⟨⟨⟨h1, h2⟩, h3⟩, h4⟩, h5⟩, h6⟩, h7⟩, h8⟩, h9⟩, h10⟩ := h
  exact ⟨⟨h1, h2, h3, h4, h5, h6, h7, h8⟩, h9, h10⟩
/-- the labelled classes: numbers, labels, addresses -/
structure XAll (K : PySem.W.Frag) (cv : Nat → Value) (nm : List (Nat × Str)) (ds : List Addr) (B : Addr) : Prop where
  len : ds.length = nm.length
  cv_ : ∀ i c x, nm[i]? = some (c, x) → cv c = .ref (ds.getD i 0)
  row : ∀ i, i < ds.length → xrow K B (ds.getD i 0) = true
  kit : kitRow K ds = true
theorem lookup_at {nm : List (Nat × Str)} {c : Nat} {x : Str} (h : nm.lookup c = some x) : ∃ i : Nat, nm[i]? = some (c, x) := by
  induction nm with
  | nil => simp at h
  | cons p r ih =>
    rw [List.lookup_cons] at h
    split at h
    · rename_i hb
      have e : c = p.1 := by simpa using hb
      cases h
      exact ⟨0, by rw [e]; rfl⟩
    · obtain ⟨i, hi⟩ := ih h
      exact ⟨i + 1, by simpa using hi⟩
theorem XAll.xf {K : PySem.W.Frag} {cv : Nat → Value} {nm : List (Nat × Str)} {ds : List Addr} {B : Addr} (h : XAll K cv nm ds B) : XF K cv nm B := ⟨fun c x e => by
  obtain ⟨i, hi⟩ := lookup_at e
  have hl : i < ds.length := by rw [h.len]; exact (List.getElem?_eq_some_iff.mp hi).1
  obtain ⟨a1, a2, a3⟩ := xrow_use (h.row i hl)
  exact ⟨_, h.cv_ i c x hi, a1, a2, a3⟩⟩
theorem kit_at {K : PySem.W.Frag} {ds : List Addr} (h : kitRow K ds = true) {i j : Nat} (hi : i < ds.length) (hj : j < ds.length) : PySem.W.kitOne K (.ref (ds.getD i 0)) (.ref (ds.getD j 0)) = some (i == j) := by
  unfold kitRow at h
  have h1 := List.all_eq_true.mp h i (List.mem_range.mpr hi)
  have h2 := List.all_eq_true.mp h1 j (List.mem_range.mpr hj)
  exact of_decide_eq_true h2
/-! ### the law's end, tables -/
theorem mk_lawT {l : PySem.W.OpenLaw} {w : World} {K : PySem.W.Frag} {mg : Str → Option Value} {h : Heap} {fa : Addr} {defs : Nat → Option Df} {f lev : Nat} {x : Str} {cs : List (Addr × Addr)} {T : List (Addr × Str)}
    (A : ∃ (fd : FuncData) (cv : Nat → Value), (∀ (s : Shared) (v : Value), BindsTo s fd ⟨[v], []⟩ [(x, v)]) ∧ ∀ (n : Nat) (base : Heap), K.In base → base.Ns mainGlobals mg → (∀ p ∈ cs, LamX.TabB base mg p.1 p.2) → FnOk l.prog w K mg base (L2N.CX l.prog w) (n + 1) fa fd [x] (FnS (callN defs n) K cv T f))
    (hT : ∀ p ∈ cs, h.get? p.2 = some { cls := .none, data := .fields #[] }) (nT : ∀ p ∈ cs, K.lookup p.2 = none) (CH : ∀ p ∈ cs, PySem.W.CodeHd h p.1 p.2) (hTT : ∀ p ∈ T, ∃ q ∈ cs, q.2 = p.1) (t : LawTrue defs lev f 63) : LamX.LawAtS l w K (L2N.CX l.prog w) (lev + 1) 63 x mg fa h := by
  obtain ⟨fd, cv, hb, hF⟩ := A
  refine ⟨fd, cs, lawSp K T 63, hT, nT, CH, hb, fun H a ns hl hbi hH hS => ⟨a, ns, rfl, hS, fun p hp => ?_, hl, hbi, fun _ => rfl⟩, fun base h1 h2 h3 => (hF lev base h1 h2 h3).imp (law_sp t)⟩
  obtain ⟨q, hq, e⟩ := hTT p hp
  rw [← e]
  exact hH q hq
end MX

set_option Elab.async false
set_option linter.all false
set_option maxRecDepth 100000
set_option autoImplicit false
/-! MX27: what the printed texts lean on. -/
namespace MX
open PySem PySem.Spec PyProof.Rows L2
def capB (N : List Str) (sc : Scope) (l : LamD) (caps : List Nat) : Bool :=
  decide (caps.length = l.fr.length) && ((List.range l.fr.length).all fun i => match l.fr[i]?, caps[i]? with
    | some y, some j => decide (N[j]? = some y) && (decide (sc.names.lookup y = some .cell) || decide (sc.names.lookup y = some .free)) && decide (l.scope.names.lookup y = some .free)
    | _, _ => false) && l.scope.names.all fun y => !decide (y.2 = .free) || (decide (sc.names.lookup y.1 = some .cell) || decide (sc.names.lookup y.1 = some .free))
theorem capOk_by {X : Cx} {N : List Str} {sc : Scope} {l : LamD} {caps : List Nat} (hN : X.N = N) (hs : X.env.scope = sc) (h : capB N sc l caps = true) : CapOk X l caps := by
  subst hN hs
  unfold capB at h
  simp only [Bool.and_eq_true, decide_eq_true_eq, List.all_eq_true, List.mem_range, Bool.or_eq_true, Bool.not_eq_true', decide_eq_false_iff_not] at h
  obtain ⟨⟨h1, h2⟩, h3⟩ := h
  refine ⟨h1, fun i y e => ?_, fun y hy hf => ?_⟩
  · have hi := (List.getElem?_eq_some_iff.mp e).1
    have z := h2 i hi
    rw [e] at z
    cases q : caps[i]? with
    | none => rw [q] at z; simp at z
    | some j =>
      rw [q] at z
      simp only [Bool.and_eq_true, decide_eq_true_eq, Bool.or_eq_true] at z
      exact ⟨j, rfl, z.1.1, z.1.2, z.2⟩
  · rcases h3 y hy with z | z
    · exact absurd hf z
    · exact z
theorem capOk_rfl {X : Cx} {l : LamD} {caps : List Nat} (h : capB X.N X.env.scope l caps = true) : CapOk X l caps := capOk_by rfl rfl h
/-- which defs stand as values -/
theorem nm_of {tbl : List (Option Df)} {lds : List Df} {V : List (Nat × Str)} {defs : Nat → Option Df} (hd : ∀ f, defs f = if f < 1000 then (tbl[f]?).join else lds[f - 1000]?)
    (h1 : ((List.range tbl.length).all fun i => match (tbl[i]?).join with | some d => (match d.nm with | some x => decide ((i, x) ∈ V) | none => true) | none => true) = true) (h2 : (lds.all fun d => d.nm.isNone) = true) {f n : Nat} {x : Str}
    (h : (callN defs n).nm f = some x) : (f, x) ∈ V := by
  have e : (match defs f with | some d => d.nm | none => none) = some x := by
    cases n with
    | zero => exact h
    | succ n => exact h
  rw [hd] at e
  split at e
  · rename_i d q
    split at q
    · have hl : f < tbl.length := by
        rcases Nat.lt_or_ge f tbl.length with z | z
        · exact z
        · rw [List.getElem?_eq_none z] at q; cases q
      have z := List.all_eq_true.mp h1 f (List.mem_range.mpr hl)
      rw [q] at z
      dsimp only at z
      rw [e] at z
      exact of_decide_eq_true z
    · have z := List.all_eq_true.mp h2 d (List.mem_of_getElem? q)
      rw [e] at z
      cases z
  · cases e
theorem tt_u : ∀ {T : List (Addr × Str)} {P : Addr} {q : Str}, (T.map (·.1)).Nodup → (P, q) ∈ T → ∀ p ∈ T, p.1 = P → p.2 = q
  | [], _, _, _, h, _, _, _ => by cases h
  | x :: r, P, q, nd, h, p, hp, e => by
    rw [List.map_cons, List.nodup_cons] at nd
    rcases List.mem_cons.mp h with h | h <;> rcases List.mem_cons.mp hp with hp | hp
    · rw [hp, ← h]
    · exact absurd (List.mem_map.mpr ⟨p, hp, e.trans (by rw [← h])⟩) nd.1
    · exact absurd (List.mem_map.mpr ⟨(P, q), h, by rw [← e, hp]⟩) nd.1
    · exact tt_u nd.2 h p hp e
theorem Takes.tr {X : Cx} {C : Ctx} {pn : List (Addr × Obj)} {xe : Value → Shared → Prop} {W : WX} (h : L2N.Takes (X.tr pn xe) W) : L2N.Takes (X.tr pn xe) W := h
theorem lamG_of {X : Cx} {C : Ctx} {defs : Nat → Option Df} {cv : Nat → Value} {T : List (Addr × Str)} {n : Nat} (h1 : C.cl = callN defs n) (h2 : C.cv = cv) (hT : C.L.T = T) (hr : Room (n + 1) X.A)
    (h : ∀ k l, lamTab[k]? = some l → LamOk X.prog X.w X.K X.mg X.base (n + 1) l (FnS (callN defs n) X.K cv T (lamN k))) : LamG X C := by
  intro k l e
  subst h2 hT
  rw [h1]
  exact ⟨n + 1, h k l e, hr⟩
theorem fnn_at {X : Cx} {C : Ctx} {defs : Nat → Option Df} {cv : Nat → Value} {T : List (Addr × Str)} {n f : Nat} {x : Str} {a fa : Addr} {fd : FuncData} {ps : List Str} (h1 : C.cl = callN defs n) (h2 : C.cv = cv) (hT : C.L.T = T) (hr : Room (n + 1) X.A)
    (hv : PySem.W.nsIn X.K mainGlobals x = some (some (.ref fa))) (ha : PySem.W.nsIn X.K mainGlobals x = some (some (.ref a))) (o : FnOk X.prog X.w X.K X.mg X.base (L2N.CX X.prog X.w) (n + 1) fa fd ps (FnS (callN defs n) X.K cv T f)) (hk : PySem.W.keepIn X.K (.ref fa) = true) (hb : Binds X.K fd ps []) :
    ∃ fd ps k, FnOk X.prog X.w X.K X.mg X.base (L2N.CX X.prog X.w) k a fd ps (FnS C.cl X.K C.cv C.L.T f) ∧ Room k X.A ∧ PySem.W.keepIn X.K (.ref a) = true ∧ Binds X.K fd ps [] := by
  subst h2 hT
  rw [hv] at ha
  cases ha
  rw [h1]
  exact ⟨fd, ps, n + 1, o, hr, hk, hb⟩
/-- a def that is known as a value -/
theorem kg_fn {X : Cx} {x : Str} {f : Nat} {a : Addr} (hm : X.mg x = some (.ref a)) (hv : PySem.W.nsIn X.K mainGlobals x = some (some (.ref a))) : KG X x (.fn f x) := ⟨_, _, hm, rel_ref, fun _ => .fn hv⟩
/-- the labels' def: one def alone -/
theorem spN_fnS {K : PySem.W.Frag} {cv : Nat → Value} {T : List (Addr × Str)} {ad : Addr} {d : Df} {L : Lk} {G H : Hp} {Q : VK} {E : XK} {x : Str} {S' : SS} (hT : L.T = T) (rel : Rel K L G H [.val (.adr ad)] [some (.ref ad)])
    (hrun : runD (callN (fun _ => some d) 0) d [.val (.adr ad)] = some (.v (.str x), S')) (hq : ∀ G' H' S' σ', Stp K L G H [.val (.adr ad)] [some (.ref ad)] G' H' S' σ' → Q (.str x) H') : FnS (callN (fun _ => some d) 1) K cv T 0 [.ref ad] H Q E := by
  refine ⟨G, L, [.val (.adr ad)], _, S', hT, rel, (fun j t d' e => ?_), hrun, (fun c z => nomatch z), fun G' H' σ' v y q => ?_⟩
  · cases j with
    | zero => cases e
    | succ j => simp at e
  · cases q
    exact hq _ _ _ _ y
end MX

set_option Elab.async false
set_option linter.all false
set_option maxRecDepth 100000
set_option autoImplicit false
/-! MXP: the evaluator reckoned: plain words. -/
namespace MX
open PySem
/-! ### a def's answer, the slots left out -/
def CL.out (cl : CL) (f : Nat) (as : List Sl) : Option R := (cl.run f as).map Prod.fst
def outV (S : SS) : Option R → Option (R × SS)
  | some r => some (r, S)
  | none => none
@[simp] theorem outV_some {S : SS} {r : R} : outV S (some r) = some (r, S) := rfl
theorem callV_out {cl : CL} {f : Nat} {as : List Sl} {S : SS} : callV S (cl.run f as) = outV S (cl.out f as) := by
  unfold CL.out
  cases cl.run f as with
  | none => rfl
  | some w => rfl
theorem out_of {cl : CL} {f : Nat} {as : List Sl} {r : R} {S : SS} (h : cl.run f as = some (r, S)) : cl.out f as = some r := by
  unfold CL.out
  rw [h]
  rfl
theorem run_of {cl : CL} {f : Nat} {as : List Sl} {r : R} (h : cl.out f as = some r) : ∃ S, cl.run f as = some (r, S) := by
  unfold CL.out at h
  cases q : cl.run f as with
  | none => rw [q] at h; cases h
  | some w =>
    rw [q] at h
    cases h
    exact ⟨w.2, rfl⟩
theorem io_at {defs : Nat → Option Df} {n f : Nat} {d : Df} (h : defs f = some d) : (callN defs n).io f = d.io := by
  cases n <;> (unfold callN; simp only [h])
theorem nm_at {defs : Nat → Option Df} {n f : Nat} {d : Df} (h : defs f = some d) : (callN defs n).nm f = d.nm := by
  cases n <;> (unfold callN; simp only [h])
theorem run_at {defs : Nat → Option Df} {n f : Nat} {d : Df} {as : List Sl} (h : defs f = some d) : (callN defs (n + 1)).run f as = runD (callN defs n) d as := by
  show (match defs f with | some d => runD (callN defs n) d as | none => none) = _
  rw [h]
theorem out_at {defs : Nat → Option Df} {n f : Nat} {d : Df} {as : List Sl} (h : defs f = some d) : (callN defs (n + 1)).out f as = (runD (callN defs n) d as).map Prod.fst := by
  unfold CL.out
  rw [run_at h]
/-! ### expressions -/
section
variable {cl : CL} {S S' : SS}
@[simp] theorem ev_var {i : Nat} : ev cl (.var i) S = varR i S := by unfold ev; rfl
@[simp] theorem ev_cst {d : D} : ev cl (.cst d) S = some (.v d, S) := by unfold ev; rfl
@[simp] theorem ev_tup {es : List E} : ev cl (.tup es) S = bndL (evs cl es S) fun ds S => if ds.length ≤ sizeLine then some (.v (.tup ds), S) else none := by conv => lhs; unfold ev
@[simp] theorem ev_lst {es : List E} : ev cl (.lst es) S = bndL (evs cl es S) fun ds S => if ds.length ≤ sizeLine then some (.fr (.lst ds), S) else none := by conv => lhs; unfold ev
@[simp] theorem ev_bin {op : Operator} {a b : E} : ev cl (.bin op a b) S = bnd (ev cl a S) fun x S => bnd (ev cl b S) fun y S => retR S (binD op x y) := by conv => lhs; unfold ev
@[simp] theorem ev_neg {a : E} : ev cl (.neg a) S = bnd (ev cl a S) fun x S => negR S x := by conv => lhs; unfold ev
@[simp] theorem ev_not {a : E} : ev cl (.not a) S = bnd (ev cl a S) fun x S => retB S ((blD x).map (!·)) := by conv => lhs; unfold ev
@[simp] theorem ev_cmp {op : CmpOp} {a b : E} : ev cl (.cmp op a b) S = bnd2 a (ev cl a S) S (fun S => rdv S b (ev cl b S)) fun x y S => retB S (cmpD op x y) := by conv => lhs; unfold ev
@[simp] theorem ev_chn {a b c : E} : ev cl (.chn a b c) S = bnd (ev cl a S) fun x S => bnd (ev cl b S) fun y S => ifO (cmpD .LtE x y) (bnd (ev cl c S) fun z S => retB S (cmpD .LtE y z)) (some (.v (.bl false), S)) := by conv => lhs; unfold ev
@[simp] theorem ev_and {a b : E} : ev cl (.and a b) S = bnd (ev cl a S) fun x S => ifB x (bnd (ev cl b S) fun y S => retB S (blD y)) (some (.v (.bl false), S)) := by conv => lhs; unfold ev
@[simp] theorem ev_or {a b : E} : ev cl (.or a b) S = bnd (ev cl a S) fun x S => ifB x (some (.v (.bl true), S)) (bnd (ev cl b S) fun y S => retB S (blD y)) := by conv => lhs; unfold ev
@[simp] theorem ev_ite {c a b : E} : ev cl (.ite c a b) S = bnd (ev cl c S) fun x S => ifB x (ev cl a S) (ev cl b S) := by conv => lhs; unfold ev
@[simp] theorem ev_ix {a b : E} : ev cl (.ix a b) S = bnd2 a (ev cl a S) S (fun S => rdv S b (ev cl b S)) fun x y S => retD S (ixD x y) := by conv => lhs; unfold ev
@[simp] theorem ev_pick {ks : List Str} {es : List E} {a : E} : ev cl (.pick ks es a) S = bndL (evs cl es S) fun ds S => bnd (ev cl a S) fun y S => pickR S ks ds y := by conv => lhs; unfold ev
@[simp] theorem ev_call {f : Nat} {es : List E} : ev cl (.call f es) S = match lentO (cl.io f) es S with
    | some i => bndL (evT cl es S) fun ds S => lendO i S fun t d => callO i t S (cl.run f (.own 1 d :: valsS ds))
    | none => bndL (evs cl es S) fun ds S => outV S (cl.out f (valsS ds)) := by
  conv => lhs; unfold ev
  simp only [callV_out]
  try rfl
@[simp] theorem ev_b1 {f : B1} {a : E} : ev cl (.b1 f a) S = bnd (rdv S a (ev cl a S)) fun x S => retR S (b1D f x) := by conv => lhs; unfold ev
@[simp] theorem ev_isi {t : Ty} {a : E} : ev cl (.isi a t) S = bnd (rdv S a (ev cl a S)) fun x S => retB S (isiD x t) := by conv => lhs; unfold ev
@[simp] theorem ev_app {i : Nat} {a : E} : ev cl (.app i a) S = chkL S i (bnd (ev cl a S) fun x S => appR i x S) := by conv => lhs; unfold ev
@[simp] theorem ev_pop0 {i : Nat} : ev cl (.pop0 i) S = popR i S := by conv => lhs; unfold ev
theorem ev_comp {elt : E} {tg : Tg} {k : ItK} {args cond : List E} : ev cl (.comp elt tg k args cond) S = bndL (evs cl args S) fun ds S => match itD k ds with
    | some xs => match compL (compF (fun S => ev cl elt S) (hdO (evC cl cond)) tg) xs [] (wipeS S tg.slots) with
      | some (ys, S') => some (.fr (.lst ys), backW S tg.slots S')
      | none => none
    | none => none := by
  conv => lhs; unfold ev
  try rfl
@[simp] theorem ev_callv {i : Nat} {es : List E} : ev cl (.callv i es) S = match rdS S i with
    | some x => calB cl x (bndL (evs cl es S) fun ds S => callF cl ds S x)
    | none => none := by
  conv => lhs; unfold ev
  try rfl
@[simp] theorem ev_callL {f k : Nat} {caps : List Nat} {es : List E} : ev cl (.callL f k caps es) S = bndL (evs cl es S) fun ds S => capK S caps fun cs => callL S (cl.run f (valsS (.clo k cs :: ds))) := by conv => lhs; unfold ev
@[simp] theorem ev_slc {a lo hi : E} {p q : Bool} : ev cl (.slc a p lo q hi) S = bnd (ev cl a S) fun x S => obnd p (fun S => ev cl lo S) S fun l S => obnd q (fun S => ev cl hi S) S fun h S => retR S (slcO x l h) := by conv => lhs; unfold ev
@[simp] theorem ev_rev {a : E} : ev cl (.rev a) S = bnd (ev cl a S) fun x S => retR S (revD x) := by conv => lhs; unfold ev
@[simp] theorem ev_split {a b : E} : ev cl (.split a b) S = bnd (ev cl a S) fun x S => strK x fun z => bnd (ev cl b S) fun y S => retR S (splitD (.str z) y) := by conv => lhs; unfold ev
@[simp] theorem ev_join {a b : E} : ev cl (.join a b) S = bnd (ev cl a S) fun x S => strK x fun z => bnd (ev cl b S) fun y S => retR S (joinD (.str z) y) := by conv => lhs; unfold ev
@[simp] theorem ev_fstr {es : List E} : ev cl (.fstr es) S = evJ cl es Str.empty S := by conv => lhs; unfold ev
@[simp] theorem ev_isE {i : Nat} {a : Addr} {b : Bool} : ev cl (.isE i a b) S = isER i a b S := by conv => lhs; unfold ev
@[simp] theorem evJ_nil {acc : Str} : evJ cl [] acc S = some (.v (.str acc), S) := by conv => lhs; unfold evJ
@[simp] theorem evJ_cons {e : E} {es : List E} {acc : Str} : evJ cl (e :: es) acc S = bnd (ev cl e S) fun d S => fmtK acc d fun acc' => evJ cl es acc' S := by conv => lhs; unfold evJ
@[simp] theorem strK_str {z : Str} {k : Str → Option (R × SS)} : strK (.str z) k = k z := rfl
@[simp] theorem obnd_true {x : SS → Option (R × SS)} {k : Option Int → SS → Option (R × SS)} : obnd true x S k = bnd (x S) (intK k) := rfl
@[simp] theorem obnd_false {x : SS → Option (R × SS)} {k : Option Int → SS → Option (R × SS)} : obnd false x S k = k none S := rfl
@[simp] theorem intK_int {i : Int} {k : Option Int → SS → Option (R × SS)} : intK k (.int i) S = k (some i) S := rfl
theorem splitD_str {a b : Str} : splitD (.str a) (.str b) = if (b.length == 0) = false ∧ a.length + 2 ≤ sizeLine then some (.fr (.lst ((Txt.split a b).map .str))) else none := rfl
@[simp] theorem callL_ex {c : Nat} {S0 : SS} : callL S (some (.ex c, S0)) = some (.ex c, S) := rfl
theorem callL_v {d : D} {S0 : SS} (h : d.flat = true) : callL S (some (.v d, S0)) = some (.v d, S) := if_pos h
theorem callL_fr {d : D} {S0 : SS} (h : d.flat = true) : callL S (some (.fr d, S0)) = some (.fr d, S) := if_pos h
@[simp] theorem callL_bl {b : Bool} {S0 : SS} : callL S (some (.v (.bl b), S0)) = some (.v (.bl b), S) := callL_v rfl
@[simp] theorem callL_str {b : Str} {S0 : SS} : callL S (some (.v (.str b), S0)) = some (.v (.str b), S) := callL_v rfl
@[simp] theorem calB_clo {l : Nat} {cs : List D} {k : Option (R × SS)} : calB cl (.clo l cs) k = k := rfl
theorem calB_fn {f : Nat} {x : Str} {k : Option (R × SS)} (h : cl.nm f = some x) : calB cl (.fn f x) k = k := if_pos h
theorem callF_fn {f : Nat} {x : Str} {ds : List D} (h : cl.nm f = some x) : callF cl ds S (.fn f x) = outV S (cl.out f (valsS ds)) := (if_pos h).trans callV_out
theorem callF_clo {l : Nat} {cs ds : List D} (h : D.flatL ds = true) : callF cl ds S (.clo l cs) = outV S (cl.out (lamN l) (valsS (ds ++ cs))) := (if_pos h).trans callV_out
@[simp] theorem evs_nil : evs cl [] S = some (.v [], S) := by unfold evs; rfl
@[simp] theorem evs_cons {e : E} {es : List E} : evs cl (e :: es) S = argL (ev cl e S) fun S => evs cl es S := by conv => lhs; unfold evs
@[simp] theorem evC_nil : evC cl [] = [] := by unfold evC; rfl
@[simp] theorem evC_cons {e : E} {es : List E} : evC cl (e :: es) = (fun S => ev cl e S) :: evC cl es := by conv => lhs; unfold evC
@[simp] theorem evT_nil : evT cl [] S = some (.v [], S) := by unfold evT; rfl
@[simp] theorem evT_cons {e : E} {es : List E} : evT cl (e :: es) S = evs cl es S := by conv => lhs; unfold evT
/-! ### the words -/
@[simp] theorem bnd_v {d : D} {k : D → SS → Option (R × SS)} : bnd (some (.v d, S)) k = k d S := rfl
@[simp] theorem bnd_fr {d : D} {k : D → SS → Option (R × SS)} : bnd (some (.fr d, S)) k = k d S := rfl
@[simp] theorem bnd_ex {c : Nat} {k : D → SS → Option (R × SS)} : bnd (some (.ex c, S)) k = some (.ex c, S) := rfl
@[simp] theorem bndL_v {ds : List D} {k : List D → SS → Option (R × SS)} : bndL (some (.v ds, S)) k = k ds S := rfl
@[simp] theorem bndL_ex {c : Nat} {k : List D → SS → Option (R × SS)} : bndL (some (.ex c, S)) k = some (.ex c, S) := rfl
@[simp] theorem argL_v {d : D} {k : SS → Option (RL × SS)} : argL (some (.v d, S)) k = consL d (k S) := rfl
@[simp] theorem argL_fr {d : D} {k : SS → Option (RL × SS)} : argL (some (.fr d, S)) k = consL d (k S) := rfl
@[simp] theorem argL_ex {c : Nat} {k : SS → Option (RL × SS)} : argL (some (.ex c, S)) k = some (.ex c, S) := rfl
@[simp] theorem consL_v {d : D} {ds : List D} : consL d (some (.v ds, S)) = some (.v (d :: ds), S) := rfl
@[simp] theorem consL_ex {d : D} {c : Nat} : consL d (some (.ex c, S)) = some (.ex c, S) := rfl
@[simp] theorem retR_some {r : R} : retR S (some r) = some (r, S) := rfl
@[simp] theorem retB_some {b : Bool} : retB S (some b) = some (.v (.bl b), S) := rfl
@[simp] theorem retD_some {d : D} : retD S (some d) = some (.v d, S) := rfl
@[simp] theorem negR_int {i : Int} : negR S (.int i) = some (.v (.int (-i)), S) := rfl
@[simp] theorem blD_bl {b : Bool} : blD (.bl b) = some b := rfl
@[simp] theorem ifB_true {a b : Option (R × SS)} : ifB (.bl true) a b = a := rfl
@[simp] theorem ifB_false {a b : Option (R × SS)} : ifB (.bl false) a b = b := rfl
@[simp] theorem ifO_true {a b : Option (R × SS)} : ifO (some true) a b = a := rfl
@[simp] theorem ifO_false {a b : Option (R × SS)} : ifO (some false) a b = b := rfl
@[simp] theorem valsS_nil : valsS [] = [] := rfl
@[simp] theorem valsS_cons {d : D} {ds : List D} : valsS (d :: ds) = .val d :: valsS ds := rfl
@[simp] theorem lentO_false {es : List E} : lentO false es S = none := rfl
@[simp] theorem lentO_nil {b : Bool} : lentO b [] S = none := by unfold lentO; split <;> rfl
@[simp] theorem lentO_var {i : Nat} {es : List E} : lentO true (.var i :: es) S = match S[i]? with | some (.own _ _) => some i | _ => none := rfl
@[simp] theorem lendO_eq {i : Nat} {k : Nat → D → Option (R × SS)} : lendO i S k = match S[i]? with | some (.own t d) => k t d | _ => none := rfl
@[simp] theorem lentO_cst {d : D} {es : List E} {b : Bool} : lentO b (.cst d :: es) S = none := by unfold lentO; split <;> rfl
@[simp] theorem callO_some {i t : Nat} {r : R} {d : D} {Z : SS} : callO i t S (some (r, .own 1 d :: Z)) = some (r, S.set i (.own t d)) := rfl
@[simp] theorem popR_eq {i : Nat} : popR i S = match S[i]? with
  | some (.own t (.lst (x :: xs))) => some (.v x, S.set i (.own t (.lst xs)))
  | _ => none := rfl
@[simp] theorem appR_eq {i : Nat} {x : D} : appR i x S = match S[i]? with
  | some (.own t (.lst xs)) => if xs.length < sizeLine then some (.v .non, S.set i (.own t (.lst (xs ++ [x])))) else none
  | _ => none := rfl
@[simp] theorem chkL_eq {i : Nat} {x : Option (R × SS)} : chkL S i x = match rdS S i with | some (.lst _) => x | _ => none := rfl
@[simp] theorem vr_var {i : Nat} : vr (.var i) = some i := rfl
@[simp] theorem vr_cst {d : D} : vr (.cst d) = none := rfl
@[simp] theorem vr_tup {es : List E} : vr (.tup es) = none := rfl
@[simp] theorem vr_lst {es : List E} : vr (.lst es) = none := rfl
@[simp] theorem vr_bin {o : Operator} {a b : E} : vr (.bin o a b) = none := rfl
@[simp] theorem vr_neg {a : E} : vr (.neg a) = none := rfl
@[simp] theorem vr_not {a : E} : vr (.not a) = none := rfl
@[simp] theorem vr_cmp {o : CmpOp} {a b : E} : vr (.cmp o a b) = none := rfl
@[simp] theorem vr_chn {a b c : E} : vr (.chn a b c) = none := rfl
@[simp] theorem vr_and {a b : E} : vr (.and a b) = none := rfl
@[simp] theorem vr_or {a b : E} : vr (.or a b) = none := rfl
@[simp] theorem vr_ite {a b c : E} : vr (.ite a b c) = none := rfl
@[simp] theorem vr_ix {a b : E} : vr (.ix a b) = none := rfl
@[simp] theorem vr_pick {ks : List Str} {es : List E} {a : E} : vr (.pick ks es a) = none := rfl
@[simp] theorem vr_call {f : Nat} {es : List E} : vr (.call f es) = none := rfl
@[simp] theorem vr_b1 {f : B1} {a : E} : vr (.b1 f a) = none := rfl
@[simp] theorem vr_isi {t : Ty} {a : E} : vr (.isi a t) = none := rfl
@[simp] theorem vr_callv {i : Nat} {es : List E} : vr (.callv i es) = none := rfl
@[simp] theorem vr_callL {f k : Nat} {caps : List Nat} {es : List E} : vr (.callL f k caps es) = none := rfl
@[simp] theorem vr_slc {a lo hi : E} {p q : Bool} : vr (.slc a p lo q hi) = none := rfl
@[simp] theorem vr_rev {a : E} : vr (.rev a) = none := rfl
@[simp] theorem vr_split {a b : E} : vr (.split a b) = none := rfl
@[simp] theorem vr_join {a b : E} : vr (.join a b) = none := rfl
@[simp] theorem vr_fstr {es : List E} : vr (.fstr es) = none := rfl
@[simp] theorem vr_isE {i : Nat} {a : Addr} {b : Bool} : vr (.isE i a b) = none := rfl
@[simp] theorem vr_app {i : Nat} {a : E} : vr (.app i a) = none := rfl
@[simp] theorem vr_pop0 {i : Nat} : vr (.pop0 i) = none := rfl
@[simp] theorem vr_comp {elt : E} {tg : Tg} {k : ItK} {args cond : List E} : vr (.comp elt tg k args cond) = none := rfl
@[simp] theorem bnd2_eq {a : E} {xa : Option (R × SS)} {xb : SS → Option (R × SS)} {k : D → D → SS → Option (R × SS)} : bnd2 a xa S xb k = match vr a with
    | some i => match rdS S i with
      | some _ => bnd (xb S) fun y S => rdK i S fun x => k x y S
      | none => none
    | none => bnd xa fun x S => bnd (xb S) fun y S => k x y S := rfl
@[simp] theorem rdv_eq {a : E} {x : Option (R × SS)} : rdv S a x = match vr a with
    | some i => match rdS S i with
      | some d => some (.v d, S)
      | none => none
    | none => x := rfl
@[simp] theorem rdK_eq {i : Nat} {k : D → Option (R × SS)} : rdK i S k = match rdS S i with | some x => k x | none => none := rfl
@[simp] theorem rdS_eq {i : Nat} : rdS S i = match S[i]? with | some (.val d) => some d | some (.own _ d) => some d | _ => none := rfl
@[simp] theorem varR_eq {i : Nat} : varR i S = match S[i]? with | some (.val d) => some (.v d, S) | some (.own 0 d) => some (.v d, S.set i (.val d)) | _ => none := rfl
@[simp] theorem retV_eq {e : E} : retV cl e S = match vr e with
    | some i => match S[i]? with
      | some (.own 0 d) => some (.fr d, S.set i .un)
      | _ => ev cl e S
    | none => ev cl e S := rfl
@[simp] theorem ixD_tup {xs : List D} {i : Int} : ixD (.tup xs) (.int i) = (L2.ixN xs.length i).bind fun j => xs[j]? := rfl
@[simp] theorem ixD_lst {xs : List D} {i : Int} : ixD (.lst xs) (.int i) = (L2.ixN xs.length i).bind fun j => xs[j]? := rfl
@[simp] theorem ixD_scr {xs : List Int} {i : Int} : ixD (.scr xs) (.int i) = ((L2.ixN xs.length i).bind fun j => xs[j]?).map .int := rfl
@[simp] theorem runD_eq {d : Df} {as : List Sl} : runD cl d as = if as.length = d.np then lastR (exs cl d.body (as ++ List.replicate (d.ns - d.np) .un)) else none := rfl
/-! ### statements -/
@[simp] theorem thenS_ex {c : Nat} {k : R → SS → Option (Fl × SS)} : thenS (some (.ex c, S)) k = some (.exc c, S) := rfl
@[simp] theorem thenS_v {d : D} {k : R → SS → Option (Fl × SS)} : thenS (some (.v d, S)) k = k (.v d) S := rfl
@[simp] theorem thenS_fr {d : D} {k : R → SS → Option (Fl × SS)} : thenS (some (.fr d, S)) k = k (.fr d) S := rfl
@[simp] theorem thenB_true {a b : SS → Option (Fl × SS)} : thenB (some (.v (.bl true), S)) a b = a S := rfl
@[simp] theorem thenB_false {a b : SS → Option (Fl × SS)} : thenB (some (.v (.bl false), S)) a b = b S := rfl
@[simp] theorem thenB_ex {c : Nat} {a b : SS → Option (Fl × SS)} : thenB (some (.ex c, S)) a b = some (.exc c, S) := rfl
theorem thenB_if {c : Bool} {a b : SS → Option (Fl × SS)} : thenB (some (.v (.bl c), S)) a b = if c = true then a S else b S := by cases c <;> rfl
@[simp] theorem thenL_v {ds : List D} {k : List D → SS → Option (Fl × SS)} : thenL (some (.v ds, S)) k = k ds S := rfl
@[simp] theorem thenL_ex {c : Nat} {k : List D → SS → Option (Fl × SS)} : thenL (some (.ex c, S)) k = some (.exc c, S) := rfl
@[simp] theorem seqS_nx {k : SS → Option (Fl × SS)} : seqS (some (.nx, S)) k = k S := rfl
@[simp] theorem seqS_ret {r : R} {k : SS → Option (Fl × SS)} : seqS (some (.ret r, S)) k = some (.ret r, S) := rfl
@[simp] theorem seqS_exc {c : Nat} {k : SS → Option (Fl × SS)} : seqS (some (.exc c, S)) k = some (.exc c, S) := rfl
@[simp] theorem nxS_some : nxS (some S) = some (.nx, S) := rfl
@[simp] theorem stR_v {d : D} : stR (.v d) = some (.val d) := rfl
@[simp] theorem stR_fr {d : D} : stR (.fr d) = some (.own 0 d) := rfl
@[simp] theorem lastR_nx : lastR (some (.nx, S)) = some (.v .non, S) := rfl
@[simp] theorem lastR_ret {r : R} : lastR (some (.ret r, S)) = some (r, S) := rfl
@[simp] theorem lastR_exc {c : Nat} : lastR (some (.exc c, S)) = some (.ex c, S) := rfl
@[simp] theorem exs_nil : exs cl [] S = some (.nx, S) := by unfold exs; rfl
@[simp] theorem exs_cons {s : MX.S} {r : List MX.S} : exs cl (s :: r) S = seqS (ex cl s S) fun S => exs cl r S := by conv => lhs; unfold exs
@[simp] theorem ex_set {i : Nat} {e : E} : ex cl (.set i e) S = thenS (ev cl e S) fun r S => nxS ((stR r).map fun s => S.set i s) := by conv => lhs; unfold ex
@[simp] theorem ex_par {is : List Nat} {es : List E} : ex cl (.par is es) S = match evP cl es S with
    | some (.v rs, S1) => nxS (setP S1 is rs)
    | some (.ex c, S1) => some (.exc c, S1)
    | none => none := by
  conv => lhs; unfold ex
  try rfl
@[simp] theorem ex_unp {is : List Nat} {e : E} : ex cl (.unp is e) S = thenS (ev cl e S) fun r S => unpR is S r := by conv => lhs; unfold ex
@[simp] theorem ex_exp {e : E} : ex cl (.exp e) S = thenS (ev cl e S) fun _ S => some (.nx, S) := by conv => lhs; unfold ex
@[simp] theorem ex_ret {e : E} : ex cl (.ret e) S = thenS (retV cl e S) fun r S => some (.ret r, S) := by conv => lhs; unfold ex
@[simp] theorem ex_retn : ex cl .retn S = some (.ret (.v .non), S) := by unfold ex; rfl
@[simp] theorem ex_raise {c : Nat} : ex cl (.raise c) S = some (.exc c, S) := by unfold ex; rfl
@[simp] theorem ex_pass : ex cl .pass S = some (.nx, S) := by unfold ex; rfl
@[simp] theorem ex_tryn {b : List MX.S} {i : Nat} {told : Bool} {nm : List (Nat × Str)} : ex cl (.tryn b i told nm) S = trynR i told nm (exs cl b S) := by conv => lhs; unfold ex
@[simp] theorem ex_ifs {c : E} {a b : List MX.S} : ex cl (.ifs c a b) S = thenB (ev cl c S) (fun S => exs cl a S) (fun S => exs cl b S) := by conv => lhs; unfold ex
theorem ex_whl {c : E} {b : List MX.S} : ex cl (.whl c b) S = whlL (fun S => ev cl c S) (fun S => exs cl b S) FUEL S := by conv => lhs; unfold ex
theorem ex_for {tg : Tg} {k : ItK} {args : List E} {b : List MX.S} : ex cl (.for_ tg k args b) S = thenL (evs cl args S) fun ds S => match itD k ds with
    | some xs => forL (fun x S => match tgS S tg x with
      | some S1 => exs cl b S1
      | none => none) xs S
    | none => none := by
  conv => lhs; unfold ex
  try rfl
@[simp] theorem evP_nil : evP cl [] S = some (.v [], S) := rfl
@[simp] theorem evP_cons {e : E} {es : List E} : evP cl (e :: es) S = match ev cl e S with
    | some (.ex c, S1) => some (.ex c, S1)
    | some (.v d, S1) => consP (.val d) (evP cl es S1)
    | some (.fr d, S1) => consP (.own 0 d) (evP cl es S1)
    | none => none := rfl
@[simp] theorem consP_v {s : Sl} {rs : List Sl} : consP s (some (.v rs, S)) = some (.v (s :: rs), S) := rfl
@[simp] theorem setP_nil : setP S [] [] = some S := rfl
@[simp] theorem setP_cons {i : Nat} {is : List Nat} {s : Sl} {ss : List Sl} : setP S (i :: is) (s :: ss) = setP (S.set i s) is ss := rfl
@[simp] theorem setsS_nil : setsS S [] [] = some S := rfl
@[simp] theorem setsS_cons {i : Nat} {is : List Nat} {s : D} {ss : List D} : setsS S (i :: is) (s :: ss) = setsS (S.set i (.val s)) is ss := rfl
@[simp] theorem tgS_nm {i : Nat} {d : D} : tgS S (.nm i) d = some (S.set i (.val d)) := rfl
@[simp] theorem tgS_tp {is : List Nat} {ds : List D} : tgS S (.tp is) (.tup ds) = setsS S is ds := rfl
@[simp] theorem unpR_tup {is : List Nat} {ds : List D} : unpR is S (.v (.tup ds)) = nxS (setsS S is ds) := rfl
@[simp] theorem unpR_lst {is : List Nat} {ds : List D} : unpR is S (.v (.lst ds)) = nxS (setsS S is ds) := rfl
@[simp] theorem unpR_fr {is : List Nat} {ds : List D} : unpR is S (.fr (.lst ds)) = nxS (setsS S is ds) := rfl
end
/-! ### operations -/
@[simp] theorem bin_add {i j : Int} : binD .Add (.int i) (.int j) = some (.v (.int (i + j))) := rfl
@[simp] theorem bin_sub {i j : Int} : binD .Sub (.int i) (.int j) = some (.v (.int (i - j))) := rfl
theorem bin_mul_r {i j : Int} (h : -(2 ^ 64) < j ∧ j < 2 ^ 64) : binD .Mult (.int i) (.int j) = some (.v (.int (i * j))) := if_pos (.inl (.inr h))
theorem bin_mul_l {i j : Int} (h : -(2 ^ 64) < i ∧ i < 2 ^ 64) : binD .Mult (.int i) (.int j) = some (.v (.int (i * j))) := if_pos (.inl (.inl h))
theorem bin_div {i j : Int} (h : 0 < j ∧ j < 1073741824) : binD .FloorDiv (.int i) (.int j) = some (.v (.int (i / j))) := if_pos (.inl h)
theorem bin_mod {i j : Int} (h : 0 < j) : binD .Mod (.int i) (.int j) = some (.v (.int (i % j))) := if_pos h
theorem bin_pow {i j : Int} (h : L2.CPow i j) : binD .Pow (.int i) (.int j) = some (.v (.int (i ^ j.toNat))) := if_pos h
theorem bin_cat {xs ys : List D} (h : xs.length + ys.length ≤ sizeLine) : binD .Add (.tup xs) (.tup ys) = some (.v (.tup (xs ++ ys))) := if_pos h
theorem bin_catL {xs ys : List D} (h : xs.length + ys.length ≤ sizeLine) : binD .Add (.lst xs) (.lst ys) = some (.fr (.lst (xs ++ ys))) := if_pos h
@[simp] theorem b1_len_tup {xs : List D} : b1D .len (.tup xs) = some (.v (.int xs.length)) := rfl
@[simp] theorem b1_len_lst {xs : List D} : b1D .len (.lst xs) = some (.v (.int xs.length)) := rfl
@[simp] theorem b1_len_scr {xs : List Int} : b1D .len (.scr xs) = some (.v (.int xs.length)) := rfl
@[simp] theorem b1_abs {i : Int} : b1D .abs (.int i) = some (.v (.int (if i < 0 then -i else i))) := rfl
@[simp] theorem b1_int {i : Int} : b1D .int1 (.int i) = some (.v (.int i)) := rfl
@[simp] theorem b1_tuple_lst {xs : List D} : b1D .tuple (.lst xs) = some (.v (.tup xs)) := rfl
@[simp] theorem b1_tuple_tup {xs : List D} : b1D .tuple (.tup xs) = some (.v (.tup xs)) := rfl
@[simp] theorem b1_list_lst {xs : List D} : b1D .list (.lst xs) = some (.fr (.lst xs)) := rfl
@[simp] theorem b1_list_tup {xs : List D} : b1D .list (.tup xs) = some (.fr (.lst xs)) := rfl
@[simp] theorem b1_all {xs : List D} : b1D .all (.lst xs) = (blsD xs).map fun bs => .v (.bl (bs.all id)) := rfl
@[simp] theorem b1_bool {b : Bool} : b1D .bool (.bl b) = some (.v (.bl b)) := rfl
@[simp] theorem isi_int {i : Int} {t : Ty} : isiD (.int i) t = some (decide (t = .int)) := by cases t <;> rfl
@[simp] theorem isi_tup {i : List D} {t : Ty} : isiD (.tup i) t = some (decide (t = .tuple)) := by cases t <;> rfl
@[simp] theorem isi_lst {i : List D} {t : Ty} : isiD (.lst i) t = some (decide (t = .list)) := by cases t <;> rfl
@[simp] theorem isi_str {i : Str} {t : Ty} : isiD (.str i) t = some (decide (t = .str)) := by cases t <;> rfl
@[simp] theorem isi_non {t : Ty} : isiD .non t = some false := by cases t <;> rfl
@[simp] theorem isi_bl {b : Bool} {t : Ty} : isiD (.bl b) t = some (decide (t = .int ∨ t = .bool)) := by cases t <;> rfl
@[simp] theorem cmpd_lt {i j : Int} : cmpD .Lt (.int i) (.int j) = some (decide (i < j)) := rfl
@[simp] theorem cmpd_le {i j : Int} : cmpD .LtE (.int i) (.int j) = some (decide (i ≤ j)) := rfl
@[simp] theorem cmpd_gt {i j : Int} : cmpD .Gt (.int i) (.int j) = some (decide (j < i)) := rfl
@[simp] theorem cmpd_ge {i j : Int} : cmpD .GtE (.int i) (.int j) = some (decide (j ≤ i)) := rfl
@[simp] theorem cmpd_eq {x y : D} : cmpD .Eq x y = eqD x y := rfl
@[simp] theorem cmpd_ne {x y : D} : cmpD .NotEq x y = (eqD x y).map (!·) := rfl
/-! ### == -/
mutual
def okD : Nat → D → Bool
  | _, .non => true
  | _, .bl _ => true
  | _, .int _ => true
  | _, .str x => PyData.strOk x
  | n, .tup xs => match n with | 0 => false | n + 1 => okL n xs
  | n, .lst xs => match n with | 0 => false | n + 1 => okL n xs
  | _, .scr _ => false
  | _, .fn _ _ => false
  | _, .clo _ _ => false
  | _, .adr _ => false
def okL : Nat → List D → Bool
  | _, [] => true
  | n, x :: r => okD n x && okL n r
end
mutual
def eqT : D → D → Bool
  | .non, y => match y with | .non => true | _ => false
  | .bl a, y => match y with | .bl b => a == b | .int j => (if a then 1 else 0) == j | _ => false
  | .int i, y => match y with | .int j => decide (i = j) | .bl b => i == (if b then 1 else 0) | _ => false
  | .str x, y => match y with | .str z => x == z | _ => false
  | .tup xs, y => match y with | .tup ys => eqTL xs ys | _ => false
  | .lst xs, y => match y with | .lst ys => eqTL xs ys | _ => false
  | .scr _, _ => false
  | .fn _ _, _ => false
  | .clo _ _, _ => false
  | .adr _, _ => false
def eqTL : List D → List D → Bool
  | [], y => match y with | [] => true | _ => false
  | x :: xs, y => match y with | y :: ys => eqT x y && eqTL xs ys | [] => false
end
mutual
theorem okD_pd : ∀ (x : D) (n : Nat), okD n x = true → ∃ p, x.pd = some p ∧ p.canLay0 = true ∧ p.depth ≤ n
  | .non, n, _ => ⟨.none, by unfold D.pd; rfl, by unfold PyData.canLay0; rfl, by unfold PyData.depth; exact Nat.zero_le _⟩
  | .bl b, n, _ => ⟨.bool b, by unfold D.pd; rfl, by unfold PyData.canLay0; rfl, by unfold PyData.depth; exact Nat.zero_le _⟩
  | .int b, n, _ => ⟨.int b, by unfold D.pd; rfl, by unfold PyData.canLay0; rfl, by unfold PyData.depth; exact Nat.zero_le _⟩
  | .str b, n, h => ⟨.str b, by unfold D.pd; rfl, by unfold PyData.canLay0; unfold okD at h; exact h, by unfold PyData.depth; exact Nat.zero_le _⟩
  | .tup xs, 0, h => by unfold okD at h; cases h
  | .tup xs, n + 1, h => by
    unfold okD at h
    obtain ⟨p, h1, h2, h3⟩ := okL_pd xs n h
    exact ⟨.tuple p, by unfold D.pd; rw [h1]; rfl, by unfold PyData.canLay0; exact h2, by unfold PyData.depth; omega⟩
  | .lst xs, 0, h => by unfold okD at h; cases h
  | .lst xs, n + 1, h => by
    unfold okD at h
    obtain ⟨p, h1, h2, h3⟩ := okL_pd xs n h
    exact ⟨.list p, by unfold D.pd; rw [h1]; rfl, by unfold PyData.canLay0; exact h2, by unfold PyData.depth; omega⟩
  | .scr _, n, h => by unfold okD at h; cases h
  | .fn _ _, n, h => by unfold okD at h; cases h
  | .clo _ _, n, h => by unfold okD at h; cases h
  | .adr _, n, h => by unfold okD at h; cases h
theorem okL_pd : ∀ (xs : List D) (n : Nat), okL n xs = true → ∃ p, D.pdL xs = some p ∧ PyData.canLayAll0 p = true ∧ PyData.depthAll p ≤ n
  | [], n, _ => ⟨[], by unfold D.pdL; rfl, by unfold PyData.canLayAll0; rfl, by unfold PyData.depthAll; exact Nat.zero_le _⟩
  | x :: xs, n, h => by
    unfold okL at h
    rw [Bool.and_eq_true] at h
    obtain ⟨p, h1, h2, h3⟩ := okD_pd x n h.1
    obtain ⟨q, h4, h5, h6⟩ := okL_pd xs n h.2
    exact ⟨p :: q, by unfold D.pdL; rw [h1, h4], by unfold PyData.canLayAll0; rw [h2, h5]; rfl, by unfold PyData.depthAll; omega⟩
end
mutual
theorem eqv_pd : ∀ (x y : D) (p q : PyData), x.pd = some p → y.pd = some q → PyData.eqv p q = eqT x y
  | .non, y, p, q, h1, h2 => by
    unfold D.pd at h1; cases h1
    cases y <;> (unfold D.pd at h2; try rw [Option.map_eq_some_iff] at h2) <;> (try cases h2) <;> (try (rename_i w; obtain ⟨_, rfl⟩ := w)) <;> (unfold eqT PyData.eqv; rfl)
  | .bl b, y, p, q, h1, h2 => by
    unfold D.pd at h1; cases h1
    cases y <;> (unfold D.pd at h2; try rw [Option.map_eq_some_iff] at h2) <;> (try cases h2) <;> (try (rename_i w; obtain ⟨_, rfl⟩ := w)) <;> (unfold eqT PyData.eqv; rfl)
  | .int b, y, p, q, h1, h2 => by
    unfold D.pd at h1; cases h1
    cases y <;> (unfold D.pd at h2; try rw [Option.map_eq_some_iff] at h2) <;> (try cases h2) <;> (try (rename_i w; obtain ⟨_, rfl⟩ := w)) <;> (unfold eqT PyData.eqv; first | rfl | (exact (Bool.beq_eq_decide_eq _ _)) | exact beq_eq_decide _ _)
  | .str b, y, p, q, h1, h2 => by
    unfold D.pd at h1; cases h1
    cases y <;> (unfold D.pd at h2; try rw [Option.map_eq_some_iff] at h2) <;> (try cases h2) <;> (try (rename_i w; obtain ⟨_, rfl⟩ := w)) <;> (unfold eqT PyData.eqv; rfl)
  | .tup xs, y, p, q, h1, h2 => by
    unfold D.pd at h1
    rw [Option.map_eq_some_iff] at h1
    obtain ⟨ps, h1, rfl⟩ := h1
    cases y with
    | tup ys =>
      unfold D.pd at h2
      rw [Option.map_eq_some_iff] at h2
      obtain ⟨qs, h2, rfl⟩ := h2
      unfold eqT PyData.eqv
      exact eqvL_pd xs ys ps qs h1 h2
    | lst ys =>
      unfold D.pd at h2
      rw [Option.map_eq_some_iff] at h2
      obtain ⟨qs, h2, rfl⟩ := h2
      unfold eqT PyData.eqv
      rfl
    | _ => unfold D.pd at h2; cases h2 <;> (unfold eqT PyData.eqv; rfl)
  | .lst xs, y, p, q, h1, h2 => by
    unfold D.pd at h1
    rw [Option.map_eq_some_iff] at h1
    obtain ⟨ps, h1, rfl⟩ := h1
    cases y with
    | lst ys =>
      unfold D.pd at h2
      rw [Option.map_eq_some_iff] at h2
      obtain ⟨qs, h2, rfl⟩ := h2
      unfold eqT PyData.eqv
      exact eqvL_pd xs ys ps qs h1 h2
    | tup ys =>
      unfold D.pd at h2
      rw [Option.map_eq_some_iff] at h2
      obtain ⟨qs, h2, rfl⟩ := h2
      unfold eqT PyData.eqv
      rfl
    | _ => unfold D.pd at h2; cases h2 <;> (unfold eqT PyData.eqv; rfl)
  | .scr _, y, p, q, h1, h2 => by unfold D.pd at h1; cases h1
  | .fn _ _, y, p, q, h1, h2 => by unfold D.pd at h1; cases h1
  | .clo _ _, y, p, q, h1, h2 => by unfold D.pd at h1; cases h1
  | .adr _, y, p, q, h1, h2 => by unfold D.pd at h1; cases h1
theorem eqvL_pd : ∀ (xs ys : List D) (ps qs : List PyData), D.pdL xs = some ps → D.pdL ys = some qs → PyData.eqvAll ps qs = eqTL xs ys
  | [], ys, ps, qs, h1, h2 => by
    unfold D.pdL at h1; cases h1
    cases ys with
    | nil => unfold D.pdL at h2; cases h2; unfold eqTL PyData.eqvAll; rfl
    | cons y ys =>
      unfold D.pdL at h2
      split at h2
      · cases h2; unfold eqTL PyData.eqvAll; rfl
      · cases h2
  | x :: xs, ys, ps, qs, h1, h2 => by
    unfold D.pdL at h1
    split at h1
    · rename_i a as e1 e2
      cases h1
      cases ys with
      | nil => unfold D.pdL at h2; cases h2; unfold eqTL PyData.eqvAll; rfl
      | cons y ys =>
        unfold D.pdL at h2
        split at h2
        · rename_i b bs e3 e4
          cases h2
          unfold eqTL PyData.eqvAll
          rw [eqv_pd x y a b e1 e3, eqvL_pd xs ys as bs e2 e4]
        · cases h2
    · cases h1
end
theorem eqD_ok {x y : D} (h1 : okD 64 x = true) (h2 : okD 64 y = true) : eqD x y = some (eqT x y) := by
  obtain ⟨p, e1, c1, d1⟩ := okD_pd x 64 h1
  obtain ⟨q, e2, c2, d2⟩ := okD_pd y 64 h2
  unfold eqD
  rw [e1, e2]
  have s1 : SeqAt.shaped p = true := by unfold SeqAt.shaped; rw [c1, decide_eq_true d1]; rfl
  have s2 : SeqAt.shaped q = true := by unfold SeqAt.shaped; rw [c2, decide_eq_true d2]; rfl
  simp only [s1, s2, and_self, if_true, eqv_pd x y p q e1 e2]
@[simp] theorem okD_non {n : Nat} : okD n .non = true := by unfold okD; rfl
@[simp] theorem okD_bl {n : Nat} {b : Bool} : okD n (.bl b) = true := by unfold okD; rfl
@[simp] theorem okD_int {n : Nat} {b : Int} : okD n (.int b) = true := by unfold okD; rfl
@[simp] theorem okD_tup {n : Nat} {xs : List D} : okD (n + 1) (.tup xs) = okL n xs := by conv => lhs; unfold okD
@[simp] theorem okD_lst {n : Nat} {xs : List D} : okD (n + 1) (.lst xs) = okL n xs := by conv => lhs; unfold okD
@[simp] theorem okL_nil {n : Nat} : okL n [] = true := by unfold okL; rfl
@[simp] theorem okL_cons {n : Nat} {x : D} {xs : List D} : okL n (x :: xs) = (okD n x && okL n xs) := by conv => lhs; unfold okL
@[simp] theorem okL_append {n : Nat} : ∀ {xs ys : List D}, okL n (xs ++ ys) = (okL n xs && okL n ys)
  | [], ys => by simp
  | x :: xs, ys => by simp [okL_append (xs := xs), Bool.and_assoc]
@[simp] theorem okL_ints {n : Nat} : ∀ {xs : List Int}, okL n (xs.map .int) = true
  | [] => by simp
  | x :: xs => by simp [okL_ints (xs := xs)]
@[simp] theorem eqT_int {i j : Int} : eqT (.int i) (.int j) = decide (i = j) := by unfold eqT; rfl
@[simp] theorem eqT_str {i j : Str} : eqT (.str i) (.str j) = (i == j) := by unfold eqT; rfl
@[simp] theorem eqT_tup {i j : List D} : eqT (.tup i) (.tup j) = eqTL i j := by conv => lhs; unfold eqT
@[simp] theorem eqT_lst {i j : List D} : eqT (.lst i) (.lst j) = eqTL i j := by conv => lhs; unfold eqT
@[simp] theorem eqTL_nil : eqTL [] [] = true := by unfold eqTL; rfl
@[simp] theorem eqTL_nc {y : D} {ys : List D} : eqTL [] (y :: ys) = false := by unfold eqTL; rfl
@[simp] theorem eqTL_cn {y : D} {ys : List D} : eqTL (y :: ys) [] = false := by unfold eqTL; rfl
@[simp] theorem eqTL_cc {x y : D} {xs ys : List D} : eqTL (x :: xs) (y :: ys) = (eqT x y && eqTL xs ys) := by conv => lhs; unfold eqTL
@[simp] theorem eqTL_ints : ∀ {xs ys : List Int}, eqTL (xs.map .int) (ys.map .int) = decide (xs = ys)
  | [], [] => by simp
  | [], _ :: _ => by simp
  | _ :: _, [] => by simp
  | x :: xs, y :: ys => by simp [eqTL_ints (xs := xs) (ys := ys)]
@[simp] theorem eqD_int {i j : Int} : eqD (.int i) (.int j) = some (decide (i = j)) := by rw [eqD_ok (by simp) (by simp)]; simp
/-- the length of a line as a number -/
theorem eqS {x y : Str} (h1 : PyData.strOk x = true) (h2 : PyData.strOk y = true) : eqD (.str x) (.str y) = some (x == y) := by
  rw [eqD_ok (by unfold okD; exact h1) (by unfold okD; exact h2), eqT_str]
theorem isE_at {cl : CL} {ad : Addr} {b : Bool} {S : SS} : ev cl (.isE 0 ad b) (.val (.adr ad) :: S) = some (.v (.bl b), .val (.adr ad) :: S) := by simp [isER]
section
variable {cl : CL} {ad : Addr} {b c d : Bool} {x y z : Sl} {xs : List D}
theorem isE_s1 : ex cl (.set 1 (.lst [.isE 0 ad b, .isE 0 ad c, .isE 0 ad d])) [.val (.adr ad), .un, x, y, z] = some (.nx, [.val (.adr ad), .own 0 (.lst [.bl b, .bl c, .bl d]), x, y, z]) := by simp [-ev_isE, isE_at, sizeLine_eq]
theorem isE_s3 (h : xs.length ≤ 100) : ex cl (.set 1 (.bin .Add (.var 1) (.lst [.isE 0 ad b, .isE 0 ad c, .isE 0 ad d]))) [.val (.adr ad), .own 0 (.lst xs), x, y, z] = some (.nx, [.val (.adr ad), .own 0 (.lst (xs ++ [.bl b, .bl c, .bl d])), x, y, z]) := by
  have e := bin_catL (xs := xs) (ys := [.bl b, .bl c, .bl d]) (by rw [sizeLine_eq, List.length_cons, List.length_cons, List.length_cons, List.length_nil]; omega)
  simp [-ev_isE, isE_at, sizeLine_eq, e]
theorem isE_s2 (h : xs.length ≤ 100) : ex cl (.set 1 (.bin .Add (.var 1) (.lst [.isE 0 ad b, .isE 0 ad c]))) [.val (.adr ad), .own 0 (.lst xs), x, y, z] = some (.nx, [.val (.adr ad), .own 0 (.lst (xs ++ [.bl b, .bl c])), x, y, z]) := by
  have e := bin_catL (xs := xs) (ys := [.bl b, .bl c]) (by rw [sizeLine_eq, List.length_cons, List.length_cons, List.length_nil]; omega)
  simp [-ev_isE, isE_at, sizeLine_eq, e]
theorem runD_ex {dd : Df} {as : List Sl} {r : R} (hl : as.length = dd.np) (h : ∃ S', exs cl dd.body (as ++ List.replicate (dd.ns - dd.np) .un) = some (.ret r, S')) : ∃ S', runD cl dd as = some (r, S') := by
  obtain ⟨S', e⟩ := h
  exact ⟨S', by rw [runD_eq, if_pos hl, e]; rfl⟩
end
/-! ### loops -/
theorem forL_fold {α β : Type} {f : D → SS → Option (Fl × SS)} (g : α → D) (R : β → SS → Prop) (st : β → α → β) : ∀ (xs : List α) (b : β) (S : SS), R b S → (∀ b x S, x ∈ xs → R b S → ∃ S', (f (g x) S = some (.nx, S') ∨ f (g x) S = some (.ct, S')) ∧ R (st b x) S') →
    ∃ S', forL f (xs.map g) S = some (.nx, S') ∧ R (xs.foldl st b) S'
  | [], b, S, h, _ => ⟨S, rfl, h⟩
  | x :: xs, b, S, h, k => by
    obtain ⟨S1, e, h1⟩ := k b x S List.mem_cons_self h
    obtain ⟨S2, e2, h2⟩ := forL_fold g R st xs (st b x) S1 h1 fun b y S hy => k b y S (List.mem_cons_of_mem _ hy)
    refine ⟨S2, ?_, h2⟩
    rw [List.map_cons]
    unfold forL
    rcases e with e | e
    · rw [e]; exact e2
    · rw [e]; exact e2
/-- the invariant knows what is done -/
theorem forL_inv {f : D → SS → Option (Fl × SS)} (R : Nat → SS → Prop) : ∀ (xs : List D) (i : Nat) (S : SS), R i S → (∀ j x S, xs[j]? = some x → R (i + j) S → ∃ S', (f x S = some (.nx, S') ∨ f x S = some (.ct, S')) ∧ R (i + j + 1) S') →
    ∃ S', forL f xs S = some (.nx, S') ∧ R (i + xs.length) S'
  | [], i, S, h, _ => ⟨S, rfl, h⟩
  | x :: xs, i, S, h, k => by
    obtain ⟨S1, e, h1⟩ := k 0 x S rfl h
    obtain ⟨S2, e2, h2⟩ := forL_inv R xs (i + 1) S1 h1 fun j y S hy hR => by
      have := k (j + 1) y S (by simpa using hy) (by rw [show i + (j + 1) = i + 1 + j by omega]; exact hR)
      rw [show i + (j + 1) = i + 1 + j by omega] at this
      exact this
    refine ⟨S2, ?_, by rw [List.length_cons, show i + (xs.length + 1) = i + 1 + xs.length by omega]; exact h2⟩
    unfold forL
    rcases e with e | e
    · rw [e]; exact e2
    · rw [e]; exact e2
/-- the invariant knows the items that are done -/
theorem forL_done {α : Type} {f : D → SS → Option (Fl × SS)} (g : α → D) (R : List α → SS → Prop) (xs : List α) (k : ∀ done x rest S, done ++ x :: rest = xs → R done S → ∃ S', (f (g x) S = some (.nx, S') ∨ f (g x) S = some (.ct, S')) ∧ R (done ++ [x]) S') :
    ∀ (ys done : List α) (S : SS), done ++ ys = xs → R done S → ∃ S', forL f (ys.map g) S = some (.nx, S') ∧ R xs S'
  | [], done, S, e, h => ⟨S, rfl, by rw [← e, List.append_nil]; exact h⟩
  | y :: ys, done, S, e, h => by
    obtain ⟨S1, e1, h1⟩ := k done y ys S e h
    obtain ⟨S2, e2, h2⟩ := forL_done g R xs k ys (done ++ [y]) S1 (by rw [List.append_assoc]; exact e) h1
    refine ⟨S2, ?_, h2⟩
    rw [List.map_cons]
    unfold forL
    rcases e1 with e1 | e1
    · rw [e1]; exact e2
    · rw [e1]; exact e2
theorem forL_all {α : Type} {f : D → SS → Option (Fl × SS)} (g : α → D) (R : List α → SS → Prop) (xs : List α) {S : SS} (h : R [] S) (k : ∀ done x rest S, done ++ x :: rest = xs → R done S → ∃ S', (f (g x) S = some (.nx, S') ∨ f (g x) S = some (.ct, S')) ∧ R (done ++ [x]) S') :
    ∃ S', forL f (xs.map g) S = some (.nx, S') ∧ R xs S' := forL_done g R xs k xs [] S rfl h
theorem enumF_map {α : Type} (h : α → D) : ∀ (xs : List α) (i : Nat), enumF i (xs.map h) = (xs.zipIdx i).map fun p => .tup [.int (p.2 : Nat), h p.1]
  | [], _ => rfl
  | x :: xs, i => by
    rw [List.map_cons, List.zipIdx_cons, List.map_cons]
    unfold enumF
    rw [enumF_map h xs (i + 1)]
theorem compL_map {α : Type} {f : D → SS → Option (Option D × SS)} {S : SS} (g : α → D) (p : α → Bool) (h : α → D) : ∀ (xs : List α) (acc : List D), (∀ x ∈ xs, f (g x) S = some (if p x = true then some (h x) else none, S)) → acc.length + xs.length ≤ sizeLine →
    compL f (xs.map g) acc S = some (acc ++ (xs.filter p).map h, S)
  | [], acc, _, _ => by simp [compL]
  | x :: xs, acc, k, hl => by
    have hx := k x List.mem_cons_self
    have kr : ∀ y ∈ xs, f (g y) S = some (if p y = true then some (h y) else none, S) := fun y hy => k y (List.mem_cons_of_mem _ hy)
    rw [List.length_cons] at hl
    rw [List.map_cons]
    unfold compL
    rw [hx]
    cases q : p x with
    | true =>
      simp only [if_pos]
      rw [if_pos (by omega), compL_map g p h xs (acc ++ [h x]) kr (by rw [List.length_append, List.length_singleton]; omega), List.filter_cons_of_pos q]
      simp
    | false =>
      simp only [if_neg Bool.false_ne_true]
      rw [compL_map g p h xs acc kr (by omega), List.filter_cons_of_neg (by simp [q])]
theorem compL_all {α : Type} {f : D → SS → Option (Option D × SS)} {S : SS} (g : α → D) (h : α → D) (xs : List α) (acc : List D) (k : ∀ x ∈ xs, f (g x) S = some (some (h x), S)) (hl : acc.length + xs.length ≤ sizeLine) :
    compL f (xs.map g) acc S = some (acc ++ xs.map h, S) := by
  have := compL_map (f := f) (S := S) g (fun _ => true) h xs acc (fun x hx => by rw [k x hx]; rfl) hl
  rw [this, List.filter_eq_self.mpr (by intros; rfl)]
theorem exs_step {cl : CL} {s : MX.S} {r : List MX.S} {S S1 : SS} (h : ex cl s S = some (.nx, S1)) : exs cl (s :: r) S = exs cl r S1 := by
  rw [exs_cons, h, seqS_nx]
/-- a def by its body -/
theorem out_body {defs : Nat → Option Df} {n f : Nat} {d : Df} {as : List Sl} {r : R} {S' : SS} (h : defs f = some d) (hl : as.length = d.np) (hb : exs (callN defs n) d.body (as ++ List.replicate (d.ns - d.np) .un) = some (.ret r, S')) : (callN defs (n + 1)).out f as = some r := by
  rw [out_at h, runD_eq, if_pos hl, hb]
  rfl
theorem run_body {defs : Nat → Option Df} {n f : Nat} {d : Df} {as : List Sl} {r : R} {S' : SS} (h : defs f = some d) (hl : as.length = d.np) (hb : exs (callN defs n) d.body (as ++ List.replicate (d.ns - d.np) .un) = some (.ret r, S')) : (callN defs (n + 1)).run f as = some (r, S') := by
  rw [run_at h, runD_eq, if_pos hl, hb]
  rfl
/-- a for whose body never leaves it -/
theorem ex_for_all {α : Type} (g : α → D) (R : List α → SS → Prop) (xs : List α) {cl : CL} {tg : Tg} {k : ItK} {args : List E} {body : List MX.S} {S S0 : SS} {ds : List D} (h1 : evs cl args S = some (.v ds, S0)) (h2 : itD k ds = some (xs.map g)) (h : R [] S0)
    (step : ∀ done x rest S, done ++ x :: rest = xs → R done S → ∃ S1 S', tgS S tg (g x) = some S1 ∧ (exs cl body S1 = some (.nx, S') ∨ exs cl body S1 = some (.ct, S')) ∧ R (done ++ [x]) S') :
    ∃ S', ex cl (.for_ tg k args body) S = some (.nx, S') ∧ R xs S' := by
  obtain ⟨S', e, hR⟩ := forL_all (f := fun x S => match tgS S tg x with | some S1 => exs cl body S1 | none => none) g R xs h fun done x rest S e hR => by
    obtain ⟨S1, S', e1, e2, h3⟩ := step done x rest S e hR
    refine ⟨S', ?_, h3⟩
    show (match tgS S tg (g x) with | some S1 => exs cl body S1 | none => none) = _ ∨ (match tgS S tg (g x) with | some S1 => exs cl body S1 | none => none) = _
    rw [e1]
    exact e2
  refine ⟨S', ?_, hR⟩
  rw [ex_for, h1, thenL_v]
  try dsimp only
  rw [h2]
  exact e
theorem ev_comp_map {α : Type} (g : α → D) (p : α → Bool) (h : α → D) (xs : List α) {cl : CL} {elt : E} {tg : Tg} {k : ItK} {args cond : List E} {S S0 : SS} {ds : List D} (h1 : evs cl args S = some (.v ds, S0)) (h2 : itD k ds = some (xs.map g))
    (hx : ∀ x ∈ xs, compF (fun S => ev cl elt S) (hdO (evC cl cond)) tg (g x) (wipeS S0 tg.slots) = some (if p x = true then some (h x) else none, wipeS S0 tg.slots)) (hl : xs.length ≤ sizeLine) :
    ev cl (.comp elt tg k args cond) S = some (.fr (.lst ((xs.filter p).map h)), backW S0 tg.slots (wipeS S0 tg.slots)) := by
  rw [ev_comp, h1, bndL_v]
  try dsimp only
  rw [h2]
  try dsimp only
  rw [compL_map g p h xs [] hx (by simpa using hl)]
  rfl
theorem ev_comp_all {α : Type} (g : α → D) (h : α → D) (xs : List α) {cl : CL} {elt : E} {tg : Tg} {k : ItK} {args cond : List E} {S S0 : SS} {ds : List D} (h1 : evs cl args S = some (.v ds, S0)) (h2 : itD k ds = some (xs.map g))
    (hx : ∀ x ∈ xs, compF (fun S => ev cl elt S) (hdO (evC cl cond)) tg (g x) (wipeS S0 tg.slots) = some (some (h x), wipeS S0 tg.slots)) (hl : xs.length ≤ sizeLine) :
    ev cl (.comp elt tg k args cond) S = some (.fr (.lst (xs.map h)), backW S0 tg.slots (wipeS S0 tg.slots)) := by
  rw [ev_comp, h1, bndL_v]
  try dsimp only
  rw [h2]
  try dsimp only
  rw [compL_all g h xs [] hx (by simpa using hl)]
  rfl
theorem whlL_run {c : SS → Option (R × SS)} {f : SS → Option (Fl × SS)} (P : Nat → SS → Prop) (Z : SS → Prop) (h : ∀ m S, P m S → (∃ S', c S = some (.v (.bl false), S') ∧ Z S') ∨ (∃ S1 S2 m', c S = some (.v (.bl true), S1) ∧ (f S1 = some (.nx, S2) ∨ f S1 = some (.ct, S2)) ∧ m' < m ∧ P m' S2)) :
    ∀ (n m : Nat) (S : SS), P m S → m < n → ∃ S', whlL c f n S = some (.nx, S') ∧ Z S'
  | 0, _, _, _, hl => by omega
  | n + 1, m, S, hP, hl => by
    rcases h m S hP with ⟨S', e, z⟩ | ⟨S1, S2, m', e1, e2, hm, hP'⟩
    · refine ⟨S', ?_, z⟩
      unfold whlL
      rw [e]
      rfl
    · obtain ⟨S3, e3, z⟩ := whlL_run P Z h n m' S2 hP' (by omega)
      refine ⟨S3, ?_, z⟩
      unfold whlL
      rw [e1]
      show (match f S1 with | some (.nx, S') => whlL c f n S' | some (.ct, S') => whlL c f n S' | some (.brk, S') => some (.nx, S') | o => o) = _
      rcases e2 with e2 | e2
      · rw [e2]; exact e3
      · rw [e2]; exact e3
end MX

set_option Elab.async false
set_option linter.all false
set_option maxRecDepth 100000
set_option maxHeartbeats 8000000
set_option autoImplicit false
/-! GD: the data of the defs of backinside_k12_texts_of_rules (printed by gen.py) -/
namespace G
open PySem MX
def D_WAYS : D := .tup [.str "edge", .str "half", .str "middle"]
def D_MOST : D := .int 6
def nmL : List (Nat × Str) := [(1, "rule"), (3, "reach"), (2, "course"), (4, "price"), (5, "number"), (6, "rounds"), (7, "seen"), (8, "noted"), (9, "step"), (10, "index"), (11, "text"), (12, "many"), (13, "unlike"), (14, "undo")]
def nmC : List Str := ["InvalidRule", "InvalidReach", "InvalidCourse", "InvalidPrice", "InvalidNumber", "InvalidRounds", "InvalidSeen", "InvalidNoted", "InvalidStep", "InvalidIndex", "InvalidText", "TooMany", "Unlike", "NothingToUndo"]
abbrev N__law_named_error : List Str := ["e", "some", "labels", "label", "good"]
def dN (ad : Addr) (i : Nat) : Df := ⟨1, 5, false, [.set 1 (.lst [.isE 0 ad (i == 0), .isE 0 ad (i == 1), .isE 0 ad (i == 2)]), .set 1 (.bin .Add (.var 1) (.lst [.isE 0 ad (i == 3), .isE 0 ad (i == 4), .isE 0 ad (i == 5)])), .set 1 (.bin .Add (.var 1) (.lst [.isE 0 ad (i == 6), .isE 0 ad (i == 7), .isE 0 ad (i == 8)])), .set 1 (.bin .Add (.var 1) (.lst [.isE 0 ad (i == 9), .isE 0 ad (i == 10), .isE 0 ad (i == 11)])), .set 1 (.bin .Add (.var 1) (.lst [.isE 0 ad (i == 12), .isE 0 ad (i == 13)])), .set 2 (.cst (.str "rule reach course price number rounds seen noted step index text many unlike undo")), .ret (.join (.cst (.str " ")) (.comp (.var 3) (.tp [3, 4]) .zipH [.split (.var 2) (.cst (.str " ")), .var 1] [.var 4]))], none⟩
abbrev N_is_whole : List Str := ["value", "low", "high"]
def d_is_whole : Df := ⟨3, 3, false, [.ret (.and (.isi (.var 0) .int) (.and (.not (.isi (.var 0) .bool)) (.chn (.var 1) (.var 0) (.var 2))))], none⟩
abbrev N_is_way : List Str := ["value"]
def d_is_way : Df := ⟨1, 1, false, [.ret (.and (.isi (.var 0) .str) (.cmp .In (.var 0) (.cst D_WAYS)))], none⟩
abbrev N_fits_rule : List Str := ["value"]
def d_fits_rule : Df := ⟨1, 1, false, [.ifs (.or (.not (.isi (.var 0) .tuple)) (.or (.cmp .NotEq (.b1 .len (.var 0)) (.cst (.int 5))) (.not (.call 1 [.ix (.var 0) (.cst (.int 2))])))) [.ret (.cst (.bl false))] [], .ifs (.or (.not (.call 0 [.ix (.var 0) (.cst (.int 0)), .cst (.int 1), .cst D_MOST])) (.not (.call 0 [.ix (.var 0) (.cst (.int 1)), .cst (.int 1), .cst D_MOST]))) [.ret (.cst (.bl false))] [], .ret (.and (.call 0 [.ix (.var 0) (.cst (.int 3)), .cst (.int 1), .cst (.int 3)]) (.call 0 [.ix (.var 0) (.cst (.int 4)), .cst (.int 1), .cst (.int 3)]))], none⟩
abbrev N_need_rule : List Str := ["value"]
def d_need_rule : Df := ⟨1, 1, false, [.ifs (.not (.call 2 [.var 0])) [.raise 1] []], none⟩
abbrev N_as_text : List Str := ["rule"]
def d_as_text : Df := ⟨1, 1, false, [.ret (.fstr [.cst (.str "from -"), .ix (.var 0) (.cst (.int 0)), .cst (.str " to "), .ix (.var 0) (.cst (.int 1)), .cst (.str " "), .ix (.var 0) (.cst (.int 2)), .cst (.str " each "), .ix (.var 0) (.cst (.int 3)), .cst (.str " by "), .ix (.var 0) (.cst (.int 4))])], none⟩
abbrev N_rule_text : List Str := ["rule"]
def d_rule_text : Df := ⟨1, 1, false, [.exp (.call 4 [.var 0]), .ret (.call 43 [.var 0])], some "rule_text"⟩
abbrev N_figure_in : List Str := ["word"]
def d_figure_in : Df := ⟨1, 1, false, [.ret (.ite (.cmp .In (.var 0) (.tup [.cst (.str "1"), .cst (.str "2"), .cst (.str "3"), .cst (.str "4"), .cst (.str "5"), .cst (.str "6")])) (.b1 .int1 (.var 0)) (.cst (.int 0)))], none⟩
abbrev N_rule_in : List Str := ["text", "words", "found"]
def d_rule_in : Df := ⟨1, 3, false, [.ifs (.not (.isi (.var 0) .str)) [.raise 11] [], .set 1 (.split (.var 0) (.cst (.str " "))), .ifs (.or (.cmp .NotEq (.b1 .len (.var 1)) (.cst (.int 9))) (.cmp .NotEq (.slc (.ix (.var 1) (.cst (.int 1))) false (.cst .non) true (.cst (.int 1))) (.cst (.str "-")))) [.raise 11] [], .set 2 (.tup [.call 45 [.slc (.ix (.var 1) (.cst (.int 1))) true (.cst (.int 1)) false (.cst .non)], .call 45 [.ix (.var 1) (.cst (.int 3))], .ix (.var 1) (.cst (.int 4)), .call 45 [.ix (.var 1) (.cst (.int 6))], .call 45 [.ix (.var 1) (.cst (.int 8))]]), .ifs (.or (.not (.call 2 [.var 2])) (.cmp .NotEq (.call 43 [.var 2]) (.var 0))) [.raise 11] [], .ret (.var 2)], none⟩
abbrev N_read_rule : List Str := ["text"]
def d_read_rule : Df := ⟨1, 1, false, [.ret (.call 46 [.var 0])], some "read_rule"⟩
abbrev N__law_cell : List Str := ["script", "k"]
def d__law_cell : Df := ⟨2, 2, false, [.ifs (.cmp .Lt (.var 1) (.b1 .len (.var 0))) [.ret (.ix (.var 0) (.var 1))] [], .ifs (.cmp .Eq (.b1 .len (.var 0)) (.cst (.int 0))) [.ret (.bin .Add (.bin .Mult (.cst (.int 7919)) (.var 1)) (.cst (.int 101)))] [], .ret (.bin .Add (.bin .Mod (.ix (.var 0) (.bin .Mod (.var 1) (.b1 .len (.var 0)))) (.cst (.int 1000003))) (.bin .Mult (.cst (.int 7919)) (.var 1)))], none⟩
abbrev N__law_draws : List Str := ["script", "k", "many", "base", "primes", "cell", "rest", "row", "j", "mash"]
def d__law_draws : Df := ⟨4, 10, false, [.set 4 (.tup [.cst (.int 2147483647), .cst (.int 2147483629), .cst (.int 2147483587), .cst (.int 2147483579), .cst (.int 2147483563), .cst (.int 2147483549), .cst (.int 2147483543), .cst (.int 2147483497)]), .set 5 (.call 13 [.var 0, .var 1]), .set 6 (.cst (.int 0)), .ifs (.cmp .GtE (.var 5) (.bin .Pow (.cst (.int 10)) (.cst (.int 18)))) [.set 6 (.var 5)] [], .set 7 (.lst []), .for_ (.nm 8) .rng1 [.var 2] [.set 9 (.bin .Mult (.bin .Mod (.var 5) (.ix (.var 4) (.bin .Mod (.var 8) (.cst (.int 8))))) (.bin .Add (.cst (.int 48271)) (.bin .Mult (.bin .Mult (.cst (.int 2)) (.var 8)) (.var 8)))), .set 9 (.bin .Add (.bin .Add (.var 9) (.bin .Mult (.bin .Mult (.cst (.int 7919)) (.bin .Add (.var 8) (.cst (.int 1)))) (.bin .Add (.var 8) (.cst (.int 1))))) (.bin .Mult (.cst (.int 104729)) (.var 1))), .set 9 (.bin .Mod (.var 9) (.ix (.var 4) (.bin .Mod (.bin .Add (.bin .Mult (.cst (.int 3)) (.var 8)) (.var 1)) (.cst (.int 8))))), .set 9 (.bin .Mod (.bin .Mult (.bin .Mult (.var 9) (.var 9)) (.var 9)) (.ix (.var 4) (.bin .Mod (.bin .Add (.var 8) (.cst (.int 5))) (.cst (.int 8))))), .ifs (.cmp .Gt (.var 6) (.cst (.int 0))) [.set 9 (.var 6)] [], .exp (.app 7 (.bin .Mod (.var 9) (.var 3))), .set 6 (.bin .FloorDiv (.var 6) (.var 3))], .ret (.var 7)], none⟩
abbrev N__law_bag : List Str := ["script", "k"]
def d__law_bag : Df := ⟨2, 2, false, [.ret (.call 14 [.var 0, .var 1, .cst (.int 150), .cst (.int 27720)])], none⟩
abbrev N__law_take : List Str := ["bag", "many", "draw"]
def d__law_take : Df := ⟨2, 3, true, [.set 2 (.ite (.cmp .NotEq (.var 0) (.lst [])) (.pop0 0) (.cst (.int 0))), .ret (.bin .Mod (.b1 .int1 (.var 2)) (.var 1))], none⟩
abbrev N__law_choice : List Str := ["bag", "some"]
def d__law_choice : Df := ⟨2, 2, true, [.ret (.ix (.var 1) (.call 16 [.var 0, .b1 .len (.var 1)]))], none⟩
abbrev N__law_known : List Str := ["some"]
def d__law_known : Df := ⟨0, 1, false, [.set 0 (.lst [.tup [.cst (.int 2), .cst (.int 2), .cst (.str "middle"), .cst (.int 1), .cst (.int 1)], .tup [.cst (.int 2), .cst (.int 2), .cst (.str "edge"), .cst (.int 1), .cst (.int 1)], .tup [.cst (.int 3), .cst (.int 2), .cst (.str "half"), .cst (.int 2), .cst (.int 2)]]), .ret (.bin .Add (.var 0) (.lst [.tup [.cst (.int 1), .cst (.int 1), .cst (.str "middle"), .cst (.int 1), .cst (.int 1)], .tup [.cst (.int 1), .cst (.int 2), .cst (.str "half"), .cst (.int 1), .cst (.int 3)], .tup [.cst (.int 6), .cst (.int 1), .cst (.str "edge"), .cst (.int 3), .cst (.int 2)]]))], none⟩
abbrev N__law_rule : List Str := ["bag", "way", "low"]
def d__law_rule : Df := ⟨1, 3, true, [.ifs (.cmp .Eq (.call 16 [.var 0, .cst (.int 6)]) (.cst (.int 0))) [.ret (.call 17 [.var 0, .call 18 []])] [], .par [1, 2] [.call 17 [.var 0, .lst [.cst (.str "edge"), .cst (.str "half"), .cst (.str "middle")]], .bin .Add (.cst (.int 1)) (.call 16 [.var 0, .call 17 [.var 0, .lst [.cst (.int 3), .cst (.int 6)]]])], .ret (.tup [.var 2, .bin .Add (.cst (.int 1)) (.call 16 [.var 0, .call 17 [.var 0, .lst [.cst (.int 3), .cst (.int 6)]]]), .var 1, .bin .Add (.cst (.int 1)) (.call 16 [.var 0, .cst (.int 3)]), .bin .Add (.cst (.int 1)) (.call 16 [.var 0, .cst (.int 3)])])], none⟩
abbrev N__law_error : List Str := ["call", "e"]
def d__law_error : Df := ⟨1, 2, false, [.tryn [.exp (.callv 0 [])] 1 false nmL, .ret (.cst (.str ""))], none⟩
abbrev N__law_told : List Str := ["call", "e"]
def d__law_told : Df := ⟨1, 2, false, [.tryn [.ret (.tup [.callv 0 [], .cst (.str "")])] 1 true nmL], none⟩
abbrev N__law_all_refused : List Str := ["call", "odds", "name", "odd"]
def d__law_all_refused : Df := ⟨3, 4, false, [.ret (.cmp .Eq (.comp (.var 3) (.nm 3) .seq [.var 1] [.cmp .NotEq (.callL 30 0 [0, 3] []) (.var 2)]) (.lst []))], none⟩
abbrev N__law_bad_rules : List Str := ["some"]
def d__law_bad_rules : Df := ⟨0, 1, false, [.set 0 (.lst [.cst .non, .tup [], .tup [.cst (.int 2), .cst (.int 2), .cst (.str "edge"), .cst (.int 1)], .tup [.cst (.int 0), .cst (.int 2), .cst (.str "edge"), .cst (.int 1), .cst (.int 1)], .tup [.cst (.int 2), .cst (.int 7), .cst (.str "edge"), .cst (.int 1), .cst (.int 1)], .tup [.cst (.int 2), .cst (.int 2), .cst (.str "Edge"), .cst (.int 1), .cst (.int 1)]]), .set 0 (.bin .Add (.var 0) (.lst [.tup [.cst (.int 2), .cst (.int 2), .cst (.str "edge"), .cst (.int 4), .cst (.int 1)], .tup [.cst (.int 2), .cst (.int 2), .cst (.str "edge"), .cst (.int 1), .cst (.int 0)], .tup [.cst (.bl true), .cst (.int 2), .cst (.str "edge"), .cst (.int 1), .cst (.int 1)], .lst [.cst (.int 2), .cst (.int 2), .cst (.str "edge"), .cst (.int 1), .cst (.int 1)]])), .ret (.bin .Add (.var 0) (.lst [.tup [.cst (.int 2), .cst (.int 2), .cst (.str "edge"), .cst (.int 1), .cst (.int 1), .cst (.int 1)], .tup [.cst (.int 2), .cst (.int 2), .tup [.cst (.str "edge")], .cst (.int 1), .cst (.int 1)], .cst (.str "edge"), .tup [.cst (.int 2), .cst (.int 2), .cst (.str "edge"), .cst (.int 1), .cst (.bl true)]]))], none⟩
abbrev N__law_text : List Str := ["rule_so", "low", "high", "way", "every", "piece"]
def d__law_text : Df := ⟨1, 6, false, [.unp [1, 2, 3, 4, 5] (.var 0), .ret (.join (.cst (.str " ")) (.lst [.cst (.str "from"), .bin .Add (.cst (.str "-")) (.b1 .str1 (.var 1)), .cst (.str "to"), .b1 .str1 (.var 2), .var 3, .cst (.str "each"), .b1 .str1 (.var 4), .cst (.str "by"), .b1 .str1 (.var 5)]))], none⟩
abbrev N__law_read : List Str := ["text", "words", "figures", "word"]
def d__law_read : Df := ⟨1, 4, false, [.set 1 (.split (.var 0) (.cst (.str " "))), .ifs (.or (.cmp .NotEq (.b1 .len (.var 1)) (.cst (.int 9))) (.cmp .NotEq (.lst [.ix (.var 1) (.cst (.int 0)), .ix (.var 1) (.cst (.int 2)), .ix (.var 1) (.cst (.int 5)), .ix (.var 1) (.cst (.int 7))]) (.lst [.cst (.str "from"), .cst (.str "to"), .cst (.str "each"), .cst (.str "by")]))) [.ret (.cst .non)] [], .set 2 (.lst [.slc (.ix (.var 1) (.cst (.int 1))) true (.cst (.int 1)) false (.cst .non), .ix (.var 1) (.cst (.int 3)), .ix (.var 1) (.cst (.int 6)), .ix (.var 1) (.cst (.int 8))]), .ifs (.or (.cmp .NotEq (.slc (.ix (.var 1) (.cst (.int 1))) false (.cst .non) true (.cst (.int 1))) (.cst (.str "-"))) (.cmp .NotEq (.comp (.var 3) (.nm 3) .seq [.var 2] [.or (.cmp .NotEq (.b1 .len (.var 3)) (.cst (.int 1))) (.cmp .NotIn (.var 3) (.cst (.str "123456")))]) (.lst []))) [.ret (.cst .non)] [], .ifs (.or (.cmp .NotIn (.ix (.var 1) (.cst (.int 4))) (.lst [.cst (.str "edge"), .cst (.str "half"), .cst (.str "middle")])) (.or (.cmp .NotIn (.ix (.var 1) (.cst (.int 6))) (.cst (.str "123"))) (.cmp .NotIn (.ix (.var 1) (.cst (.int 8))) (.cst (.str "123"))))) [.ret (.cst .non)] [], .ret (.tup [.b1 .int1 (.ix (.var 2) (.cst (.int 0))), .b1 .int1 (.ix (.var 2) (.cst (.int 1))), .ix (.var 1) (.cst (.int 4)), .b1 .int1 (.ix (.var 2) (.cst (.int 2))), .b1 .int1 (.ix (.var 2) (.cst (.int 3)))])], none⟩
abbrev N__law_bent : List Str := ["bag", "text", "at", "way", "parts", "spot", "some"]
def d__law_bent : Df := ⟨2, 7, true, [.par [2, 3] [.call 16 [.var 0, .bin .Add (.b1 .len (.var 1)) (.cst (.int 1))], .call 16 [.var 0, .cst (.int 5)]], .ifs (.cmp .Eq (.var 3) (.cst (.int 0))) [.ret (.bin .Add (.bin .Add (.slc (.var 1) false (.cst .non) true (.var 2)) (.call 17 [.var 0, .lst [.cst (.str " "), .cst (.str "1"), .cst (.str "7"), .cst (.str "-"), .cst (.str "e"), .cst (.str "\n"), .cst (.str "half")]])) (.slc (.var 1) true (.var 2) false (.cst .non)))] [], .ifs (.cmp .Eq (.var 3) (.cst (.int 1))) [.ret (.bin .Add (.slc (.var 1) false (.cst .non) true (.var 2)) (.slc (.var 1) true (.bin .Add (.var 2) (.cst (.int 1))) false (.cst .non)))] [], .set 4 (.split (.var 1) (.cst (.str " "))), .set 5 (.call 16 [.var 0, .b1 .len (.var 4)]), .ifs (.cmp .Eq (.var 3) (.cst (.int 2))) [.set 6 (.lst [.cst (.str "from"), .cst (.str "to"), .cst (.str "-1"), .cst (.str "1"), .cst (.str "0"), .cst (.str "7"), .cst (.str "edge"), .cst (.str "half"), .cst (.str "Half"), .cst (.str "01"), .cst (.str "by"), .cst (.str "each")]), .ret (.join (.cst (.str " ")) (.bin .Add (.bin .Add (.slc (.var 4) false (.cst .non) true (.var 5)) (.lst [.call 17 [.var 0, .var 6]])) (.slc (.var 4) true (.bin .Add (.var 5) (.cst (.int 1))) false (.cst .non))))] [], .ifs (.cmp .Eq (.var 3) (.cst (.int 3))) [.ret (.join (.cst (.str " ")) (.bin .Add (.slc (.var 4) false (.cst .non) true (.var 5)) (.slc (.var 4) true (.bin .Add (.var 5) (.cst (.int 1))) false (.cst .non))))] [], .ret (.join (.cst (.str " ")) (.rev (.var 4)))], none⟩
abbrev N_law : List Str := ["script", "k", "bag", "one", "text", "turn", "bent", "due", "odd", "some"]
def d_law : Df := ⟨1, 10, false, [.for_ (.nm 1) .rng1 [.cst (.int 8)] [.set 2 (.call 15 [.var 0, .var 1]), .set 3 (.call 19 [.var 2]), .set 4 (.call 49 [.var 3]), .ifs (.or (.cmp .NotEq (.call 44 [.var 3]) (.var 4)) (.cmp .NotEq (.call 47 [.var 4]) (.var 3))) [.ret (.cst (.bl false))] [], .for_ (.nm 5) .rng1 [.cst (.int 6)] [.set 6 (.ite (.cmp .Lt (.var 5) (.cst (.int 3))) (.call 51 [.var 2, .var 4]) (.call 51 [.var 2, .call 51 [.var 2, .var 4]])), .set 7 (.call 50 [.var 6]), .ifs (.cmp .NotEq (.callL 48 1 [6] []) (.ite (.cmp .IsNot (.var 7) (.cst .non)) (.tup [.var 7, .cst (.str "")]) (.tup [.cst .non, .cst (.str "text")]))) [.ret (.cst (.bl false))] []], .for_ (.nm 8) .seq [.lst [.cst .non, .cst (.int 5), .lst [.var 4], .cst (.bl true), .cst (.str ""), .cst (.str "\n"), .bin .Add (.var 4) (.cst (.str "\n")), .bin .Add (.cst (.str " ")) (.var 4), .bin .Add (.var 4) (.cst (.str " ")), .bin .Add (.var 4) (.cst (.str " by 1"))]] [.ifs (.cmp .NotEq (.callL 30 2 [8] []) (.cst (.str "text"))) [.ret (.cst (.bl false))] []], .ifs (.not (.call 32 [.cst (.fn 44 "rule_text"), .call 33 [], .cst (.str "rule")])) [.ret (.cst (.bl false))] []], .set 9 (.lst [.cst (.str "from 2 to 2 edge each 1 by 1"), .cst (.str "from -2 to 7 edge each 1 by 1"), .cst (.str "from -2 to 2 edge each 4 by 1")]), .set 9 (.bin .Add (.var 9) (.lst [.cst (.str "from -2 to 2 each 1 edge by 1"), .cst (.str "from -02 to 2 edge each 1 by 1"), .cst (.str "from -2 to 2 Edge each 1 by 1")])), .ifs (.not (.call 32 [.cst (.fn 47 "read_rule"), .bin .Add (.var 9) (.lst [.cst (.str "from -2 to 2 edge by 1 each 1"), .cst (.str "from -2 to 2 edge each 1")]), .cst (.str "text")])) [.ret (.cst (.bl false))] [], .set 7 (.tup [.cst (.int 3), .cst (.int 2), .cst (.str "half"), .cst (.int 2), .cst (.int 2)]), .ifs (.cmp .NotEq (.callL 48 3 [7] []) (.tup [.cst (.str "from -3 to 2 half each 2 by 2"), .cst (.str "")])) [.ret (.cst (.bl false))] [], .ret (.cmp .Eq (.callL 48 4 [] []) (.tup [.var 7, .cst (.str "")]))], none⟩
abbrev N_lam0 : List Str := ["call", "odd"]
def dl_0 : Df := ⟨2, 2, false, [.ret (.callv 0 [.var 1])], none⟩
abbrev N_lam1 : List Str := ["bent"]
def dl_1 : Df := ⟨1, 1, false, [.ret (.call 47 [.var 0])], none⟩
abbrev N_lam2 : List Str := ["odd"]
def dl_2 : Df := ⟨1, 1, false, [.ret (.call 47 [.var 0])], none⟩
abbrev N_lam3 : List Str := ["due"]
def dl_3 : Df := ⟨1, 1, false, [.ret (.call 44 [.var 0])], none⟩
abbrev N_lam4 : List Str := []
def dl_4 : Df := ⟨0, 0, false, [.ret (.call 47 [.cst (.str "from -3 to 2 half each 2 by 2")])], none⟩
def tbl : List (Option Df) := [some d_is_whole, some d_is_way, some d_fits_rule, none, some d_need_rule, none, none, none, none, none, none, none, none, some d__law_cell, some d__law_draws, some d__law_bag, some d__law_take, some d__law_choice, some d__law_known, some d__law_rule, none, none, none, none, none, none, none, none, none, none, some d__law_error, none, some d__law_all_refused, some d__law_bad_rules, none, none, none, none, none, none, none, none, none, some d_as_text, some d_rule_text, some d_figure_in, some d_rule_in, some d_read_rule, some d__law_told, some d__law_text, some d__law_read, some d__law_bent, some d_law]
def lds : List Df := [dl_0, dl_1, dl_2, dl_3, dl_4]
def nmV : List (Nat × Str) := [(47, "read_rule"), (44, "rule_text")]
def defs (f : Nat) : Option Df := if f < 1000 then (tbl[f]?).join else lds[f - 1000]?
end G

set_option Elab.async false
set_option linter.all false
set_option maxRecDepth 100000
set_option maxHeartbeats 8000000
set_option autoImplicit false
/-! GN: the labels, told (printed by gen.py) -/
namespace G
open PySem MX
theorem lab_split : Txt.split "rule reach course price number rounds seen noted step index text many unlike undo" " " = (["rule", "reach", "course", "price", "number", "rounds", "seen", "noted", "step", "index", "text", "many", "unlike", "undo"] : List Str) := by decide +kernel
theorem lab_spl : splitD (.str "rule reach course price number rounds seen noted step index text many unlike undo") (.str " ") = some (.fr (.lst [.str "rule", .str "reach", .str "course", .str "price", .str "number", .str "rounds", .str "seen", .str "noted", .str "step", .str "index", .str "text", .str "many", .str "unlike", .str "undo"])) := by
  rw [splitD_str, lab_split, if_pos (by decide +kernel)]
  rfl
theorem rn_0 (ad : Addr) : ∃ S', runD (callN (fun _ => some (dN ad 0)) 0) (dN ad 0) [.val (.adr ad)] = some (.v (.str "rule"), S') := by
  have hl := lab_spl
  have hj : joinD (.str " ") (.lst [.str "rule"]) = some (.v (.str "rule")) := rfl
  refine runD_ex rfl ?_
  show ∃ S', exs (callN (fun _ => some (dN ad 0)) 0) (dN ad 0).body [.val (.adr ad), .un, .un, .un, .un] = _
  unfold dN
  dsimp only
  rw [exs_step isE_s1]
  rw [exs_step (isE_s3 (by decide))]
  rw [exs_step (isE_s3 (by decide))]
  rw [exs_step (isE_s3 (by decide))]
  rw [exs_step (isE_s2 (by decide))]
  simp [hl, hj, ev_comp, itD, zipD, compL, compF, wipeS, backW, Tg.slots, hdO, sizeLine_eq]
theorem rn_1 (ad : Addr) : ∃ S', runD (callN (fun _ => some (dN ad 1)) 0) (dN ad 1) [.val (.adr ad)] = some (.v (.str "reach"), S') := by
  have hl := lab_spl
  have hj : joinD (.str " ") (.lst [.str "reach"]) = some (.v (.str "reach")) := rfl
  refine runD_ex rfl ?_
  show ∃ S', exs (callN (fun _ => some (dN ad 1)) 0) (dN ad 1).body [.val (.adr ad), .un, .un, .un, .un] = _
  unfold dN
  dsimp only
  rw [exs_step isE_s1]
  rw [exs_step (isE_s3 (by decide))]
  rw [exs_step (isE_s3 (by decide))]
  rw [exs_step (isE_s3 (by decide))]
  rw [exs_step (isE_s2 (by decide))]
  simp [hl, hj, ev_comp, itD, zipD, compL, compF, wipeS, backW, Tg.slots, hdO, sizeLine_eq]
theorem rn_2 (ad : Addr) : ∃ S', runD (callN (fun _ => some (dN ad 2)) 0) (dN ad 2) [.val (.adr ad)] = some (.v (.str "course"), S') := by
  have hl := lab_spl
  have hj : joinD (.str " ") (.lst [.str "course"]) = some (.v (.str "course")) := rfl
  refine runD_ex rfl ?_
  show ∃ S', exs (callN (fun _ => some (dN ad 2)) 0) (dN ad 2).body [.val (.adr ad), .un, .un, .un, .un] = _
  unfold dN
  dsimp only
  rw [exs_step isE_s1]
  rw [exs_step (isE_s3 (by decide))]
  rw [exs_step (isE_s3 (by decide))]
  rw [exs_step (isE_s3 (by decide))]
  rw [exs_step (isE_s2 (by decide))]
  simp [hl, hj, ev_comp, itD, zipD, compL, compF, wipeS, backW, Tg.slots, hdO, sizeLine_eq]
theorem rn_3 (ad : Addr) : ∃ S', runD (callN (fun _ => some (dN ad 3)) 0) (dN ad 3) [.val (.adr ad)] = some (.v (.str "price"), S') := by
  have hl := lab_spl
  have hj : joinD (.str " ") (.lst [.str "price"]) = some (.v (.str "price")) := rfl
  refine runD_ex rfl ?_
  show ∃ S', exs (callN (fun _ => some (dN ad 3)) 0) (dN ad 3).body [.val (.adr ad), .un, .un, .un, .un] = _
  unfold dN
  dsimp only
  rw [exs_step isE_s1]
  rw [exs_step (isE_s3 (by decide))]
  rw [exs_step (isE_s3 (by decide))]
  rw [exs_step (isE_s3 (by decide))]
  rw [exs_step (isE_s2 (by decide))]
  simp [hl, hj, ev_comp, itD, zipD, compL, compF, wipeS, backW, Tg.slots, hdO, sizeLine_eq]
theorem rn_4 (ad : Addr) : ∃ S', runD (callN (fun _ => some (dN ad 4)) 0) (dN ad 4) [.val (.adr ad)] = some (.v (.str "number"), S') := by
  have hl := lab_spl
  have hj : joinD (.str " ") (.lst [.str "number"]) = some (.v (.str "number")) := rfl
  refine runD_ex rfl ?_
  show ∃ S', exs (callN (fun _ => some (dN ad 4)) 0) (dN ad 4).body [.val (.adr ad), .un, .un, .un, .un] = _
  unfold dN
  dsimp only
  rw [exs_step isE_s1]
  rw [exs_step (isE_s3 (by decide))]
  rw [exs_step (isE_s3 (by decide))]
  rw [exs_step (isE_s3 (by decide))]
  rw [exs_step (isE_s2 (by decide))]
  simp [hl, hj, ev_comp, itD, zipD, compL, compF, wipeS, backW, Tg.slots, hdO, sizeLine_eq]
theorem rn_5 (ad : Addr) : ∃ S', runD (callN (fun _ => some (dN ad 5)) 0) (dN ad 5) [.val (.adr ad)] = some (.v (.str "rounds"), S') := by
  have hl := lab_spl
  have hj : joinD (.str " ") (.lst [.str "rounds"]) = some (.v (.str "rounds")) := rfl
  refine runD_ex rfl ?_
  show ∃ S', exs (callN (fun _ => some (dN ad 5)) 0) (dN ad 5).body [.val (.adr ad), .un, .un, .un, .un] = _
  unfold dN
  dsimp only
  rw [exs_step isE_s1]
  rw [exs_step (isE_s3 (by decide))]
  rw [exs_step (isE_s3 (by decide))]
  rw [exs_step (isE_s3 (by decide))]
  rw [exs_step (isE_s2 (by decide))]
  simp [hl, hj, ev_comp, itD, zipD, compL, compF, wipeS, backW, Tg.slots, hdO, sizeLine_eq]
theorem rn_6 (ad : Addr) : ∃ S', runD (callN (fun _ => some (dN ad 6)) 0) (dN ad 6) [.val (.adr ad)] = some (.v (.str "seen"), S') := by
  have hl := lab_spl
  have hj : joinD (.str " ") (.lst [.str "seen"]) = some (.v (.str "seen")) := rfl
  refine runD_ex rfl ?_
  show ∃ S', exs (callN (fun _ => some (dN ad 6)) 0) (dN ad 6).body [.val (.adr ad), .un, .un, .un, .un] = _
  unfold dN
  dsimp only
  rw [exs_step isE_s1]
  rw [exs_step (isE_s3 (by decide))]
  rw [exs_step (isE_s3 (by decide))]
  rw [exs_step (isE_s3 (by decide))]
  rw [exs_step (isE_s2 (by decide))]
  simp [hl, hj, ev_comp, itD, zipD, compL, compF, wipeS, backW, Tg.slots, hdO, sizeLine_eq]
theorem rn_7 (ad : Addr) : ∃ S', runD (callN (fun _ => some (dN ad 7)) 0) (dN ad 7) [.val (.adr ad)] = some (.v (.str "noted"), S') := by
  have hl := lab_spl
  have hj : joinD (.str " ") (.lst [.str "noted"]) = some (.v (.str "noted")) := rfl
  refine runD_ex rfl ?_
  show ∃ S', exs (callN (fun _ => some (dN ad 7)) 0) (dN ad 7).body [.val (.adr ad), .un, .un, .un, .un] = _
  unfold dN
  dsimp only
  rw [exs_step isE_s1]
  rw [exs_step (isE_s3 (by decide))]
  rw [exs_step (isE_s3 (by decide))]
  rw [exs_step (isE_s3 (by decide))]
  rw [exs_step (isE_s2 (by decide))]
  simp [hl, hj, ev_comp, itD, zipD, compL, compF, wipeS, backW, Tg.slots, hdO, sizeLine_eq]
theorem rn_8 (ad : Addr) : ∃ S', runD (callN (fun _ => some (dN ad 8)) 0) (dN ad 8) [.val (.adr ad)] = some (.v (.str "step"), S') := by
  have hl := lab_spl
  have hj : joinD (.str " ") (.lst [.str "step"]) = some (.v (.str "step")) := rfl
  refine runD_ex rfl ?_
  show ∃ S', exs (callN (fun _ => some (dN ad 8)) 0) (dN ad 8).body [.val (.adr ad), .un, .un, .un, .un] = _
  unfold dN
  dsimp only
  rw [exs_step isE_s1]
  rw [exs_step (isE_s3 (by decide))]
  rw [exs_step (isE_s3 (by decide))]
  rw [exs_step (isE_s3 (by decide))]
  rw [exs_step (isE_s2 (by decide))]
  simp [hl, hj, ev_comp, itD, zipD, compL, compF, wipeS, backW, Tg.slots, hdO, sizeLine_eq]
theorem rn_9 (ad : Addr) : ∃ S', runD (callN (fun _ => some (dN ad 9)) 0) (dN ad 9) [.val (.adr ad)] = some (.v (.str "index"), S') := by
  have hl := lab_spl
  have hj : joinD (.str " ") (.lst [.str "index"]) = some (.v (.str "index")) := rfl
  refine runD_ex rfl ?_
  show ∃ S', exs (callN (fun _ => some (dN ad 9)) 0) (dN ad 9).body [.val (.adr ad), .un, .un, .un, .un] = _
  unfold dN
  dsimp only
  rw [exs_step isE_s1]
  rw [exs_step (isE_s3 (by decide))]
  rw [exs_step (isE_s3 (by decide))]
  rw [exs_step (isE_s3 (by decide))]
  rw [exs_step (isE_s2 (by decide))]
  simp [hl, hj, ev_comp, itD, zipD, compL, compF, wipeS, backW, Tg.slots, hdO, sizeLine_eq]
theorem rn_10 (ad : Addr) : ∃ S', runD (callN (fun _ => some (dN ad 10)) 0) (dN ad 10) [.val (.adr ad)] = some (.v (.str "text"), S') := by
  have hl := lab_spl
  have hj : joinD (.str " ") (.lst [.str "text"]) = some (.v (.str "text")) := rfl
  refine runD_ex rfl ?_
  show ∃ S', exs (callN (fun _ => some (dN ad 10)) 0) (dN ad 10).body [.val (.adr ad), .un, .un, .un, .un] = _
  unfold dN
  dsimp only
  rw [exs_step isE_s1]
  rw [exs_step (isE_s3 (by decide))]
  rw [exs_step (isE_s3 (by decide))]
  rw [exs_step (isE_s3 (by decide))]
  rw [exs_step (isE_s2 (by decide))]
  simp [hl, hj, ev_comp, itD, zipD, compL, compF, wipeS, backW, Tg.slots, hdO, sizeLine_eq]
theorem rn_11 (ad : Addr) : ∃ S', runD (callN (fun _ => some (dN ad 11)) 0) (dN ad 11) [.val (.adr ad)] = some (.v (.str "many"), S') := by
  have hl := lab_spl
  have hj : joinD (.str " ") (.lst [.str "many"]) = some (.v (.str "many")) := rfl
  refine runD_ex rfl ?_
  show ∃ S', exs (callN (fun _ => some (dN ad 11)) 0) (dN ad 11).body [.val (.adr ad), .un, .un, .un, .un] = _
  unfold dN
  dsimp only
  rw [exs_step isE_s1]
  rw [exs_step (isE_s3 (by decide))]
  rw [exs_step (isE_s3 (by decide))]
  rw [exs_step (isE_s3 (by decide))]
  rw [exs_step (isE_s2 (by decide))]
  simp [hl, hj, ev_comp, itD, zipD, compL, compF, wipeS, backW, Tg.slots, hdO, sizeLine_eq]
theorem rn_12 (ad : Addr) : ∃ S', runD (callN (fun _ => some (dN ad 12)) 0) (dN ad 12) [.val (.adr ad)] = some (.v (.str "unlike"), S') := by
  have hl := lab_spl
  have hj : joinD (.str " ") (.lst [.str "unlike"]) = some (.v (.str "unlike")) := rfl
  refine runD_ex rfl ?_
  show ∃ S', exs (callN (fun _ => some (dN ad 12)) 0) (dN ad 12).body [.val (.adr ad), .un, .un, .un, .un] = _
  unfold dN
  dsimp only
  rw [exs_step isE_s1]
  rw [exs_step (isE_s3 (by decide))]
  rw [exs_step (isE_s3 (by decide))]
  rw [exs_step (isE_s3 (by decide))]
  rw [exs_step (isE_s2 (by decide))]
  simp [hl, hj, ev_comp, itD, zipD, compL, compF, wipeS, backW, Tg.slots, hdO, sizeLine_eq]
theorem rn_13 (ad : Addr) : ∃ S', runD (callN (fun _ => some (dN ad 13)) 0) (dN ad 13) [.val (.adr ad)] = some (.v (.str "undo"), S') := by
  have hl := lab_spl
  have hj : joinD (.str " ") (.lst [.str "undo"]) = some (.v (.str "undo")) := rfl
  refine runD_ex rfl ?_
  show ∃ S', exs (callN (fun _ => some (dN ad 13)) 0) (dN ad 13).body [.val (.adr ad), .un, .un, .un, .un] = _
  unfold dN
  dsimp only
  rw [exs_step isE_s1]
  rw [exs_step (isE_s3 (by decide))]
  rw [exs_step (isE_s3 (by decide))]
  rw [exs_step (isE_s3 (by decide))]
  rw [exs_step (isE_s2 (by decide))]
  simp [hl, hj, ev_comp, itD, zipD, compL, compF, wipeS, backW, Tg.slots, hdO, sizeLine_eq]
theorem rn_all {ad : Addr} {i c : Nat} {x : Str} (h : nmL[i]? = some (c, x)) : ∃ S', runD (callN (fun _ => some (dN ad i)) 0) (dN ad i) [.val (.adr ad)] = some (.v (.str x), S') :=
  match i, h with
  | 0, h => by cases h; exact rn_0 ad
  | 1, h => by cases h; exact rn_1 ad
  | 2, h => by cases h; exact rn_2 ad
  | 3, h => by cases h; exact rn_3 ad
  | 4, h => by cases h; exact rn_4 ad
  | 5, h => by cases h; exact rn_5 ad
  | 6, h => by cases h; exact rn_6 ad
  | 7, h => by cases h; exact rn_7 ad
  | 8, h => by cases h; exact rn_8 ad
  | 9, h => by cases h; exact rn_9 ad
  | 10, h => by cases h; exact rn_10 ad
  | 11, h => by cases h; exact rn_11 ad
  | 12, h => by cases h; exact rn_12 ad
  | 13, h => by cases h; exact rn_13 ad
  | _ + 14, h => by simp [nmL] at h
end G

set_option Elab.async false
set_option linter.all false
set_option maxRecDepth 100000
set_option maxHeartbeats 4000000
set_option autoImplicit false
/-! PA0: rules; what is asked of values. -/
namespace G
open PySem MX
inductive Way where | edge | half | middle
  deriving DecidableEq
def Way.s : Way → Str
  | .edge => "edge" | .half => "half" | .middle => "middle"
structure Ru where
  lo : Int
  hi : Int
  way : Way
  ev : Int
  pc : Int
def Ru.d (r : Ru) : D := .tup [.int r.lo, .int r.hi, .str r.way.s, .int r.ev, .int r.pc]
structure Ru.Ok (r : Ru) : Prop where
  lo : 1 ≤ r.lo ∧ r.lo ≤ 6
  hi : 1 ≤ r.hi ∧ r.hi ≤ 6
  ev : 1 ≤ r.ev ∧ r.ev ≤ 3
  pc : 1 ≤ r.pc ∧ r.pc ≤ 3
variable {n : Nat}
theorem e_is_whole : defs 0 = some d_is_whole := rfl
theorem o_is_whole (a b i : Int) : (callN defs (n + 1)).out 0 [.val (.int i), .val (.int a), .val (.int b)] = some (.v (.bl (decide (a ≤ i) && decide (i ≤ b)))) := by
  rw [out_at e_is_whole]
  simp [d_is_whole]
  by_cases h : a ≤ i
  · simp [h]
  · simp [h]
theorem e_is_way : defs 1 = some d_is_way := rfl
theorem o_is_way (w : Way) : (callN defs (n + 1)).out 1 [.val (.str w.s)] = some (.v (.bl true)) := by
  rw [out_at e_is_way]
  cases w <;> rfl
theorem e_fits_rule : defs 2 = some d_fits_rule := rfl
theorem o_fits_rule {r : Ru} (h : r.Ok) : (callN defs (n + 2)).out 2 [.val r.d] = some (.v (.bl true)) := by
  obtain ⟨⟨h1, h2⟩, ⟨h3, h4⟩, ⟨h5, h6⟩, ⟨h7, h8⟩⟩ := h
  rw [out_at e_fits_rule]
  have io1 : (callN defs (n + 1)).io 1 = false := io_at e_is_way
  have io0 : (callN defs (n + 1)).io 0 = false := io_at e_is_whole
  simp [d_fits_rule, Ru.d, io0, io1, L2.ixN, o_is_way, o_is_whole, D_MOST, h1, h2, h3, h4, h5, h6, h7, h8]
theorem e_need_rule : defs 4 = some d_need_rule := rfl
theorem o_need_rule {r : Ru} (h : r.Ok) : (callN defs (n + 3)).out 4 [.val r.d] = some (.v .non) := by
  rw [out_at e_need_rule]
  have io : (callN defs (n + 2)).io 2 = false := io_at e_fits_rule
  simp [d_need_rule, io, o_fits_rule h]
end G

set_option Elab.async false
set_option linter.all false
set_option maxRecDepth 100000
set_option maxHeartbeats 4000000
set_option autoImplicit false
/-! PB: what the law draws; rules drawn. -/
namespace G
open PySem MX
variable {n : Nat}
def intsD (xs : List Int) : D := .lst (xs.map .int)
theorem e_cell : defs 13 = some d__law_cell := rfl
theorem o_cell (ns : List Int) (k : Nat) (hk : k < 1000) : ∃ c : Int, (callN defs (n + 1)).out 13 [.val (.scr ns), .val (.int k)] = some (.v (.int c)) := by
  rw [out_at e_cell]
  have k2 : ∀ i : Int, binD .Mult (.int 7919) (.int i) = some (.v (.int (7919 * i))) := fun i => bin_mul_l (by decide)
  have k3 : ∀ i : Int, binD .Mod (.int i) (.int 1000003) = some (.v (.int (i % 1000003))) := fun i => bin_mod (by decide)
  by_cases q : k < ns.length
  · refine ⟨ns[k], ?_⟩
    have q' : (k : Int) < ns.length := by omega
    have i1 : ixD (.scr ns) (.int k) = some (.int ns[k]) := by
      simp [L2.ixN, q']
    simp [d__law_cell, q', i1]
  · have q' : ¬ (k : Int) < ns.length := by omega
    by_cases z : ns.length = 0
    · refine ⟨7919 * k + 101, ?_⟩
      have z' : ns = [] := List.length_eq_zero_iff.mp z
      subst z'
      have q2 : ¬ (k : Int) < 0 := by omega
      simp [d__law_cell, k2, q2]
    · have z' : 0 < (ns.length : Int) := by omega
      have i0 : 0 ≤ (k : Int) % ns.length := Int.emod_nonneg _ (by omega)
      have i1 : (k : Int) % ns.length < ns.length := Int.emod_lt_of_pos _ z'
      have hi : ((k : Int) % ns.length).toNat < ns.length := by omega
      refine ⟨ns[((k : Int) % ns.length).toNat] % 1000003 + 7919 * k, ?_⟩
      have k4 : binD .Mod (.int k) (.int ns.length) = some (.v (.int ((k : Int) % ns.length))) := bin_mod z'
      have i2 : ixD (.scr ns) (.int ((k : Int) % ns.length)) = some (.int ns[((k : Int) % ns.length).toNat]) := by
        simp only [ixD_scr, L2.ixN, i0, i1, if_true, Option.bind_some]
        rw [List.getElem?_eq_getElem hi]
        rfl
      have z2 : ¬ ns = [] := fun e => z (by rw [e]; rfl)
      simp [d__law_cell, q', z2, k2, k3, k4, i2]
def PR : D := .tup [.int 2147483647, .int 2147483629, .int 2147483587, .int 2147483579, .int 2147483563, .int 2147483549, .int 2147483543, .int 2147483497]
theorem pr_at (i : Int) (h0 : 0 ≤ i) (h8 : i < 8) : ∃ p : Int, ixD PR (.int i) = some (.int p) ∧ 0 < p ∧ p < 2147483648 := by
  obtain ⟨m, rfl⟩ := Int.eq_ofNat_of_zero_le h0
  have hm : m < 8 := by omega
  match m, hm with
  | 0, _ => exact ⟨_, rfl, by decide, by decide⟩
  | 1, _ => exact ⟨_, rfl, by decide, by decide⟩
  | 2, _ => exact ⟨_, rfl, by decide, by decide⟩
  | 3, _ => exact ⟨_, rfl, by decide, by decide⟩
  | 4, _ => exact ⟨_, rfl, by decide, by decide⟩
  | 5, _ => exact ⟨_, rfl, by decide, by decide⟩
  | 6, _ => exact ⟨_, rfl, by decide, by decide⟩
  | 7, _ => exact ⟨_, rfl, by decide, by decide⟩
theorem e_draws : defs 14 = some d__law_draws := rfl
def bodyDraws : List MX.S := [.set 9 (.bin .Mult (.bin .Mod (.var 5) (.ix (.var 4) (.bin .Mod (.var 8) (.cst (.int 8))))) (.bin .Add (.cst (.int 48271)) (.bin .Mult (.bin .Mult (.cst (.int 2)) (.var 8)) (.var 8)))), .set 9 (.bin .Add (.bin .Add (.var 9) (.bin .Mult (.bin .Mult (.cst (.int 7919)) (.bin .Add (.var 8) (.cst (.int 1)))) (.bin .Add (.var 8) (.cst (.int 1))))) (.bin .Mult (.cst (.int 104729)) (.var 1))), .set 9 (.bin .Mod (.var 9) (.ix (.var 4) (.bin .Mod (.bin .Add (.bin .Mult (.cst (.int 3)) (.var 8)) (.var 1)) (.cst (.int 8))))), .set 9 (.bin .Mod (.bin .Mult (.bin .Mult (.var 9) (.var 9)) (.var 9)) (.ix (.var 4) (.bin .Mod (.bin .Add (.var 8) (.cst (.int 5))) (.cst (.int 8))))), .ifs (.cmp .Gt (.var 6) (.cst (.int 0))) [.set 9 (.var 6)] [], .exp (.app 7 (.bin .Mod (.var 9) (.var 3))), .set 6 (.bin .FloorDiv (.var 6) (.var 3))]
theorem turn_draws {cl : CL} {scr : D} {k many base c rest : Int} {row : List Int} {x y : Sl} (J : Int) (hJ : 0 ≤ J ∧ J < 1000) (hb : 0 < base ∧ base < 1073741824) (hr : row.length < sizeLine) :
    ∃ (d rest' : Int) (x' : Sl), exs cl bodyDraws [.val scr, .val (.int k), .val (.int many), .val (.int base), .val PR, .val (.int c), .val (.int rest), .own 0 (intsD row), .val (.int J), y] = some (.nx, [.val scr, .val (.int k), .val (.int many), .val (.int base), .val PR, .val (.int c), .val (.int rest'), .own 0 (intsD (row ++ [d])), .val (.int J), x']) ∧ 0 ≤ d ∧ d < base := by
  obtain ⟨p1, a1, b1, c1⟩ := pr_at (J % 8) (Int.emod_nonneg _ (by decide)) (Int.emod_lt_of_pos _ (by decide))
  obtain ⟨p2, a2, b2, c2⟩ := pr_at ((3 * J + k) % 8) (Int.emod_nonneg _ (by decide)) (Int.emod_lt_of_pos _ (by decide))
  obtain ⟨p3, a3, b3, c3⟩ := pr_at ((J + 5) % 8) (Int.emod_nonneg _ (by decide)) (Int.emod_lt_of_pos _ (by decide))
  have m8 : ∀ i : Int, binD .Mod (.int i) (.int 8) = some (.v (.int (i % 8))) := fun i => bin_mod (by decide)
  have m1 : ∀ i : Int, binD .Mod (.int i) (.int p1) = some (.v (.int (i % p1))) := fun i => bin_mod b1
  have m2 : ∀ i : Int, binD .Mod (.int i) (.int p2) = some (.v (.int (i % p2))) := fun i => bin_mod b2
  have m3 : ∀ i : Int, binD .Mod (.int i) (.int p3) = some (.v (.int (i % p3))) := fun i => bin_mod b3
  have mb : ∀ i : Int, binD .Mod (.int i) (.int base) = some (.v (.int (i % base))) := fun i => bin_mod hb.1
  have db : ∀ i : Int, binD .FloorDiv (.int i) (.int base) = some (.v (.int (i / base))) := fun i => bin_div hb
  have t1 : ∀ i : Int, binD .Mult (.int (c % p1)) (.int i) = some (.v (.int (c % p1 * i))) := fun i => bin_mul_l (by have := Int.emod_nonneg c (show p1 ≠ 0 by omega); have := Int.emod_lt_of_pos c b1; omega)
  have t2 : ∀ i : Int, binD .Mult (.int 2) (.int i) = some (.v (.int (2 * i))) := fun i => bin_mul_l (by decide)
  have t3 : ∀ i : Int, binD .Mult (.int i) (.int J) = some (.v (.int (i * J))) := fun i => bin_mul_r (by omega)
  have t4 : ∀ i : Int, binD .Mult (.int 7919) (.int i) = some (.v (.int (7919 * i))) := fun i => bin_mul_l (by decide)
  have t5 : ∀ i : Int, binD .Mult (.int i) (.int (J + 1)) = some (.v (.int (i * (J + 1)))) := fun i => bin_mul_r (by omega)
  have t6 : ∀ i : Int, binD .Mult (.int 104729) (.int i) = some (.v (.int (104729 * i))) := fun i => bin_mul_l (by decide)
  have t7 : ∀ i : Int, binD .Mult (.int 3) (.int i) = some (.v (.int (3 * i))) := fun i => bin_mul_l (by decide)
  have t8 : ∀ i u : Int, binD .Mult (.int i) (.int (u % p2)) = some (.v (.int (i * (u % p2)))) := fun i u => bin_mul_r (by have := Int.emod_nonneg u (show p2 ≠ 0 by omega); have := Int.emod_lt_of_pos u b2; omega)
  have fin : ∀ u : Int, 0 ≤ u % base ∧ u % base < base := fun u => ⟨Int.emod_nonneg u (by omega), Int.emod_lt_of_pos u hb.1⟩
  let F : Int → Sl → SS := fun rest m => [.val scr, .val (.int k), .val (.int many), .val (.int base), .val PR, .val (.int c), .val (.int rest), .own 0 (intsD row), .val (.int J), m]
  have e1 : ∀ m, ∃ u : Int, ex cl (.set 9 (.bin .Mult (.bin .Mod (.var 5) (.ix (.var 4) (.bin .Mod (.var 8) (.cst (.int 8))))) (.bin .Add (.cst (.int 48271)) (.bin .Mult (.bin .Mult (.cst (.int 2)) (.var 8)) (.var 8))))) (F rest m) = some (.nx, F rest (.val (.int u))) := fun m => by
    refine ⟨c % p1 * (48271 + 2 * J * J), ?_⟩
    simp [F, m8, a1, m1, t1, t2, t3]
  have e2 : ∀ u : Int, ∃ v : Int, ex cl (.set 9 (.bin .Add (.bin .Add (.var 9) (.bin .Mult (.bin .Mult (.cst (.int 7919)) (.bin .Add (.var 8) (.cst (.int 1)))) (.bin .Add (.var 8) (.cst (.int 1))))) (.bin .Mult (.cst (.int 104729)) (.var 1)))) (F rest (.val (.int u))) = some (.nx, F rest (.val (.int v))) := fun u => by
    refine ⟨u + 7919 * (J + 1) * (J + 1) + 104729 * k, ?_⟩
    simp [F, t4, t5, t6]
  have e3 : ∀ u : Int, ex cl (.set 9 (.bin .Mod (.var 9) (.ix (.var 4) (.bin .Mod (.bin .Add (.bin .Mult (.cst (.int 3)) (.var 8)) (.var 1)) (.cst (.int 8)))))) (F rest (.val (.int u))) = some (.nx, F rest (.val (.int (u % p2)))) := fun u => by
    simp [F, m8, t7, a2, m2]
  have e4 : ∀ u : Int, ∃ v : Int, ex cl (.set 9 (.bin .Mod (.bin .Mult (.bin .Mult (.var 9) (.var 9)) (.var 9)) (.ix (.var 4) (.bin .Mod (.bin .Add (.var 8) (.cst (.int 5))) (.cst (.int 8)))))) (F rest (.val (.int (u % p2)))) = some (.nx, F rest (.val (.int v))) := fun u => by
    refine ⟨u % p2 * (u % p2) * (u % p2) % p3, ?_⟩
    simp [F, m8, t8, a3, m3]
  have e5 : ∀ u : Int, ∃ v : Int, ex cl (.ifs (.cmp .Gt (.var 6) (.cst (.int 0))) [.set 9 (.var 6)] []) (F rest (.val (.int u))) = some (.nx, F rest (.val (.int v))) := fun u => by
    by_cases q : 0 < rest
    · exact ⟨rest, by simp [F, q]⟩
    · exact ⟨u, by simp [F, q]⟩
  have e6 : ∀ u : Int, exs cl [.exp (.app 7 (.bin .Mod (.var 9) (.var 3))), .set 6 (.bin .FloorDiv (.var 6) (.var 3))] (F rest (.val (.int u))) = some (.nx, [.val scr, .val (.int k), .val (.int many), .val (.int base), .val PR, .val (.int c), .val (.int (rest / base)), .own 0 (intsD (row ++ [u % base])), .val (.int J), .val (.int u)]) := fun u => by
    simp [F, mb, db, intsD, hr]
  obtain ⟨u1, h1⟩ := e1 y
  obtain ⟨u2, h2⟩ := e2 u1
  have h3 := e3 u2
  obtain ⟨u4, h4⟩ := e4 u2
  obtain ⟨u5, h5⟩ := e5 u4
  refine ⟨u5 % base, rest / base, .val (.int u5), ?_, fin _⟩
  show exs cl bodyDraws (F rest y) = _
  unfold bodyDraws
  rw [exs_step h1, exs_step h2, exs_step h3, exs_step h4, exs_step h5]
  exact e6 u5
theorem o_draws (ns : List Int) (k : Nat) (hk : k < 1000) (m : Nat) (hm : m < 1000) {base : Int} (hb : 0 < base ∧ base < 1073741824) :
    ∃ ds : List Int, (callN defs (n + 2)).out 14 [.val (.scr ns), .val (.int k), .val (.int m), .val (.int base)] = some (.fr (intsD ds)) ∧ ds.length = m ∧ ∀ d ∈ ds, 0 ≤ d ∧ d < base := by
  have io : (callN defs (n + 1)).io 13 = false := io_at e_cell
  obtain ⟨c, hc⟩ := o_cell (n := n) ns k hk
  have key : ∀ rest : Int, ∃ S', ex (callN defs (n + 1)) (.for_ (.nm 8) .rng1 [.var 2] bodyDraws) [.val (.scr ns), .val (.int k), .val (.int m), .val (.int base), .val PR, .val (.int c), .val (.int rest), .own 0 (.lst []), .un, .un] = some (.nx, S') ∧
      ∃ (ds : List Int) (r2 : Int) (x y : Sl), S' = [.val (.scr ns), .val (.int k), .val (.int m), .val (.int base), .val PR, .val (.int c), .val (.int r2), .own 0 (intsD ds), x, y] ∧ ds.length = (List.range m).length ∧ ∀ d ∈ ds, 0 ≤ d ∧ d < base := fun rest => by
    refine ex_for_all (fun i : Nat => D.int (0 + (i : Int))) (fun done S' => ∃ (ds : List Int) (r2 : Int) (x y : Sl), S' = [.val (.scr ns), .val (.int k), .val (.int m), .val (.int base), .val PR, .val (.int c), .val (.int r2), .own 0 (intsD ds), x, y] ∧ ds.length = done.length ∧ ∀ d ∈ ds, 0 ≤ d ∧ d < base) (List.range m)
      (ds := [.int m]) (by simp; rfl) ?_ ⟨[], rest, .un, .un, rfl, rfl, by simp⟩ ?_
    · have s1 : smallB (m : Int) := ⟨by omega, by omega⟩
      unfold itD
      simp only [s1, if_true, rngD]
      congr 2
    · rintro done j more S e ⟨ds, r2, x, y, rfl, hl, hd⟩
      have hj : j < m := by
        have : j ∈ List.range m := by rw [← e]; simp
        exact List.mem_range.mp this
      have hdl : done.length < m := by
        have := congrArg List.length e
        rw [List.length_append, List.length_cons, List.length_range] at this
        omega
      obtain ⟨d, r3, x', e1, h1, h2⟩ := turn_draws (cl := callN defs (n + 1)) (scr := .scr ns) (k := k) (many := m) (base := base) (c := c) (rest := r2) (row := ds) (x := x) (y := y) (0 + (j : Int)) (by omega) hb (by rw [PySem.sizeLine_eq]; omega)
      refine ⟨_, _, rfl, .inl e1, ds ++ [d], r3, _, _, rfl, by simp [hl], ?_⟩
      intro z hz
      rcases List.mem_append.mp hz with hz | hz
      · exact hd z hz
      · rw [List.mem_singleton] at hz
        subst hz
        exact ⟨h1, h2⟩
  have pw : binD .Pow (.int 10) (.int 18) = some (.v (.int 1000000000000000000)) := by
    rw [bin_pow (by decide)]
    rfl
  have h4 : ∃ rest : Int, ex (callN defs (n + 1)) (.ifs (.cmp .GtE (.var 5) (.bin .Pow (.cst (.int 10)) (.cst (.int 18)))) [.set 6 (.var 5)] []) [.val (.scr ns), .val (.int k), .val (.int m), .val (.int base), .val PR, .val (.int c), .val (.int 0), .un, .un, .un] = some (.nx, [.val (.scr ns), .val (.int k), .val (.int m), .val (.int base), .val PR, .val (.int c), .val (.int rest), .un, .un, .un]) := by
    by_cases q : (1000000000000000000 : Int) ≤ c
    · exact ⟨c, by simp [pw, q]⟩
    · exact ⟨0, by simp [pw, q]⟩
  obtain ⟨rest, h4⟩ := h4
  obtain ⟨S', h6, ds, r2, x, y, rfl, hl, hd⟩ := key rest
  refine ⟨ds, ?_, by rw [hl, List.length_range], hd⟩
  have h1 : ex (callN defs (n + 1)) (.set 4 (.tup [.cst (.int 2147483647), .cst (.int 2147483629), .cst (.int 2147483587), .cst (.int 2147483579), .cst (.int 2147483563), .cst (.int 2147483549), .cst (.int 2147483543), .cst (.int 2147483497)])) [.val (.scr ns), .val (.int k), .val (.int m), .val (.int base), .un, .un, .un, .un, .un, .un] = some (.nx, [.val (.scr ns), .val (.int k), .val (.int m), .val (.int base), .val PR, .un, .un, .un, .un, .un]) := by
    simp [PySem.sizeLine_eq, PR]
  have h2 : ex (callN defs (n + 1)) (.set 5 (.call 13 [.var 0, .var 1])) [.val (.scr ns), .val (.int k), .val (.int m), .val (.int base), .val PR, .un, .un, .un, .un, .un] = some (.nx, [.val (.scr ns), .val (.int k), .val (.int m), .val (.int base), .val PR, .val (.int c), .un, .un, .un, .un]) := by
    simp [io, hc]
  have h3 : ex (callN defs (n + 1)) (.set 6 (.cst (.int 0))) [.val (.scr ns), .val (.int k), .val (.int m), .val (.int base), .val PR, .val (.int c), .un, .un, .un, .un] = some (.nx, [.val (.scr ns), .val (.int k), .val (.int m), .val (.int base), .val PR, .val (.int c), .val (.int 0), .un, .un, .un]) := by
    simp
  have h5 : ex (callN defs (n + 1)) (.set 7 (.lst [])) [.val (.scr ns), .val (.int k), .val (.int m), .val (.int base), .val PR, .val (.int c), .val (.int rest), .un, .un, .un] = some (.nx, [.val (.scr ns), .val (.int k), .val (.int m), .val (.int base), .val PR, .val (.int c), .val (.int rest), .own 0 (.lst []), .un, .un]) := by
    simp
  refine out_body e_draws rfl (S' := [.val (.scr ns), .val (.int k), .val (.int m), .val (.int base), .val PR, .val (.int c), .val (.int r2), .un, x, y]) ?_
  show exs (callN defs (n + 1)) [_, _, _, _, _, .for_ (.nm 8) .rng1 [.var 2] bodyDraws, .ret (.var 7)] [.val (.scr ns), .val (.int k), .val (.int m), .val (.int base), .un, .un, .un, .un, .un, .un] = _
  rw [exs_step h1, exs_step h2, exs_step h3, exs_step h4, exs_step h5, exs_step h6]
  simp
theorem e_bag : defs 15 = some d__law_bag := rfl
theorem o_bag (ns : List Int) (k : Nat) (hk : k < 1000) : ∃ ds : List Int, (callN defs (n + 3)).out 15 [.val (.scr ns), .val (.int k)] = some (.fr (intsD ds)) := by
  obtain ⟨ds, h, _⟩ := o_draws (n := n) ns k hk 150 (by decide) (base := 27720) (by decide)
  have io : (callN defs (n + 2)).io 14 = false := io_at e_draws
  refine ⟨ds, ?_⟩
  rw [out_at e_bag]
  have h' : (callN defs (n + 2)).out 14 [.val (.scr ns), .val (.int k), .val (.int 150), .val (.int 27720)] = _ := h
  simp [d__law_bag, io, h']
/-- what is taken; what is left -/
def tk (ds : List Int) (m : Int) : Int := match ds with | [] => 0 % m | d :: _ => d % m
theorem tk_lo {ds : List Int} {m : Int} (h : 0 < m) : 0 ≤ tk ds m ∧ tk ds m < m := by
  unfold tk
  split
  · exact ⟨Int.emod_nonneg _ (by omega), Int.emod_lt_of_pos _ h⟩
  · exact ⟨Int.emod_nonneg _ (by omega), Int.emod_lt_of_pos _ h⟩
theorem e_take : defs 16 = some d__law_take := rfl
theorem r_take (ds : List Int) {m : Int} (h : 0 < m) : ∃ Z, (callN defs (n + 1)).run 16 [.own 1 (intsD ds), .val (.int m)] = some (.v (.int (tk ds m)), .own 1 (intsD ds.tail) :: Z) := by
  have k1 : ∀ i : Int, binD .Mod (.int i) (.int m) = some (.v (.int (i % m))) := fun i => bin_mod h
  have ok : ∀ {xs : List Int}, okD 64 (.lst (xs.map .int)) = true := by intro xs; simp
  cases ds with
  | nil =>
    have q : eqD (.lst []) (.lst []) = some true := by rw [eqD_ok (by simp) (by simp)]; simp
    refine ⟨[.val (.int m), .val (.int 0)], ?_⟩
    rw [run_at e_take]
    simp [d__law_take, intsD, q, k1, tk]
  | cons d ds =>
    have q : eqD (.lst (.int d :: ds.map .int)) (.lst []) = some false := by rw [eqD_ok (by simp) (by simp)]; simp
    refine ⟨[.val (.int m), .val (.int d)], ?_⟩
    rw [run_at e_take]
    simp [d__law_take, intsD, q, k1, tk]
theorem io_take : (callN defs n).io 16 = true := io_at e_take
/-- a take from the bag in slot i -/
theorem ev_take (ds es : List Int) {m : Int} (h : 0 < m) {i t : Nat} {a : E} {S S1 : SS} (h1 : S[i]? = some (.own t (intsD ds))) (h2 : ev (callN defs (n + 1)) a S = some (.v (.int m), S1)) (h3 : S1[i]? = some (.own t (intsD es))) : ev (callN defs (n + 1)) (.call 16 [.var i, a]) S = some (.v (.int (tk es m)), S1.set i (.own t (intsD es.tail))) := by
  obtain ⟨Z, hr⟩ := r_take (n := n) es h
  simp [io_take, h1, h2, h3, hr]
theorem e_choice : defs 17 = some d__law_choice := rfl
theorem r_choice (ds : List Int) {xs : List D} (h : 0 < xs.length) : ∃ (x : D) (Z : SS), x ∈ xs ∧ (callN defs (n + 2)).run 17 [.own 1 (intsD ds), .val (.lst xs)] = some (.v x, .own 1 (intsD ds.tail) :: Z) := by
  have hx : 0 < (xs.length : Int) := by omega
  obtain ⟨a, b⟩ := tk_lo (ds := ds) hx
  have hi : (tk ds xs.length).toNat < xs.length := by omega
  have e := ev_take (n := n) ds ds hx (i := 0) (t := 1) (a := .b1 .len (.var 1)) (S := [.own 1 (intsD ds), .val (.lst xs)]) (S1 := [.own 1 (intsD ds), .val (.lst xs)]) rfl (by simp) rfl
  have ix : ixD (.lst xs) (.int (tk ds xs.length)) = some xs[(tk ds xs.length).toNat] := by
    simp only [ixD_lst, L2.ixN, a, b, if_true, Option.bind_some]
    rw [List.getElem?_eq_getElem hi]
  refine ⟨xs[(tk ds xs.length).toNat], [.val (.lst xs)], List.getElem_mem hi, ?_⟩
  rw [run_at e_choice]
  simp [d__law_choice, -ev_call, e, ix]
theorem io_choice : (callN defs n).io 17 = true := io_at e_choice
theorem ev_choice (ds es : List Int) {xs : List D} (h : 0 < xs.length) {i t : Nat} {a : E} {S S1 : SS} {r : R} (hr : r = .v (.lst xs) ∨ r = .fr (.lst xs)) (h1 : S[i]? = some (.own t (intsD ds))) (h2 : ev (callN defs (n + 2)) a S = some (r, S1)) (h3 : S1[i]? = some (.own t (intsD es))) : ∃ x ∈ xs, ev (callN defs (n + 2)) (.call 17 [.var i, a]) S = some (.v x, S1.set i (.own t (intsD es.tail))) := by
  obtain ⟨x, Z, hx, hr2⟩ := r_choice (n := n) es h
  refine ⟨x, hx, ?_⟩
  rcases hr with rfl | rfl <;> simp [io_choice, h1, h2, h3, hr2]
theorem e_known : defs 18 = some d__law_known := rfl
def knownR : List Ru := [⟨2, 2, .middle, 1, 1⟩, ⟨2, 2, .edge, 1, 1⟩, ⟨3, 2, .half, 2, 2⟩, ⟨1, 1, .middle, 1, 1⟩, ⟨1, 2, .half, 1, 3⟩, ⟨6, 1, .edge, 3, 2⟩]
theorem knownR_ok : ∀ r ∈ knownR, r.Ok := by
  intro r hr
  simp only [knownR, List.mem_cons, List.not_mem_nil, or_false] at hr
  rcases hr with rfl | rfl | rfl | rfl | rfl | rfl <;> exact ⟨by decide, by decide, by decide, by decide⟩
theorem o_known : (callN defs (n + 1)).out 18 [] = some (.fr (.lst (knownR.map Ru.d))) := by
  rw [out_at e_known]
  simp [d__law_known, PySem.sizeLine_eq]
  rw [bin_catL (by simp [PySem.sizeLine_eq])]
  simp [knownR, Ru.d, Way.s]
theorem ways_mem {x : D} (h : x ∈ [D.str "edge", D.str "half", D.str "middle"]) : ∃ w : Way, x = .str w.s := by
  simp only [List.mem_cons, List.not_mem_nil, or_false] at h
  rcases h with rfl | rfl | rfl
  · exact ⟨.edge, rfl⟩
  · exact ⟨.half, rfl⟩
  · exact ⟨.middle, rfl⟩
theorem six_mem {x : D} (h : x ∈ [D.int 3, D.int 6]) : ∃ m : Int, x = .int m ∧ 0 < m ∧ m ≤ 6 := by
  simp only [List.mem_cons, List.not_mem_nil, or_false] at h
  rcases h with rfl | rfl
  · exact ⟨3, rfl, by decide, by decide⟩
  · exact ⟨6, rfl, by decide, by decide⟩
theorem e_rule : defs 19 = some d__law_rule := rfl
theorem r_rule (ds : List Int) : ∃ (r : Ru) (es : List Int) (Z : SS), r.Ok ∧ (callN defs (n + 3)).run 19 [.own 1 (intsD ds)] = some (.v r.d, .own 1 (intsD es) :: Z) := by
  have t0 := ev_take (n := n + 1) ds ds (m := 6) (by decide) (i := 0) (t := 1) (a := .cst (.int 6)) (S := [.own 1 (intsD ds), .un, .un]) (S1 := [.own 1 (intsD ds), .un, .un]) rfl (by simp) rfl
  by_cases q : tk ds 6 = 0
  · obtain ⟨x, hx, c1⟩ := ev_choice (n := n) ds.tail ds.tail (xs := knownR.map Ru.d) (by decide) (i := 0) (t := 1) (a := .call 18 []) (S := [.own 1 (intsD ds.tail), .un, .un]) (S1 := [.own 1 (intsD ds.tail), .un, .un]) (.inr rfl) rfl (by
      have o := o_known (n := n + 1)
      have io : (callN defs (n + 2)).io 18 = false := io_at e_known
      simp [io, o]) rfl
    obtain ⟨r, hr, rfl⟩ := List.mem_map.mp hx
    refine ⟨r, ds.tail.tail, [.un, .un], knownR_ok r hr, ?_⟩
    rw [run_at e_rule]
    simp [d__law_rule, -ev_call, t0, q, c1]
  · let d1 := ds.tail
    obtain ⟨w, hw, c1⟩ := ev_choice (n := n) d1 d1 (xs := [.str "edge", .str "half", .str "middle"]) (by decide) (i := 0) (t := 1) (a := .lst [.cst (.str "edge"), .cst (.str "half"), .cst (.str "middle")]) (S := [.own 1 (intsD d1), .un, .un]) (S1 := [.own 1 (intsD d1), .un, .un]) (.inr rfl) rfl (by simp [PySem.sizeLine_eq]) rfl
    obtain ⟨w, rfl⟩ := ways_mem hw
    obtain ⟨x, hx, c2⟩ := ev_choice (n := n) d1.tail d1.tail (xs := [.int 3, .int 6]) (by decide) (i := 0) (t := 1) (a := .lst [.cst (.int 3), .cst (.int 6)]) (S := [.own 1 (intsD d1.tail), .un, .un]) (S1 := [.own 1 (intsD d1.tail), .un, .un]) (.inr rfl) rfl (by simp [PySem.sizeLine_eq]) rfl
    obtain ⟨m1, rfl, m1a, m1b⟩ := six_mem hx
    have c3 := ev_take (n := n + 1) d1.tail d1.tail.tail (m := m1) m1a (i := 0) (t := 1) (S := [.own 1 (intsD d1.tail), .un, .un]) (S1 := [.own 1 (intsD d1.tail.tail), .un, .un]) rfl c2 rfl
    let d4 := d1.tail.tail.tail
    let lo := 1 + tk d1.tail.tail m1
    have p1 : ex (callN defs (n + 2)) (.par [1, 2] [.call 17 [.var 0, .lst [.cst (.str "edge"), .cst (.str "half"), .cst (.str "middle")]], .bin .Add (.cst (.int 1)) (.call 16 [.var 0, .call 17 [.var 0, .lst [.cst (.int 3), .cst (.int 6)]]])]) [.own 1 (intsD d1), .un, .un] = some (.nx, [.own 1 (intsD d4), .val (.str w.s), .val (.int lo)]) := by
      simp only [List.set_cons_zero] at c1 c3
      simp [-ev_call, c1, c3, d4, lo]
    obtain ⟨x, hx, c4⟩ := ev_choice (n := n) d4 d4 (xs := [.int 3, .int 6]) (by decide) (i := 0) (t := 1) (a := .lst [.cst (.int 3), .cst (.int 6)]) (S := [.own 1 (intsD d4), .val (.str w.s), .val (.int lo)]) (S1 := [.own 1 (intsD d4), .val (.str w.s), .val (.int lo)]) (.inr rfl) rfl (by simp [PySem.sizeLine_eq]) rfl
    obtain ⟨m2, rfl, m2a, m2b⟩ := six_mem hx
    have c5 := ev_take (n := n + 1) d4 d4.tail (m := m2) m2a (i := 0) (t := 1) (S := [.own 1 (intsD d4), .val (.str w.s), .val (.int lo)]) (S1 := [.own 1 (intsD d4.tail), .val (.str w.s), .val (.int lo)]) rfl c4 rfl
    have c6 := ev_take (n := n + 1) d4.tail.tail d4.tail.tail (m := 3) (by decide) (i := 0) (t := 1) (a := .cst (.int 3)) (S := [.own 1 (intsD d4.tail.tail), .val (.str w.s), .val (.int lo)]) (S1 := [.own 1 (intsD d4.tail.tail), .val (.str w.s), .val (.int lo)]) rfl (by simp) rfl
    have c7 := ev_take (n := n + 1) d4.tail.tail.tail d4.tail.tail.tail (m := 3) (by decide) (i := 0) (t := 1) (a := .cst (.int 3)) (S := [.own 1 (intsD d4.tail.tail.tail), .val (.str w.s), .val (.int lo)]) (S1 := [.own 1 (intsD d4.tail.tail.tail), .val (.str w.s), .val (.int lo)]) rfl (by simp) rfl
    have b1 := tk_lo (ds := d1.tail.tail) m1a
    have b2 := tk_lo (ds := d4.tail) m2a
    have b3 := tk_lo (ds := d4.tail.tail) (show (0 : Int) < 3 by decide)
    have b4 := tk_lo (ds := d4.tail.tail.tail) (show (0 : Int) < 3 by decide)
    refine ⟨⟨lo, 1 + tk d4.tail m2, w, 1 + tk d4.tail.tail 3, 1 + tk d4.tail.tail.tail 3⟩, d4.tail.tail.tail.tail, [.val (.str w.s), .val (.int lo)], ⟨?_, ?_, ?_, ?_⟩, ?_⟩
    · show 1 ≤ 1 + tk d1.tail.tail m1 ∧ 1 + tk d1.tail.tail m1 ≤ 6
      omega
    · show 1 ≤ 1 + tk d4.tail m2 ∧ 1 + tk d4.tail m2 ≤ 6
      omega
    · show 1 ≤ 1 + tk d4.tail.tail 3 ∧ 1 + tk d4.tail.tail 3 ≤ 3
      omega
    · show 1 ≤ 1 + tk d4.tail.tail.tail 3 ∧ 1 + tk d4.tail.tail.tail 3 ≤ 3
      omega
    · have h1 : ex (callN defs (n + 2)) (.ifs (.cmp .Eq (.call 16 [.var 0, .cst (.int 6)]) (.cst (.int 0))) [.ret (.call 17 [.var 0, .call 18 []])] []) [.own 1 (intsD ds), .un, .un] = some (.nx, [.own 1 (intsD d1), .un, .un]) := by
        simp [-ev_call, t0, q, d1]
      refine run_body e_rule rfl ?_
      show exs (callN defs (n + 2)) [_, _, _] [.own 1 (intsD ds), .un, .un] = _
      rw [exs_step h1, exs_step p1]
      simp only [List.set_cons_zero] at c5 c6 c7
      simp [-ev_call, c5, c6, c7, PySem.sizeLine_eq, Ru.d]
theorem io_rule : (callN defs n).io 19 = true := io_at e_rule
end G

set_option Elab.async false
set_option linter.all false
set_option maxRecDepth 100000
set_option maxHeartbeats 4000000
set_option autoImplicit false
/-! PK0: any value asked whether it is a rule. -/
namespace G
open PySem MX
variable {n : Nat}
/-- neither the script nor what can be called -/
def dat : D → Bool
  | .scr _ => false
  | .fn _ _ => false
  | .clo _ _ => false
  | .adr _ => false
  | _ => true
def wholeB (v : D) (a b : Int) : Bool := match v with
  | .int i => decide (a ≤ i) && decide (i ≤ b)
  | _ => false
theorem whole_body {cl : CL} {v : D} (h : dat v = true) (a b : Int) : exs cl [.ret (.and (.isi (.var 0) .int) (.and (.not (.isi (.var 0) .bool)) (.chn (.var 1) (.var 0) (.var 2))))] [.val v, .val (.int a), .val (.int b)] = some (.ret (.v (.bl (wholeB v a b))), [.val v, .val (.int a), .val (.int b)]) := by
  cases v with
  | int i => by_cases q : a ≤ i <;> simp [wholeB, q]
  | scr _ => cases h
  | fn _ _ => cases h
  | clo _ _ => cases h
  | adr _ => cases h
  | _ => simp [wholeB]
theorem g_is_whole {v : D} (h : dat v = true) (a b : Int) : (callN defs (n + 1)).out 0 [.val v, .val (.int a), .val (.int b)] = some (.v (.bl (wholeB v a b))) := out_body e_is_whole rfl (whole_body h a b)
def wayB (v : D) : Bool := match v with
  | .str x => [D.str "edge", .str "half", .str "middle"].any fun y => eqF y (.str x)
  | _ => false
theorem way_in (x : Str) : cmpD .In (.str x) D_WAYS = some (wayB (.str x)) := rfl
theorem way_nin (x : Str) : cmpD .NotIn (.str x) (.lst [.str "edge", .str "half", .str "middle"]) = some (!wayB (.str x)) := rfl
theorem g_is_way {v : D} (h : dat v = true) : (callN defs (n + 1)).out 1 [.val v] = some (.v (.bl (wayB v))) := by
  rw [out_at e_is_way]
  cases v with
  | str x => simp [d_is_way, way_in]
  | scr _ => cases h
  | fn _ _ => cases h
  | clo _ _ => cases h
  | adr _ => cases h
  | _ => simp [d_is_way, wayB]
def dat1 (v : D) : Bool := dat v && (match v with
  | .tup xs => xs.all dat
  | .lst xs => xs.all dat
  | _ => true)
def ruleB (v : D) : Bool := match v with
  | .tup [a, b, c, d, e] => wayB c && (wholeB a 1 6 && (wholeB b 1 6 && (wholeB d 1 3 && wholeB e 1 3)))
  | _ => false
theorem five {xs : List D} (h : xs.length = 5) : ∃ a b c d e, xs = [a, b, c, d, e] := by
  match xs, h with
  | [a, b, c, d, e], _ => exact ⟨a, b, c, d, e, rfl⟩
theorem rule_five {xs : List D} (h : ¬ xs.length = 5) : ruleB (.tup xs) = false := by
  unfold ruleB
  split
  · rename_i e
    cases e
    exact absurd rfl h
  · rfl
theorem g_fits_rule {v : D} (h : dat1 v = true) : (callN defs (n + 2)).out 2 [.val v] = some (.v (.bl (ruleB v))) := by
  have io1 : (callN defs (n + 1)).io 1 = false := io_at e_is_way
  have io0 : (callN defs (n + 1)).io 0 = false := io_at e_is_whole
  rw [out_at e_fits_rule]
  cases v with
  | tup xs =>
    by_cases hl : xs.length = 5
    · obtain ⟨a, b, c, d, e, rfl⟩ := five hl
      simp [dat1, dat] at h
      obtain ⟨ha, hb, hc, hd, he⟩ := h
      have w1 := g_is_way (n := n) hc
      have w2 := g_is_whole (n := n) ha 1 6
      have w3 := g_is_whole (n := n) hb 1 6
      have w4 := g_is_whole (n := n) hd 1 3
      have w5 := g_is_whole (n := n) he 1 3
      unfold ruleB
      cases q1 : wayB c <;> cases q2 : wholeB a 1 6 <;> cases q3 : wholeB b 1 6 <;> cases q4 : wholeB d 1 3 <;> simp [d_fits_rule, io0, io1, L2.ixN, D_MOST, w1, w2, w3, w4, w5, q1, q2, q3, q4]
    · have hi : ¬ (xs.length : Int) = 5 := by omega
      rw [rule_five hl]
      simp [d_fits_rule, hi]
  | scr _ => cases h
  | fn _ _ => cases h
  | clo _ _ => cases h
  | adr _ => cases h
  | _ => simp [d_fits_rule, ruleB]
theorem g_need_rule {v : D} (h : dat1 v = true) (q : ruleB v = false) : (callN defs (n + 3)).out 4 [.val v] = some (.ex 1) := by
  have io : (callN defs (n + 2)).io 2 = false := io_at e_fits_rule
  have w := g_fits_rule (n := n) h
  rw [out_at e_need_rule]
  simp [d_need_rule, io, w, q]
end G

set_option Elab.async false
set_option linter.all false
set_option maxRecDepth 100000
set_option maxHeartbeats 4000000
set_option autoImplicit false
/-! PE: errors told; bad rules. -/
namespace G
open PySem MX
variable {n : Nat}
theorem callL_out {cl : CL} {f : Nat} {as : List Sl} {S : SS} {x : Str} (h : cl.out f as = some (.v (.str x))) : callL S (cl.run f as) = some (.v (.str x), S) := by
  obtain ⟨S', e⟩ := run_of h
  rw [e, callL_str]
theorem e_dl0 : defs (lamN 0) = some dl_0 := rfl
theorem e_error : defs 30 = some d__law_error := rfl
theorem e_all_refused : defs 32 = some d__law_all_refused := rfl
/-- a call that raises: its label -/
theorem o_err {l : Nat} {cs : List D} {c : Nat} {x : Str} (hx : nmL.lookup c = some x) (h : (callN defs n).out (lamN l) (valsS cs) = some (.ex c)) : (callN defs (n + 1)).out 30 [.val (.clo l cs)] = some (.v (.str x)) := by
  have cf : ∀ S : SS, callF (callN defs n) [] S (.clo l cs) = some (.ex c, S) := fun S => by
    rw [callF_clo rfl]
    have h' : (callN defs n).out (lamN l) (valsS ([] ++ cs)) = some (.ex c) := h
    rw [h', outV_some]
  rw [out_at e_error]
  simp [d__law_error, cf, trynR, hx, ndl]
theorem o_error {cv o : D} {c : Nat} {x : Str} (hx : nmL.lookup c = some x) (hk : ∀ k, calB (callN defs n) cv k = k) (h : ∀ S : SS, callF (callN defs n) [o] S cv = some (.ex c, S)) : (callN defs (n + 2)).out 30 [.val (.clo 0 [cv, o])] = some (.v (.str x)) := by
  refine o_err (n := n + 1) hx ?_
  show (callN defs (n + 1)).out (lamN 0) [.val cv, .val o] = some (.ex c)
  rw [out_at e_dl0]
  simp [dl_0, hk, h]
theorem o_all_refused {cv : D} {os : List D} {c : Nat} {x : Str} (hx : nmL.lookup c = some x) (hs : PyData.strOk x = true) (hl : os.length ≤ 1000) (hk : ∀ k, calB (callN defs n) cv k = k) (h : ∀ o ∈ os, ∀ S : SS, callF (callN defs n) [o] S cv = some (.ex c, S)) :
    (callN defs (n + 3)).out 32 [.val cv, .val (.lst os), .val (.str x)] = some (.v (.bl true)) := by
  have io : (callN defs (n + 2)).io 30 = false := io_at e_error
  have ne : cmpD .NotEq (.str x) (.str x) = some false := by
    rw [cmpd_ne, eqS hs hs]
    simp
  have hc := ev_comp_map (cl := callN defs (n + 2)) (elt := .var 3) (tg := .nm 3) (k := .seq) (args := [.var 1]) (cond := [.cmp .NotEq (.callL 30 0 [0, 3] []) (.var 2)]) (S := [.val cv, .val (.lst os), .val (.str x), .un]) (S0 := [.val cv, .val (.lst os), .val (.str x), .un]) (ds := [.lst os])
    id (fun _ => false) id os (by simp) (by rw [List.map_id]; rfl) (fun o ho => by
      have e := callL_out (S := [.val cv, .val (.lst os), .val (.str x), .val o]) (o_error (n := n) hx hk (h o ho))
      simp [-cmpd_ne, compF, hdO, capS, capK, e, ne, wipeS, Tg.slots]) (by rw [PySem.sizeLine_eq]; omega)
  have ef : os.filter (fun _ => false) = [] := List.filter_eq_nil_iff.mpr fun _ _ => by simp
  rw [ef, List.map_nil] at hc
  have e0 : eqD (.lst []) (.lst []) = some true := by rw [eqD_ok (by simp) (by simp)]; simp
  rw [out_at e_all_refused]
  simp [d__law_all_refused, hc, e0]
/-- what a lambda's object gives -/
theorem clo_gives {l : Nat} {cs : List D} {o : D} {c : Nat} (ho : D.flatL [o] = true) (h : (callN defs n).out (lamN l) (valsS ([o] ++ cs)) = some (.ex c)) (S : SS) : callF (callN defs n) [o] S (.clo l cs) = some (.ex c, S) := by rw [callF_clo ho, h, outV_some]
/-! ### the bad values -/
def badR : List D := [.non, .tup [], .tup [.int 2, .int 2, .str "edge", .int 1], .tup [.int 0, .int 2, .str "edge", .int 1, .int 1], .tup [.int 2, .int 7, .str "edge", .int 1, .int 1], .tup [.int 2, .int 2, .str "Edge", .int 1, .int 1],
  .tup [.int 2, .int 2, .str "edge", .int 4, .int 1], .tup [.int 2, .int 2, .str "edge", .int 1, .int 0], .tup [.bl true, .int 2, .str "edge", .int 1, .int 1], .lst [.int 2, .int 2, .str "edge", .int 1, .int 1],
  .tup [.int 2, .int 2, .str "edge", .int 1, .int 1, .int 1], .tup [.int 2, .int 2, .tup [.str "edge"], .int 1, .int 1], .str "edge", .tup [.int 2, .int 2, .str "edge", .int 1, .bl true]]
theorem e_bad_rules : defs 33 = some d__law_bad_rules := rfl
theorem o_badR : (callN defs (n + 1)).out 33 [] = some (.fr (.lst badR)) := by
  rw [out_at e_bad_rules]
  simp [d__law_bad_rules, PySem.sizeLine_eq]
  rw [bin_catL (by simp [PySem.sizeLine_eq])]
  simp
  rw [bin_catL (by simp [PySem.sizeLine_eq])]
  simp [badR]
theorem badR_all : ∀ o ∈ badR, D.flatL [o] = true ∧ dat1 o = true ∧ ruleB o = false := by
  intro o ho
  have h := List.all_eq_true.mp (show (badR.all fun o => D.flatL [o] && (dat1 o && !ruleB o)) = true by decide +kernel) o ho
  simpa using h
end G

set_option Elab.async false
set_option linter.all false
set_option maxRecDepth 100000
set_option maxHeartbeats 4000000
set_option autoImplicit false
/-! PT: texts cut at blanks, put together again. -/
namespace G
open PySem MX TL
/-- cut at each s -/
def cutAt (s : Nat) : List Nat → List Nat → List (List Nat)
  | acc, [] => [acc]
  | acc, c :: r => if c = s then acc :: cutAt s [] r else cutAt s (acc ++ [c]) r
theorem pre1 {s c : Nat} {r : List Nat} : pre [s] (c :: r) = decide (c = s) := by
  unfold pre
  by_cases h : c = s <;> simp [h]
theorem spl_cut (s : Nat) : ∀ (l acc : List Nat), spl [s] 0 acc l = cutAt s acc l
  | [], acc => spl_nil _ _ _
  | c :: r, acc => by
    by_cases h : c = s
    · rw [spl_hit (by rw [pre1, decide_eq_true h])]
      unfold cutAt
      rw [if_pos h]
      show acc :: spl [s] 0 [] r = _
      rw [spl_cut s r []]
    · rw [spl_miss (by rw [pre1, decide_eq_false h])]
      conv => rhs; unfold cutAt
      rw [if_neg h, spl_cut s r (acc ++ [c])]
theorem cut_ne (s : Nat) : ∀ (l acc : List Nat), cutAt s acc l ≠ []
  | [], acc => by unfold cutAt; simp
  | c :: r, acc => by
    unfold cutAt
    split
    · simp
    · exact cut_ne s r _
theorem joinL_cons {S p : List Nat} {r : List (List Nat)} (h : r ≠ []) : joinL S (p :: r) = p ++ (S ++ joinL S r) := by
  cases r with
  | nil => exact absurd rfl h
  | cons q r => rfl
theorem join_cut (s : Nat) : ∀ (l acc : List Nat), joinL [s] (cutAt s acc l) = acc ++ l
  | [], acc => by unfold cutAt; simp [joinL]
  | c :: r, acc => by
    unfold cutAt
    split
    · rename_i h
      rw [joinL_cons (cut_ne s r []), join_cut s r [], h]
      simp
    · rw [join_cut s r]
      simp
theorem cut_mem (s : Nat) : ∀ (l acc : List Nat), ∀ p ∈ cutAt s acc l, ∀ c ∈ p, c ∈ acc ∨ c ∈ l
  | [], acc, p, hp, c, hc => by
    unfold cutAt at hp
    rw [List.mem_singleton.mp hp] at hc
    exact .inl hc
  | d :: r, acc, p, hp, c, hc => by
    unfold cutAt at hp
    split at hp
    · rcases List.mem_cons.mp hp with hp | hp
      · rw [hp] at hc; exact .inl hc
      · rcases cut_mem s r [] p hp c hc with h | h
        · cases h
        · exact .inr (List.mem_cons_of_mem _ h)
    · rcases cut_mem s r _ p hp c hc with h | h
      · rcases List.mem_append.mp h with h | h
        · exact .inl h
        · rw [List.mem_singleton.mp h]; exact .inr List.mem_cons_self
      · exact .inr (List.mem_cons_of_mem _ h)
theorem cut_sum (s : Nat) : ∀ (l acc : List Nat), ((cutAt s acc l).map (·.length)).sum + (cutAt s acc l).length = acc.length + l.length + 1
  | [], acc => by unfold cutAt; simp
  | c :: r, acc => by
    unfold cutAt
    split
    · have := cut_sum s r []
      simp only [List.map_cons, List.sum_cons, List.length_cons, List.length_nil] at this ⊢
      omega
    · have := cut_sum s r (acc ++ [c])
      simp only [List.length_append, List.length_cons, List.length_nil] at this ⊢
      omega
/-! ### texts -/
theorem tl_sp : tl (" " : Str) = [32] := by decide +kernel
theorem sp_ok : (" " : Str).cps.all (· < 256) = true := by decide +kernel
def words (x : Str) : List Str := Txt.split x " "
theorem words_tl (x : Str) : (words x).map tl = cutAt 32 [] (tl x) := by
  unfold words
  rw [split_spl x " " (by rw [tl_sp]; simp) (kind_ok sp_ok), tl_sp, spl_cut]
theorem words_ne (x : Str) : words x ≠ [] := fun h => cut_ne 32 (tl x) [] (by rw [← words_tl, h]; rfl)
theorem join_words (x : Str) : Txt.join " " (words x) = x := by
  refine ext_tl ?_
  rw [join_eq, tl_join, words_tl, tl_sp, join_cut]
  rfl
theorem words_join {ws : List Str} (hn : ws ≠ []) (h : ∀ p ∈ ws, 32 ∉ tl p) : words (Txt.join " " ws) = ws := split_join (S := []) tl_sp sp_ok hn h
def lens (ws : List Str) : Nat := (ws.map (·.length)).sum
theorem words_len (x : Str) : lens (words x) + (words x).length = x.length + 1 := by
  have h := cut_sum 32 (tl x) []
  rw [← words_tl, List.map_map, List.length_map] at h
  have e : (words x).map ((·.length) ∘ tl) = (words x).map (·.length) := List.map_congr_left fun y _ => (len_tl y).symm
  rw [e, List.length_nil, ← len_tl] at h
  unfold lens
  omega
/-- signs that a text may have -/
def Ok (x : Str) : Prop := ∀ c ∈ tl x, c < 0x110000
theorem ok_str {x : Str} (h : Ok x) : PyData.strOk x = true := by
  unfold PyData.strOk
  rw [← Array.all_toList, List.all_eq_true]
  intro c hc
  exact decide_eq_true (h c hc)
theorem ok_of {x : Str} (h : PyData.strOk x = true) : Ok x := by
  unfold PyData.strOk at h
  rw [← Array.all_toList, List.all_eq_true] at h
  intro c hc
  exact of_decide_eq_true (h c hc)
theorem ok_app {x y : Str} (hx : Ok x) (hy : Ok y) : Ok (x ++ y) := fun c hc => by
  rw [tl_append] at hc
  rcases List.mem_append.mp hc with hc | hc
  · exact hx c hc
  · exact hy c hc
theorem ok_words {x : Str} (h : Ok x) : ∀ w ∈ words x, Ok w := fun w hw c hc => by
  have m : tl w ∈ (words x).map tl := List.mem_map.mpr ⟨w, hw, rfl⟩
  rw [words_tl] at m
  rcases cut_mem 32 (tl x) [] _ m c hc with z | z
  · cases z
  · exact h c z
theorem joinL_mem : ∀ (ps : List (List Nat)), ∀ c ∈ joinL [32] ps, c = 32 ∨ ∃ p ∈ ps, c ∈ p
  | [], c, h => by cases h
  | [p], c, h => .inr ⟨p, List.mem_singleton.mpr rfl, h⟩
  | p :: q :: r, c, h => by
    rw [joinL_cons (by simp)] at h
    rcases List.mem_append.mp h with h | h
    · exact .inr ⟨p, List.mem_cons_self, h⟩
    · rcases List.mem_append.mp h with h | h
      · exact .inl (List.mem_singleton.mp h)
      · rcases joinL_mem (q :: r) c h with z | ⟨u, hu, z⟩
        · exact .inl z
        · exact .inr ⟨u, List.mem_cons_of_mem _ hu, z⟩
theorem ok_join {ws : List Str} (h : ∀ w ∈ ws, Ok w) : Ok (Txt.join " " ws) := fun c hc => by
  rw [join_eq, tl_join, tl_sp] at hc
  rcases joinL_mem _ c hc with z | ⟨p, hp, z⟩
  · omega
  · obtain ⟨w, hw, rfl⟩ := List.mem_map.mp hp
    exact h w hw c z
theorem joinL_len : ∀ (ps : List (List Nat)), (joinL [32] ps).length ≤ (ps.map (·.length)).sum + ps.length
  | [] => by simp [joinL]
  | [p] => by simp [joinL]
  | p :: q :: r => by
    have := joinL_len (q :: r)
    rw [joinL_cons (by simp)]
    simp only [List.length_append, List.map_cons, List.sum_cons, List.length_cons, List.length_nil] at this ⊢
    omega
theorem join_len (ws : List Str) : (Txt.join " " ws).length ≤ lens ws + ws.length := by
  rw [len_tl, join_eq, tl_join, tl_sp]
  have h := joinL_len (ws.map tl)
  rw [List.map_map, List.length_map] at h
  have e : ws.map ((·.length) ∘ tl) = ws.map (·.length) := List.map_congr_left fun y _ => (len_tl y).symm
  rw [e] at h
  exact h
theorem app_len (x y : Str) : (x ++ y).length = x.length + y.length := by rw [len_tl, tl_append, List.length_append, ← len_tl, ← len_tl]
theorem tl_cutS (z : Str) (lo hi : Option Int) : tl (L2.cutS z lo hi) = ((tl z).drop (HT.sIx z.length 0 lo)).take (HT.sIx z.length z.length hi - HT.sIx z.length 0 lo) := rfl
theorem ok_cut {x : Str} (h : Ok x) (lo hi : Option Int) : Ok (L2.cutS x lo hi) := fun c hc => h c (List.mem_of_mem_drop (List.mem_of_mem_take (tl_cutS x lo hi ▸ hc)))
theorem cutS_le (x : Str) (lo hi : Option Int) : (L2.cutS x lo hi).length ≤ x.length := L2.cutS_length x lo hi
/-- the first sign and the rest -/
theorem head_tail (x : Str) : L2.cutS x none (some 1) ++ L2.cutS x (some 1) none = x := by
  refine ext_tl ?_
  rw [tl_append, tl_cutS, tl_cutS]
  have e1 : HT.sIx x.length 0 none = 0 := rfl
  have e2 : HT.sIx x.length x.length none = x.length := rfl
  have e3 : ∀ d, HT.sIx x.length d (some 1) = min 1 x.length := fun d => HT.sIx_nat x.length d 1
  rw [e1, e2, e3, e3, List.drop_zero, Nat.sub_zero]
  have hl := len_tl x
  cases q : tl x with
  | nil => simp
  | cons c r =>
    rw [q] at hl
    have : min 1 x.length = 1 := by rw [hl]; simp
    rw [this]
    simp only [List.take_succ_cons, List.take_zero, List.drop_succ_cons, List.drop_zero, List.cons_append, List.nil_append]
    rw [List.take_of_length_le]
    rw [hl]; simp
/-! ### rows of texts cut -/
def cutW (ys : List Str) (lo hi : Option Int) : List Str := (ys.drop (HT.sIx ys.length 0 lo)).take (HT.sIx ys.length ys.length hi - HT.sIx ys.length 0 lo)
theorem cutD_strs (ys : List Str) (lo hi : Option Int) : cutD (ys.map D.str) lo hi = (cutW ys lo hi).map D.str := by
  unfold cutD cutW
  rw [List.length_map, ← List.map_drop, ← List.map_take]
theorem lens_drop (k : Nat) : ∀ ys : List Str, lens (ys.drop k) ≤ lens ys := by
  induction k with
  | zero => intro ys; exact Nat.le_refl _
  | succ k ih =>
    intro ys
    cases ys with
    | nil => exact Nat.le_refl _
    | cons y ys =>
      rw [List.drop_succ_cons]
      have := ih ys
      unfold lens at this ⊢
      rw [List.map_cons, List.sum_cons]
      omega
theorem lens_take (k : Nat) : ∀ ys : List Str, lens (ys.take k) ≤ lens ys := by
  induction k with
  | zero => intro ys; unfold lens; simp
  | succ k ih =>
    intro ys
    cases ys with
    | nil => exact Nat.le_refl _
    | cons y ys =>
      rw [List.take_succ_cons]
      have := ih ys
      unfold lens at this ⊢
      rw [List.map_cons, List.sum_cons, List.map_cons, List.sum_cons]
      omega
theorem cutW_lens (ys : List Str) (lo hi : Option Int) : lens (cutW ys lo hi) ≤ lens ys := Nat.le_trans (lens_take _ _) (lens_drop _ _)
theorem cutW_len (ys : List Str) (lo hi : Option Int) : (cutW ys lo hi).length ≤ ys.length := by
  unfold cutW
  rw [List.length_take, List.length_drop]
  omega
theorem cutW_mem {ys : List Str} {lo hi : Option Int} {y : Str} (h : y ∈ cutW ys lo hi) : y ∈ ys := List.mem_of_mem_drop (List.mem_of_mem_take h)
theorem lens_app (a b : List Str) : lens (a ++ b) = lens a + lens b := by
  unfold lens
  rw [List.map_append, List.sum_append]
theorem lens_rev (a : List Str) : lens a.reverse = lens a := by
  induction a with
  | nil => rfl
  | cons x a ih =>
    rw [List.reverse_cons, lens_app, ih]
    unfold lens
    simp
    omega
theorem strs_map : ∀ ys : List Str, strsD (ys.map D.str) = some ys
  | [] => rfl
  | y :: ys => by simp only [List.map_cons, strsD, strs_map ys]; rfl
theorem join_D (ys : List Str) (h : lens ys + ys.length ≤ 16777216) : joinD (.str " ") (.lst (ys.map D.str)) = some (.v (.str (Txt.join " " ys))) := by
  show ((some (ys.map D.str)).bind strsD).bind (joinS " ") = _
  rw [Option.bind_some, strs_map, Option.bind_some]
  unfold joinS
  rw [if_pos]
  have e : (" " : Str).length = 1 := by decide +kernel
  rw [e, Nat.mul_one]
  exact h
theorem split_D {x : Str} (h : x.length ≤ 1000000) : splitD (.str x) (.str " ") = some (.fr (.lst ((words x).map D.str))) := by
  rw [splitD_str, if_pos]
  · rfl
  · refine ⟨by decide +kernel, ?_⟩
    rw [PySem.sizeLine_eq]
    omega
theorem slc_str {z : Str} {lo hi : Option Int} (h : z.length ≤ 1000000) : slcO (.str z) lo hi = some (.v (.str (L2.cutS z lo hi))) := if_pos (by rw [PySem.sizeLine_eq]; omega)
theorem slc_lst {xs : List D} {lo hi : Option Int} : slcO (.lst xs) lo hi = some (.fr (.lst (cutD xs lo hi))) := rfl
theorem rev_lst {xs : List D} : revD (.lst xs) = some (.fr (.lst xs.reverse)) := rfl
theorem add_str {x y : Str} (h : x.length + y.length ≤ 1000000) : binD .Add (.str x) (.str y) = some (.v (.str (x ++ y))) := if_pos (by rw [PySem.sizeLine_eq]; omega)
theorem len_str {x : Str} (h : x.length ≤ 1000000) : b1D .len (.str x) = some (.v (.int x.length)) := if_pos (by rw [PySem.sizeLine_eq]; omega)
/-! ### == of a value with itself -/
mutual
theorem eqT_self : ∀ {n : Nat} (x : D), okD n x = true → eqT x x = true
  | _, .non, _ => by unfold eqT; rfl
  | _, .bl b, _ => by unfold eqT; simp
  | _, .int i, _ => by simp
  | _, .str z, _ => by simp
  | 0, .tup xs, h => by unfold okD at h; cases h
  | n + 1, .tup xs, h => by rw [okD_tup] at h; rw [eqT_tup]; exact eqTL_self xs h
  | 0, .lst xs, h => by unfold okD at h; cases h
  | n + 1, .lst xs, h => by rw [okD_lst] at h; rw [eqT_lst]; exact eqTL_self xs h
  | _, .scr _, h => by unfold okD at h; cases h
  | _, .fn _ _, h => by unfold okD at h; cases h
  | _, .clo _ _, h => by unfold okD at h; cases h
  | _, .adr _, h => by unfold okD at h; cases h
theorem eqTL_self : ∀ {n : Nat} (xs : List D), okL n xs = true → eqTL xs xs = true
  | _, [], _ => by simp
  | n, x :: xs, h => by
    rw [okL_cons, Bool.and_eq_true] at h
    rw [eqTL_cc, eqT_self x h.1, eqTL_self xs h.2]
    rfl
end
theorem eqD_self {x : D} (h : okD 64 x = true) : eqD x x = some true := by rw [eqD_ok h h, eqT_self x h]
/-- range of a number -/
theorem rng1_lit {m : Int} (h0 : 0 ≤ m) (h : m < 100000) : itD .rng1 [.int m] = some ((List.range m.toNat).map fun i : Nat => D.int (0 + (i : Int))) := by
  have s1 : smallB m := ⟨by omega, by omega⟩
  unfold itD
  simp only [s1, if_true, rngD]
  congr 3
  omega
end G

set_option Elab.async false
set_option linter.all false
set_option maxRecDepth 100000
set_option maxHeartbeats 4000000
set_option autoImplicit false
/-! PQ: texts of rules, read by the program and by the law. -/
namespace G
open PySem MX TL
variable {n : Nat}
/-- a figure as text -/
def fg (i : Int) : Str := ((toString i : String) : Str)
def figS (w : Str) : Int := if w = "1" then 1 else if w = "2" then 2 else if w = "3" then 3 else if w = "4" then 4 else if w = "5" then 5 else if w = "6" then 6 else 0
theorem fig_lo (w : Str) : 0 ≤ figS w ∧ figS w ≤ 6 := by
  unfold figS
  repeat' split
  all_goals decide
theorem fig_fg {w : Str} (h : figS w ≠ 0) : fg (figS w) = w := by
  unfold figS at h ⊢
  repeat' split
  · rename_i e; rw [e]; rfl
  · rename_i e; rw [e]; rfl
  · rename_i e; rw [e]; rfl
  · rename_i e; rw [e]; rfl
  · rename_i e; rw [e]; rfl
  · rename_i e; rw [e]; rfl
  · rename_i a b c d e f
    rw [if_neg a, if_neg b, if_neg c, if_neg d, if_neg e, if_neg f] at h
    exact absurd rfl h
theorem six (i : Int) (h : 1 ≤ i ∧ i ≤ 6) : i = 1 ∨ i = 2 ∨ i = 3 ∨ i = 4 ∨ i = 5 ∨ i = 6 := by omega
theorem fg_facts {i : Int} (h : 1 ≤ i ∧ i ≤ 6) : figS (fg i) = i ∧ L2.cutS ("-" ++ fg i) none (some 1) = "-" ∧ L2.cutS ("-" ++ fg i) (some 1) none = fg i ∧ 32 ∉ tl (fg i) ∧ 32 ∉ tl ("-" ++ fg i) ∧ 32 ∉ tl (fg i ++ "\n") ∧ figS (fg i ++ "\n") = 0 ∧ (fg i).length = 1 ∧ PyData.strOk (fg i) = true ∧ PyData.strOk ("-" ++ fg i) = true ∧ fmtD (.int i) = some (fg i) ∧ b1D .str1 (.int i) = some (.v (.str (fg i))) := by
  rcases six i h with rfl | rfl | rfl | rfl | rfl | rfl <;> refine ⟨by decide +kernel, by decide +kernel, by decide +kernel, by decide +kernel, by decide +kernel, by decide +kernel, by decide +kernel, by decide +kernel, by decide +kernel, by decide +kernel, rfl, rfl⟩
theorem e_figure : defs 45 = some d_figure_in := rfl
theorem in_figs (w : Str) : cmpD .In (.str w) (.tup [.str "1", .str "2", .str "3", .str "4", .str "5", .str "6"]) = some (decide (figS w ≠ 0)) := by
  have e : cmpD .In (.str w) (.tup [.str "1", .str "2", .str "3", .str "4", .str "5", .str "6"]) = some (("1" == w) || (("2" == w) || (("3" == w) || (("4" == w) || (("5" == w) || (("6" == w) || false)))))) := rfl
  rw [e]
  unfold figS
  congr 1
  have sw : ∀ a : Str, (a == w) = decide (w = a) := fun a => by
    by_cases h : w = a
    · subst h; simp
    · rw [decide_eq_false h]
      exact beq_eq_false_iff_ne.mpr fun z => h z.symm
  simp only [sw]
  by_cases h1 : w = "1"
  · subst h1; decide +kernel
  by_cases h2 : w = "2"
  · subst h2; decide +kernel
  by_cases h3 : w = "3"
  · subst h3; decide +kernel
  by_cases h4 : w = "4"
  · subst h4; decide +kernel
  by_cases h5 : w = "5"
  · subst h5; decide +kernel
  by_cases h6 : w = "6"
  · subst h6; decide +kernel
  simp [h1, h2, h3, h4, h5, h6]
theorem int_fig {w : Str} (h : figS w ≠ 0) : b1D .int1 (.str w) = some (.v (.int (figS w))) := by
  have e := fig_fg h
  have b := fig_lo w
  have z : ∀ i : Int, 1 ≤ i ∧ i ≤ 6 → b1D .int1 (.str (fg i)) = some (.v (.int i)) := fun i hi => by
    have t : ∀ (w : Str) (i : Int), w.length ≤ 640 → PySem.intText? w = some i → b1D .int1 (.str w) = some (.v (.int i)) := fun w i h1 h2 => by
      show (if w.length ≤ 640 then (PySem.intText? w).map fun n => R.v (.int n) else none) = _
      rw [if_pos h1, h2]
      rfl
    rcases six i hi with rfl | rfl | rfl | rfl | rfl | rfl <;> exact t _ _ (by decide +kernel) (by decide +kernel)
  have := z (figS w) ⟨by omega, b.2⟩
  rw [e] at this
  exact this
theorem o_figure (w : Str) : (callN defs (n + 1)).out 45 [.val (.str w)] = some (.v (.int (figS w))) := by
  have k := in_figs w
  rw [out_at e_figure]
  by_cases h : figS w = 0
  · rw [decide_eq_false (by simpa using h)] at k
    simp [d_figure_in, PySem.sizeLine_eq, k, h]
  · rw [decide_eq_true h] at k
    have i := int_fig h
    simp [d_figure_in, PySem.sizeLine_eq, k, i]
/-! ### texts of rules -/
def wordsR (r : Ru) : List Str := ["from", "-" ++ fg r.lo, "to", fg r.hi, r.way.s, "each", fg r.ev, "by", fg r.pc]
def textR (r : Ru) : Str := Txt.join " " (wordsR r)
theorem way_ok (w : Way) : 32 ∉ tl w.s ∧ PyData.strOk w.s = true ∧ w.s.length ≤ 6 := by
  cases w <;> exact ⟨by decide +kernel, by decide +kernel, by decide +kernel⟩
theorem words_ok {r : Ru} (h : r.Ok) : ∀ w ∈ wordsR r, 32 ∉ tl w ∧ PyData.strOk w = true := by
  have a := fg_facts h.lo
  have b := fg_facts h.hi
  have c := fg_facts (i := r.ev) ⟨h.ev.1, by have := h.ev.2; omega⟩
  have d := fg_facts (i := r.pc) ⟨h.pc.1, by have := h.pc.2; omega⟩
  intro w hw
  simp only [wordsR, List.mem_cons, List.not_mem_nil, or_false] at hw
  rcases hw with rfl | rfl | rfl | rfl | rfl | rfl | rfl | rfl | rfl
  · exact ⟨by decide +kernel, by decide +kernel⟩
  · exact ⟨a.2.2.2.2.1, a.2.2.2.2.2.2.2.2.2.1⟩
  · exact ⟨by decide +kernel, by decide +kernel⟩
  · exact ⟨b.2.2.2.1, b.2.2.2.2.2.2.2.2.1⟩
  · exact ⟨(way_ok _).1, (way_ok _).2.1⟩
  · exact ⟨by decide +kernel, by decide +kernel⟩
  · exact ⟨c.2.2.2.1, c.2.2.2.2.2.2.2.2.1⟩
  · exact ⟨by decide +kernel, by decide +kernel⟩
  · exact ⟨d.2.2.2.1, d.2.2.2.2.2.2.2.2.1⟩
theorem words_textR {r : Ru} (h : r.Ok) : words (textR r) = wordsR r := words_join (by simp [wordsR]) fun p hp => (words_ok h p hp).1
theorem lens_R {r : Ru} (h : r.Ok) : lens (wordsR r) ≤ 31 := by
  have a := (fg_facts h.lo).2.2.2.2.2.2.2.1
  have b := (fg_facts h.hi).2.2.2.2.2.2.2.1
  have c := (fg_facts (i := r.ev) ⟨h.ev.1, by have := h.ev.2; omega⟩).2.2.2.2.2.2.2.1
  have d := (fg_facts (i := r.pc) ⟨h.pc.1, by have := h.pc.2; omega⟩).2.2.2.2.2.2.2.1
  have w := (way_ok r.way).2.2
  have e1 : ("from" : Str).length = 4 := by decide +kernel
  have e2 : ("-" : Str).length = 1 := by decide +kernel
  have e3 : ("to" : Str).length = 2 := by decide +kernel
  have e4 : ("each" : Str).length = 4 := by decide +kernel
  have e5 : ("by" : Str).length = 2 := by decide +kernel
  unfold lens wordsR
  simp only [List.map_cons, List.map_nil, List.sum_cons, List.sum_nil, app_len, e1, e2, e3, e4, e5, a, b, c, d]
  omega
theorem textR_len {r : Ru} (h : r.Ok) : (textR r).length ≤ 40 := by
  have a := join_len (wordsR r)
  have b := lens_R h
  have c : (wordsR r).length = 9 := rfl
  unfold textR
  omega
theorem textR_ok {r : Ru} (h : r.Ok) : Ok (textR r) := ok_join fun w hw => ok_of (words_ok h w hw).2
/-- the f-string's text -/
def fmtR (r : Ru) : Str := ((((((((((Str.empty ++ "from -") ++ fg r.lo) ++ " to ") ++ fg r.hi) ++ " ") ++ r.way.s) ++ " each ") ++ fg r.ev) ++ " by ") ++ fg r.pc)
theorem fmt_text (r : Ru) : fmtR r = textR r := by
  refine ext_tl ?_
  unfold fmtR textR wordsR
  rw [join_eq, tl_join, tl_sp]
  have e0 : tl Str.empty = [] := rfl
  have e1 : tl ("from -" : Str) = tl ("from" : Str) ++ [32] ++ tl ("-" : Str) := by decide +kernel
  have e2 : tl (" to " : Str) = [32] ++ tl ("to" : Str) ++ [32] := by decide +kernel
  have e3 : tl (" each " : Str) = [32] ++ tl ("each" : Str) ++ [32] := by decide +kernel
  have e4 : tl (" by " : Str) = [32] ++ tl ("by" : Str) ++ [32] := by decide +kernel
  simp only [tl_append, e0, e1, e2, e3, e4, tl_sp, List.map_cons, List.map_nil, joinL, List.nil_append, List.append_assoc]
theorem e_as_text : defs 43 = some d_as_text := rfl
theorem fmtK_app {acc y : Str} {d : D} {k : Str → Option (R × SS)} (h : fmtD d = some y) (hl : (acc ++ y).length ≤ 1000) : fmtK acc d k = k (acc ++ y) := by
  unfold fmtK
  rw [h]
  dsimp only
  rw [if_pos (by rw [PySem.sizeLine_eq]; omega)]
theorem o_as_text {r : Ru} (h : r.Ok) : (callN defs (n + 1)).out 43 [.val r.d] = some (.v (.str (textR r))) := by
  have a := fg_facts h.lo
  have b := fg_facts h.hi
  have c := fg_facts (i := r.ev) ⟨h.ev.1, by have := h.ev.2; omega⟩
  have d := fg_facts (i := r.pc) ⟨h.pc.1, by have := h.pc.2; omega⟩
  have w := (way_ok r.way).2.2
  have l0 : Str.empty.length = 0 := rfl
  have l1 : ("from -" : Str).length = 6 := by decide +kernel
  have l2 : (" to " : Str).length = 4 := by decide +kernel
  have l3 : (" " : Str).length = 1 := by decide +kernel
  have l4 : (" each " : Str).length = 6 := by decide +kernel
  have l5 : (" by " : Str).length = 4 := by decide +kernel
  have la := a.2.2.2.2.2.2.2.1
  have lb := b.2.2.2.2.2.2.2.1
  have lc := c.2.2.2.2.2.2.2.1
  have ld := d.2.2.2.2.2.2.2.1
  have fa := a.2.2.2.2.2.2.2.2.2.2.1
  have fb := b.2.2.2.2.2.2.2.2.2.2.1
  have fc := c.2.2.2.2.2.2.2.2.2.2.1
  have fd := d.2.2.2.2.2.2.2.2.2.2.1
  have fs : ∀ x : Str, x.length ≤ 100 → fmtD (.str x) = some x := fun x hx => if_pos (by rw [PySem.sizeLine_eq]; omega)
  rw [← fmt_text]
  refine out_body e_as_text rfl (S' := [.val r.d]) ?_
  have key : ev (callN defs n) (.fstr [.cst (.str "from -"), .ix (.var 0) (.cst (.int 0)), .cst (.str " to "), .ix (.var 0) (.cst (.int 1)), .cst (.str " "), .ix (.var 0) (.cst (.int 2)), .cst (.str " each "), .ix (.var 0) (.cst (.int 3)), .cst (.str " by "), .ix (.var 0) (.cst (.int 4))]) [.val r.d] = some (.v (.str (fmtR r)), [.val r.d]) := by
    have i0 : ev (callN defs n) (.ix (.var 0) (.cst (.int 0))) [.val r.d] = some (.v (.int r.lo), [.val r.d]) := by simp [Ru.d, L2.ixN]
    have i1 : ev (callN defs n) (.ix (.var 0) (.cst (.int 1))) [.val r.d] = some (.v (.int r.hi), [.val r.d]) := by simp [Ru.d, L2.ixN]
    have i2 : ev (callN defs n) (.ix (.var 0) (.cst (.int 2))) [.val r.d] = some (.v (.str r.way.s), [.val r.d]) := by simp [Ru.d, L2.ixN]
    have i3 : ev (callN defs n) (.ix (.var 0) (.cst (.int 3))) [.val r.d] = some (.v (.int r.ev), [.val r.d]) := by simp [Ru.d, L2.ixN]
    have i4 : ev (callN defs n) (.ix (.var 0) (.cst (.int 4))) [.val r.d] = some (.v (.int r.pc), [.val r.d]) := by simp [Ru.d, L2.ixN]
    rw [ev_fstr, evJ_cons, ev_cst, bnd_v, fmtK_app (fs _ (by omega)) (by simp only [app_len]; omega), evJ_cons, i0, bnd_v, fmtK_app fa (by simp only [app_len]; omega), evJ_cons, ev_cst, bnd_v, fmtK_app (fs _ (by omega)) (by simp only [app_len]; omega), evJ_cons, i1, bnd_v, fmtK_app fb (by simp only [app_len]; omega), evJ_cons, ev_cst, bnd_v, fmtK_app (fs _ (by omega)) (by simp only [app_len]; omega),
      evJ_cons, i2, bnd_v, fmtK_app (fs _ (by omega)) (by simp only [app_len]; omega), evJ_cons, ev_cst, bnd_v, fmtK_app (fs _ (by omega)) (by simp only [app_len]; omega), evJ_cons, i3, bnd_v, fmtK_app fc (by simp only [app_len]; omega), evJ_cons, ev_cst, bnd_v, fmtK_app (fs _ (by omega)) (by simp only [app_len]; omega), evJ_cons, i4, bnd_v, fmtK_app fd (by simp only [app_len]; omega), evJ_nil]
    rfl
  show exs (callN defs n) [.ret (.fstr _)] [.val r.d] = _
  rw [exs_cons, ex_ret, retV_eq, vr_fstr]
  dsimp only
  rw [key]
  rfl
theorem e_rule_text : defs 44 = some d_rule_text := rfl
theorem o_rule_text {r : Ru} (h : r.Ok) : (callN defs (n + 4)).out 44 [.val r.d] = some (.v (.str (textR r))) := by
  have io4 : (callN defs (n + 3)).io 4 = false := io_at e_need_rule
  have io43 : (callN defs (n + 3)).io 43 = false := io_at e_as_text
  have g4 := o_need_rule (n := n) h
  have g := o_as_text (n := n + 2) h
  rw [out_at e_rule_text]
  simp [d_rule_text, io4, io43, g4, g]
theorem o_bad_rule_text {v : D} (h : dat1 v = true) (q : ruleB v = false) : (callN defs (n + 4)).out 44 [.val v] = some (.ex 1) := by
  have io4 : (callN defs (n + 3)).io 4 = false := io_at e_need_rule
  have w := g_need_rule (n := n) h q
  rw [out_at e_rule_text]
  simp [d_rule_text, io4, w]
/-! ### what the words say -/
def wayO (w : Str) : Option Way := if w = "edge" then some .edge else if w = "half" then some .half else if w = "middle" then some .middle else none
theorem wayO_s {w : Str} {y : Way} (h : wayO w = some y) : y.s = w := by
  unfold wayO at h
  split at h
  · rename_i e; cases h; rw [e]; rfl
  · split at h
    · rename_i e; cases h; rw [e]; rfl
    · split at h
      · rename_i e; cases h; rw [e]; rfl
      · cases h
theorem s_wayO (y : Way) : wayO y.s = some y := by cases y <;> decide +kernel
theorem wayB_O (w : Str) : wayB (.str w) = (wayO w).isSome := by
  have e : wayB (.str w) = (("edge" == w) || (("half" == w) || (("middle" == w) || false))) := rfl
  rw [e]
  have sw : ∀ a : Str, (a == w) = decide (w = a) := fun a => by
    by_cases h : w = a
    · subst h; simp
    · rw [decide_eq_false h]
      exact beq_eq_false_iff_ne.mpr fun z => h z.symm
  simp only [sw]
  unfold wayO
  by_cases h1 : w = "edge"
  · subst h1; decide +kernel
  by_cases h2 : w = "half"
  · subst h2; decide +kernel
  by_cases h3 : w = "middle"
  · subst h3; decide +kernel
  simp [h1, h2, h3]
def okF (w1 w3 w6 w8 : Str) : Bool := decide (L2.cutS w1 none (some 1) = "-") && (decide (figS (L2.cutS w1 (some 1) none) ≠ 0) && (decide (figS w3 ≠ 0) && (decide (figS w6 ≠ 0 ∧ figS w6 ≤ 3) && decide (figS w8 ≠ 0 ∧ figS w8 ≤ 3))))
def frame (w0 w2 w5 w7 : Str) : Bool := decide (w0 = "from") && (decide (w2 = "to") && (decide (w5 = "each") && decide (w7 = "by")))
def ruW (w1 w3 w6 w8 : Str) (y : Way) : Ru := ⟨figS (L2.cutS w1 (some 1) none), figS w3, y, figS w6, figS w8⟩
def readW : List Str → Option Ru
  | [w0, w1, w2, w3, w4, w5, w6, w7, w8] => match wayO w4 with
    | some y => if frame w0 w2 w5 w7 = true ∧ okF w1 w3 w6 w8 = true then some (ruW w1 w3 w6 w8 y) else none
    | none => none
  | _ => none
theorem readW_nine {W : List Str} (h : ¬ W.length = 9) : readW W = none := by
  unfold readW
  split
  · exact absurd rfl h
  · rfl
theorem nine {W : List Str} (h : W.length = 9) : ∃ w0 w1 w2 w3 w4 w5 w6 w7 w8, W = [w0, w1, w2, w3, w4, w5, w6, w7, w8] := by
  match W, h with
  | [w0, w1, w2, w3, w4, w5, w6, w7, w8], _ => exact ⟨w0, w1, w2, w3, w4, w5, w6, w7, w8, rfl⟩
theorem readW_R {r : Ru} (h : r.Ok) : readW (wordsR r) = some r := by
  have a := fg_facts h.lo
  have b := fg_facts h.hi
  have c := fg_facts (i := r.ev) ⟨h.ev.1, by have := h.ev.2; omega⟩
  have d := fg_facts (i := r.pc) ⟨h.pc.1, by have := h.pc.2; omega⟩
  have e1 := h.lo
  have e2 := h.hi
  have e3 := h.ev
  have e4 := h.pc
  unfold wordsR readW
  simp only [s_wayO]
  have k : okF ("-" ++ fg r.lo) (fg r.hi) (fg r.ev) (fg r.pc) = true := by
    unfold okF
    rw [a.2.1, a.2.2.1, a.1, b.1, c.1, d.1]
    simp only [Bool.and_eq_true, decide_eq_true_eq]
    exact ⟨trivial, by omega, by omega, by omega, by omega⟩
  have f : frame "from" "to" "each" "by" = true := by decide +kernel
  rw [if_pos ⟨f, k⟩]
  unfold ruW
  rw [a.2.2.1, a.1, b.1, c.1, d.1]
theorem ruW_ok {w1 w3 w6 w8 : Str} {y : Way} (h : okF w1 w3 w6 w8 = true) : (ruW w1 w3 w6 w8 y).Ok := by
  unfold okF at h
  simp only [Bool.and_eq_true, decide_eq_true_eq] at h
  obtain ⟨h1, h2, h3, ⟨h4, h5⟩, h6, h7⟩ := h
  have a := fig_lo (L2.cutS w1 (some 1) none)
  have b := fig_lo w3
  have c := fig_lo w6
  have d := fig_lo w8
  exact ⟨by unfold ruW; dsimp only; omega, by unfold ruW; dsimp only; omega, by unfold ruW; dsimp only; omega, by unfold ruW; dsimp only; omega⟩
theorem readW_ok {W : List Str} {r : Ru} (h : readW W = some r) : r.Ok := by
  unfold readW at h
  split at h
  · split at h
    · split at h
      · rename_i q
        cases h
        exact ruW_ok q.2
      · cases h
    · cases h
  · cases h
end G

set_option Elab.async false
set_option linter.all false
set_option maxRecDepth 100000
set_option maxHeartbeats 4000000
set_option autoImplicit false
/-! PQ2: a text read by the program, by the law. -/
namespace G
open PySem MX TL
variable {n : Nat}
theorem lens_mem {ys : List Str} {w : Str} (h : w ∈ ys) : w.length ≤ lens ys := by
  induction ys with
  | nil => cases h
  | cons y ys ih =>
    unfold lens at ih ⊢
    rw [List.map_cons, List.sum_cons]
    rcases List.mem_cons.mp h with rfl | h
    · omega
    · have := ih h; omega
theorem word_le {x w : Str} (h : w ∈ words x) : w.length ≤ x.length := by
  have a := lens_mem h
  have b := words_len x
  have c : (words x).length ≠ 0 := fun z => words_ne x (List.eq_nil_of_length_eq_zero z)
  omega
theorem fig_b (w : Str) : (decide ((1 : Int) ≤ figS w) && decide (figS w ≤ 6)) = decide (figS w ≠ 0) := by
  have := fig_lo w
  rw [Bool.eq_iff_iff]
  simp only [Bool.and_eq_true, decide_eq_true_eq]
  omega
theorem fig_c (w : Str) : (decide ((1 : Int) ≤ figS w) && decide (figS w ≤ 3)) = decide (figS w ≠ 0 ∧ figS w ≤ 3) := by
  have := fig_lo w
  rw [Bool.eq_iff_iff]
  simp only [Bool.and_eq_true, decide_eq_true_eq]
  omega
theorem rule_found {w1 w3 w4 w6 w8 : Str} (hp : L2.cutS w1 none (some 1) = "-") : ruleB (.tup [.int (figS (L2.cutS w1 (some 1) none)), .int (figS w3), .str w4, .int (figS w6), .int (figS w8)]) = ((wayO w4).isSome && okF w1 w3 w6 w8) := by
  show (wayB (.str w4) && ((decide ((1 : Int) ≤ _) && decide (_ ≤ (6 : Int))) && ((decide ((1 : Int) ≤ _) && decide (_ ≤ (6 : Int))) && ((decide ((1 : Int) ≤ _) && decide (_ ≤ (3 : Int))) && (decide ((1 : Int) ≤ _) && decide (_ ≤ (3 : Int))))))) = _
  rw [wayB_O, fig_b, fig_b, fig_c, fig_c]
  unfold okF
  rw [decide_eq_true hp, Bool.true_and]
theorem words_ruW {w1 w3 w4 w6 w8 : Str} {y : Way} (hk : okF w1 w3 w6 w8 = true) (hy : wayO w4 = some y) : wordsR (ruW w1 w3 w6 w8 y) = (["from", w1, "to", w3, w4, "each", w6, "by", w8] : List Str) := by
  unfold okF at hk
  simp only [Bool.and_eq_true, decide_eq_true_eq] at hk
  obtain ⟨h1, h2, h3, ⟨h4, h5⟩, h6, h7⟩ := hk
  unfold wordsR ruW
  dsimp only
  rw [fig_fg h2, fig_fg h3, fig_fg h4, fig_fg h6, wayO_s hy]
  have e := head_tail w1
  rw [h1] at e
  rw [e]
theorem text_iff {x w0 w1 w2 w3 w4 w5 w6 w7 w8 : Str} {y : Way} (hW : words x = [w0, w1, w2, w3, w4, w5, w6, w7, w8]) (hk : okF w1 w3 w6 w8 = true) (hy : wayO w4 = some y) : textR (ruW w1 w3 w6 w8 y) = x ↔ frame w0 w2 w5 w7 = true := by
  have e := words_ruW hk hy
  constructor
  · intro h
    have w := words_textR (ruW_ok (y := y) hk)
    rw [h, hW, e] at w
    injection w with a w
    injection w with _ w
    injection w with b w
    injection w with _ w
    injection w with _ w
    injection w with c w
    injection w with _ w
    injection w with d w
    unfold frame
    rw [decide_eq_true a, decide_eq_true b, decide_eq_true c, decide_eq_true d]
    rfl
  · intro h
    unfold frame at h
    simp only [Bool.and_eq_true, decide_eq_true_eq] at h
    obtain ⟨rfl, rfl, rfl, rfl⟩ := h
    unfold textR
    rw [e, ← hW, join_words]
theorem e_rule_in : defs 46 = some d_rule_in := rfl
theorem o_rule_no {v : D} (h : isiD v .str = some false) : (callN defs (n + 1)).out 46 [.val v] = some (.ex 11) := by
  rw [out_at e_rule_in]
  simp [d_rule_in, h]
def ansP (o : Option Ru) : R := match o with
  | some r => .v r.d
  | none => .ex 11
def ansL (o : Option Ru) : D := match o with
  | some r => r.d
  | none => .non
theorem readW_9 {w0 w1 w2 w3 w4 w5 w6 w7 w8 : Str} : readW [w0, w1, w2, w3, w4, w5, w6, w7, w8] = match wayO w4 with
    | some y => if frame w0 w2 w5 w7 = true ∧ okF w1 w3 w6 w8 = true then some (ruW w1 w3 w6 w8 y) else none
    | none => none := rfl
theorem str_ne (a b : Str) : (a == b) = decide (a = b) := by
  by_cases h : a = b
  · subst h; simp
  · rw [decide_eq_false h]
    exact beq_eq_false_iff_ne.mpr h
theorem o_rule_in {x : Str} (hl : x.length ≤ 100000) (hx : Ok x) : (callN defs (n + 3)).out 46 [.val (.str x)] = some (ansP (readW (words x))) := by
  have i45 : (callN defs (n + 2)).io 45 = false := io_at e_figure
  have i2 : (callN defs (n + 2)).io 2 = false := io_at e_fits_rule
  have i43 : (callN defs (n + 2)).io 43 = false := io_at e_as_text
  have fg := fun w => o_figure (n := n + 1) w
  have sp := split_D (x := x) (by omega)
  have S1 : ex (callN defs (n + 2)) (.ifs (.not (.isi (.var 0) .str)) [.raise 11] []) [.val (.str x), .un, .un] = some (.nx, [.val (.str x), .un, .un]) := by simp
  have S2 : ex (callN defs (n + 2)) (.set 1 (.split (.var 0) (.cst (.str " ")))) [.val (.str x), .un, .un] = some (.nx, [.val (.str x), .own 0 (.lst ((words x).map D.str)), .un]) := by simp [sp]
  have go : ∀ {z : R}, lastR (exs (callN defs (n + 2)) (d_rule_in.body.drop 2) [.val (.str x), .own 0 (.lst ((words x).map D.str)), .un]) = some (z, [.val (.str x), .own 0 (.lst ((words x).map D.str)), .un]) ∨ (∃ S', lastR (exs (callN defs (n + 2)) (d_rule_in.body.drop 2) [.val (.str x), .own 0 (.lst ((words x).map D.str)), .un]) = some (z, S')) → (callN defs (n + 3)).out 46 [.val (.str x)] = some z := fun {z} h => by
    obtain ⟨S', h⟩ : ∃ S', lastR (exs (callN defs (n + 2)) (d_rule_in.body.drop 2) [.val (.str x), .own 0 (.lst ((words x).map D.str)), .un]) = some (z, S') := h.elim (fun h => ⟨_, h⟩) id
    rw [out_at e_rule_in, runD_eq, if_pos (show [Sl.val (D.str x)].length = d_rule_in.np from rfl)]
    show Option.map Prod.fst (lastR (exs (callN defs (n + 2)) (_ :: _ :: d_rule_in.body.drop 2) [.val (.str x), .un, .un])) = _
    rw [exs_step S1, exs_step S2, h]
    rfl
  by_cases h9 : (words x).length = 9
  case neg =>
    rw [readW_nine h9]
    have hi : ¬ ((words x).length : Int) = 9 := by omega
    exact go (.inr ⟨_, by simp [d_rule_in, hi, ansP]; rfl⟩)
  case pos =>
  obtain ⟨w0, w1, w2, w3, w4, w5, w6, w7, w8, hW⟩ := nine h9
  have le : ∀ w ∈ words x, w.length ≤ 100000 := fun w hw => Nat.le_trans (word_le hw) hl
  have okw := ok_words hx
  rw [hW] at le okw go
  rw [hW]
  simp only [List.mem_cons, List.not_mem_nil, or_false, forall_eq_or_imp, forall_eq] at le okw
  obtain ⟨l0, l1, l2, l3, l4, l5, l6, l7, l8⟩ := le
  obtain ⟨k0, k1, k2, k3, k4, k5, k6, k7, k8⟩ := okw
  have sl1 := slc_str (z := w1) (lo := none) (hi := some 1) (by omega)
  have sl2 := slc_str (z := w1) (lo := some 1) (hi := none) (by omega)
  have ep : eqD (.str (L2.cutS w1 none (some 1))) (.str "-") = some (decide (L2.cutS w1 none (some 1) = "-")) := by
    rw [eqS (ok_str (ok_cut k1 _ _)) (by decide +kernel), str_ne]
  by_cases hp : L2.cutS w1 none (some 1) = "-"
  case neg =>
    have hk : okF w1 w3 w6 w8 = false := by unfold okF; rw [decide_eq_false hp]; rfl
    have rn : readW [w0, w1, w2, w3, w4, w5, w6, w7, w8] = none := by
      rw [readW_9]
      cases wayO w4 <;> simp [hk]
    rw [rn]
    rw [decide_eq_false hp] at ep
    exact go (.inr ⟨_, by simp [d_rule_in, L2.ixN, sl1, ep, ansP]; rfl⟩)
  case pos =>
  rw [decide_eq_true hp] at ep
  have S3 : ex (callN defs (n + 2)) (.ifs (.or (.cmp .NotEq (.b1 .len (.var 1)) (.cst (.int 9))) (.cmp .NotEq (.slc (.ix (.var 1) (.cst (.int 1))) false (.cst .non) true (.cst (.int 1))) (.cst (.str "-")))) [.raise 11] []) [.val (.str x), .own 0 (.lst ([w0, w1, w2, w3, w4, w5, w6, w7, w8].map D.str)), .un] = some (.nx, [.val (.str x), .own 0 (.lst ([w0, w1, w2, w3, w4, w5, w6, w7, w8].map D.str)), .un]) := by
    simp [L2.ixN, sl1, ep]
  obtain ⟨found, ef⟩ : ∃ f, D.tup [.int (figS (L2.cutS w1 (some 1) none)), .int (figS w3), .str w4, .int (figS w6), .int (figS w8)] = f := ⟨_, rfl⟩
  have S4 : ex (callN defs (n + 2)) (.set 2 (.tup [.call 45 [.slc (.ix (.var 1) (.cst (.int 1))) true (.cst (.int 1)) false (.cst .non)], .call 45 [.ix (.var 1) (.cst (.int 3))], .ix (.var 1) (.cst (.int 4)), .call 45 [.ix (.var 1) (.cst (.int 6))], .call 45 [.ix (.var 1) (.cst (.int 8))]])) [.val (.str x), .own 0 (.lst ([w0, w1, w2, w3, w4, w5, w6, w7, w8].map D.str)), .un] = some (.nx, [.val (.str x), .own 0 (.lst ([w0, w1, w2, w3, w4, w5, w6, w7, w8].map D.str)), .val found]) := by
    rw [← ef]
    simp [L2.ixN, sl2, i45, fg, PySem.sizeLine_eq]
  have d1 : dat1 found = true := by rw [← ef]; rfl
  have ft := g_fits_rule (n := n) d1
  have rf := rule_found (w1 := w1) (w3 := w3) (w4 := w4) (w6 := w6) (w8 := w8) hp
  rw [ef] at rf
  rw [rf] at ft
  cases hy : wayO w4 with
  | none =>
    rw [hy] at ft
    have ft' : (callN defs (n + 2)).out 2 [.val found] = some (.v (.bl false)) := ft
    have rn : readW [w0, w1, w2, w3, w4, w5, w6, w7, w8] = none := by
      rw [readW_9, hy]
    rw [rn]
    refine go (.inr ⟨[.val (.str x), .own 0 (.lst ([w0, w1, w2, w3, w4, w5, w6, w7, w8].map D.str)), .val found], ?_⟩)
    show lastR (exs (callN defs (n + 2)) [_, _, .ifs (.or (.not (.call 2 [.var 2])) (.cmp .NotEq (.call 43 [.var 2]) (.var 0))) [.raise 11] [], _] _) = _
    rw [exs_step S3, exs_step S4]
    simp [i2, ft', ansP]
  | some y =>
    rw [hy] at ft
    cases hk : okF w1 w3 w6 w8 with
    | false =>
      rw [hk] at ft
      have ft' : (callN defs (n + 2)).out 2 [.val found] = some (.v (.bl false)) := ft
      have rn : readW [w0, w1, w2, w3, w4, w5, w6, w7, w8] = none := by
        rw [readW_9, hy]
        simp [hk]
      rw [rn]
      refine go (.inr ⟨[.val (.str x), .own 0 (.lst ([w0, w1, w2, w3, w4, w5, w6, w7, w8].map D.str)), .val found], ?_⟩)
      show lastR (exs (callN defs (n + 2)) [_, _, .ifs (.or (.not (.call 2 [.var 2])) (.cmp .NotEq (.call 43 [.var 2]) (.var 0))) [.raise 11] [], _] _) = _
      rw [exs_step S3, exs_step S4]
      simp [i2, ft', ansP]
    | true =>
      rw [hk] at ft
      have ft' : (callN defs (n + 2)).out 2 [.val found] = some (.v (.bl true)) := ft
      have fd : found = (ruW w1 w3 w6 w8 y).d := by
        rw [← ef]
        unfold ruW Ru.d
        dsimp only
        rw [wayO_s hy]
      have rok := ruW_ok (y := y) hk
      have at_ : (callN defs (n + 2)).out 43 [.val found] = some (.v (.str (textR (ruW w1 w3 w6 w8 y)))) := by rw [fd]; exact o_as_text (n := n + 1) rok
      have eq : eqD (.str (textR (ruW w1 w3 w6 w8 y))) (.str x) = some (decide (frame w0 w2 w5 w7 = true)) := by
        rw [eqS (ok_str (textR_ok rok)) (ok_str hx), str_ne]
        congr 1
        exact decide_eq_decide.mpr (text_iff hW hk hy)
      by_cases hf : frame w0 w2 w5 w7 = true
      · rw [decide_eq_true hf] at eq
        have rn : readW [w0, w1, w2, w3, w4, w5, w6, w7, w8] = some (ruW w1 w3 w6 w8 y) := by
          rw [readW_9, hy]
          exact if_pos ⟨hf, hk⟩
        rw [rn, show ansP (some (ruW w1 w3 w6 w8 y)) = .v found by rw [fd]; rfl]
        refine go (.inr ⟨[.val (.str x), .own 0 (.lst ([w0, w1, w2, w3, w4, w5, w6, w7, w8].map D.str)), .val found], ?_⟩)
        show lastR (exs (callN defs (n + 2)) [_, _, .ifs (.or (.not (.call 2 [.var 2])) (.cmp .NotEq (.call 43 [.var 2]) (.var 0))) [.raise 11] [], .ret (.var 2)] _) = _
        rw [exs_step S3, exs_step S4]
        simp [i2, i43, ft', at_, eq]
      · rw [decide_eq_false hf] at eq
        have rn : readW [w0, w1, w2, w3, w4, w5, w6, w7, w8] = none := by
          rw [readW_9, hy]
          exact if_neg fun z => hf z.1
        rw [rn]
        refine go (.inr ⟨[.val (.str x), .own 0 (.lst ([w0, w1, w2, w3, w4, w5, w6, w7, w8].map D.str)), .val found], ?_⟩)
        show lastR (exs (callN defs (n + 2)) [_, _, .ifs (.or (.not (.call 2 [.var 2])) (.cmp .NotEq (.call 43 [.var 2]) (.var 0))) [.raise 11] [], .ret (.var 2)] _) = _
        rw [exs_step S3, exs_step S4]
        simp [i2, i43, ft', at_, eq, ansP]
theorem e_read_rule : defs 47 = some d_read_rule := rfl
theorem o_read_rule {x : Str} (hl : x.length ≤ 100000) (hx : Ok x) : (callN defs (n + 4)).out 47 [.val (.str x)] = some (ansP (readW (words x))) := by
  have io : (callN defs (n + 3)).io 46 = false := io_at e_rule_in
  have o := o_rule_in (n := n) hl hx
  rw [out_at e_read_rule]
  cases q : readW (words x) <;> rw [q] at o <;> simp [d_read_rule, io, o, ansP]
theorem o_read_no {v : D} (h : isiD v .str = some false) : (callN defs (n + 4)).out 47 [.val v] = some (.ex 11) := by
  have io : (callN defs (n + 3)).io 46 = false := io_at e_rule_in
  have o := o_rule_no (n := n + 2) h
  rw [out_at e_read_rule]
  simp [d_read_rule, io, o]
end G

set_option Elab.async false
set_option linter.all false
set_option maxRecDepth 100000
set_option maxHeartbeats 4000000
set_option autoImplicit false
/-! PQ3: the law's own reader, its text. -/
namespace G
open PySem MX TL
variable {n : Nat}
theorem one_sign {w : Str} (h : w.length = 1) : ∃ c, w = ⟨#[c]⟩ := by
  rw [len_tl] at h
  cases q : tl w with
  | nil => rw [q] at h; cases h
  | cons c r =>
    rw [q] at h
    have : r = [] := List.eq_nil_of_length_eq_zero (by simpa using h)
    subst this
    exact ⟨c, ext_tl (by rw [q])⟩
theorem sign_eq {c d : Nat} : ((⟨#[c]⟩ : Str) = ⟨#[d]⟩) ↔ c = d := ⟨fun h => by
  have := congrArg tl h
  simpa [tl] using this, fun h => by rw [h]⟩
theorem fig_sign (c : Nat) : figS ⟨#[c]⟩ = if c = 49 then 1 else if c = 50 then 2 else if c = 51 then 3 else if c = 52 then 4 else if c = 53 then 5 else if c = 54 then 6 else 0 := by
  have e1 : ("1" : Str) = ⟨#[49]⟩ := by decide +kernel
  have e2 : ("2" : Str) = ⟨#[50]⟩ := by decide +kernel
  have e3 : ("3" : Str) = ⟨#[51]⟩ := by decide +kernel
  have e4 : ("4" : Str) = ⟨#[52]⟩ := by decide +kernel
  have e5 : ("5" : Str) = ⟨#[53]⟩ := by decide +kernel
  have e6 : ("6" : Str) = ⟨#[54]⟩ := by decide +kernel
  unfold figS
  rw [e1, e2, e3, e4, e5, e6]
  simp only [sign_eq]
theorem fig_len {w : Str} (h : figS w ≠ 0) : w.length = 1 := by
  have b := fig_lo w
  have := (fg_facts (i := figS w) ⟨by omega, b.2⟩).2.2.2.2.2.2.2.1
  rwa [fig_fg h] at this
theorem nin_six {w : Str} (h : w.length = 1) : cmpD .NotIn (.str w) (.str "123456") = some (decide (figS w = 0)) := by
  obtain ⟨c, rfl⟩ := one_sign h
  have e : cmpD .NotIn (.str ⟨#[c]⟩) (.str "123456") = some (!(!(Builtin.Str.occurrences "123456" ⟨#[c]⟩ 0 ("123456" : Str).length 1).isEmpty)) := rfl
  rw [e, PySem.StrLaws.found_one, fig_sign]
  have el : ("123456" : Str).cps.toList = [49, 50, 51, 52, 53, 54] := by decide +kernel
  rw [el]
  congr 1
  by_cases h1 : c = 49
  · subst h1; rfl
  by_cases h2 : c = 50
  · subst h2; rfl
  by_cases h3 : c = 51
  · subst h3; rfl
  by_cases h4 : c = 52
  · subst h4; rfl
  by_cases h5 : c = 53
  · subst h5; rfl
  by_cases h6 : c = 54
  · subst h6; rfl
  simp [h1, h2, h3, h4, h5, h6]
theorem nin_three {w : Str} (h : figS w ≠ 0) : cmpD .NotIn (.str w) (.str "123") = some (decide (¬ figS w ≤ 3)) := by
  have hl := fig_len h
  obtain ⟨c, rfl⟩ := one_sign hl
  have e : cmpD .NotIn (.str ⟨#[c]⟩) (.str "123") = some (!(!(Builtin.Str.occurrences "123" ⟨#[c]⟩ 0 ("123" : Str).length 1).isEmpty)) := rfl
  rw [e, PySem.StrLaws.found_one]
  rw [fig_sign] at h ⊢
  have el : ("123" : Str).cps.toList = [49, 50, 51] := by decide +kernel
  rw [el]
  congr 1
  by_cases h1 : c = 49
  · subst h1; rfl
  by_cases h2 : c = 50
  · subst h2; rfl
  by_cases h3 : c = 51
  · subst h3; rfl
  by_cases h4 : c = 52
  · subst h4; rfl
  by_cases h5 : c = 53
  · subst h5; rfl
  by_cases h6 : c = 54
  · subst h6; rfl
  simp [h1, h2, h3, h4, h5, h6] at h
theorem wayO_nin (w : Str) : cmpD .NotIn (.str w) (.lst [.str "edge", .str "half", .str "middle"]) = some (!(wayO w).isSome) := by
  have e : cmpD .NotIn (.str w) (.lst [.str "edge", .str "half", .str "middle"]) = some (!wayB (.str w)) := rfl
  rw [e, wayB_O]
theorem frame_eq {w0 w2 w5 w7 : Str} (k0 : Ok w0) (k2 : Ok w2) (k5 : Ok w5) (k7 : Ok w7) : eqD (.lst [.str w0, .str w2, .str w5, .str w7]) (.lst [.str "from", .str "to", .str "each", .str "by"]) = some (frame w0 w2 w5 w7) := by
  have st : ∀ {w : Str} {m : Nat}, Ok w → okD m (.str w) = true := fun h => by unfold okD; exact ok_str h
  rw [eqD_ok (by rw [okD_lst, okL_cons, okL_cons, okL_cons, okL_cons, st k0, st k2, st k5, st k7, okL_nil]; rfl) (by decide +kernel)]
  rw [eqT_lst, eqTL_cc, eqTL_cc, eqTL_cc, eqTL_cc, eqTL_nil, eqT_str, eqT_str, eqT_str, eqT_str, str_ne, str_ne, str_ne, str_ne, Bool.and_true]
  rfl
theorem e_lread : defs 50 = some d__law_read := rfl
/-- none of the figures is bad -/
theorem no_bad {q w3 w6 w8 : Str} : decide (([q, w3, w6, w8].filter fun w => decide (figS w = 0)) = []) = (decide (figS q ≠ 0) && (decide (figS w3 ≠ 0) && (decide (figS w6 ≠ 0) && decide (figS w8 ≠ 0)))) := by
  rw [Bool.eq_iff_iff, decide_eq_true_eq, List.filter_eq_nil_iff]
  simp
theorem eq_nil4 {q w3 w6 w8 : Str} (kq : Ok q) (k3 : Ok w3) (k6 : Ok w6) (k8 : Ok w8) : eqD (.lst (([q, w3, w6, w8].filter fun w => decide (figS w = 0)).map D.str)) (.lst []) = some (decide (figS q ≠ 0) && (decide (figS w3 ≠ 0) && (decide (figS w6 ≠ 0) && decide (figS w8 ≠ 0)))) := by
  have ok : ∀ y ∈ ([q, w3, w6, w8].filter fun w => decide (figS w = 0)).map D.str, okD 63 y = true := fun y hy => by
    obtain ⟨w, hw, rfl⟩ := List.mem_map.mp hy
    have hm := (List.mem_filter.mp hw).1
    simp only [List.mem_cons, List.not_mem_nil, or_false] at hm
    have : Ok w := by rcases hm with rfl | rfl | rfl | rfl <;> assumption
    unfold okD
    exact ok_str this
  have al : ∀ {xs : List D}, (∀ y ∈ xs, okD 63 y = true) → okL 63 xs = true := by
    intro xs
    induction xs with
    | nil => intro _; simp
    | cons x xs ih => intro h; rw [okL_cons, h x List.mem_cons_self, ih fun y hy => h y (List.mem_cons_of_mem _ hy)]; rfl
  rw [← no_bad, eqD_ok (by rw [okD_lst]; exact al ok) (by simp), eqT_lst]
  cases [q, w3, w6, w8].filter fun w => decide (figS w = 0) <;> simp
theorem o_lread {x : Str} (hl : x.length ≤ 100000) (hx : Ok x) : (callN defs (n + 1)).out 50 [.val (.str x)] = some (.v (ansL (readW (words x)))) := by
  have sp := split_D (x := x) (by omega)
  have S1 : ex (callN defs n) (.set 1 (.split (.var 0) (.cst (.str " ")))) [.val (.str x), .un, .un, .un] = some (.nx, [.val (.str x), .own 0 (.lst ((words x).map D.str)), .un, .un]) := by simp [sp]
  have go : ∀ {z : R}, (∃ S', lastR (exs (callN defs n) (d__law_read.body.drop 1) [.val (.str x), .own 0 (.lst ((words x).map D.str)), .un, .un]) = some (z, S')) → (callN defs (n + 1)).out 50 [.val (.str x)] = some z := fun {z} ⟨S', h⟩ => by
    rw [out_at e_lread, runD_eq, if_pos (show [Sl.val (D.str x)].length = d__law_read.np from rfl)]
    show Option.map Prod.fst (lastR (exs (callN defs n) (_ :: d__law_read.body.drop 1) [.val (.str x), .un, .un, .un])) = _
    rw [exs_step S1, h]
    rfl
  by_cases h9 : (words x).length = 9
  case neg =>
    rw [readW_nine h9]
    have hi : ¬ ((words x).length : Int) = 9 := by omega
    exact go ⟨_, by simp [d__law_read, hi, ansL]; rfl⟩
  case pos =>
  obtain ⟨w0, w1, w2, w3, w4, w5, w6, w7, w8, hW⟩ := nine h9
  have le : ∀ w ∈ words x, w.length ≤ 100000 := fun w hw => Nat.le_trans (word_le hw) hl
  have okw := ok_words hx
  rw [hW] at le okw go
  rw [hW]
  simp only [List.mem_cons, List.not_mem_nil, or_false, forall_eq_or_imp, forall_eq] at le okw
  obtain ⟨l0, l1, l2, l3, l4, l5, l6, l7, l8⟩ := le
  obtain ⟨k0, k1, k2, k3, k4, k5, k6, k7, k8⟩ := okw
  have fe := frame_eq k0 k2 k5 k7
  cases hf : frame w0 w2 w5 w7 with
  | false =>
    have rn : readW [w0, w1, w2, w3, w4, w5, w6, w7, w8] = none := by
      rw [readW_9]
      cases wayO w4 <;> simp [hf]
    rw [rn]
    rw [hf] at fe
    exact go ⟨_, by simp [d__law_read, L2.ixN, fe, ansL, PySem.sizeLine_eq]; rfl⟩
  | true =>
  rw [hf] at fe
  have S2 : ex (callN defs n) (.ifs (.or (.cmp .NotEq (.b1 .len (.var 1)) (.cst (.int 9))) (.cmp .NotEq (.lst [.ix (.var 1) (.cst (.int 0)), .ix (.var 1) (.cst (.int 2)), .ix (.var 1) (.cst (.int 5)), .ix (.var 1) (.cst (.int 7))]) (.lst [.cst (.str "from"), .cst (.str "to"), .cst (.str "each"), .cst (.str "by")]))) [.ret (.cst .non)] []) [.val (.str x), .own 0 (.lst ([w0, w1, w2, w3, w4, w5, w6, w7, w8].map D.str)), .un, .un] = some (.nx, [.val (.str x), .own 0 (.lst ([w0, w1, w2, w3, w4, w5, w6, w7, w8].map D.str)), .un, .un]) := by
    simp [L2.ixN, fe, PySem.sizeLine_eq]
  obtain ⟨q, eq⟩ : ∃ q, L2.cutS w1 (some 1) none = q := ⟨_, rfl⟩
  obtain ⟨p, epp⟩ : ∃ p, L2.cutS w1 none (some 1) = p := ⟨_, rfl⟩
  have kq : Ok q := eq ▸ ok_cut k1 _ _
  have kp : Ok p := epp ▸ ok_cut k1 _ _
  have lq : q.length ≤ 100000 := eq ▸ Nat.le_trans (cutS_le w1 _ _) l1
  have sl1 := slc_str (z := w1) (lo := none) (hi := some 1) (by omega)
  have sl2 := slc_str (z := w1) (lo := some 1) (hi := none) (by omega)
  rw [eq] at sl2
  rw [epp] at sl1
  have S3 : ex (callN defs n) (.set 2 (.lst [.slc (.ix (.var 1) (.cst (.int 1))) true (.cst (.int 1)) false (.cst .non), .ix (.var 1) (.cst (.int 3)), .ix (.var 1) (.cst (.int 6)), .ix (.var 1) (.cst (.int 8))])) [.val (.str x), .own 0 (.lst ([w0, w1, w2, w3, w4, w5, w6, w7, w8].map D.str)), .un, .un] = some (.nx, [.val (.str x), .own 0 (.lst ([w0, w1, w2, w3, w4, w5, w6, w7, w8].map D.str)), .own 0 (.lst ([q, w3, w6, w8].map D.str)), .un]) := by
    simp [L2.ixN, sl2, PySem.sizeLine_eq]
  have ep : eqD (.str p) (.str "-") = some (decide (p = "-")) := by
    rw [eqS (ok_str kp) (by decide +kernel), str_ne]
  have hc := ev_comp_map (cl := callN defs n) (elt := .var 3) (tg := .nm 3) (k := .seq) (args := [.var 2]) (cond := [.or (.cmp .NotEq (.b1 .len (.var 3)) (.cst (.int 1))) (.cmp .NotIn (.var 3) (.cst (.str "123456")))]) (S := [.val (.str x), .own 0 (.lst ([w0, w1, w2, w3, w4, w5, w6, w7, w8].map D.str)), .own 0 (.lst ([q, w3, w6, w8].map D.str)), .un]) (S0 := [.val (.str x), .own 0 (.lst ([w0, w1, w2, w3, w4, w5, w6, w7, w8].map D.str)), .val (.lst ([q, w3, w6, w8].map D.str)), .un]) (ds := [.lst ([q, w3, w6, w8].map D.str)])
    D.str (fun w => decide (figS w = 0)) D.str [q, w3, w6, w8] (by simp) rfl (fun w hw => by
      have lw : w.length ≤ 100000 := by
        simp only [List.mem_cons, List.not_mem_nil, or_false] at hw
        rcases hw with rfl | rfl | rfl | rfl <;> assumption
      have ln := len_str (x := w) (by omega)
      by_cases h1 : w.length = 1
      · have ni := nin_six h1
        have h1' : (w.length : Int) = 1 := by omega
        cases q : decide (figS w = 0) <;> rw [q] at ni <;> simp [compF, hdO, wipeS, Tg.slots, ln, h1', ni]
      · have h1' : ¬ (w.length : Int) = 1 := by omega
        have z : figS w = 0 := by
          by_cases z : figS w = 0
          · exact z
          · exact absurd (fig_len z) h1
        rw [decide_eq_true z]
        simp [compF, hdO, wipeS, Tg.slots, ln, h1']) (by rw [PySem.sizeLine_eq]; simp)
  have en := eq_nil4 (q := q) (w3 := w3) (w6 := w6) (w8 := w8) kq k3 k6 k8
  obtain ⟨F, eF⟩ : ∃ F, ([q, w3, w6, w8].filter fun w => decide (figS w = 0)).map D.str = F := ⟨_, rfl⟩
  rw [eF] at hc en
  simp only [List.map_cons, List.map_nil] at hc
  have hk : okF w1 w3 w6 w8 = (decide (p = "-") && (decide (figS q ≠ 0) && (decide (figS w3 ≠ 0) && (decide (figS w6 ≠ 0 ∧ figS w6 ≤ 3) && decide (figS w8 ≠ 0 ∧ figS w8 ≤ 3))))) := by unfold okF; rw [eq, epp]
  have step3 : ∀ {z : R}, (∃ S', lastR (exs (callN defs n) (d__law_read.body.drop 3) [.val (.str x), .own 0 (.lst ([w0, w1, w2, w3, w4, w5, w6, w7, w8].map D.str)), .own 0 (.lst ([q, w3, w6, w8].map D.str)), .un]) = some (z, S')) → (callN defs (n + 1)).out 50 [.val (.str x)] = some z := fun {z} ⟨S', h⟩ => go ⟨S', by
    show lastR (exs (callN defs n) (_ :: _ :: d__law_read.body.drop 3) _) = _
    rw [exs_step S2, exs_step S3, h]⟩
  have none_of : okF w1 w3 w6 w8 = false ∨ wayO w4 = none → readW [w0, w1, w2, w3, w4, w5, w6, w7, w8] = none := fun h => by
    rw [readW_9]
    rcases h with h | h
    · cases wayO w4 <;> simp [h]
    · rw [h]
  by_cases hp : p = "-"
  case neg =>
    rw [none_of (.inl (by rw [hk, decide_eq_false hp]; rfl))]
    rw [decide_eq_false hp] at ep
    exact step3 ⟨_, by simp [d__law_read, L2.ixN, sl1, ep, ansL]; rfl⟩
  case pos =>
  rw [decide_eq_true hp] at ep
  by_cases hb : figS q ≠ 0 ∧ figS w3 ≠ 0 ∧ figS w6 ≠ 0 ∧ figS w8 ≠ 0
  case neg =>
    have en' : eqD (.lst F) (.lst []) = some false := by
      rw [en]
      congr 1
      rw [Bool.eq_false_iff]
      intro z
      simp only [Bool.and_eq_true, decide_eq_true_eq] at z
      exact hb z
    rw [none_of (.inl (by
      rw [hk, Bool.eq_false_iff]
      intro z
      simp only [Bool.and_eq_true, decide_eq_true_eq] at z
      exact hb ⟨z.2.1, z.2.2.1, z.2.2.2.1.1, z.2.2.2.2.1⟩))]
    exact step3 ⟨_, by simp [d__law_read, L2.ixN, sl1, ep, hc, en', backW, wipeS, Tg.slots, ansL]; rfl⟩
  case pos =>
  obtain ⟨bq, b3, b6, b8⟩ := hb
  have en' : eqD (.lst F) (.lst []) = some true := by
    rw [en, decide_eq_true bq, decide_eq_true b3, decide_eq_true b6, decide_eq_true b8]
    rfl
  have S4 : ex (callN defs n) (.ifs (.or (.cmp .NotEq (.slc (.ix (.var 1) (.cst (.int 1))) false (.cst .non) true (.cst (.int 1))) (.cst (.str "-"))) (.cmp .NotEq (.comp (.var 3) (.nm 3) .seq [.var 2] [.or (.cmp .NotEq (.b1 .len (.var 3)) (.cst (.int 1))) (.cmp .NotIn (.var 3) (.cst (.str "123456")))]) (.lst []))) [.ret (.cst .non)] []) [.val (.str x), .own 0 (.lst ([w0, w1, w2, w3, w4, w5, w6, w7, w8].map D.str)), .own 0 (.lst ([q, w3, w6, w8].map D.str)), .un] = some (.nx, [.val (.str x), .own 0 (.lst ([w0, w1, w2, w3, w4, w5, w6, w7, w8].map D.str)), .val (.lst ([q, w3, w6, w8].map D.str)), .un]) := by
    simp [L2.ixN, sl1, ep, hc, en', backW, wipeS, Tg.slots]
  have wn := wayO_nin w4
  have n6 := nin_three b6
  have n8 := nin_three b8
  have step4 : ∀ {z : R}, (∃ S', lastR (exs (callN defs n) (d__law_read.body.drop 4) [.val (.str x), .own 0 (.lst ([w0, w1, w2, w3, w4, w5, w6, w7, w8].map D.str)), .val (.lst ([q, w3, w6, w8].map D.str)), .un]) = some (z, S')) → (callN defs (n + 1)).out 50 [.val (.str x)] = some z := fun {z} ⟨S', h⟩ => step3 ⟨S', by
    show lastR (exs (callN defs n) (_ :: d__law_read.body.drop 4) _) = _
    rw [exs_step S4, h]⟩
  cases hy : wayO w4 with
  | none =>
    rw [none_of (.inr hy)]
    rw [hy] at wn
    have wn' : cmpD .NotIn (.str w4) (.lst [.str "edge", .str "half", .str "middle"]) = some true := wn
    exact step4 ⟨_, by simp [d__law_read, L2.ixN, wn', PySem.sizeLine_eq, ansL]; rfl⟩
  | some y =>
    rw [hy] at wn
    have wn' : cmpD .NotIn (.str w4) (.lst [.str "edge", .str "half", .str "middle"]) = some false := wn
    by_cases c6 : figS w6 ≤ 3
    case neg =>
      rw [none_of (.inl (by
        rw [hk, Bool.eq_false_iff]
        intro z
        simp only [Bool.and_eq_true, decide_eq_true_eq] at z
        exact c6 z.2.2.2.1.2))]
      rw [decide_eq_true c6] at n6
      exact step4 ⟨_, by simp [d__law_read, L2.ixN, wn', n6, PySem.sizeLine_eq, ansL]; rfl⟩
    case pos =>
    rw [decide_eq_false (not_not_intro c6)] at n6
    by_cases c8 : figS w8 ≤ 3
    case neg =>
      rw [none_of (.inl (by
        rw [hk, Bool.eq_false_iff]
        intro z
        simp only [Bool.and_eq_true, decide_eq_true_eq] at z
        exact c8 z.2.2.2.2.2))]
      rw [decide_eq_true c8] at n8
      exact step4 ⟨_, by simp [d__law_read, L2.ixN, wn', n6, n8, PySem.sizeLine_eq, ansL]; rfl⟩
    case pos =>
    rw [decide_eq_false (not_not_intro c8)] at n8
    have hkt : okF w1 w3 w6 w8 = true := by
      rw [hk, decide_eq_true hp, decide_eq_true bq, decide_eq_true b3, decide_eq_true (⟨b6, c6⟩ : figS w6 ≠ 0 ∧ figS w6 ≤ 3), decide_eq_true (⟨b8, c8⟩ : figS w8 ≠ 0 ∧ figS w8 ≤ 3)]
      rfl
    have rn : readW [w0, w1, w2, w3, w4, w5, w6, w7, w8] = some (ruW w1 w3 w6 w8 y) := by
      rw [readW_9, hy]
      exact if_pos ⟨hf, hkt⟩
    have rd : ansL (some (ruW w1 w3 w6 w8 y)) = .tup [.int (figS q), .int (figS w3), .str w4, .int (figS w6), .int (figS w8)] := by
      show D.tup [.int (figS (L2.cutS w1 (some 1) none)), .int (figS w3), .str y.s, .int (figS w6), .int (figS w8)] = _
      rw [eq, wayO_s hy]
    rw [rn, rd]
    have iq := int_fig bq
    have i3 := int_fig b3
    have i6 := int_fig b6
    have i8 := int_fig b8
    exact step4 ⟨_, by simp [d__law_read, L2.ixN, wn', n6, n8, iq, i3, i6, i8, PySem.sizeLine_eq]; rfl⟩
theorem e_law_text : defs 49 = some d__law_text := rfl
theorem o_law_text {r : Ru} (h : r.Ok) : (callN defs (n + 1)).out 49 [.val r.d] = some (.v (.str (textR r))) := by
  have a := fg_facts h.lo
  have b := fg_facts h.hi
  have c := fg_facts (i := r.ev) ⟨h.ev.1, by have := h.ev.2; omega⟩
  have d := fg_facts (i := r.pc) ⟨h.pc.1, by have := h.pc.2; omega⟩
  have sa := a.2.2.2.2.2.2.2.2.2.2.2
  have sb := b.2.2.2.2.2.2.2.2.2.2.2
  have sc := c.2.2.2.2.2.2.2.2.2.2.2
  have sd := d.2.2.2.2.2.2.2.2.2.2.2
  have la := a.2.2.2.2.2.2.2.1
  have l1 : ("-" : Str).length = 1 := by decide +kernel
  have ad := add_str (x := "-") (y := fg r.lo) (by omega)
  have lr := lens_R h
  have jn : joinD (.str " ") (.lst [.str "from", .str ("-" ++ fg r.lo), .str "to", .str (fg r.hi), .str r.way.s, .str "each", .str (fg r.ev), .str "by", .str (fg r.pc)]) = some (.v (.str (textR r))) := join_D (wordsR r) (by have : (wordsR r).length = 9 := rfl; omega)
  rw [out_at e_law_text]
  unfold Ru.d
  simp [d__law_text, sa, sb, sc, sd, ad, jn, PySem.sizeLine_eq]
end G

set_option Elab.async false
set_option linter.all false
set_option maxRecDepth 100000
set_option maxHeartbeats 4000000
set_option autoImplicit false
/-! PQ4: texts bent. -/
namespace G
open PySem MX TL
variable {n : Nat}
theorem e_bent : defs 51 = some d__law_bent := rfl
theorem io_bent : (callN defs n).io 51 = true := io_at e_bent
def bits : List Str := [" ", "1", "7", "-", "e", "\n", "half"]
def bits2 : List Str := ["from", "to", "-1", "1", "0", "7", "edge", "half", "Half", "01", "by", "each"]
theorem bits_ok : ∀ w ∈ bits, Ok w ∧ w.length ≤ 4 := by
  intro w hw
  have h := List.all_eq_true.mp (show (bits.all fun w => PyData.strOk w && decide (w.length ≤ 4)) = true by decide +kernel) w hw
  simp only [Bool.and_eq_true, decide_eq_true_eq] at h
  exact ⟨ok_of h.1, h.2⟩
theorem bits2_ok : ∀ w ∈ bits2, Ok w ∧ w.length ≤ 4 := by
  intro w hw
  have h := List.all_eq_true.mp (show (bits2.all fun w => PyData.strOk w && decide (w.length ≤ 4)) = true by decide +kernel) w hw
  simp only [Bool.and_eq_true, decide_eq_true_eq] at h
  exact ⟨ok_of h.1, h.2⟩
theorem mem_str {ws : List Str} {d : D} (h : d ∈ ws.map D.str) : ∃ w ∈ ws, d = .str w := by
  obtain ⟨w, hw, rfl⟩ := List.mem_map.mp h
  exact ⟨w, hw, rfl⟩
theorem cat_strs {a b : List Str} (h : a.length + b.length ≤ 1000000) : binD .Add (.lst (a.map D.str)) (.lst (b.map D.str)) = some (.fr (.lst ((a ++ b).map D.str))) := by
  rw [bin_catL (by rw [PySem.sizeLine_eq, List.length_map, List.length_map]; omega), List.map_append]
theorem slc_strs {a : List Str} {lo hi : Option Int} : slcO (.lst (a.map D.str)) lo hi = some (.fr (.lst ((cutW a lo hi).map D.str))) := by rw [slc_lst, cutD_strs]
theorem rev_strs {a : List Str} : revD (.lst (a.map D.str)) = some (.fr (.lst (a.reverse.map D.str))) := by rw [rev_lst, List.map_reverse]
theorem r_bent {x : Str} {B : Nat} (ds : List Int) (hl : x.length ≤ B) (hB : B ≤ 10000) (hx : Ok x) :
    ∃ (y : Str) (es : List Int) (Z : SS), y.length ≤ 4 * B + 10 ∧ Ok y ∧ (callN defs (n + 3)).run 51 [.own 1 (intsD ds), .val (.str x)] = some (.v (.str y), .own 1 (intsD es) :: Z) := by
  have hlen : 0 < (x.length : Int) + 1 := by omega
  have ln := len_str (x := x) (by omega)
  have t1 := ev_take (n := n + 1) ds ds (m := (x.length : Int) + 1) hlen (i := 0) (t := 1) (a := .bin .Add (.b1 .len (.var 1)) (.cst (.int 1))) (S := [.own 1 (intsD ds), .val (.str x), .un, .un, .un, .un, .un]) (S1 := [.own 1 (intsD ds), .val (.str x), .un, .un, .un, .un, .un]) rfl (by simp [ln]) rfl
  have t2 := ev_take (n := n + 1) ds.tail ds.tail (m := 5) (by decide) (i := 0) (t := 1) (a := .cst (.int 5)) (S := [.own 1 (intsD ds.tail), .val (.str x), .un, .un, .un, .un, .un]) (S1 := [.own 1 (intsD ds.tail), .val (.str x), .un, .un, .un, .un, .un]) rfl (by simp) rfl
  obtain ⟨at_, ea⟩ : ∃ a, tk ds ((x.length : Int) + 1) = a := ⟨_, rfl⟩
  obtain ⟨way, ew⟩ : ∃ a, tk ds.tail 5 = a := ⟨_, rfl⟩
  rw [ea] at t1
  rw [ew] at t2
  obtain ⟨bag, eb⟩ : ∃ b, ds.tail.tail = b := ⟨_, rfl⟩
  have t1' : ev (callN defs (n + 2)) (.call 16 [.var 0, .bin .Add (.b1 .len (.var 1)) (.cst (.int 1))]) [.own 1 (intsD ds), .val (.str x), .un, .un, .un, .un, .un] = some (.v (.int at_), [.own 1 (intsD ds.tail), .val (.str x), .un, .un, .un, .un, .un]) := t1
  have t2' : ev (callN defs (n + 2)) (.call 16 [.var 0, .cst (.int 5)]) [.own 1 (intsD ds.tail), .val (.str x), .un, .un, .un, .un, .un] = some (.v (.int way), [.own 1 (intsD bag), .val (.str x), .un, .un, .un, .un, .un]) := by rw [← eb]; exact t2
  have p1 : ex (callN defs (n + 2)) (.par [2, 3] [.call 16 [.var 0, .bin .Add (.b1 .len (.var 1)) (.cst (.int 1))], .call 16 [.var 0, .cst (.int 5)]]) [.own 1 (intsD ds), .val (.str x), .un, .un, .un, .un, .un] = some (.nx, [.own 1 (intsD bag), .val (.str x), .val (.int at_), .val (.int way), .un, .un, .un]) := by
    simp [-ev_call, t1', t2']
  have sl : ∀ lo hi, slcO (.str x) lo hi = some (.v (.str (L2.cutS x lo hi))) := fun lo hi => slc_str (by omega)
  have fin : ∀ (y : Str) (es : List Int) (Z : SS), y.length ≤ 4 * B + 10 → Ok y → exs (callN defs (n + 2)) (d__law_bent.body.drop 1) [.own 1 (intsD bag), .val (.str x), .val (.int at_), .val (.int way), .un, .un, .un] = some (.ret (.v (.str y)), .own 1 (intsD es) :: Z) →
      ∃ (y : Str) (es : List Int) (Z : SS), y.length ≤ 4 * B + 10 ∧ Ok y ∧ (callN defs (n + 3)).run 51 [.own 1 (intsD ds), .val (.str x)] = some (.v (.str y), .own 1 (intsD es) :: Z) := fun y es Z h1 h2 h3 => by
    refine ⟨y, es, Z, h1, h2, run_body e_bent rfl ?_⟩
    show exs (callN defs (n + 2)) (_ :: d__law_bent.body.drop 1) [.own 1 (intsD ds), .val (.str x), .un, .un, .un, .un, .un] = _
    rw [exs_step p1, h3]
  have lc : ∀ lo hi, (L2.cutS x lo hi).length ≤ B := fun lo hi => Nat.le_trans (cutS_le x lo hi) hl
  by_cases w0 : way = 0
  · obtain ⟨d, hd, c⟩ := ev_choice (n := n) bag bag (xs := bits.map D.str) (by decide) (i := 0) (t := 1) (a := .lst [.cst (.str " "), .cst (.str "1"), .cst (.str "7"), .cst (.str "-"), .cst (.str "e"), .cst (.str "\n"), .cst (.str "half")]) (S := [.own 1 (intsD bag), .val (.str x), .val (.int at_), .val (.int way), .un, .un, .un]) (S1 := [.own 1 (intsD bag), .val (.str x), .val (.int at_), .val (.int way), .un, .un, .un]) (.inr rfl) rfl (by simp [PySem.sizeLine_eq, bits]) rfl
    obtain ⟨w, hw, rfl⟩ := mem_str hd
    obtain ⟨k1, k2⟩ := bits_ok w hw
    have z1 := lc none (some at_)
    have z2 := lc (some at_) none
    refine fin (L2.cutS x none (some at_) ++ w ++ L2.cutS x (some at_) none) bag.tail [.val (.str x), .val (.int at_), .val (.int way), .un, .un, .un] (by rw [app_len, app_len]; omega) (ok_app (ok_app (ok_cut hx _ _) k1) (ok_cut hx _ _)) ?_
    have c' : ev (callN defs (n + 2)) (.call 17 [.var 0, .lst [.cst (.str " "), .cst (.str "1"), .cst (.str "7"), .cst (.str "-"), .cst (.str "e"), .cst (.str "\n"), .cst (.str "half")]]) [.own 1 (intsD bag), .val (.str x), .val (.int at_), .val (.int way), .un, .un, .un] = some (.v (.str w), [.own 1 (intsD bag.tail), .val (.str x), .val (.int at_), .val (.int way), .un, .un, .un]) := c
    have a1 := add_str (x := L2.cutS x none (some at_)) (y := w) (by omega)
    have a2 := add_str (x := L2.cutS x none (some at_) ++ w) (y := L2.cutS x (some at_) none) (by rw [app_len]; omega)
    have key : ev (callN defs (n + 2)) (.bin .Add (.bin .Add (.slc (.var 1) false (.cst .non) true (.var 2)) (.call 17 [.var 0, .lst [.cst (.str " "), .cst (.str "1"), .cst (.str "7"), .cst (.str "-"), .cst (.str "e"), .cst (.str "\n"), .cst (.str "half")]])) (.slc (.var 1) true (.var 2) false (.cst .non))) [.own 1 (intsD bag), .val (.str x), .val (.int at_), .val (.int way), .un, .un, .un] = some (.v (.str (L2.cutS x none (some at_) ++ w ++ L2.cutS x (some at_) none)), [.own 1 (intsD bag.tail), .val (.str x), .val (.int at_), .val (.int way), .un, .un, .un]) := by
      have g1 : ev (callN defs (n + 2)) (.slc (.var 1) false (.cst .non) true (.var 2)) [.own 1 (intsD bag), .val (.str x), .val (.int at_), .val (.int way), .un, .un, .un] = some (.v (.str (L2.cutS x none (some at_))), [.own 1 (intsD bag), .val (.str x), .val (.int at_), .val (.int way), .un, .un, .un]) := by simp [sl]
      have g2 : ev (callN defs (n + 2)) (.slc (.var 1) true (.var 2) false (.cst .non)) [.own 1 (intsD bag.tail), .val (.str x), .val (.int at_), .val (.int way), .un, .un, .un] = some (.v (.str (L2.cutS x (some at_) none)), [.own 1 (intsD bag.tail), .val (.str x), .val (.int at_), .val (.int way), .un, .un, .un]) := by simp [sl]
      rw [ev_bin, ev_bin, g1, bnd_v, c', bnd_v, a1, retR_some, bnd_v, g2, bnd_v, a2, retR_some]
    subst w0
    show exs (callN defs (n + 2)) (.ifs _ [.ret (.bin _ _ _)] [] :: _) _ = _
    rw [exs_cons, ex_ifs]
    have cc : ev (callN defs (n + 2)) (.cmp .Eq (.var 3) (.cst (.int 0))) [.own 1 (intsD bag), .val (.str x), .val (.int at_), .val (.int 0), .un, .un, .un] = some (.v (.bl true), [.own 1 (intsD bag), .val (.str x), .val (.int at_), .val (.int 0), .un, .un, .un]) := by simp
    rw [cc, thenB_true, exs_cons, ex_ret, retV_eq, vr_bin]
    dsimp only
    rw [key]
    rfl
  by_cases w1 : way = 1
  · have z1 := lc none (some at_)
    have z2 := lc (some (at_ + 1)) none
    have a1 := add_str (x := L2.cutS x none (some at_)) (y := L2.cutS x (some (at_ + 1)) none) (by omega)
    refine fin (L2.cutS x none (some at_) ++ L2.cutS x (some (at_ + 1)) none) bag [.val (.str x), .val (.int at_), .val (.int way), .un, .un, .un] (by rw [app_len]; omega) (ok_app (ok_cut hx _ _) (ok_cut hx _ _)) ?_
    simp [d__law_bent, w1, sl, a1]
  have sp := split_D (x := x) (by omega)
  have wl := words_len x
  have wn := words_ne x
  have wo := ok_words hx
  obtain ⟨W, eW⟩ : ∃ W, words x = W := ⟨_, rfl⟩
  rw [eW] at sp wl wn wo
  have hW : 0 < (W.length : Int) := by
    have : W.length ≠ 0 := fun z => wn (List.eq_nil_of_length_eq_zero z)
    omega
  have q4 : ex (callN defs (n + 2)) (.set 4 (.split (.var 1) (.cst (.str " ")))) [.own 1 (intsD bag), .val (.str x), .val (.int at_), .val (.int way), .un, .un, .un] = some (.nx, [.own 1 (intsD bag), .val (.str x), .val (.int at_), .val (.int way), .own 0 (.lst (W.map D.str)), .un, .un]) := by simp [sp]
  have t3 := ev_take (n := n + 1) bag bag (m := (W.length : Int)) hW (i := 0) (t := 1) (a := .b1 .len (.var 4)) (S := [.own 1 (intsD bag), .val (.str x), .val (.int at_), .val (.int way), .own 0 (.lst (W.map D.str)), .un, .un]) (S1 := [.own 1 (intsD bag), .val (.str x), .val (.int at_), .val (.int way), .own 0 (.lst (W.map D.str)), .un, .un]) rfl (by simp) rfl
  obtain ⟨spot, es⟩ : ∃ a, tk bag (W.length : Int) = a := ⟨_, rfl⟩
  rw [es] at t3
  obtain ⟨bag2, eb2⟩ : ∃ b, bag.tail = b := ⟨_, rfl⟩
  rw [eb2] at t3
  have t3' : ev (callN defs (n + 2)) (.call 16 [.var 0, .b1 .len (.var 4)]) [.own 1 (intsD bag), .val (.str x), .val (.int at_), .val (.int way), .own 0 (.lst (W.map D.str)), .un, .un] = some (.v (.int spot), [.own 1 (intsD bag2), .val (.str x), .val (.int at_), .val (.int way), .own 0 (.lst (W.map D.str)), .un, .un]) := t3
  have q5 : ex (callN defs (n + 2)) (.set 5 (.call 16 [.var 0, .b1 .len (.var 4)])) [.own 1 (intsD bag), .val (.str x), .val (.int at_), .val (.int way), .own 0 (.lst (W.map D.str)), .un, .un] = some (.nx, [.own 1 (intsD bag2), .val (.str x), .val (.int at_), .val (.int way), .own 0 (.lst (W.map D.str)), .val (.int spot), .un]) := by
    simp [-ev_call, t3']
  have no : ∀ k : Int, way ≠ k → ∀ a : List MX.S, ex (callN defs (n + 2)) (.ifs (.cmp .Eq (.var 3) (.cst (.int k))) a []) [.own 1 (intsD bag), .val (.str x), .val (.int at_), .val (.int way), .un, .un, .un] = some (.nx, [.own 1 (intsD bag), .val (.str x), .val (.int at_), .val (.int way), .un, .un, .un]) := fun k hk a => by simp [hk]
  have no2 : ∀ k : Int, way ≠ k → ∀ a : List MX.S, ex (callN defs (n + 2)) (.ifs (.cmp .Eq (.var 3) (.cst (.int k))) a []) [.own 1 (intsD bag2), .val (.str x), .val (.int at_), .val (.int way), .own 0 (.lst (W.map D.str)), .val (.int spot), .un] = some (.nx, [.own 1 (intsD bag2), .val (.str x), .val (.int at_), .val (.int way), .own 0 (.lst (W.map D.str)), .val (.int spot), .un]) := fun k hk a => by simp [hk]
  have fin5 : ∀ (y : Str) (es : List Int) (Z : SS), y.length ≤ 4 * B + 10 → Ok y → exs (callN defs (n + 2)) (d__law_bent.body.drop 5) [.own 1 (intsD bag2), .val (.str x), .val (.int at_), .val (.int way), .own 0 (.lst (W.map D.str)), .val (.int spot), .un] = some (.ret (.v (.str y)), .own 1 (intsD es) :: Z) →
      ∃ (y : Str) (es : List Int) (Z : SS), y.length ≤ 4 * B + 10 ∧ Ok y ∧ (callN defs (n + 3)).run 51 [.own 1 (intsD ds), .val (.str x)] = some (.v (.str y), .own 1 (intsD es) :: Z) := fun y es Z h1 h2 h3 => by
    refine fin y es Z h1 h2 ?_
    show exs (callN defs (n + 2)) (.ifs _ _ [] :: .ifs _ _ [] :: _ :: _ :: d__law_bent.body.drop 5) _ = _
    rw [exs_step (no 0 w0 _), exs_step (no 1 w1 _), exs_step q4, exs_step q5, h3]
  have c1 : ∀ lo hi, lens (cutW W lo hi) ≤ B + 1 := fun lo hi => Nat.le_trans (cutW_lens W lo hi) (by omega)
  have c2 : ∀ lo hi, (cutW W lo hi).length ≤ B + 1 := fun lo hi => Nat.le_trans (cutW_len W lo hi) (by omega)
  have sm : lens W + W.length ≤ B + 1 := by omega
  have cs : ∀ lo hi, lens (cutW W lo hi) + (cutW W lo hi).length ≤ B + 1 := fun lo hi => by
    have a := cutW_lens W lo hi
    have b := cutW_len W lo hi
    omega
  have oc : ∀ lo hi, ∀ w ∈ cutW W lo hi, Ok w := fun lo hi w hw => wo w (cutW_mem hw)
  by_cases w2 : way = 2
  · obtain ⟨d, hd, c⟩ := ev_choice (n := n) bag2 bag2 (xs := bits2.map D.str) (by decide) (i := 0) (t := 1) (a := .var 6) (S := [.own 1 (intsD bag2), .val (.str x), .val (.int at_), .val (.int way), .val (.lst (W.map D.str)), .val (.int spot), .own 0 (.lst (bits2.map D.str))]) (S1 := [.own 1 (intsD bag2), .val (.str x), .val (.int at_), .val (.int way), .val (.lst (W.map D.str)), .val (.int spot), .val (.lst (bits2.map D.str))]) (.inl rfl) rfl (by simp) rfl
    obtain ⟨w, hw, rfl⟩ := mem_str hd
    obtain ⟨k1, k2⟩ := bits2_ok w hw
    obtain ⟨LB, eLB⟩ : ∃ L, bits2.map D.str = L := ⟨_, rfl⟩
    rw [eLB] at c
    let A := cutW W none (some spot)
    let C := cutW W (some (spot + 1)) none
    have a1 := cat_strs (a := A) (b := [w]) (by have := c2 none (some spot); simp only [List.length_singleton, A]; omega)
    have a2 := cat_strs (a := A ++ [w]) (b := C) (by have := c2 none (some spot); have := c2 (some (spot + 1)) none; simp only [List.length_append, List.length_singleton, A, C]; omega)
    have l1 := cs none (some spot)
    have l2 := cs (some (spot + 1)) none
    have lw : lens [w] = w.length := by unfold lens; simp
    have le : lens (A ++ [w] ++ C) + (A ++ [w] ++ C).length ≤ 2 * B + 10 := by
      rw [lens_app, lens_app, lw, List.length_append, List.length_append, List.length_singleton]
      simp only [A, C]
      omega
    have jn := join_D (A ++ [w] ++ C) (by omega)
    refine fin5 (Txt.join " " (A ++ [w] ++ C)) bag2.tail [.val (.str x), .val (.int at_), .val (.int way), .val (.lst (W.map D.str)), .val (.int spot), .val (.lst LB)] (by have := join_len (A ++ [w] ++ C); omega) (ok_join fun v hv => ?_) ?_
    · rcases List.mem_append.mp hv with hv | hv
      · rcases List.mem_append.mp hv with hv | hv
        · exact oc _ _ v hv
        · rw [List.mem_singleton.mp hv]; exact k1
      · exact oc _ _ v hv
    · have g0 : ex (callN defs (n + 2)) (.set 6 (.lst [.cst (.str "from"), .cst (.str "to"), .cst (.str "-1"), .cst (.str "1"), .cst (.str "0"), .cst (.str "7"), .cst (.str "edge"), .cst (.str "half"), .cst (.str "Half"), .cst (.str "01"), .cst (.str "by"), .cst (.str "each")])) [.own 1 (intsD bag2), .val (.str x), .val (.int at_), .val (.int way), .own 0 (.lst (W.map D.str)), .val (.int spot), .un] = some (.nx, [.own 1 (intsD bag2), .val (.str x), .val (.int at_), .val (.int way), .own 0 (.lst (W.map D.str)), .val (.int spot), .own 0 (.lst LB)]) := by
        rw [← eLB]
        simp [PySem.sizeLine_eq, bits2]
      have g1 : ev (callN defs (n + 2)) (.slc (.var 4) false (.cst .non) true (.var 5)) [.own 1 (intsD bag2), .val (.str x), .val (.int at_), .val (.int way), .own 0 (.lst (W.map D.str)), .val (.int spot), .own 0 (.lst LB)] = some (.fr (.lst (A.map D.str)), [.own 1 (intsD bag2), .val (.str x), .val (.int at_), .val (.int way), .val (.lst (W.map D.str)), .val (.int spot), .own 0 (.lst LB)]) := by
        have k := slc_strs (a := W) (lo := none) (hi := some spot)
        simp [k, A]
      have c' : ev (callN defs (n + 2)) (.call 17 [.var 0, .var 6]) [.own 1 (intsD bag2), .val (.str x), .val (.int at_), .val (.int way), .val (.lst (W.map D.str)), .val (.int spot), .own 0 (.lst LB)] = some (.v (.str w), [.own 1 (intsD bag2.tail), .val (.str x), .val (.int at_), .val (.int way), .val (.lst (W.map D.str)), .val (.int spot), .val (.lst LB)]) := c
      have g2 : ev (callN defs (n + 2)) (.lst [.call 17 [.var 0, .var 6]]) [.own 1 (intsD bag2), .val (.str x), .val (.int at_), .val (.int way), .val (.lst (W.map D.str)), .val (.int spot), .own 0 (.lst LB)] = some (.fr (.lst ([w].map D.str)), [.own 1 (intsD bag2.tail), .val (.str x), .val (.int at_), .val (.int way), .val (.lst (W.map D.str)), .val (.int spot), .val (.lst LB)]) := by
        rw [ev_lst, evs_cons, c']
        simp [PySem.sizeLine_eq]
      have g3 : ev (callN defs (n + 2)) (.slc (.var 4) true (.bin .Add (.var 5) (.cst (.int 1))) false (.cst .non)) [.own 1 (intsD bag2.tail), .val (.str x), .val (.int at_), .val (.int way), .val (.lst (W.map D.str)), .val (.int spot), .val (.lst LB)] = some (.fr (.lst (C.map D.str)), [.own 1 (intsD bag2.tail), .val (.str x), .val (.int at_), .val (.int way), .val (.lst (W.map D.str)), .val (.int spot), .val (.lst LB)]) := by
        have k := slc_strs (a := W) (lo := some (spot + 1)) (hi := none)
        simp [k, C]
      have key : ev (callN defs (n + 2)) (.join (.cst (.str " ")) (.bin .Add (.bin .Add (.slc (.var 4) false (.cst .non) true (.var 5)) (.lst [.call 17 [.var 0, .var 6]])) (.slc (.var 4) true (.bin .Add (.var 5) (.cst (.int 1))) false (.cst .non)))) [.own 1 (intsD bag2), .val (.str x), .val (.int at_), .val (.int way), .own 0 (.lst (W.map D.str)), .val (.int spot), .own 0 (.lst LB)] = some (.v (.str (Txt.join " " (A ++ [w] ++ C))), [.own 1 (intsD bag2.tail), .val (.str x), .val (.int at_), .val (.int way), .val (.lst (W.map D.str)), .val (.int spot), .val (.lst LB)]) := by
        rw [ev_join, ev_cst, bnd_v, strK_str, ev_bin, ev_bin, g1, bnd_fr, g2, bnd_fr, a1, retR_some, bnd_fr, g3, bnd_fr, a2, retR_some, bnd_fr, jn, retR_some]
      subst w2
      show exs (callN defs (n + 2)) (.ifs _ [_, .ret (.join _ _)] [] :: _) _ = _
      have cc : ev (callN defs (n + 2)) (.cmp .Eq (.var 3) (.cst (.int 2))) [.own 1 (intsD bag2), .val (.str x), .val (.int at_), .val (.int 2), .own 0 (.lst (W.map D.str)), .val (.int spot), .un] = some (.v (.bl true), [.own 1 (intsD bag2), .val (.str x), .val (.int at_), .val (.int 2), .own 0 (.lst (W.map D.str)), .val (.int spot), .un]) := by simp
      rw [exs_cons, ex_ifs, cc, thenB_true, exs_step g0, exs_cons, ex_ret, retV_eq, vr_join]
      dsimp only
      rw [key]
      rfl
  by_cases w3 : way = 3
  · let A := cutW W none (some spot)
    let C := cutW W (some (spot + 1)) none
    have a2 := cat_strs (a := A) (b := C) (by have := c2 none (some spot); have := c2 (some (spot + 1)) none; simp only [A, C]; omega)
    have l1 := cs none (some spot)
    have l2 := cs (some (spot + 1)) none
    have le : lens (A ++ C) + (A ++ C).length ≤ 2 * B + 10 := by
      rw [lens_app, List.length_append]
      simp only [A, C]
      omega
    have jn := join_D (A ++ C) (by omega)
    refine fin5 (Txt.join " " (A ++ C)) bag2 [.val (.str x), .val (.int at_), .val (.int way), .val (.lst (W.map D.str)), .val (.int spot), .un] (by have := join_len (A ++ C); omega) (ok_join fun v hv => ?_) ?_
    · rcases List.mem_append.mp hv with hv | hv
      · exact oc _ _ v hv
      · exact oc _ _ v hv
    · have g1 : ev (callN defs (n + 2)) (.slc (.var 4) false (.cst .non) true (.var 5)) [.own 1 (intsD bag2), .val (.str x), .val (.int at_), .val (.int way), .own 0 (.lst (W.map D.str)), .val (.int spot), .un] = some (.fr (.lst (A.map D.str)), [.own 1 (intsD bag2), .val (.str x), .val (.int at_), .val (.int way), .val (.lst (W.map D.str)), .val (.int spot), .un]) := by
        have k := slc_strs (a := W) (lo := none) (hi := some spot)
        simp [k, A]
      have g3 : ev (callN defs (n + 2)) (.slc (.var 4) true (.bin .Add (.var 5) (.cst (.int 1))) false (.cst .non)) [.own 1 (intsD bag2), .val (.str x), .val (.int at_), .val (.int way), .val (.lst (W.map D.str)), .val (.int spot), .un] = some (.fr (.lst (C.map D.str)), [.own 1 (intsD bag2), .val (.str x), .val (.int at_), .val (.int way), .val (.lst (W.map D.str)), .val (.int spot), .un]) := by
        have k := slc_strs (a := W) (lo := some (spot + 1)) (hi := none)
        simp [k, C]
      have key : ev (callN defs (n + 2)) (.join (.cst (.str " ")) (.bin .Add (.slc (.var 4) false (.cst .non) true (.var 5)) (.slc (.var 4) true (.bin .Add (.var 5) (.cst (.int 1))) false (.cst .non)))) [.own 1 (intsD bag2), .val (.str x), .val (.int at_), .val (.int way), .own 0 (.lst (W.map D.str)), .val (.int spot), .un] = some (.v (.str (Txt.join " " (A ++ C))), [.own 1 (intsD bag2), .val (.str x), .val (.int at_), .val (.int way), .val (.lst (W.map D.str)), .val (.int spot), .un]) := by
        rw [ev_join, ev_cst, bnd_v, strK_str, ev_bin, g1, bnd_fr, g3, bnd_fr, a2, retR_some, bnd_fr, jn, retR_some]
      subst w3
      show exs (callN defs (n + 2)) (.ifs _ _ [] :: .ifs _ [.ret (.join _ _)] [] :: _) _ = _
      have cc : ev (callN defs (n + 2)) (.cmp .Eq (.var 3) (.cst (.int 3))) [.own 1 (intsD bag2), .val (.str x), .val (.int at_), .val (.int 3), .own 0 (.lst (W.map D.str)), .val (.int spot), .un] = some (.v (.bl true), [.own 1 (intsD bag2), .val (.str x), .val (.int at_), .val (.int 3), .own 0 (.lst (W.map D.str)), .val (.int spot), .un]) := by simp
      rw [exs_step (no2 2 (by decide) _), exs_cons, ex_ifs, cc, thenB_true, exs_cons, ex_ret, retV_eq, vr_join]
      dsimp only
      rw [key]
      rfl
  have jn := join_D W.reverse (by rw [lens_rev, List.length_reverse]; omega)
  refine fin5 (Txt.join " " W.reverse) bag2 [.val (.str x), .val (.int at_), .val (.int way), .val (.lst (W.map D.str)), .val (.int spot), .un] (by have := join_len W.reverse; rw [lens_rev, List.length_reverse] at this; omega) (ok_join fun v hv => wo v (List.mem_reverse.mp hv)) ?_
  have g1 : ev (callN defs (n + 2)) (.rev (.var 4)) [.own 1 (intsD bag2), .val (.str x), .val (.int at_), .val (.int way), .own 0 (.lst (W.map D.str)), .val (.int spot), .un] = some (.fr (.lst (W.reverse.map D.str)), [.own 1 (intsD bag2), .val (.str x), .val (.int at_), .val (.int way), .val (.lst (W.map D.str)), .val (.int spot), .un]) := by
    have k := rev_strs (a := W)
    rw [ev_rev, ev_var]
    simp only [varR_eq, List.getElem?_cons_succ, List.getElem?_cons_zero, bnd_v, k, retR_some]
    rfl
  show exs (callN defs (n + 2)) [.ifs _ _ [], .ifs _ _ [], .ret (.join _ (.rev _))] _ = _
  rw [exs_step (no2 2 w2 _), exs_step (no2 3 w3 _), exs_cons, ex_ret, retV_eq, vr_join]
  dsimp only
  rw [ev_join, ev_cst, bnd_v, strK_str, g1, bnd_fr, jn, retR_some]
  rfl
end G

set_option Elab.async false
set_option linter.all false
set_option maxRecDepth 100000
set_option maxHeartbeats 4000000
set_option autoImplicit false
/-! PQ5: the law k12. -/
namespace G
open PySem MX TL
variable {n : Nat}
theorem callL_any {cl : CL} {f : Nat} {as : List Sl} {S : SS} {d : D} (h : cl.out f as = some (.v d)) (hf : d.flat = true) : callL S (cl.run f as) = some (.v d, S) := by
  obtain ⟨S', e⟩ := run_of h
  rw [e, callL_v hf]
theorem e_told : defs 48 = some d__law_told := rfl
theorem o_told_v {l : Nat} {cs : List D} {d : D} (h : (callN defs n).out (lamN l) (valsS cs) = some (.v d)) : (callN defs (n + 1)).out 48 [.val (.clo l cs)] = some (.v (.tup [d, .str ""])) := by
  have cf : ∀ S : SS, callF (callN defs n) [] S (.clo l cs) = some (.v d, S) := fun S => by
    rw [callF_clo rfl]
    have h' : (callN defs n).out (lamN l) (valsS ([] ++ cs)) = some (.v d) := h
    rw [h', outV_some]
  rw [out_at e_told]
  simp [d__law_told, cf, trynR, PySem.sizeLine_eq]
theorem o_told_e {l : Nat} {cs : List D} {c : Nat} {x : Str} (hx : nmL.lookup c = some x) (h : (callN defs n).out (lamN l) (valsS cs) = some (.ex c)) : (callN defs (n + 1)).out 48 [.val (.clo l cs)] = some (.v (.tup [.non, .str x])) := by
  have cf : ∀ S : SS, callF (callN defs n) [] S (.clo l cs) = some (.ex c, S) := fun S => by
    rw [callF_clo rfl]
    have h' : (callN defs n).out (lamN l) (valsS ([] ++ cs)) = some (.ex c) := h
    rw [h', outV_some]
  rw [out_at e_told]
  simp [d__law_told, cf, trynR, hx, ndl]
theorem e_dl1 : defs (lamN 1) = some dl_1 := rfl
theorem e_dl2 : defs (lamN 2) = some dl_2 := rfl
theorem e_dl3 : defs (lamN 3) = some dl_3 := rfl
theorem e_dl4 : defs (lamN 4) = some dl_4 := rfl
theorem o_dl1 {x : Str} (hl : x.length ≤ 100000) (hx : Ok x) : (callN defs (n + 5)).out (lamN 1) (valsS [.str x]) = some (ansP (readW (words x))) := by
  have io : (callN defs (n + 4)).io 47 = false := io_at e_read_rule
  have o := o_read_rule (n := n) hl hx
  rw [out_at e_dl1]
  cases q : readW (words x) <;> rw [q] at o <;> simp [dl_1, io, o, ansP]
theorem o_dl2 {v : D} (h : (callN defs (n + 4)).out 47 [.val v] = some (.ex 11)) : (callN defs (n + 5)).out (lamN 2) (valsS [v]) = some (.ex 11) := by
  have io : (callN defs (n + 4)).io 47 = false := io_at e_read_rule
  rw [out_at e_dl2]
  simp [dl_2, io, h]
theorem o_dl3 {r : Ru} (h : r.Ok) : (callN defs (n + 5)).out (lamN 3) (valsS [r.d]) = some (.v (.str (textR r))) := by
  have io : (callN defs (n + 4)).io 44 = false := io_at e_rule_text
  have o := o_rule_text (n := n) h
  rw [out_at e_dl3]
  simp [dl_3, io, o]
def r9 : Ru := ⟨3, 2, .half, 2, 2⟩
theorem r9_ok : r9.Ok := ⟨by decide, by decide, by decide, by decide⟩
theorem r9_text : textR r9 = "from -3 to 2 half each 2 by 2" := by decide +kernel
theorem o_dl4 : (callN defs (n + 5)).out (lamN 4) (valsS []) = some (.v r9.d) := by
  have io : (callN defs (n + 4)).io 47 = false := io_at e_read_rule
  have o := o_read_rule (n := n) (x := "from -3 to 2 half each 2 by 2") (by decide +kernel) (ok_of (by decide +kernel))
  have w : readW (words "from -3 to 2 half each 2 by 2") = some r9 := by rw [← r9_text, words_textR r9_ok, readW_R r9_ok]
  rw [w] at o
  rw [out_at e_dl4]
  simp [dl_4, io, o, ansP]
/-! ### texts that are no rules -/
theorem joinL_app {S : List Nat} : ∀ {a b : List (List Nat)}, a ≠ [] → b ≠ [] → joinL S (a ++ b) = joinL S a ++ (S ++ joinL S b)
  | [], _, h, _ => absurd rfl h
  | [p], b, _, hb => by rw [List.cons_append, List.nil_append, joinL_cons hb]; rfl
  | p :: q :: r, b, _, hb => by
    rw [List.cons_append, joinL_cons (by simp), joinL_cons (r := q :: r) (by simp), joinL_app (a := q :: r) (by simp) hb]
    simp [List.append_assoc]
theorem join_app {a b : List Str} (ha : a ≠ []) (hb : b ≠ []) : Txt.join " " (a ++ b) = Txt.join " " a ++ (" " ++ Txt.join " " b) := by
  refine ext_tl ?_
  rw [join_eq, join_eq, join_eq, tl_append, tl_append, tl_join, tl_join, tl_join, List.map_append, joinL_app (by simpa using ha) (by simpa using hb)]
theorem str_app_assoc (a b c : Str) : a ++ b ++ c = a ++ (b ++ c) := ext_tl (by rw [tl_append, tl_append, tl_append, tl_append, List.append_assoc])
theorem join_one (a : Str) : Txt.join " " [a] = a := by rw [join_eq]; rfl
theorem none_len {x : Str} {ws : List Str} (e : x = Txt.join " " ws) (hn : ws ≠ []) (hs : ∀ p ∈ ws, 32 ∉ tl p) (hl : ws.length ≠ 9) : readW (words x) = none := by
  rw [e, words_join hn hs]
  exact readW_nine hl
def fr8 (r : Ru) : List Str := ["from", "-" ++ fg r.lo, "to", fg r.hi, r.way.s, "each", fg r.ev, "by"]
def no1 : List Str := [""]
def by1 : List Str := ["by", "1"]
theorem odd_nl {r : Ru} (h : r.Ok) : readW (words (textR r ++ "\n")) = none := by
  have d := fg_facts (i := r.pc) ⟨h.pc.1, by have := h.pc.2; omega⟩
  have e : textR r ++ "\n" = Txt.join " " (fr8 r ++ [fg r.pc ++ "\n"]) := by
    have e1 : textR r = Txt.join " " (fr8 r) ++ (" " ++ Txt.join " " [fg r.pc]) := join_app (a := fr8 r) (b := [fg r.pc]) (by simp [fr8]) (by simp)
    have e2 := join_app (a := fr8 r) (b := [fg r.pc ++ "\n"]) (by simp [fr8]) (by simp)
    rw [e2, e1, join_one, join_one, str_app_assoc, str_app_assoc]
  have ws := words_ok h
  have sp : ∀ p ∈ fr8 r ++ [fg r.pc ++ "\n"], 32 ∉ tl p := by
    intro p hp
    rcases List.mem_append.mp hp with m | m
    · exact (ws p (List.mem_append_left [fg r.pc] m)).1
    · rw [List.mem_singleton.mp m]
      exact d.2.2.2.2.2.1
  have rd : readW (fr8 r ++ [fg r.pc ++ "\n"]) = match wayO r.way.s with
      | some y => if frame "from" "to" "each" "by" = true ∧ okF ("-" ++ fg r.lo) (fg r.hi) (fg r.ev) (fg r.pc ++ "\n") = true then some (ruW ("-" ++ fg r.lo) (fg r.hi) (fg r.ev) (fg r.pc ++ "\n") y) else none
      | none => none := rfl
  rw [e, words_join (by simp) sp, rd, s_wayO]
  have k : okF ("-" ++ fg r.lo) (fg r.hi) (fg r.ev) (fg r.pc ++ "\n") = false := by
    unfold okF
    rw [d.2.2.2.2.2.2.1]
    simp
  simp [k]
theorem odd_pre {r : Ru} (h : r.Ok) : readW (words (" " ++ textR r)) = none := by
  have e := join_app (a := no1) (b := wordsR r) (by simp [no1]) (by simp [wordsR])
  have e0 : (" " : Str) ++ textR r = Txt.join " " (no1 ++ wordsR r) := by
    rw [e]
    have : Txt.join " " no1 = "" := join_one _
    rw [this]
    exact ext_tl (by rw [tl_append, tl_append, tl_append]; rfl)
  refine none_len e0 (by simp [no1]) (fun p hp => ?_) (by simp [no1, wordsR])
  rcases List.mem_append.mp hp with hp | hp
  · rw [List.mem_singleton.mp hp]; decide +kernel
  · exact (words_ok h p hp).1
theorem odd_post {r : Ru} (h : r.Ok) : readW (words (textR r ++ " ")) = none := by
  have e := join_app (a := wordsR r) (b := no1) (by simp [wordsR]) (by simp [no1])
  have e0 : textR r ++ (" " : Str) = Txt.join " " (wordsR r ++ no1) := by
    rw [e]
    have : Txt.join " " no1 = "" := join_one _
    rw [this]
    have : (" " : Str) ++ "" = " " := by decide +kernel
    rw [this]
    rfl
  refine none_len e0 (by simp [wordsR]) (fun p hp => ?_) (by simp [no1, wordsR])
  rcases List.mem_append.mp hp with hp | hp
  · exact (words_ok h p hp).1
  · rw [List.mem_singleton.mp hp]; decide +kernel
theorem odd_by {r : Ru} (h : r.Ok) : readW (words (textR r ++ " by 1")) = none := by
  have e := join_app (a := wordsR r) (b := by1) (by simp [wordsR]) (by simp [by1])
  have e0 : textR r ++ (" by 1" : Str) = Txt.join " " (wordsR r ++ by1) := by
    rw [e]
    have : (" " : Str) ++ Txt.join " " by1 = " by 1" := by decide +kernel
    rw [this]
    rfl
  refine none_len e0 (by simp [wordsR]) (fun p hp => ?_) (by simp [wordsR, by1])
  rcases List.mem_append.mp hp with hp | hp
  · exact (words_ok h p hp).1
  · simp only [by1, List.mem_cons, List.not_mem_nil, or_false] at hp
    rcases hp with rfl | rfl <;> decide +kernel
/-! ### the law -/
theorem e_law : defs 52 = some d_law := rfl
def bodyT : List MX.S := [.set 6 (.ite (.cmp .Lt (.var 5) (.cst (.int 3))) (.call 51 [.var 2, .var 4]) (.call 51 [.var 2, .call 51 [.var 2, .var 4]])), .set 7 (.call 50 [.var 6]), .ifs (.cmp .NotEq (.callL 48 1 [6] []) (.ite (.cmp .IsNot (.var 7) (.cst .non)) (.tup [.var 7, .cst (.str "")]) (.tup [.cst .non, .cst (.str "text")]))) [.ret (.cst (.bl false))] []]
def bodyO : List MX.S := [.ifs (.cmp .NotEq (.callL 30 2 [8] []) (.cst (.str "text"))) [.ret (.cst (.bl false))] []]
def oddsE : List E := [.cst .non, .cst (.int 5), .lst [.var 4], .cst (.bl true), .cst (.str ""), .cst (.str "\n"), .bin .Add (.var 4) (.cst (.str "\n")), .bin .Add (.cst (.str " ")) (.var 4), .bin .Add (.var 4) (.cst (.str " ")), .bin .Add (.var 4) (.cst (.str " by 1"))]
def bodyL : List MX.S := [.set 2 (.call 15 [.var 0, .var 1]), .set 3 (.call 19 [.var 2]), .set 4 (.call 49 [.var 3]), .ifs (.or (.cmp .NotEq (.call 44 [.var 3]) (.var 4)) (.cmp .NotEq (.call 47 [.var 4]) (.var 3))) [.ret (.cst (.bl false))] [], .for_ (.nm 5) .rng1 [.cst (.int 6)] bodyT, .for_ (.nm 8) .seq [.lst oddsE] bodyO, .ifs (.not (.call 32 [.cst (.fn 44 "rule_text"), .call 33 [], .cst (.str "rule")])) [.ret (.cst (.bl false))] []]
theorem ru_okD (r : Ru) {m : Nat} : okD (m + 1) r.d = true := by
  have w := (way_ok r.way).2.1
  have : okD m (.str r.way.s) = true := by unfold okD; exact w
  unfold Ru.d
  simp [this]
theorem str_okD {x : Str} (h : Ok x) {m : Nat} : okD m (.str x) = true := by unfold okD; exact ok_str h
theorem turn_T {r : Ru} (hr : r.Ok) (i : Nat) (es : List Int) {s0 s1 s3 s6 s7 s8 s9 : Sl} : ∃ es' s6' s7', exs (callN defs 15) bodyT [s0, s1, .own 0 (intsD es), s3, .val (.str (textR r)), .val (.int (0 + (i : Int))), s6, s7, s8, s9] = some (.nx, [s0, s1, .own 0 (intsD es'), s3, .val (.str (textR r)), .val (.int (0 + (i : Int))), s6', s7', s8, s9]) := by
  have i51 : (callN defs 15).io 51 = true := io_bent
  have i50 : (callN defs 15).io 50 = false := io_at e_lread
  have i48 : (callN defs 15).io 48 = false := io_at e_told
  have bent : ∃ (y : Str) (es' : List Int), y.length ≤ 10000 ∧ Ok y ∧ ex (callN defs 15) (.set 6 (.ite (.cmp .Lt (.var 5) (.cst (.int 3))) (.call 51 [.var 2, .var 4]) (.call 51 [.var 2, .call 51 [.var 2, .var 4]]))) [s0, s1, .own 0 (intsD es), s3, .val (.str (textR r)), .val (.int (0 + (i : Int))), s6, s7, s8, s9] = some (.nx, [s0, s1, .own 0 (intsD es'), s3, .val (.str (textR r)), .val (.int (0 + (i : Int))), .val (.str y), s7, s8, s9]) := by
    obtain ⟨y1, es1, Z1, l1, k1, h1⟩ := r_bent (n := 12) (B := 40) es (textR_len hr) (by decide) (textR_ok hr)
    have h1' : (callN defs 15).run 51 [.own 1 (intsD es), .val (.str (textR r))] = _ := h1
    obtain ⟨T, eT⟩ : ∃ T, textR r = T := ⟨_, rfl⟩
    rw [eT] at h1' ⊢
    by_cases q : (0 : Int) + (i : Int) < 3
    · refine ⟨y1, es1, by omega, k1, ?_⟩
      have cc : ev (callN defs 15) (.cmp .Lt (.var 5) (.cst (.int 3))) [s0, s1, .own 0 (intsD es), s3, .val (.str T), .val (.int (0 + (i : Int))), s6, s7, s8, s9] = some (.v (.bl true), [s0, s1, .own 0 (intsD es), s3, .val (.str T), .val (.int (0 + (i : Int))), s6, s7, s8, s9]) := by
        simp
        omega
      rw [ex_set, ev_ite, cc, bnd_v, ifB_true]
      simp -implicitDefEqProofs [i51, h1']
    · obtain ⟨y2, es2, Z2, l2, k2, h2⟩ := r_bent (n := 12) (B := 170) es1 l1 (by decide) k1
      have h2' : (callN defs 15).run 51 [.own 1 (intsD es1), .val (.str y1)] = _ := h2
      refine ⟨y2, es2, by omega, k2, ?_⟩
      have cc : ev (callN defs 15) (.cmp .Lt (.var 5) (.cst (.int 3))) [s0, s1, .own 0 (intsD es), s3, .val (.str T), .val (.int (0 + (i : Int))), s6, s7, s8, s9] = some (.v (.bl false), [s0, s1, .own 0 (intsD es), s3, .val (.str T), .val (.int (0 + (i : Int))), s6, s7, s8, s9]) := by
        simp
        omega
      rw [ex_set, ev_ite, cc, bnd_v, ifB_false]
      simp -implicitDefEqProofs [i51, h1', h2']
  obtain ⟨y, es', ly, ky, S1⟩ := bent
  have o50 : (callN defs 15).out 50 [.val (.str y)] = some (.v (ansL (readW (words y)))) := o_lread (n := 14) (by omega) ky
  have S2 : ex (callN defs 15) (.set 7 (.call 50 [.var 6])) [s0, s1, .own 0 (intsD es'), s3, .val (.str (textR r)), .val (.int (0 + (i : Int))), .val (.str y), s7, s8, s9] = some (.nx, [s0, s1, .own 0 (intsD es'), s3, .val (.str (textR r)), .val (.int (0 + (i : Int))), .val (.str y), .val (ansL (readW (words y))), s8, s9]) := by
    simp -implicitDefEqProofs [i50, o50]
  have d1 := o_dl1 (n := 9) (x := y) (by omega) ky
  have ee : Ok "" := ok_of (by decide +kernel)
  have et : Ok "text" := ok_of (by decide +kernel)
  have S3 : ex (callN defs 15) (.ifs (.cmp .NotEq (.callL 48 1 [6] []) (.ite (.cmp .IsNot (.var 7) (.cst .non)) (.tup [.var 7, .cst (.str "")]) (.tup [.cst .non, .cst (.str "text")]))) [.ret (.cst (.bl false))] []) [s0, s1, .own 0 (intsD es'), s3, .val (.str (textR r)), .val (.int (0 + (i : Int))), .val (.str y), .val (ansL (readW (words y))), s8, s9] =
      some (.nx, [s0, s1, .own 0 (intsD es'), s3, .val (.str (textR r)), .val (.int (0 + (i : Int))), .val (.str y), .val (ansL (readW (words y))), s8, s9]) := by
    cases q : readW (words y) with
    | none =>
      rw [q] at d1
      have d1 : (callN defs 14).out (lamN 1) (valsS [.str y]) = some (.ex 11) := d1
      have t : (callN defs 15).out 48 [.val (.clo 1 [.str y])] = some (.v (.tup [.non, .str "text"])) := o_told_e (n := 14) (c := 11) rfl d1
      have c := fun S => callL_any (S := S) t rfl
      have e : eqD (.tup [.non, .str "text"]) (.tup [.non, .str "text"]) = some true := eqD_self (by rw [okD_tup, okL_cons, okL_cons, str_okD et, okL_nil, okD_non]; rfl)
      have s : cmpD .IsNot .non .non = some false := rfl
      simp -implicitDefEqProofs [capS, capK, c, ansL, s, e, PySem.sizeLine_eq]
    | some z =>
      rw [q] at d1
      have d1 : (callN defs 14).out (lamN 1) (valsS [.str y]) = some (.v z.d) := d1
      have t : (callN defs 15).out 48 [.val (.clo 1 [.str y])] = some (.v (.tup [z.d, .str ""])) := o_told_v (n := 14) d1
      have c := fun S => callL_any (S := S) t rfl
      have e : eqD (.tup [z.d, .str ""]) (.tup [z.d, .str ""]) = some true := eqD_self (by rw [okD_tup, okL_cons, okL_cons, str_okD ee, okL_nil, ru_okD]; rfl)
      have s : cmpD .IsNot z.d .non = some true := rfl
      simp -implicitDefEqProofs [capS, capK, c, ansL, s, e, PySem.sizeLine_eq]
  refine ⟨es', .val (.str y), .val (ansL (readW (words y))), ?_⟩
  unfold bodyT
  rw [exs_step S1, exs_step S2, exs_step S3, exs_nil]
def odds (x : Str) : List D := [.non, .int 5, .lst [.str x], .bl true, .str "", .str "\n", .str (x ++ "\n"), .str (" " ++ x), .str (x ++ " "), .str (x ++ " by 1")]
theorem odds_all {r : Ru} (hr : r.Ok) : ∀ o ∈ odds (textR r), (callN defs (n + 4)).out 47 [.val o] = some (.ex 11) := by
  intro o ho
  have l := textR_len hr
  have k := textR_ok hr
  have st : ∀ {x : Str}, x.length ≤ 100000 → Ok x → readW (words x) = none → (callN defs (n + 4)).out 47 [.val (.str x)] = some (.ex 11) := fun h1 h2 h3 => by
    have := o_read_rule (n := n) h1 h2
    rw [h3] at this
    exact this
  have l1 : ("\n" : Str).length = 1 := by decide +kernel
  have l2 : (" " : Str).length = 1 := by decide +kernel
  have l3 : (" by 1" : Str).length = 5 := by decide +kernel
  have k1 : Ok "\n" := ok_of (by decide +kernel)
  have k2 : Ok " " := ok_of (by decide +kernel)
  have k3 : Ok " by 1" := ok_of (by decide +kernel)
  simp only [odds, List.mem_cons, List.not_mem_nil, or_false] at ho
  rcases ho with rfl | rfl | rfl | rfl | rfl | rfl | rfl | rfl | rfl | rfl
  · exact o_read_no rfl
  · exact o_read_no rfl
  · exact o_read_no rfl
  · exact o_read_no rfl
  · exact st (by decide +kernel) (ok_of (by decide +kernel)) (by
      have : words "" = ([""] : List Str) := by decide +kernel
      rw [this]; rfl)
  · exact st (by decide +kernel) k1 (by
      have : words "\n" = (["\n"] : List Str) := by decide +kernel
      rw [this]; rfl)
  · exact st (by rw [app_len]; omega) (ok_app k k1) (odd_nl hr)
  · exact st (by rw [app_len]; omega) (ok_app k2 k) (odd_pre hr)
  · exact st (by rw [app_len]; omega) (ok_app k k2) (odd_post hr)
  · exact st (by rw [app_len]; omega) (ok_app k k3) (odd_by hr)
theorem turn_O {r : Ru} (hr : r.Ok) {o : D} (ho : o ∈ odds (textR r)) {s0 s1 s2 s3 s4 s5 s6 s7 s9 : Sl} : exs (callN defs 15) bodyO [s0, s1, s2, s3, s4, s5, s6, s7, .val o, s9] = some (.nx, [s0, s1, s2, s3, s4, s5, s6, s7, .val o, s9]) := by
  have d2 := o_dl2 (n := 9) (odds_all (n := 9) hr o ho)
  have t : (callN defs 15).out 30 [.val (.clo 2 [o])] = some (.v (.str "text")) := o_err (n := 14) (c := 11) rfl d2
  have c := fun S => callL_out (S := S) t
  have et : Ok "text" := ok_of (by decide +kernel)
  have e : eqD (.str "text") (.str "text") = some true := eqD_self (str_okD et)
  unfold bodyO
  simp -implicitDefEqProofs [capS, capK, c, e]
theorem turn_L {ns : List Int} (i : Nat) (hi : i < 1000) {s2 s3 s4 s5 s6 s7 s8 s9 : Sl} : ∃ s2' s3' s4' s5' s6' s7' s8', exs (callN defs 15) bodyL [.val (.scr ns), .val (.int i), s2, s3, s4, s5, s6, s7, s8, s9] = some (.nx, [.val (.scr ns), .val (.int i), s2', s3', s4', s5', s6', s7', s8', s9]) := by
  obtain ⟨ds, hb⟩ := o_bag (n := 12) ns i hi
  have i15 : (callN defs 15).io 15 = false := io_at e_bag
  have hb' : (callN defs 15).out 15 [.val (.scr ns), .val (.int i)] = _ := hb
  have S1 : ex (callN defs 15) (.set 2 (.call 15 [.var 0, .var 1])) [.val (.scr ns), .val (.int i), s2, s3, s4, s5, s6, s7, s8, s9] = some (.nx, [.val (.scr ns), .val (.int i), .own 0 (intsD ds), s3, s4, s5, s6, s7, s8, s9]) := by
    simp -implicitDefEqProofs [i15, hb']
  obtain ⟨r, es, Z, hr, er⟩ := r_rule (n := 12) ds
  have er' : (callN defs 15).run 19 [.own 1 (intsD ds)] = _ := er
  have S2 : ex (callN defs 15) (.set 3 (.call 19 [.var 2])) [.val (.scr ns), .val (.int i), .own 0 (intsD ds), s3, s4, s5, s6, s7, s8, s9] = some (.nx, [.val (.scr ns), .val (.int i), .own 0 (intsD es), .val r.d, s4, s5, s6, s7, s8, s9]) := by
    simp -implicitDefEqProofs [io_rule, er']
  have i49 : (callN defs 15).io 49 = false := io_at e_law_text
  have i44 : (callN defs 15).io 44 = false := io_at e_rule_text
  have i47 : (callN defs 15).io 47 = false := io_at e_read_rule
  have i32 : (callN defs 15).io 32 = false := io_at e_all_refused
  have i33 : (callN defs 15).io 33 = false := io_at e_bad_rules
  have o49 : (callN defs 15).out 49 [.val r.d] = some (.v (.str (textR r))) := o_law_text (n := 14) hr
  have o44 : (callN defs 15).out 44 [.val r.d] = some (.v (.str (textR r))) := o_rule_text (n := 11) hr
  have o47 : (callN defs 15).out 47 [.val (.str (textR r))] = some (.v r.d) := by
    have o := o_read_rule (n := 11) (x := textR r) (by have := textR_len hr; omega) (textR_ok hr)
    rw [words_textR hr, readW_R hr] at o
    exact o
  have S3 : ex (callN defs 15) (.set 4 (.call 49 [.var 3])) [.val (.scr ns), .val (.int i), .own 0 (intsD es), .val r.d, s4, s5, s6, s7, s8, s9] = some (.nx, [.val (.scr ns), .val (.int i), .own 0 (intsD es), .val r.d, .val (.str (textR r)), s5, s6, s7, s8, s9]) := by
    simp -implicitDefEqProofs [i49, o49]
  have e1 : eqD (.str (textR r)) (.str (textR r)) = some true := eqD_self (str_okD (textR_ok hr))
  have e2 : eqD r.d r.d = some true := eqD_self (ru_okD r)
  have S4 : ex (callN defs 15) (.ifs (.or (.cmp .NotEq (.call 44 [.var 3]) (.var 4)) (.cmp .NotEq (.call 47 [.var 4]) (.var 3))) [.ret (.cst (.bl false))] []) [.val (.scr ns), .val (.int i), .own 0 (intsD es), .val r.d, .val (.str (textR r)), s5, s6, s7, s8, s9] = some (.nx, [.val (.scr ns), .val (.int i), .own 0 (intsD es), .val r.d, .val (.str (textR r)), s5, s6, s7, s8, s9]) := by
    simp -implicitDefEqProofs [i44, i47, o44, o47, e1, e2]
  obtain ⟨S', e5, es5, s5', s6', s7', rfl⟩ := ex_for_all (cl := callN defs 15) (tg := .nm 5) (k := .rng1) (args := [.cst (.int 6)]) (body := bodyT) (S := [.val (.scr ns), .val (.int i), .own 0 (intsD es), .val r.d, .val (.str (textR r)), s5, s6, s7, s8, s9]) (S0 := [.val (.scr ns), .val (.int i), .own 0 (intsD es), .val r.d, .val (.str (textR r)), s5, s6, s7, s8, s9]) (ds := [.int 6])
    (fun i : Nat => D.int (0 + (i : Int))) (fun done S' => ∃ es' s5' s6' s7', S' = [.val (.scr ns), .val (.int i), .own 0 (intsD es'), .val r.d, .val (.str (textR r)), s5', s6', s7', s8, s9]) (List.range (6 : Int).toNat) (by simp) (rng1_lit (by decide) (by decide)) ⟨es, s5, s6, s7, rfl⟩ (by
      rintro done j rest S e ⟨es', s5', s6', s7', rfl⟩
      obtain ⟨es2, a6, a7, h⟩ := turn_T hr j es' (s0 := .val (.scr ns)) (s1 := .val (.int i)) (s3 := .val r.d) (s6 := s6') (s7 := s7') (s8 := s8) (s9 := s9)
      exact ⟨_, _, rfl, .inl h, es2, _, a6, a7, rfl⟩)
  have le := textR_len hr
  have l1 : ("\n" : Str).length = 1 := by decide +kernel
  have l2 : (" " : Str).length = 1 := by decide +kernel
  have l3 : (" by 1" : Str).length = 5 := by decide +kernel
  have a1 := add_str (x := textR r) (y := "\n") (by omega)
  have a2 := add_str (x := " ") (y := textR r) (by omega)
  have a3 := add_str (x := textR r) (y := " ") (by omega)
  have a4 := add_str (x := textR r) (y := " by 1") (by omega)
  obtain ⟨S', e6, s8', rfl⟩ := ex_for_all (cl := callN defs 15) (tg := .nm 8) (k := .seq) (args := [.lst oddsE]) (body := bodyO) (S := [.val (.scr ns), .val (.int i), .own 0 (intsD es5), .val r.d, .val (.str (textR r)), s5', s6', s7', s8, s9]) (S0 := [.val (.scr ns), .val (.int i), .own 0 (intsD es5), .val r.d, .val (.str (textR r)), s5', s6', s7', s8, s9]) (ds := [.lst (odds (textR r))])
    id (fun done S' => ∃ s8', S' = [.val (.scr ns), .val (.int i), .own 0 (intsD es5), .val r.d, .val (.str (textR r)), s5', s6', s7', s8', s9]) (odds (textR r)) (by
      simp -implicitDefEqProofs [oddsE, odds, a1, a2, a3, a4, PySem.sizeLine_eq]) (by rw [List.map_id]; rfl) ⟨s8, rfl⟩ (by
      rintro done o rest S e ⟨s8', rfl⟩
      have ho : o ∈ odds (textR r) := by rw [← e]; simp
      exact ⟨_, _, rfl, .inl (turn_O hr ho), .val o, rfl⟩)
  have oR : (callN defs 15).out 33 [] = some (.fr (.lst badR)) := o_badR (n := 14)
  have sr : PyData.strOk "rule" = true := by decide +kernel
  have nm : (callN defs 12).nm 44 = some "rule_text" := nm_at e_rule_text
  have o32 : (callN defs 15).out 32 [.val (.fn 44 "rule_text"), .val (.lst badR), .val (.str "rule")] = some (.v (.bl true)) := o_all_refused (n := 12) (cv := .fn 44 "rule_text") (os := badR) (c := 1) (x := "rule") rfl sr (by decide) (fun k => calB_fn nm) fun o ho S => by
    obtain ⟨_, h2, h3⟩ := badR_all o ho
    rw [callF_fn nm]
    have := o_bad_rule_text (n := 8) h2 h3
    have this' : (callN defs 12).out 44 (valsS [o]) = some (.ex 1) := this
    rw [this', outV_some]
  have S7 : ex (callN defs 15) (.ifs (.not (.call 32 [.cst (.fn 44 "rule_text"), .call 33 [], .cst (.str "rule")])) [.ret (.cst (.bl false))] []) [.val (.scr ns), .val (.int i), .own 0 (intsD es5), .val r.d, .val (.str (textR r)), s5', s6', s7', s8', s9] = some (.nx, [.val (.scr ns), .val (.int i), .own 0 (intsD es5), .val r.d, .val (.str (textR r)), s5', s6', s7', s8', s9]) := by
    simp -implicitDefEqProofs [i32, i33, oR, o32]
  refine ⟨.own 0 (intsD es5), .val r.d, .val (.str (textR r)), s5', s6', s7', s8', ?_⟩
  unfold bodyL
  rw [exs_step S1, exs_step S2, exs_step S3, exs_step S4, exs_step e5, exs_step e6, exs_step S7, exs_nil]
def badT : List Str := ["from 2 to 2 edge each 1 by 1", "from -2 to 7 edge each 1 by 1", "from -2 to 2 edge each 4 by 1", "from -2 to 2 each 1 edge by 1", "from -02 to 2 edge each 1 by 1", "from -2 to 2 Edge each 1 by 1", "from -2 to 2 edge by 1 each 1", "from -2 to 2 edge each 1"]
theorem badT_all : ∀ x ∈ badT, x.length ≤ 100000 ∧ PyData.strOk x = true ∧ (readW (words x)).isNone = true := by
  intro x hx
  have h := List.all_eq_true.mp (show (badT.all fun x => decide (x.length ≤ 100000) && (PyData.strOk x && (readW (words x)).isNone)) = true by decide +kernel) x hx
  simpa using h
def lev : Nat := 16
theorem law_true : MX.LawTrue defs lev 52 63 := by
  intro ns _ _
  obtain ⟨S', e, s1, s2, s3, s4, s5, s6, s7, s8, rfl⟩ := ex_for_all (cl := callN defs 15) (tg := .nm 1) (k := .rng1) (args := [.cst (.int 8)]) (body := bodyL) (S := [.val (.scr ns), .un, .un, .un, .un, .un, .un, .un, .un, .un]) (S0 := [.val (.scr ns), .un, .un, .un, .un, .un, .un, .un, .un, .un]) (ds := [.int 8])
    (fun i : Nat => D.int (0 + (i : Int))) (fun done S' => ∃ s1 s2 s3 s4 s5 s6 s7 s8, S' = [.val (.scr ns), s1, s2, s3, s4, s5, s6, s7, s8, .un]) (List.range (8 : Int).toNat) (by simp) (rng1_lit (by decide) (by decide)) ⟨_, _, _, _, _, _, _, _, rfl⟩ (by
      rintro done i rest S e ⟨s1, s2, s3, s4, s5, s6, s7, s8, rfl⟩
      have hi : i < (8 : Int).toNat := by
        have : i ∈ List.range (8 : Int).toNat := by rw [← e]; simp
        exact List.mem_range.mp this
      have hi2 : i < 8 := hi
      obtain ⟨a2, a3, a4, a5, a6, a7, a8, e1⟩ := turn_L (ns := ns) i (by omega) (s2 := s2) (s3 := s3) (s4 := s4) (s5 := s5) (s6 := s6) (s7 := s7) (s8 := s8) (s9 := .un)
      rw [← Int.zero_add (i : Int)] at e1
      exact ⟨_, _, rfl, .inl e1, _, _, _, _, _, _, _, _, rfl⟩)
  have i32 : (callN defs 15).io 32 = false := io_at e_all_refused
  have nm : (callN defs 12).nm 47 = some "read_rule" := nm_at e_read_rule
  have stx : PyData.strOk "text" = true := by decide +kernel
  have o32 : (callN defs 15).out 32 [.val (.fn 47 "read_rule"), .val (.lst (badT.map D.str)), .val (.str "text")] = some (.v (.bl true)) := o_all_refused (n := 12) (cv := .fn 47 "read_rule") (os := badT.map D.str) (c := 11) (x := "text") rfl stx (by decide) (fun k => calB_fn nm) fun o ho S => by
    obtain ⟨x, hx, rfl⟩ := mem_str ho
    obtain ⟨h1, h2, h3⟩ := badT_all x hx
    rw [callF_fn nm]
    have o := o_read_rule (n := 8) h1 (ok_of h2)
    rw [Option.isNone_iff_eq_none.mp h3] at o
    have o' : (callN defs 12).out 47 (valsS [.str x]) = some (.ex 11) := o
    rw [o', outV_some]
  have o32' : (callN defs 15).out 32 [.val (.fn 47 "read_rule"), .val (.lst [.str "from 2 to 2 edge each 1 by 1", .str "from -2 to 7 edge each 1 by 1", .str "from -2 to 2 edge each 4 by 1", .str "from -2 to 2 each 1 edge by 1", .str "from -02 to 2 edge each 1 by 1", .str "from -2 to 2 Edge each 1 by 1", .str "from -2 to 2 edge by 1 each 1", .str "from -2 to 2 edge each 1"]), .val (.str "text")] = some (.v (.bl true)) := o32
  have b1 := bin_catL (xs := [.str "from 2 to 2 edge each 1 by 1", .str "from -2 to 7 edge each 1 by 1", .str "from -2 to 2 edge each 4 by 1"]) (ys := [.str "from -2 to 2 each 1 edge by 1", .str "from -02 to 2 edge each 1 by 1", .str "from -2 to 2 Edge each 1 by 1"]) (by simp [PySem.sizeLine_eq])
  have b2 := bin_catL (xs := [.str "from 2 to 2 edge each 1 by 1", .str "from -2 to 7 edge each 1 by 1", .str "from -2 to 2 edge each 4 by 1", .str "from -2 to 2 each 1 edge by 1", .str "from -02 to 2 edge each 1 by 1", .str "from -2 to 2 Edge each 1 by 1"]) (ys := [.str "from -2 to 2 edge by 1 each 1", .str "from -2 to 2 edge each 1"]) (by simp [PySem.sizeLine_eq])
  simp only [List.cons_append, List.nil_append] at b1 b2
  have F1 : ex (callN defs 15) (.set 9 (.lst [.cst (.str "from 2 to 2 edge each 1 by 1"), .cst (.str "from -2 to 7 edge each 1 by 1"), .cst (.str "from -2 to 2 edge each 4 by 1")])) [.val (.scr ns), s1, s2, s3, s4, s5, s6, s7, s8, .un] = some (.nx, [.val (.scr ns), s1, s2, s3, s4, s5, s6, s7, s8, .own 0 (.lst [.str "from 2 to 2 edge each 1 by 1", .str "from -2 to 7 edge each 1 by 1", .str "from -2 to 2 edge each 4 by 1"])]) := by
    simp -implicitDefEqProofs [PySem.sizeLine_eq]
  have F2 : ex (callN defs 15) (.set 9 (.bin .Add (.var 9) (.lst [.cst (.str "from -2 to 2 each 1 edge by 1"), .cst (.str "from -02 to 2 edge each 1 by 1"), .cst (.str "from -2 to 2 Edge each 1 by 1")]))) [.val (.scr ns), s1, s2, s3, s4, s5, s6, s7, s8, .own 0 (.lst [.str "from 2 to 2 edge each 1 by 1", .str "from -2 to 7 edge each 1 by 1", .str "from -2 to 2 edge each 4 by 1"])] = some (.nx, [.val (.scr ns), s1, s2, s3, s4, s5, s6, s7, s8, .own 0 (.lst [.str "from 2 to 2 edge each 1 by 1", .str "from -2 to 7 edge each 1 by 1", .str "from -2 to 2 edge each 4 by 1", .str "from -2 to 2 each 1 edge by 1", .str "from -02 to 2 edge each 1 by 1", .str "from -2 to 2 Edge each 1 by 1"])]) := by
    simp -implicitDefEqProofs [PySem.sizeLine_eq, b1]
  obtain ⟨s9, F3⟩ : ∃ s9, ex (callN defs 15) (.ifs (.not (.call 32 [.cst (.fn 47 "read_rule"), .bin .Add (.var 9) (.lst [.cst (.str "from -2 to 2 edge by 1 each 1"), .cst (.str "from -2 to 2 edge each 1")]), .cst (.str "text")])) [.ret (.cst (.bl false))] []) [.val (.scr ns), s1, s2, s3, s4, s5, s6, s7, s8, .own 0 (.lst [.str "from 2 to 2 edge each 1 by 1", .str "from -2 to 7 edge each 1 by 1", .str "from -2 to 2 edge each 4 by 1", .str "from -2 to 2 each 1 edge by 1", .str "from -02 to 2 edge each 1 by 1", .str "from -2 to 2 Edge each 1 by 1"])] = some (.nx, [.val (.scr ns), s1, s2, s3, s4, s5, s6, s7, s8, s9]) :=
    ⟨.val (.lst [.str "from 2 to 2 edge each 1 by 1", .str "from -2 to 7 edge each 1 by 1", .str "from -2 to 2 edge each 4 by 1", .str "from -2 to 2 each 1 edge by 1", .str "from -02 to 2 edge each 1 by 1", .str "from -2 to 2 Edge each 1 by 1"]), by simp -implicitDefEqProofs [PySem.sizeLine_eq, b2, i32, o32']⟩
  have F4 : ex (callN defs 15) (.set 7 (.tup [.cst (.int 3), .cst (.int 2), .cst (.str "half"), .cst (.int 2), .cst (.int 2)])) [.val (.scr ns), s1, s2, s3, s4, s5, s6, s7, s8, s9] = some (.nx, [.val (.scr ns), s1, s2, s3, s4, s5, s6, .val r9.d, s8, s9]) := by
    simp -implicitDefEqProofs [PySem.sizeLine_eq, r9, Ru.d, Way.s]
  have t3 : (callN defs 15).out 48 [.val (.clo 3 [r9.d])] = some (.v (.tup [.str "from -3 to 2 half each 2 by 2", .str ""])) := by
    rw [← r9_text]
    exact o_told_v (n := 14) (o_dl3 (n := 9) r9_ok)
  have t4 : (callN defs 15).out 48 [.val (.clo 4 [])] = some (.v (.tup [r9.d, .str ""])) := o_told_v (n := 14) (o_dl4 (n := 9))
  have c3 := fun S => callL_any (S := S) t3 rfl
  have c4 := fun S => callL_any (S := S) t4 rfl
  have ee : Ok "" := ok_of (by decide +kernel)
  have e3 : eqD (.tup [.str "from -3 to 2 half each 2 by 2", .str ""]) (.tup [.str "from -3 to 2 half each 2 by 2", .str ""]) = some true := eqD_self (by decide +kernel)
  have e4 : eqD (.tup [r9.d, .str ""]) (.tup [r9.d, .str ""]) = some true := eqD_self (by decide +kernel)
  obtain ⟨R9, eR⟩ : ∃ d, r9.d = d := ⟨_, rfl⟩
  rw [eR] at F4 t3 t4 e4
  simp only [eR] at c3 c4
  have F5 : ex (callN defs 15) (.ifs (.cmp .NotEq (.callL 48 3 [7] []) (.tup [.cst (.str "from -3 to 2 half each 2 by 2"), .cst (.str "")])) [.ret (.cst (.bl false))] []) [.val (.scr ns), s1, s2, s3, s4, s5, s6, .val R9, s8, s9] = some (.nx, [.val (.scr ns), s1, s2, s3, s4, s5, s6, .val R9, s8, s9]) := by
    simp -implicitDefEqProofs [capS, capK, c3, e3, PySem.sizeLine_eq]
  refine ⟨[.val (.scr ns), s1, s2, s3, s4, s5, s6, .val R9, s8, s9], ?_⟩
  refine run_body e_law rfl ?_
  show exs (callN defs 15) [.for_ (.nm 1) .rng1 [.cst (.int 8)] bodyL, _, _, _, _, _, .ret (.cmp .Eq (.callL 48 4 [] []) (.tup [.var 7, .cst (.str "")]))] [.val (.scr ns), .un, .un, .un, .un, .un, .un, .un, .un, .un] = _
  rw [exs_step e, exs_step F1, exs_step F2, exs_step F3, exs_step F4, exs_step F5]
  simp -implicitDefEqProofs [capS, capK, c4, e4, PySem.sizeLine_eq]
end G

set_option Elab.async false
set_option linter.all false
set_option maxRecDepth 100000
set_option maxHeartbeats 8000000
set_option autoImplicit false
/-! GB: the bodies of the defs of backinside_k12_texts_of_rules (printed by gen.py) -/
namespace G
open PySem PySem.Spec PyProof.Rows L2 MX
def top (i : Nat) : Stmt := PySem.Challenge.pw_backinside_k12_texts_of_rules.main.body.getD i (.Pass ⟨0, 0, 0, 0⟩)
structure Bd where
  P : Program
  w : World
  K : PySem.W.Frag
  mg : Str → Option Value
  base : Heap
  f : Addr
  cdv : Value
  A : Around
  outer : List Env
  s : Shared
  H : Hp
  E : XK
abbrev Bd.X (b : Bd) (N : List Str) (qual : Str) (st : Stmt) : Cx := cxOf (L2N.CX b.P b.w) b.P b.w b.K b.mg b.base N qual (defScope st) b.f b.cdv b.A b.outer b.s b.H b.E
abbrev Bd.Y (b : Bd) (N : List Str) (l : LamD) (cl : List (Str × Addr)) (c : Addr) : Cx := NdefX.ncx (L2N.CX b.P b.w) b.P b.w b.K b.mg b.base N (lamF l cl c) b.f b.A b.outer b.s b.H b.E
structure Tp (X : Cx) (C : MX.Ctx) : Prop where
  f_is_whole : FnG X C "is_whole" 0
  f_is_way : FnG X C "is_way" 1
  f_fits_rule : FnG X C "fits_rule" 2
  f_need_rule : FnG X C "need_rule" 4
  f_as_text : FnG X C "as_text" 43
  f_rule_text : FnG X C "rule_text" 44
  f_figure_in : FnG X C "figure_in" 45
  f_rule_in : FnG X C "rule_in" 46
  f_read_rule : FnG X C "read_rule" 47
  f__law_cell : FnG X C "_law_cell" 13
  f__law_draws : FnG X C "_law_draws" 14
  f__law_bag : FnG X C "_law_bag" 15
  f__law_take : FnG X C "_law_take" 16
  f__law_choice : FnG X C "_law_choice" 17
  f__law_known : FnG X C "_law_known" 18
  f__law_rule : FnG X C "_law_rule" 19
  f__law_error : FnG X C "_law_error" 30
  f__law_told : FnG X C "_law_told" 48
  f__law_all_refused : FnG X C "_law_all_refused" 32
  f__law_bad_rules : FnG X C "_law_bad_rules" 33
  f__law_text : FnG X C "_law_text" 49
  f__law_read : FnG X C "_law_read" 50
  f__law_bent : FnG X C "_law_bent" 51
  f_law : FnG X C "law" 52
  x_BandError : ExcG X C "BandError" 0
  x_InvalidRule : ExcG X C "InvalidRule" 1
  x_InvalidReach : ExcG X C "InvalidReach" 3
  x_InvalidCourse : ExcG X C "InvalidCourse" 2
  x_InvalidPrice : ExcG X C "InvalidPrice" 4
  x_InvalidNumber : ExcG X C "InvalidNumber" 5
  x_InvalidRounds : ExcG X C "InvalidRounds" 6
  x_InvalidSeen : ExcG X C "InvalidSeen" 7
  x_InvalidNoted : ExcG X C "InvalidNoted" 8
  x_InvalidStep : ExcG X C "InvalidStep" 9
  x_InvalidIndex : ExcG X C "InvalidIndex" 10
  x_InvalidText : ExcG X C "InvalidText" 11
  x_TooMany : ExcG X C "TooMany" 12
  x_Unlike : ExcG X C "Unlike" 13
  x_NothingToUndo : ExcG X C "NothingToUndo" 14
  k_WAYS : KG X "WAYS" D_WAYS
  k_MOST : KG X "MOST" D_MOST
  v_read_rule : KG X "read_rule" (.fn 47 "read_rule")
  v_rule_text : KG X "rule_text" (.fn 44 "rule_text")
  nmg : NmG X C "_law_named_error" nmL
  xf : XFG X C "BandError" nmL
  nov : X.mg "ValueError" = none
  lam : LamG X C
  all : FnN X C
theorem Tp.blk {X : Cx} {C : MX.Ctx} {s : Shared} {H : Hp} {scope : Scope} {cenv : Env} {fp : List Addr} (h : Tp X C) : Tp (X.blk s H scope cenv fp) C.nox := ⟨h.f_is_whole, h.f_is_way, h.f_fits_rule, h.f_need_rule, h.f_as_text, h.f_rule_text, h.f_figure_in, h.f_rule_in, h.f_read_rule, h.f__law_cell, h.f__law_draws, h.f__law_bag, h.f__law_take, h.f__law_choice, h.f__law_known, h.f__law_rule, h.f__law_error, h.f__law_told, h.f__law_all_refused, h.f__law_bad_rules, h.f__law_text, h.f__law_read, h.f__law_bent, h.f_law, h.x_BandError, h.x_InvalidRule, h.x_InvalidReach, h.x_InvalidCourse, h.x_InvalidPrice, h.x_InvalidNumber, h.x_InvalidRounds, h.x_InvalidSeen, h.x_InvalidNoted, h.x_InvalidStep, h.x_InvalidIndex, h.x_InvalidText, h.x_TooMany, h.x_Unlike, h.x_NothingToUndo, h.k_WAYS, h.k_MOST, h.v_read_rule, h.v_rule_text, h.nmg, h.xf, h.nov, h.lam, h.all⟩
theorem Tp.tr {X : Cx} {C : MX.Ctx} {pn : List (Addr × Obj)} {xe : Value → Shared → Prop} {W : WX} (h : Tp X C) : Tp (X.tr pn xe) { C with W := W } := ⟨h.f_is_whole, h.f_is_way, h.f_fits_rule, h.f_need_rule, h.f_as_text, h.f_rule_text, h.f_figure_in, h.f_rule_in, h.f_read_rule, h.f__law_cell, h.f__law_draws, h.f__law_bag, h.f__law_take, h.f__law_choice, h.f__law_known, h.f__law_rule, h.f__law_error, h.f__law_told, h.f__law_all_refused, h.f__law_bad_rules, h.f__law_text, h.f__law_read, h.f__law_bent, h.f_law, h.x_BandError, h.x_InvalidRule, h.x_InvalidReach, h.x_InvalidCourse, h.x_InvalidPrice, h.x_InvalidNumber, h.x_InvalidRounds, h.x_InvalidSeen, h.x_InvalidNoted, h.x_InvalidStep, h.x_InvalidIndex, h.x_InvalidText, h.x_TooMany, h.x_Unlike, h.x_NothingToUndo, h.k_WAYS, h.k_MOST, h.v_read_rule, h.v_rule_text, h.nmg, h.xf, h.nov, h.lam, h.all⟩
abbrev st_is_whole : Stmt := top 19
abbrev sc_is_whole : Scope := defScope (top 19)
theorem fs_is_whole : FnScope N_is_whole ["value", "low", "high"] (defScope (top 19)) := ⟨rfl, rfl, rfl, by decide +kernel, rfl, by decide +kernel, by decide +kernel⟩
theorem b_is_whole (b : Bd) (C : MX.Ctx) (g : Good (b.X N_is_whole "is_whole" (top 19)) C) (t : Tp (b.X N_is_whole "is_whole" (top 19)) C) (tk : L2N.Takes (b.X N_is_whole "is_whole" (top 19)) C.W) (pw : PassesOwn (model b.P b.w) (b.X N_is_whole "is_whole" (top 19)).A (b.X N_is_whole "is_whole" (top 19)).env (b.X N_is_whole "is_whole" (top 19)).xe) : SSs (b.X N_is_whole "is_whole" (top 19)) C (defBody (top 19)) d_is_whole.body := by
  have nd : N_is_whole.Nodup := fs_is_whole.nd
  exact b_cons (x_ret (s_and (s_isi (t := .int) g (s_nm 0) rfl rfl rfl) (s_and (s_not (s_isi (t := .bool) g (s_nm 0) rfl rfl rfl)) (s_one (s_chn (s_nm 1) (s_nm 0) (s_nm 2) rfl))))) (b_nil)
abbrev st_is_way : Stmt := top 20
abbrev sc_is_way : Scope := defScope (top 20)
theorem fs_is_way : FnScope N_is_way ["value"] (defScope (top 20)) := ⟨rfl, rfl, rfl, by decide +kernel, rfl, by decide +kernel, by decide +kernel⟩
theorem b_is_way (b : Bd) (C : MX.Ctx) (g : Good (b.X N_is_way "is_way" (top 20)) C) (t : Tp (b.X N_is_way "is_way" (top 20)) C) (tk : L2N.Takes (b.X N_is_way "is_way" (top 20)) C.W) (pw : PassesOwn (model b.P b.w) (b.X N_is_way "is_way" (top 20)).A (b.X N_is_way "is_way" (top 20)).env (b.X N_is_way "is_way" (top 20)).xe) : SSs (b.X N_is_way "is_way" (top 20)) C (defBody (top 20)) d_is_way.body := by
  have nd : N_is_way.Nodup := fs_is_way.nd
  exact b_cons (x_ret (s_and (s_isi (t := .str) g (s_nm 0) rfl rfl rfl) (s_one (s_cmp g (s_nm 0) (s_glob t.k_WAYS rfl) rfl)))) (b_nil)
abbrev st_fits_rule : Stmt := top 21
abbrev sc_fits_rule : Scope := defScope (top 21)
theorem fs_fits_rule : FnScope N_fits_rule ["value"] (defScope (top 21)) := ⟨rfl, rfl, rfl, by decide +kernel, rfl, by decide +kernel, by decide +kernel⟩
theorem b_fits_rule (b : Bd) (C : MX.Ctx) (g : Good (b.X N_fits_rule "fits_rule" (top 21)) C) (t : Tp (b.X N_fits_rule "fits_rule" (top 21)) C) (tk : L2N.Takes (b.X N_fits_rule "fits_rule" (top 21)) C.W) (pw : PassesOwn (model b.P b.w) (b.X N_fits_rule "fits_rule" (top 21)).A (b.X N_fits_rule "fits_rule" (top 21)).env (b.X N_fits_rule "fits_rule" (top 21)).xe) : SSs (b.X N_fits_rule "fits_rule" (top 21)) C (defBody (top 21)) d_fits_rule.body := by
  have nd : N_fits_rule.Nodup := fs_fits_rule.nd
  exact b_cons (x_ifs (w_pt (w_or (t_not (t_val (s_isi (t := .tuple) g (s_nm 0) rfl rfl rfl) (by intro _; rfl))) (w_or (t_cmp g (s_b1 (f := .len) g (s_nm 0) rfl rfl) (s_int) rfl) (w_or1 (t_not (t_val (s_call tk t.f_is_way rfl (by decide) (s_ix (s_nm 0) (s_int) (by intro _ _; rfl)) (l_nil) (stars1 (fun _ => rfl))) (by intro _; rfl))))))) (b_cons (x_ret (s_bl)) (b_nil)) (b_nil)) (b_cons (x_ifs (w_pt (w_or (t_not (t_val (s_call tk t.f_is_whole rfl (by decide) (s_ix (s_nm 0) (s_int) (by intro _ _; rfl)) (l_cons (s_int) (l_cons (s_glob t.k_MOST rfl) (l_nil) rfl) rfl) (stars3 (fun _ => rfl) (fun _ => rfl) (fun _ => rfl))) (by intro _; rfl))) (w_or1 (t_not (t_val (s_call tk t.f_is_whole rfl (by decide) (s_ix (s_nm 0) (s_int) (by intro _ _; rfl)) (l_cons (s_int) (l_cons (s_glob t.k_MOST rfl) (l_nil) rfl) rfl) (stars3 (fun _ => rfl) (fun _ => rfl) (fun _ => rfl))) (by intro _; rfl)))))) (b_cons (x_ret (s_bl)) (b_nil)) (b_nil)) (b_cons (x_ret (s_and (s_call tk t.f_is_whole rfl (by decide) (s_ix (s_nm 0) (s_int) (by intro _ _; rfl)) (l_cons (s_int) (l_cons (s_int) (l_nil) rfl) rfl) (stars3 (fun _ => rfl) (fun _ => rfl) (fun _ => rfl))) (s_one (s_call tk t.f_is_whole rfl (by decide) (s_ix (s_nm 0) (s_int) (by intro _ _; rfl)) (l_cons (s_int) (l_cons (s_int) (l_nil) rfl) rfl) (stars3 (fun _ => rfl) (fun _ => rfl) (fun _ => rfl)))))) (b_nil)))
abbrev st_need_rule : Stmt := top 22
abbrev sc_need_rule : Scope := defScope (top 22)
theorem fs_need_rule : FnScope N_need_rule ["value"] (defScope (top 22)) := ⟨rfl, rfl, rfl, by decide +kernel, rfl, by decide +kernel, by decide +kernel⟩
theorem b_need_rule (b : Bd) (C : MX.Ctx) (g : Good (b.X N_need_rule "need_rule" (top 22)) C) (t : Tp (b.X N_need_rule "need_rule" (top 22)) C) (tk : L2N.Takes (b.X N_need_rule "need_rule" (top 22)) C.W) (pw : PassesOwn (model b.P b.w) (b.X N_need_rule "need_rule" (top 22)).A (b.X N_need_rule "need_rule" (top 22)).env (b.X N_need_rule "need_rule" (top 22)).xe) : SSs (b.X N_need_rule "need_rule" (top 22)) C (defBody (top 22)) d_need_rule.body := by
  have nd : N_need_rule.Nodup := fs_need_rule.nd
  exact b_cons (x_ifs (t_not (t_val (s_call tk t.f_fits_rule rfl (by decide) (s_nm 0) (l_nil) (stars1 (fun _ => rfl))) (by intro _; rfl))) (b_cons (x_raise rfl tk t.x_InvalidRule rfl (by decide)) (b_nil)) (b_nil)) (b_nil)
abbrev st_as_text : Stmt := top 24
abbrev sc_as_text : Scope := defScope (top 24)
theorem fs_as_text : FnScope N_as_text ["rule"] (defScope (top 24)) := ⟨rfl, rfl, rfl, by decide +kernel, rfl, by decide +kernel, by decide +kernel⟩
theorem b_as_text (b : Bd) (C : MX.Ctx) (g : Good (b.X N_as_text "as_text" (top 24)) C) (t : Tp (b.X N_as_text "as_text" (top 24)) C) (tk : L2N.Takes (b.X N_as_text "as_text" (top 24)) C.W) (pw : PassesOwn (model b.P b.w) (b.X N_as_text "as_text" (top 24)).A (b.X N_as_text "as_text" (top 24)).env (b.X N_as_text "as_text" (top 24)).xe) : SSs (b.X N_as_text "as_text" (top 24)) C (defBody (top 24)) d_as_text.body := by
  have nd : N_as_text.Nodup := fs_as_text.nd
  exact b_cons (x_ret (s_fstr (j_str (j_fmt (s_ix (s_nm 0) (s_int) (by intro _ _; rfl)) (j_str (j_fmt (s_ix (s_nm 0) (s_int) (by intro _ _; rfl)) (j_str (j_fmt (s_ix (s_nm 0) (s_int) (by intro _ _; rfl)) (j_str (j_fmt (s_ix (s_nm 0) (s_int) (by intro _ _; rfl)) (j_str (j_fmt (s_ix (s_nm 0) (s_int) (by intro _ _; rfl)) (j_nil))))))))))))) (b_nil)
abbrev st_rule_text : Stmt := top 25
abbrev sc_rule_text : Scope := defScope (top 25)
theorem fs_rule_text : FnScope N_rule_text ["rule"] (defScope (top 25)) := ⟨rfl, rfl, rfl, by decide +kernel, rfl, by decide +kernel, by decide +kernel⟩
theorem b_rule_text (b : Bd) (C : MX.Ctx) (g : Good (b.X N_rule_text "rule_text" (top 25)) C) (t : Tp (b.X N_rule_text "rule_text" (top 25)) C) (tk : L2N.Takes (b.X N_rule_text "rule_text" (top 25)) C.W) (pw : PassesOwn (model b.P b.w) (b.X N_rule_text "rule_text" (top 25)).A (b.X N_rule_text "rule_text" (top 25)).env (b.X N_rule_text "rule_text" (top 25)).xe) : SSs (b.X N_rule_text "rule_text" (top 25)) C (defBody (top 25)) d_rule_text.body := by
  have nd : N_rule_text.Nodup := fs_rule_text.nd
  exact b_cons (x_exp (s_call tk t.f_need_rule rfl (by decide) (s_nm 0) (l_nil) (stars1 (fun _ => rfl))) rfl) (b_cons (x_ret (s_call tk t.f_as_text rfl (by decide) (s_nm 0) (l_nil) (stars1 (fun _ => rfl)))) (b_nil))
abbrev st_figure_in : Stmt := top 26
abbrev sc_figure_in : Scope := defScope (top 26)
theorem fs_figure_in : FnScope N_figure_in ["word"] (defScope (top 26)) := ⟨rfl, rfl, rfl, by decide +kernel, rfl, by decide +kernel, by decide +kernel⟩
theorem b_figure_in (b : Bd) (C : MX.Ctx) (g : Good (b.X N_figure_in "figure_in" (top 26)) C) (t : Tp (b.X N_figure_in "figure_in" (top 26)) C) (tk : L2N.Takes (b.X N_figure_in "figure_in" (top 26)) C.W) (pw : PassesOwn (model b.P b.w) (b.X N_figure_in "figure_in" (top 26)).A (b.X N_figure_in "figure_in" (top 26)).env (b.X N_figure_in "figure_in" (top 26)).xe) : SSs (b.X N_figure_in "figure_in" (top 26)) C (defBody (top 26)) d_figure_in.body := by
  have nd : N_figure_in.Nodup := fs_figure_in.nd
  exact b_cons (x_ret (s_ite (t_cmp g (s_nm 0) (s_tup (l_cons (s_str) (l_cons (s_str) (l_cons (s_str) (l_cons (s_str) (l_cons (s_str) (l_cons (s_str) (l_nil) rfl) rfl) rfl) rfl) rfl) rfl)) rfl) (s_b1 (f := .int1) g (s_nm 0) rfl rfl) (s_int))) (b_nil)
abbrev st_rule_in : Stmt := top 27
abbrev sc_rule_in : Scope := defScope (top 27)
theorem fs_rule_in : FnScope N_rule_in ["text"] (defScope (top 27)) := ⟨rfl, rfl, rfl, by decide +kernel, rfl, by decide +kernel, by decide +kernel⟩
theorem b_rule_in (b : Bd) (C : MX.Ctx) (g : Good (b.X N_rule_in "rule_in" (top 27)) C) (t : Tp (b.X N_rule_in "rule_in" (top 27)) C) (tk : L2N.Takes (b.X N_rule_in "rule_in" (top 27)) C.W) (pw : PassesOwn (model b.P b.w) (b.X N_rule_in "rule_in" (top 27)).A (b.X N_rule_in "rule_in" (top 27)).env (b.X N_rule_in "rule_in" (top 27)).xe) : SSs (b.X N_rule_in "rule_in" (top 27)) C (defBody (top 27)) d_rule_in.body := by
  have nd : N_rule_in.Nodup := fs_rule_in.nd
  exact b_cons (x_ifs (t_not (t_val (s_isi (t := .str) g (s_nm 0) rfl rfl rfl) (by intro _; rfl))) (b_cons (x_raise rfl tk t.x_InvalidText rfl (by decide)) (b_nil)) (b_nil)) (b_cons (x_set (i := 1) nd rfl (Or.inl rfl) (s_split (s_nm 0) (s_str) rfl rfl rfl) rfl (Or.inr rfl)) (b_cons (x_ifs (w_pt (w_or (t_cmp g (s_b1 (f := .len) g (s_nm 1) rfl rfl) (s_int) rfl) (w_or1 (t_cmp g (s_slc (s_ix (s_nm 1) (s_int) (by intro _ _; rfl)) (.no) (.yes (s_int))) (s_str) rfl)))) (b_cons (x_raise rfl tk t.x_InvalidText rfl (by decide)) (b_nil)) (b_nil)) (b_cons (x_set (i := 2) nd rfl (Or.inl rfl) (s_tup (l_cons (s_call tk t.f_figure_in rfl (by decide) (s_slc (s_ix (s_nm 1) (s_int) (by intro _ _; rfl)) (.yes (s_int)) (.no)) (l_nil) (stars1 (fun _ => rfl))) (l_cons (s_call tk t.f_figure_in rfl (by decide) (s_ix (s_nm 1) (s_int) (by intro _ _; rfl)) (l_nil) (stars1 (fun _ => rfl))) (l_cons (s_ix (s_nm 1) (s_int) (by intro _ _; rfl)) (l_cons (s_call tk t.f_figure_in rfl (by decide) (s_ix (s_nm 1) (s_int) (by intro _ _; rfl)) (l_nil) (stars1 (fun _ => rfl))) (l_cons (s_call tk t.f_figure_in rfl (by decide) (s_ix (s_nm 1) (s_int) (by intro _ _; rfl)) (l_nil) (stars1 (fun _ => rfl))) (l_nil) rfl) rfl) rfl) rfl) rfl)) rfl (Or.inr rfl)) (b_cons (x_ifs (w_pt (w_or (t_not (t_val (s_call tk t.f_fits_rule rfl (by decide) (s_nm 2) (l_nil) (stars1 (fun _ => rfl))) (by intro _; rfl))) (w_or1 (t_cmp g (s_call tk t.f_as_text rfl (by decide) (s_nm 2) (l_nil) (stars1 (fun _ => rfl))) (s_nm 0) rfl)))) (b_cons (x_raise rfl tk t.x_InvalidText rfl (by decide)) (b_nil)) (b_nil)) (b_cons (x_ret (s_nm 2)) (b_nil))))))
abbrev st_read_rule : Stmt := top 28
abbrev sc_read_rule : Scope := defScope (top 28)
theorem fs_read_rule : FnScope N_read_rule ["text"] (defScope (top 28)) := ⟨rfl, rfl, rfl, by decide +kernel, rfl, by decide +kernel, by decide +kernel⟩
theorem b_read_rule (b : Bd) (C : MX.Ctx) (g : Good (b.X N_read_rule "read_rule" (top 28)) C) (t : Tp (b.X N_read_rule "read_rule" (top 28)) C) (tk : L2N.Takes (b.X N_read_rule "read_rule" (top 28)) C.W) (pw : PassesOwn (model b.P b.w) (b.X N_read_rule "read_rule" (top 28)).A (b.X N_read_rule "read_rule" (top 28)).env (b.X N_read_rule "read_rule" (top 28)).xe) : SSs (b.X N_read_rule "read_rule" (top 28)) C (defBody (top 28)) d_read_rule.body := by
  have nd : N_read_rule.Nodup := fs_read_rule.nd
  exact b_cons (x_ret (s_call tk t.f_rule_in rfl (by decide) (s_nm 0) (l_nil) (stars1 (fun _ => rfl)))) (b_nil)
abbrev st__law_cell : Stmt := top 30
abbrev sc__law_cell : Scope := defScope (top 30)
theorem fs__law_cell : FnScope N__law_cell ["script", "k"] (defScope (top 30)) := ⟨rfl, rfl, rfl, by decide +kernel, rfl, by decide +kernel, by decide +kernel⟩
theorem b__law_cell (b : Bd) (C : MX.Ctx) (g : Good (b.X N__law_cell "_law_cell" (top 30)) C) (t : Tp (b.X N__law_cell "_law_cell" (top 30)) C) (tk : L2N.Takes (b.X N__law_cell "_law_cell" (top 30)) C.W) (pw : PassesOwn (model b.P b.w) (b.X N__law_cell "_law_cell" (top 30)).A (b.X N__law_cell "_law_cell" (top 30)).env (b.X N__law_cell "_law_cell" (top 30)).xe) : SSs (b.X N__law_cell "_law_cell" (top 30)) C (defBody (top 30)) d__law_cell.body := by
  have nd : N__law_cell.Nodup := fs__law_cell.nd
  exact b_cons (x_ifs (t_cmp g (s_nm 1) (s_b1 (f := .len) g (s_nm 0) rfl rfl) rfl) (b_cons (x_ret (s_ix (s_nm 0) (s_nm 1) (by intro _ _; rfl))) (b_nil)) (b_nil)) (b_cons (x_ifs (t_cmp g (s_b1 (f := .len) g (s_nm 0) rfl rfl) (s_int) rfl) (b_cons (x_ret (s_bin (s_bin (s_int) (s_nm 1)) (s_int))) (b_nil)) (b_nil)) (b_cons (x_ret (s_bin (s_bin (s_ix (s_nm 0) (s_bin (s_nm 1) (s_b1 (f := .len) g (s_nm 0) rfl rfl)) (by intro _ _; rfl)) (s_int)) (s_bin (s_int) (s_nm 1)))) (b_nil)))
abbrev st__law_draws : Stmt := top 31
abbrev sc__law_draws : Scope := defScope (top 31)
theorem fs__law_draws : FnScope N__law_draws ["script", "k", "many", "base"] (defScope (top 31)) := ⟨rfl, rfl, rfl, by decide +kernel, rfl, by decide +kernel, by decide +kernel⟩
theorem b__law_draws (b : Bd) (C : MX.Ctx) (g : Good (b.X N__law_draws "_law_draws" (top 31)) C) (t : Tp (b.X N__law_draws "_law_draws" (top 31)) C) (tk : L2N.Takes (b.X N__law_draws "_law_draws" (top 31)) C.W) (pw : PassesOwn (model b.P b.w) (b.X N__law_draws "_law_draws" (top 31)).A (b.X N__law_draws "_law_draws" (top 31)).env (b.X N__law_draws "_law_draws" (top 31)).xe) : SSs (b.X N__law_draws "_law_draws" (top 31)) C (defBody (top 31)) d__law_draws.body := by
  have nd : N__law_draws.Nodup := fs__law_draws.nd
  exact b_cons (x_set (i := 4) nd rfl (Or.inl rfl) (s_tup (l_cons (s_int) (l_cons (s_int) (l_cons (s_int) (l_cons (s_int) (l_cons (s_int) (l_cons (s_int) (l_cons (s_int) (l_cons (s_int) (l_nil) rfl) rfl) rfl) rfl) rfl) rfl) rfl) rfl)) rfl (Or.inr rfl)) (b_cons (x_set (i := 5) nd rfl (Or.inl rfl) (s_call tk t.f__law_cell rfl (by decide) (s_nm 0) (l_cons (s_nm 1) (l_nil) rfl) (stars2 (fun _ => rfl) (fun _ => rfl))) rfl (Or.inr rfl)) (b_cons (x_set (i := 6) nd rfl (Or.inl rfl) (s_int) rfl (Or.inr rfl)) (b_cons (x_ifs (t_cmp g (s_nm 5) (s_bin (s_int) (s_int)) rfl) (b_cons (x_set (i := 6) nd rfl (Or.inl rfl) (s_nm 5) rfl (Or.inr rfl)) (b_nil)) (b_nil)) (b_cons (x_set (i := 7) nd rfl (Or.inl rfl) (s_lst (l_nil)) rfl (Or.inr rfl)) (b_cons (x_for pw rfl (i_rng1 g (s_nm 2) rfl rfl) (g_nm nd rfl (Or.inl rfl) (Or.inr rfl)) (b_cons (x_set (i := 9) nd rfl (Or.inl rfl) (s_bin (s_bin (s_nm 5) (s_ix (s_nm 4) (s_bin (s_nm 8) (s_int)) (by intro _ _; rfl))) (s_bin (s_int) (s_bin (s_bin (s_int) (s_nm 8)) (s_nm 8)))) rfl (Or.inr rfl)) (b_cons (x_set (i := 9) nd rfl (Or.inl rfl) (s_bin (s_bin (s_nm 9) (s_bin (s_bin (s_int) (s_bin (s_nm 8) (s_int))) (s_bin (s_nm 8) (s_int)))) (s_bin (s_int) (s_nm 1))) rfl (Or.inr rfl)) (b_cons (x_set (i := 9) nd rfl (Or.inl rfl) (s_bin (s_nm 9) (s_ix (s_nm 4) (s_bin (s_bin (s_bin (s_int) (s_nm 8)) (s_nm 1)) (s_int)) (by intro _ _; rfl))) rfl (Or.inr rfl)) (b_cons (x_set (i := 9) nd rfl (Or.inl rfl) (s_bin (s_bin (s_bin (s_nm 9) (s_nm 9)) (s_nm 9)) (s_ix (s_nm 4) (s_bin (s_bin (s_nm 8) (s_int)) (s_int)) (by intro _ _; rfl))) rfl (Or.inr rfl)) (b_cons (x_ifs (t_cmp g (s_nm 6) (s_int) rfl) (b_cons (x_set (i := 9) nd rfl (Or.inl rfl) (s_nm 6) rfl (Or.inr rfl)) (b_nil)) (b_nil)) (b_cons (x_exp (s_app (pv 7) (s_bin (s_nm 9) (s_nm 3)) rfl rfl rfl) rfl) (b_cons (x_set (i := 6) nd rfl (Or.inl rfl) (s_bin (s_nm 6) (s_nm 3)) rfl (Or.inr rfl)) (b_nil)))))))) (fun _ => rfl)) (b_cons (x_ret (s_nm 7)) (b_nil)))))))
abbrev st__law_bag : Stmt := top 32
abbrev sc__law_bag : Scope := defScope (top 32)
theorem fs__law_bag : FnScope N__law_bag ["script", "k"] (defScope (top 32)) := ⟨rfl, rfl, rfl, by decide +kernel, rfl, by decide +kernel, by decide +kernel⟩
theorem b__law_bag (b : Bd) (C : MX.Ctx) (g : Good (b.X N__law_bag "_law_bag" (top 32)) C) (t : Tp (b.X N__law_bag "_law_bag" (top 32)) C) (tk : L2N.Takes (b.X N__law_bag "_law_bag" (top 32)) C.W) (pw : PassesOwn (model b.P b.w) (b.X N__law_bag "_law_bag" (top 32)).A (b.X N__law_bag "_law_bag" (top 32)).env (b.X N__law_bag "_law_bag" (top 32)).xe) : SSs (b.X N__law_bag "_law_bag" (top 32)) C (defBody (top 32)) d__law_bag.body := by
  have nd : N__law_bag.Nodup := fs__law_bag.nd
  exact b_cons (x_ret (s_call tk t.f__law_draws rfl (by decide) (s_nm 0) (l_cons (s_nm 1) (l_cons (s_int) (l_cons (s_int) (l_nil) rfl) rfl) rfl) (stars4 (fun _ => rfl) (fun _ => rfl) (fun _ => rfl) (fun _ => rfl)))) (b_nil)
abbrev st__law_take : Stmt := top 33
abbrev sc__law_take : Scope := defScope (top 33)
theorem fs__law_take : FnScope N__law_take ["bag", "many"] (defScope (top 33)) := ⟨rfl, rfl, rfl, by decide +kernel, rfl, by decide +kernel, by decide +kernel⟩
theorem b__law_take (b : Bd) (C : MX.Ctx) (g : Good (b.X N__law_take "_law_take" (top 33)) C) (t : Tp (b.X N__law_take "_law_take" (top 33)) C) (tk : L2N.Takes (b.X N__law_take "_law_take" (top 33)) C.W) (pw : PassesOwn (model b.P b.w) (b.X N__law_take "_law_take" (top 33)).A (b.X N__law_take "_law_take" (top 33)).env (b.X N__law_take "_law_take" (top 33)).xe) : SSs (b.X N__law_take "_law_take" (top 33)) C (defBody (top 33)) d__law_take.body := by
  have nd : N__law_take.Nodup := fs__law_take.nd
  exact b_cons (x_set (i := 2) nd rfl (Or.inl rfl) (s_ite (t_cmp g (s_nm 0) (s_lst (l_nil)) rfl) (s_pop0 (pv 0) rfl rfl) (s_int)) rfl (Or.inr rfl)) (b_cons (x_ret (s_bin (s_b1 (f := .int1) g (s_nm 2) rfl rfl) (s_nm 1))) (b_nil))
abbrev st__law_choice : Stmt := top 34
abbrev sc__law_choice : Scope := defScope (top 34)
theorem fs__law_choice : FnScope N__law_choice ["bag", "some"] (defScope (top 34)) := ⟨rfl, rfl, rfl, by decide +kernel, rfl, by decide +kernel, by decide +kernel⟩
theorem b__law_choice (b : Bd) (C : MX.Ctx) (g : Good (b.X N__law_choice "_law_choice" (top 34)) C) (t : Tp (b.X N__law_choice "_law_choice" (top 34)) C) (tk : L2N.Takes (b.X N__law_choice "_law_choice" (top 34)) C.W) (pw : PassesOwn (model b.P b.w) (b.X N__law_choice "_law_choice" (top 34)).A (b.X N__law_choice "_law_choice" (top 34)).env (b.X N__law_choice "_law_choice" (top 34)).xe) : SSs (b.X N__law_choice "_law_choice" (top 34)) C (defBody (top 34)) d__law_choice.body := by
  have nd : N__law_choice.Nodup := fs__law_choice.nd
  exact b_cons (x_ret (s_ix (s_nm 1) (s_call tk t.f__law_take rfl (by decide) (s_nm 0) (l_cons (s_b1 (f := .len) g (s_nm 1) rfl rfl) (l_nil) rfl) (stars2 (fun _ => rfl) (fun _ => rfl))) (by intro _ _; rfl))) (b_nil)
abbrev st__law_known : Stmt := top 35
abbrev sc__law_known : Scope := defScope (top 35)
theorem fs__law_known : FnScope N__law_known [] (defScope (top 35)) := ⟨rfl, rfl, rfl, by decide +kernel, rfl, by decide +kernel, by decide +kernel⟩
theorem b__law_known (b : Bd) (C : MX.Ctx) (g : Good (b.X N__law_known "_law_known" (top 35)) C) (t : Tp (b.X N__law_known "_law_known" (top 35)) C) (tk : L2N.Takes (b.X N__law_known "_law_known" (top 35)) C.W) (pw : PassesOwn (model b.P b.w) (b.X N__law_known "_law_known" (top 35)).A (b.X N__law_known "_law_known" (top 35)).env (b.X N__law_known "_law_known" (top 35)).xe) : SSs (b.X N__law_known "_law_known" (top 35)) C (defBody (top 35)) d__law_known.body := by
  have nd : N__law_known.Nodup := fs__law_known.nd
  exact b_cons (x_set (i := 0) nd rfl (Or.inl rfl) (s_lst (l_cons (s_tup (l_cons (s_int) (l_cons (s_int) (l_cons (s_str) (l_cons (s_int) (l_cons (s_int) (l_nil) rfl) rfl) rfl) rfl) rfl)) (l_cons (s_tup (l_cons (s_int) (l_cons (s_int) (l_cons (s_str) (l_cons (s_int) (l_cons (s_int) (l_nil) rfl) rfl) rfl) rfl) rfl)) (l_cons (s_tup (l_cons (s_int) (l_cons (s_int) (l_cons (s_str) (l_cons (s_int) (l_cons (s_int) (l_nil) rfl) rfl) rfl) rfl) rfl)) (l_nil) rfl) rfl) rfl)) rfl (Or.inr rfl)) (b_cons (x_ret (s_bin (s_nm 0) (s_lst (l_cons (s_tup (l_cons (s_int) (l_cons (s_int) (l_cons (s_str) (l_cons (s_int) (l_cons (s_int) (l_nil) rfl) rfl) rfl) rfl) rfl)) (l_cons (s_tup (l_cons (s_int) (l_cons (s_int) (l_cons (s_str) (l_cons (s_int) (l_cons (s_int) (l_nil) rfl) rfl) rfl) rfl) rfl)) (l_cons (s_tup (l_cons (s_int) (l_cons (s_int) (l_cons (s_str) (l_cons (s_int) (l_cons (s_int) (l_nil) rfl) rfl) rfl) rfl) rfl)) (l_nil) rfl) rfl) rfl)))) (b_nil))
abbrev st__law_rule : Stmt := top 36
abbrev sc__law_rule : Scope := defScope (top 36)
theorem fs__law_rule : FnScope N__law_rule ["bag"] (defScope (top 36)) := ⟨rfl, rfl, rfl, by decide +kernel, rfl, by decide +kernel, by decide +kernel⟩
theorem b__law_rule (b : Bd) (C : MX.Ctx) (g : Good (b.X N__law_rule "_law_rule" (top 36)) C) (t : Tp (b.X N__law_rule "_law_rule" (top 36)) C) (tk : L2N.Takes (b.X N__law_rule "_law_rule" (top 36)) C.W) (pw : PassesOwn (model b.P b.w) (b.X N__law_rule "_law_rule" (top 36)).A (b.X N__law_rule "_law_rule" (top 36)).env (b.X N__law_rule "_law_rule" (top 36)).xe) : SSs (b.X N__law_rule "_law_rule" (top 36)) C (defBody (top 36)) d__law_rule.body := by
  have nd : N__law_rule.Nodup := fs__law_rule.nd
  exact b_cons (x_ifs (t_cmp g (s_call tk t.f__law_take rfl (by decide) (s_nm 0) (l_cons (s_int) (l_nil) rfl) (stars2 (fun _ => rfl) (fun _ => rfl))) (s_int) rfl) (b_cons (x_ret (s_call tk t.f__law_choice rfl (by decide) (s_nm 0) (l_cons (s_call0 tk t.f__law_known rfl (by decide)) (l_nil) rfl) (stars2 (fun _ => rfl) (fun _ => rfl)))) (b_nil)) (b_nil)) (b_cons (x_par2 (i := 1) (j := 2) g rfl rfl (by decide) rfl rfl (pl_cons (s_call tk t.f__law_choice rfl (by decide) (s_nm 0) (l_cons (s_lst (l_cons (s_str) (l_cons (s_str) (l_cons (s_str) (l_nil) rfl) rfl) rfl)) (l_nil) rfl) (stars2 (fun _ => rfl) (fun _ => rfl))) (pl_cons (s_bin (s_int) (s_call tk t.f__law_take rfl (by decide) (s_nm 0) (l_cons (s_call tk t.f__law_choice rfl (by decide) (s_nm 0) (l_cons (s_lst (l_cons (s_int) (l_cons (s_int) (l_nil) rfl) rfl)) (l_nil) rfl) (stars2 (fun _ => rfl) (fun _ => rfl))) (l_nil) rfl) (stars2 (fun _ => rfl) (fun _ => rfl)))) (pl_nil) rfl) rfl) rfl rfl) (b_cons (x_ret (s_tup (l_cons (s_nm 2) (l_cons (s_bin (s_int) (s_call tk t.f__law_take rfl (by decide) (s_nm 0) (l_cons (s_call tk t.f__law_choice rfl (by decide) (s_nm 0) (l_cons (s_lst (l_cons (s_int) (l_cons (s_int) (l_nil) rfl) rfl)) (l_nil) rfl) (stars2 (fun _ => rfl) (fun _ => rfl))) (l_nil) rfl) (stars2 (fun _ => rfl) (fun _ => rfl)))) (l_cons (s_nm 1) (l_cons (s_bin (s_int) (s_call tk t.f__law_take rfl (by decide) (s_nm 0) (l_cons (s_int) (l_nil) rfl) (stars2 (fun _ => rfl) (fun _ => rfl)))) (l_cons (s_bin (s_int) (s_call tk t.f__law_take rfl (by decide) (s_nm 0) (l_cons (s_int) (l_nil) rfl) (stars2 (fun _ => rfl) (fun _ => rfl)))) (l_nil) rfl) rfl) rfl) rfl) rfl))) (b_nil)))
abbrev st__law_error : Stmt := top 38
abbrev sc__law_error : Scope := defScope (top 38)
theorem fs__law_error : FnScope N__law_error ["call"] (defScope (top 38)) := ⟨rfl, rfl, rfl, by decide +kernel, rfl, by decide +kernel, by decide +kernel⟩
theorem b__law_error (b : Bd) (C : MX.Ctx) (g : Good (b.X N__law_error "_law_error" (top 38)) C) (t : Tp (b.X N__law_error "_law_error" (top 38)) C) (tk : L2N.Takes (b.X N__law_error "_law_error" (top 38)) C.W) (pw : PassesOwn (model b.P b.w) (b.X N__law_error "_law_error" (top 38)).A (b.X N__law_error "_law_error" (top 38)).env (b.X N__law_error "_law_error" (top 38)).xe) : SSs (b.X N__law_error "_law_error" (top 38)) C (defBody (top 38)) d__law_error.body := by
  have nd : N__law_error.Nodup := fs__law_error.nd
  exact b_cons (x_tryG (i := 1) rfl rfl nd rfl rfl tk t.xf rfl (by decide) (fun W pn xe tk pw => have g := Good.tr (pn := pn) (xe := xe) (W := W) g; have t := Tp.tr (pn := pn) (xe := xe) (W := W) t; b_cons (x_exp (s_callv0 (i := 0) rfl (by first | exact Or.inl rfl | exact Or.inr (Or.inl rfl) | exact Or.inr (Or.inr rfl)) (by decide) (by decide) tk t.all (lamN_of tk t.lam)) rfl) (b_nil)) (su_oddG (x := "_law_named_error") rfl t.nmg t.xf rfl (by decide) (Or.inl rfl) (by decide) (by decide) rfl (g.bl _ (by decide)) rfl t.nov rfl rfl rfl)) (b_cons (x_ret (s_str)) (b_nil))
abbrev st__law_told : Stmt := top 39
abbrev sc__law_told : Scope := defScope (top 39)
theorem fs__law_told : FnScope N__law_told ["call"] (defScope (top 39)) := ⟨rfl, rfl, rfl, by decide +kernel, rfl, by decide +kernel, by decide +kernel⟩
theorem b__law_told (b : Bd) (C : MX.Ctx) (g : Good (b.X N__law_told "_law_told" (top 39)) C) (t : Tp (b.X N__law_told "_law_told" (top 39)) C) (tk : L2N.Takes (b.X N__law_told "_law_told" (top 39)) C.W) (pw : PassesOwn (model b.P b.w) (b.X N__law_told "_law_told" (top 39)).A (b.X N__law_told "_law_told" (top 39)).env (b.X N__law_told "_law_told" (top 39)).xe) : SSs (b.X N__law_told "_law_told" (top 39)) C (defBody (top 39)) d__law_told.body := by
  have nd : N__law_told.Nodup := fs__law_told.nd
  exact b_cons (x_tryG (i := 1) rfl rfl nd rfl rfl tk t.xf rfl (by decide) (fun W pn xe tk pw => have g := Good.tr (pn := pn) (xe := xe) (W := W) g; have t := Tp.tr (pn := pn) (xe := xe) (W := W) t; b_cons (x_ret (s_tup (l_cons (s_callv0 (i := 0) rfl (by first | exact Or.inl rfl | exact Or.inr (Or.inl rfl) | exact Or.inr (Or.inr rfl)) (by decide) (by decide) tk t.all (lamN_of tk t.lam)) (l_cons (s_str) (l_nil) rfl) rfl))) (b_nil)) (su_told (x := "_law_named_error") rfl t.nmg rfl (by decide) (Or.inl rfl) (by decide) (by decide) rfl rfl rfl)) (b_nil)
abbrev st__law_all_refused : Stmt := top 40
abbrev sc__law_all_refused : Scope := defScope (top 40)
theorem fs__law_all_refused : FnScope N__law_all_refused ["call", "odds", "name"] (defScope (top 40)) := ⟨rfl, rfl, rfl, by decide +kernel, rfl, by decide +kernel, by decide +kernel⟩
theorem b__law_all_refused (b : Bd) (C : MX.Ctx) {c P : Addr} (TB : LamX.TabB b.base b.mg c P) (hcd : b.cdv = .ref c) (hm : (P, ("_law_all_refused.<locals>.<lambda>" : Str)) ∈ C.L.T) (hu : ∀ p ∈ C.L.T, p.1 = P → p.2 = "_law_all_refused.<locals>.<lambda>") (g : Good (b.X N__law_all_refused "_law_all_refused" (top 40)) C) (t : Tp (b.X N__law_all_refused "_law_all_refused" (top 40)) C) (tk : L2N.Takes (b.X N__law_all_refused "_law_all_refused" (top 40)) C.W) (pw : PassesOwn (model b.P b.w) (b.X N__law_all_refused "_law_all_refused" (top 40)).A (b.X N__law_all_refused "_law_all_refused" (top 40)).env (b.X N__law_all_refused "_law_all_refused" (top 40)).xe) : SSs (b.X N__law_all_refused "_law_all_refused" (top 40)) C (defBody (top 40)) d__law_all_refused.body := by
  have nd : N__law_all_refused.Nodup := fs__law_all_refused.nd
  have hfn0 : ∀ y c, (b.X N__law_all_refused "_law_all_refused" (top 40)).env.cells.lookup y = some c → (b.X N__law_all_refused "_law_all_refused" (top 40)).fn y = true ∨ ((b.X N__law_all_refused "_law_all_refused" (top 40)).base.get? c = none ∧ c ∉ frs (b.X N__law_all_refused "_law_all_refused" (top 40)).stack) := def_fn
  exact b_cons (x_ret (s_cmp g (s_compQ g hfn0 (i_seq (s_nm 1)) (blkOk_by (own := [("odd", 3)]) (N := N__law_all_refused) (sc := sc__law_all_refused) (by decide +kernel)) rfl (fun _ _ _ _ _ q1 => g_nm nd rfl (Or.inr rfl) (Or.inl rfl)) (fun _ _ _ _ _ q1 => cond_one (t_cmp g.blk (s_callL (k := 0) (l := lam_0) takes_nox t.blk.f__law_error rfl (by decide) rfl rfl rfl rfl rfl TB hcd hm hu rfl (capOk_rfl (by rfl)) (blk_fn q1) (l_nil) (fun _ h => absurd h List.not_mem_nil)) (s_nm 2) rfl)) (fun _ _ _ _ _ q1 => se_of (s_nm 3)) (fun _ => rfl)) (s_lst (l_nil)) rfl)) (b_nil)
abbrev st__law_bad_rules : Stmt := top 41
abbrev sc__law_bad_rules : Scope := defScope (top 41)
theorem fs__law_bad_rules : FnScope N__law_bad_rules [] (defScope (top 41)) := ⟨rfl, rfl, rfl, by decide +kernel, rfl, by decide +kernel, by decide +kernel⟩
theorem b__law_bad_rules (b : Bd) (C : MX.Ctx) (g : Good (b.X N__law_bad_rules "_law_bad_rules" (top 41)) C) (t : Tp (b.X N__law_bad_rules "_law_bad_rules" (top 41)) C) (tk : L2N.Takes (b.X N__law_bad_rules "_law_bad_rules" (top 41)) C.W) (pw : PassesOwn (model b.P b.w) (b.X N__law_bad_rules "_law_bad_rules" (top 41)).A (b.X N__law_bad_rules "_law_bad_rules" (top 41)).env (b.X N__law_bad_rules "_law_bad_rules" (top 41)).xe) : SSs (b.X N__law_bad_rules "_law_bad_rules" (top 41)) C (defBody (top 41)) d__law_bad_rules.body := by
  have nd : N__law_bad_rules.Nodup := fs__law_bad_rules.nd
  exact b_cons (x_set (i := 0) nd rfl (Or.inl rfl) (s_lst (l_cons (s_non) (l_cons (s_tup (l_nil)) (l_cons (s_tup (l_cons (s_int) (l_cons (s_int) (l_cons (s_str) (l_cons (s_int) (l_nil) rfl) rfl) rfl) rfl)) (l_cons (s_tup (l_cons (s_int) (l_cons (s_int) (l_cons (s_str) (l_cons (s_int) (l_cons (s_int) (l_nil) rfl) rfl) rfl) rfl) rfl)) (l_cons (s_tup (l_cons (s_int) (l_cons (s_int) (l_cons (s_str) (l_cons (s_int) (l_cons (s_int) (l_nil) rfl) rfl) rfl) rfl) rfl)) (l_cons (s_tup (l_cons (s_int) (l_cons (s_int) (l_cons (s_str) (l_cons (s_int) (l_cons (s_int) (l_nil) rfl) rfl) rfl) rfl) rfl)) (l_nil) rfl) rfl) rfl) rfl) rfl) rfl)) rfl (Or.inr rfl)) (b_cons (x_set (i := 0) nd rfl (Or.inl rfl) (s_bin (s_nm 0) (s_lst (l_cons (s_tup (l_cons (s_int) (l_cons (s_int) (l_cons (s_str) (l_cons (s_int) (l_cons (s_int) (l_nil) rfl) rfl) rfl) rfl) rfl)) (l_cons (s_tup (l_cons (s_int) (l_cons (s_int) (l_cons (s_str) (l_cons (s_int) (l_cons (s_int) (l_nil) rfl) rfl) rfl) rfl) rfl)) (l_cons (s_tup (l_cons (s_bl) (l_cons (s_int) (l_cons (s_str) (l_cons (s_int) (l_cons (s_int) (l_nil) rfl) rfl) rfl) rfl) rfl)) (l_cons (s_lst (l_cons (s_int) (l_cons (s_int) (l_cons (s_str) (l_cons (s_int) (l_cons (s_int) (l_nil) rfl) rfl) rfl) rfl) rfl)) (l_nil) rfl) rfl) rfl) rfl))) rfl (Or.inr rfl)) (b_cons (x_ret (s_bin (s_nm 0) (s_lst (l_cons (s_tup (l_cons (s_int) (l_cons (s_int) (l_cons (s_str) (l_cons (s_int) (l_cons (s_int) (l_cons (s_int) (l_nil) rfl) rfl) rfl) rfl) rfl) rfl)) (l_cons (s_tup (l_cons (s_int) (l_cons (s_int) (l_cons (s_tup (l_cons (s_str) (l_nil) rfl)) (l_cons (s_int) (l_cons (s_int) (l_nil) rfl) rfl) rfl) rfl) rfl)) (l_cons (s_str) (l_cons (s_tup (l_cons (s_int) (l_cons (s_int) (l_cons (s_str) (l_cons (s_int) (l_cons (s_bl) (l_nil) rfl) rfl) rfl) rfl) rfl)) (l_nil) rfl) rfl) rfl) rfl)))) (b_nil)))
abbrev st__law_text : Stmt := top 42
abbrev sc__law_text : Scope := defScope (top 42)
theorem fs__law_text : FnScope N__law_text ["rule_so"] (defScope (top 42)) := ⟨rfl, rfl, rfl, by decide +kernel, rfl, by decide +kernel, by decide +kernel⟩
theorem b__law_text (b : Bd) (C : MX.Ctx) (g : Good (b.X N__law_text "_law_text" (top 42)) C) (t : Tp (b.X N__law_text "_law_text" (top 42)) C) (tk : L2N.Takes (b.X N__law_text "_law_text" (top 42)) C.W) (pw : PassesOwn (model b.P b.w) (b.X N__law_text "_law_text" (top 42)).A (b.X N__law_text "_law_text" (top 42)).env (b.X N__law_text "_law_text" (top 42)).xe) : SSs (b.X N__law_text "_law_text" (top 42)) C (defBody (top 42)) d__law_text.body := by
  have nd : N__law_text.Nodup := fs__law_text.nd
  exact b_cons (x_unp g (s_nm 0) (gs_cons nd rfl (Or.inl rfl) (Or.inr rfl) (gs_cons nd rfl (Or.inl rfl) (Or.inr rfl) (gs_cons nd rfl (Or.inl rfl) (Or.inr rfl) (gs_cons nd rfl (Or.inl rfl) (Or.inr rfl) (gs_cons nd rfl (Or.inl rfl) (Or.inr rfl) (gs_nil)))))) rfl rfl rfl rfl rfl) (b_cons (x_ret (s_join (s_str) (s_lst (l_cons (s_str) (l_cons (s_bin (s_str) (s_b1 (f := .str1) g (s_nm 1) rfl rfl)) (l_cons (s_str) (l_cons (s_b1 (f := .str1) g (s_nm 2) rfl rfl) (l_cons (s_nm 3) (l_cons (s_str) (l_cons (s_b1 (f := .str1) g (s_nm 4) rfl rfl) (l_cons (s_str) (l_cons (s_b1 (f := .str1) g (s_nm 5) rfl rfl) (l_nil) rfl) rfl) rfl) rfl) rfl) rfl) rfl) rfl) rfl)) rfl rfl rfl)) (b_nil))
abbrev st__law_read : Stmt := top 43
abbrev sc__law_read : Scope := defScope (top 43)
theorem fs__law_read : FnScope N__law_read ["text"] (defScope (top 43)) := ⟨rfl, rfl, rfl, by decide +kernel, rfl, by decide +kernel, by decide +kernel⟩
theorem b__law_read (b : Bd) (C : MX.Ctx) (g : Good (b.X N__law_read "_law_read" (top 43)) C) (t : Tp (b.X N__law_read "_law_read" (top 43)) C) (tk : L2N.Takes (b.X N__law_read "_law_read" (top 43)) C.W) (pw : PassesOwn (model b.P b.w) (b.X N__law_read "_law_read" (top 43)).A (b.X N__law_read "_law_read" (top 43)).env (b.X N__law_read "_law_read" (top 43)).xe) : SSs (b.X N__law_read "_law_read" (top 43)) C (defBody (top 43)) d__law_read.body := by
  have nd : N__law_read.Nodup := fs__law_read.nd
  exact b_cons (x_set (i := 1) nd rfl (Or.inl rfl) (s_split (s_nm 0) (s_str) rfl rfl rfl) rfl (Or.inr rfl)) (b_cons (x_ifs (w_pt (w_or (t_cmp g (s_b1 (f := .len) g (s_nm 1) rfl rfl) (s_int) rfl) (w_or1 (t_cmp g (s_lst (l_cons (s_ix (s_nm 1) (s_int) (by intro _ _; rfl)) (l_cons (s_ix (s_nm 1) (s_int) (by intro _ _; rfl)) (l_cons (s_ix (s_nm 1) (s_int) (by intro _ _; rfl)) (l_cons (s_ix (s_nm 1) (s_int) (by intro _ _; rfl)) (l_nil) rfl) rfl) rfl) rfl)) (s_lst (l_cons (s_str) (l_cons (s_str) (l_cons (s_str) (l_cons (s_str) (l_nil) rfl) rfl) rfl) rfl)) rfl)))) (b_cons (x_ret (s_non)) (b_nil)) (b_nil)) (b_cons (x_set (i := 2) nd rfl (Or.inl rfl) (s_lst (l_cons (s_slc (s_ix (s_nm 1) (s_int) (by intro _ _; rfl)) (.yes (s_int)) (.no)) (l_cons (s_ix (s_nm 1) (s_int) (by intro _ _; rfl)) (l_cons (s_ix (s_nm 1) (s_int) (by intro _ _; rfl)) (l_cons (s_ix (s_nm 1) (s_int) (by intro _ _; rfl)) (l_nil) rfl) rfl) rfl) rfl)) rfl (Or.inr rfl)) (b_cons (x_ifs (w_pt (w_or (t_cmp g (s_slc (s_ix (s_nm 1) (s_int) (by intro _ _; rfl)) (.no) (.yes (s_int))) (s_str) rfl) (w_or1 (t_cmp g (s_comp g (i_seq (s_nm 2)) (blkOk_by (own := [("word", 3)]) (N := N__law_read) (sc := sc__law_read) (by decide +kernel)) rfl (fun _ _ _ _ _ => g_nm nd rfl (Or.inl rfl) (Or.inr rfl)) (fun _ _ _ _ _ => cond_one (w_pt (w_or (t_cmp g.blk (s_b1 (f := .len) g.blk (s_nm 3) rfl rfl) (s_int) rfl) (w_or1 (t_cmp g.blk (s_nm 3) (s_str) rfl))))) (fun _ _ _ _ _ => se_of (s_nm 3)) (fun _ => rfl)) (s_lst (l_nil)) rfl)))) (b_cons (x_ret (s_non)) (b_nil)) (b_nil)) (b_cons (x_ifs (w_pt (w_or (t_cmp g (s_ix (s_nm 1) (s_int) (by intro _ _; rfl)) (s_lst (l_cons (s_str) (l_cons (s_str) (l_cons (s_str) (l_nil) rfl) rfl) rfl)) rfl) (w_or (t_cmp g (s_ix (s_nm 1) (s_int) (by intro _ _; rfl)) (s_str) rfl) (w_or1 (t_cmp g (s_ix (s_nm 1) (s_int) (by intro _ _; rfl)) (s_str) rfl))))) (b_cons (x_ret (s_non)) (b_nil)) (b_nil)) (b_cons (x_ret (s_tup (l_cons (s_b1 (f := .int1) g (s_ix (s_nm 2) (s_int) (by intro _ _; rfl)) rfl rfl) (l_cons (s_b1 (f := .int1) g (s_ix (s_nm 2) (s_int) (by intro _ _; rfl)) rfl rfl) (l_cons (s_ix (s_nm 1) (s_int) (by intro _ _; rfl)) (l_cons (s_b1 (f := .int1) g (s_ix (s_nm 2) (s_int) (by intro _ _; rfl)) rfl rfl) (l_cons (s_b1 (f := .int1) g (s_ix (s_nm 2) (s_int) (by intro _ _; rfl)) rfl rfl) (l_nil) rfl) rfl) rfl) rfl) rfl))) (b_nil))))))
abbrev st__law_bent : Stmt := top 44
abbrev sc__law_bent : Scope := defScope (top 44)
theorem fs__law_bent : FnScope N__law_bent ["bag", "text"] (defScope (top 44)) := ⟨rfl, rfl, rfl, by decide +kernel, rfl, by decide +kernel, by decide +kernel⟩
theorem b__law_bent (b : Bd) (C : MX.Ctx) (g : Good (b.X N__law_bent "_law_bent" (top 44)) C) (t : Tp (b.X N__law_bent "_law_bent" (top 44)) C) (tk : L2N.Takes (b.X N__law_bent "_law_bent" (top 44)) C.W) (pw : PassesOwn (model b.P b.w) (b.X N__law_bent "_law_bent" (top 44)).A (b.X N__law_bent "_law_bent" (top 44)).env (b.X N__law_bent "_law_bent" (top 44)).xe) : SSs (b.X N__law_bent "_law_bent" (top 44)) C (defBody (top 44)) d__law_bent.body := by
  have nd : N__law_bent.Nodup := fs__law_bent.nd
  exact b_cons (x_par2 (i := 2) (j := 3) g rfl rfl (by decide) rfl rfl (pl_cons (s_call tk t.f__law_take rfl (by decide) (s_nm 0) (l_cons (s_bin (s_b1 (f := .len) g (s_nm 1) rfl rfl) (s_int)) (l_nil) rfl) (stars2 (fun _ => rfl) (fun _ => rfl))) (pl_cons (s_call tk t.f__law_take rfl (by decide) (s_nm 0) (l_cons (s_int) (l_nil) rfl) (stars2 (fun _ => rfl) (fun _ => rfl))) (pl_nil) rfl) rfl) rfl rfl) (b_cons (x_ifs (t_cmp g (s_nm 3) (s_int) rfl) (b_cons (x_ret (s_bin (s_bin (s_slc (s_nm 1) (.no) (.yes (s_nm 2))) (s_call tk t.f__law_choice rfl (by decide) (s_nm 0) (l_cons (s_lst (l_cons (s_str) (l_cons (s_str) (l_cons (s_str) (l_cons (s_str) (l_cons (s_str) (l_cons (s_str) (l_cons (s_str) (l_nil) rfl) rfl) rfl) rfl) rfl) rfl) rfl)) (l_nil) rfl) (stars2 (fun _ => rfl) (fun _ => rfl)))) (s_slc (s_nm 1) (.yes (s_nm 2)) (.no)))) (b_nil)) (b_nil)) (b_cons (x_ifs (t_cmp g (s_nm 3) (s_int) rfl) (b_cons (x_ret (s_bin (s_slc (s_nm 1) (.no) (.yes (s_nm 2))) (s_slc (s_nm 1) (.yes (s_bin (s_nm 2) (s_int))) (.no)))) (b_nil)) (b_nil)) (b_cons (x_set (i := 4) nd rfl (Or.inl rfl) (s_split (s_nm 1) (s_str) rfl rfl rfl) rfl (Or.inr rfl)) (b_cons (x_set (i := 5) nd rfl (Or.inl rfl) (s_call tk t.f__law_take rfl (by decide) (s_nm 0) (l_cons (s_b1 (f := .len) g (s_nm 4) rfl rfl) (l_nil) rfl) (stars2 (fun _ => rfl) (fun _ => rfl))) rfl (Or.inr rfl)) (b_cons (x_ifs (t_cmp g (s_nm 3) (s_int) rfl) (b_cons (x_set (i := 6) nd rfl (Or.inl rfl) (s_lst (l_cons (s_str) (l_cons (s_str) (l_cons (s_str) (l_cons (s_str) (l_cons (s_str) (l_cons (s_str) (l_cons (s_str) (l_cons (s_str) (l_cons (s_str) (l_cons (s_str) (l_cons (s_str) (l_cons (s_str) (l_nil) rfl) rfl) rfl) rfl) rfl) rfl) rfl) rfl) rfl) rfl) rfl) rfl)) rfl (Or.inr rfl)) (b_cons (x_ret (s_join (s_str) (s_bin (s_bin (s_slc (s_nm 4) (.no) (.yes (s_nm 5))) (s_lst (l_cons (s_call tk t.f__law_choice rfl (by decide) (s_nm 0) (l_cons (s_nm 6) (l_nil) rfl) (stars2 (fun _ => rfl) (fun _ => rfl))) (l_nil) rfl))) (s_slc (s_nm 4) (.yes (s_bin (s_nm 5) (s_int))) (.no))) rfl rfl rfl)) (b_nil))) (b_nil)) (b_cons (x_ifs (t_cmp g (s_nm 3) (s_int) rfl) (b_cons (x_ret (s_join (s_str) (s_bin (s_slc (s_nm 4) (.no) (.yes (s_nm 5))) (s_slc (s_nm 4) (.yes (s_bin (s_nm 5) (s_int))) (.no))) rfl rfl rfl)) (b_nil)) (b_nil)) (b_cons (x_ret (s_join (s_str) (s_rev (s_nm 4)) rfl rfl rfl)) (b_nil))))))))
abbrev st_law : Stmt := top 45
abbrev sc_law : Scope := defScope (top 45)
theorem fs_law : FnScope N_law ["script"] (defScope (top 45)) := ⟨rfl, rfl, rfl, by decide +kernel, rfl, by decide +kernel, by decide +kernel⟩
theorem b_law (b : Bd) (C : MX.Ctx) {c P : Addr} (TB : LamX.TabB b.base b.mg c P) (hcd : b.cdv = .ref c) (hm : (P, ("law.<locals>.<lambda>" : Str)) ∈ C.L.T) (hu : ∀ p ∈ C.L.T, p.1 = P → p.2 = "law.<locals>.<lambda>") (g : Good (b.X N_law "law" (top 45)) C) (t : Tp (b.X N_law "law" (top 45)) C) (tk : L2N.Takes (b.X N_law "law" (top 45)) C.W) (pw : PassesOwn (model b.P b.w) (b.X N_law "law" (top 45)).A (b.X N_law "law" (top 45)).env (b.X N_law "law" (top 45)).xe) : SSs (b.X N_law "law" (top 45)) C (defBody (top 45)) d_law.body := by
  have nd : N_law.Nodup := fs_law.nd
  have hfn0 : ∀ y c, (b.X N_law "law" (top 45)).env.cells.lookup y = some c → (b.X N_law "law" (top 45)).fn y = true ∨ ((b.X N_law "law" (top 45)).base.get? c = none ∧ c ∉ frs (b.X N_law "law" (top 45)).stack) := def_fn
  exact b_cons (x_for pw rfl (i_rng1 g (s_int) rfl rfl) (g_nm nd rfl (Or.inl rfl) (Or.inr rfl)) (b_cons (x_set (i := 2) nd rfl (Or.inl rfl) (s_call tk t.f__law_bag rfl (by decide) (s_nm 0) (l_cons (s_nm 1) (l_nil) rfl) (stars2 (fun _ => rfl) (fun _ => rfl))) rfl (Or.inr rfl)) (b_cons (x_set (i := 3) nd rfl (Or.inl rfl) (s_call tk t.f__law_rule rfl (by decide) (s_nm 2) (l_nil) (stars1 (fun _ => rfl))) rfl (Or.inr rfl)) (b_cons (x_set (i := 4) nd rfl (Or.inl rfl) (s_call tk t.f__law_text rfl (by decide) (s_nm 3) (l_nil) (stars1 (fun _ => rfl))) rfl (Or.inr rfl)) (b_cons (x_ifs (w_pt (w_or (t_cmp g (s_call tk t.f_rule_text rfl (by decide) (s_nm 3) (l_nil) (stars1 (fun _ => rfl))) (s_nm 4) rfl) (w_or1 (t_cmp g (s_call tk t.f_read_rule rfl (by decide) (s_nm 4) (l_nil) (stars1 (fun _ => rfl))) (s_nm 3) rfl)))) (b_cons (x_ret (s_bl)) (b_nil)) (b_nil)) (b_cons (x_for pw rfl (i_rng1 g (s_int) rfl rfl) (g_nm nd rfl (Or.inl rfl) (Or.inr rfl)) (b_cons (x_set (i := 6) nd rfl (Or.inr rfl) (s_ite (t_cmp g (s_nm 5) (s_int) rfl) (s_call tk t.f__law_bent rfl (by decide) (s_nm 2) (l_cons (s_nm 4) (l_nil) rfl) (stars2 (fun _ => rfl) (fun _ => rfl))) (s_call tk t.f__law_bent rfl (by decide) (s_nm 2) (l_cons (s_call tk t.f__law_bent rfl (by decide) (s_nm 2) (l_cons (s_nm 4) (l_nil) rfl) (stars2 (fun _ => rfl) (fun _ => rfl))) (l_nil) rfl) (stars2 (fun _ => rfl) (fun _ => rfl)))) rfl (Or.inl rfl)) (b_cons (x_set (i := 7) nd rfl (Or.inr rfl) (s_call tk t.f__law_read rfl (by decide) (s_nm 6) (l_nil) (stars1 (fun _ => rfl))) rfl (Or.inl rfl)) (b_cons (x_ifs (t_cmp g (s_callL (k := 1) (l := lam_1) tk t.f__law_told rfl (by decide) rfl rfl rfl rfl rfl TB hcd hm hu rfl (capOk_by (N := N_law) (sc := sc_law) rfl rfl (by decide +kernel)) hfn0 (l_nil) (fun _ h => absurd h List.not_mem_nil)) (s_ite (t_cmp g (s_nm 7) (s_non) rfl) (s_tup (l_cons (s_nm 7) (l_cons (s_str) (l_nil) rfl) rfl)) (s_tup (l_cons (s_non) (l_cons (s_str) (l_nil) rfl) rfl))) rfl) (b_cons (x_ret (s_bl)) (b_nil)) (b_nil)) (b_nil)))) (fun _ => rfl)) (b_cons (x_for pw rfl (i_seq (s_lst (l_cons (s_non) (l_cons (s_int) (l_cons (s_lst (l_cons (s_nm 4) (l_nil) rfl)) (l_cons (s_bl) (l_cons (s_str) (l_cons (s_str) (l_cons (s_bin (s_nm 4) (s_str)) (l_cons (s_bin (s_str) (s_nm 4)) (l_cons (s_bin (s_nm 4) (s_str)) (l_cons (s_bin (s_nm 4) (s_str)) (l_nil) rfl) rfl) rfl) rfl) rfl) rfl) rfl) rfl) rfl) rfl))) (g_nm nd rfl (Or.inr rfl) (Or.inl rfl)) (b_cons (x_ifs (t_cmp g (s_callL (k := 2) (l := lam_2) tk t.f__law_error rfl (by decide) rfl rfl rfl rfl rfl TB hcd hm hu rfl (capOk_by (N := N_law) (sc := sc_law) rfl rfl (by decide +kernel)) hfn0 (l_nil) (fun _ h => absurd h List.not_mem_nil)) (s_str) rfl) (b_cons (x_ret (s_bl)) (b_nil)) (b_nil)) (b_nil)) (fun _ => rfl)) (b_cons (x_ifs (t_not (t_val (s_call tk t.f__law_all_refused rfl (by decide) (s_glob t.v_rule_text rfl) (l_cons (s_call0 tk t.f__law_bad_rules rfl (by decide)) (l_cons (s_str) (l_nil) rfl) rfl) (stars3 (fun _ => rfl) (fun _ => rfl) (fun _ => rfl))) (by intro _; rfl))) (b_cons (x_ret (s_bl)) (b_nil)) (b_nil)) (b_nil)))))))) (fun _ => rfl)) (b_cons (x_set (i := 9) nd rfl (Or.inl rfl) (s_lst (l_cons (s_str) (l_cons (s_str) (l_cons (s_str) (l_nil) rfl) rfl) rfl)) rfl (Or.inr rfl)) (b_cons (x_set (i := 9) nd rfl (Or.inl rfl) (s_bin (s_nm 9) (s_lst (l_cons (s_str) (l_cons (s_str) (l_cons (s_str) (l_nil) rfl) rfl) rfl))) rfl (Or.inr rfl)) (b_cons (x_ifs (t_not (t_val (s_call tk t.f__law_all_refused rfl (by decide) (s_glob t.v_read_rule rfl) (l_cons (s_bin (s_nm 9) (s_lst (l_cons (s_str) (l_cons (s_str) (l_nil) rfl) rfl))) (l_cons (s_str) (l_nil) rfl) rfl) (stars3 (fun _ => rfl) (fun _ => rfl) (fun _ => rfl))) (by intro _; rfl))) (b_cons (x_ret (s_bl)) (b_nil)) (b_nil)) (b_cons (x_set (i := 7) nd rfl (Or.inr rfl) (s_tup (l_cons (s_int) (l_cons (s_int) (l_cons (s_str) (l_cons (s_int) (l_cons (s_int) (l_nil) rfl) rfl) rfl) rfl) rfl)) rfl (Or.inl rfl)) (b_cons (x_ifs (t_cmp g (s_callL (k := 3) (l := lam_3) tk t.f__law_told rfl (by decide) rfl rfl rfl rfl rfl TB hcd hm hu rfl (capOk_by (N := N_law) (sc := sc_law) rfl rfl (by decide +kernel)) hfn0 (l_nil) (fun _ h => absurd h List.not_mem_nil)) (s_tup (l_cons (s_str) (l_cons (s_str) (l_nil) rfl) rfl)) rfl) (b_cons (x_ret (s_bl)) (b_nil)) (b_nil)) (b_cons (x_ret (s_cmp g (s_callL (k := 4) (l := lam_4) tk t.f__law_told rfl (by decide) rfl rfl rfl rfl rfl TB hcd hm hu rfl (capOk_by (N := N_law) (sc := sc_law) rfl rfl (by decide +kernel)) hfn0 (l_nil) (fun _ h => absurd h List.not_mem_nil)) (s_tup (l_cons (s_nm 7) (l_cons (s_str) (l_nil) rfl) rfl)) rfl)) (b_nil)))))))
theorem ls_0 : NdefX.NScope N_lam0 [] ["call", "odd"] lam_0.scope := NdefX.nscope_by (by decide +kernel)
theorem bl_0 (b : Bd) (C : MX.Ctx) (cl : List (Str × Addr)) (c : Addr) (g : Good (b.Y N_lam0 lam_0 cl c) C) (t : Tp (b.Y N_lam0 lam_0 cl c) C) (tk : L2N.Takes (b.Y N_lam0 lam_0 cl c) C.W) : SEv (b.Y N_lam0 lam_0 cl c) C lam_0.body (.callv 0 [.var 1]) := by
  have nd : N_lam0.Nodup := ls_0.nd
  exact s_callv (i := 0) rfl (by first | exact Or.inl rfl | exact Or.inr (Or.inl rfl) | exact Or.inr (Or.inr rfl)) (by decide) (by decide) tk t.all (lamN_of tk t.lam) (s_nm 1) (l_nil) (stars1 (fun _ => rfl))
theorem ls_1 : NdefX.NScope N_lam1 [] ["bent"] lam_1.scope := NdefX.nscope_by (by decide +kernel)
theorem bl_1 (b : Bd) (C : MX.Ctx) (cl : List (Str × Addr)) (c : Addr) (g : Good (b.Y N_lam1 lam_1 cl c) C) (t : Tp (b.Y N_lam1 lam_1 cl c) C) (tk : L2N.Takes (b.Y N_lam1 lam_1 cl c) C.W) : SEv (b.Y N_lam1 lam_1 cl c) C lam_1.body (.call 47 [.var 0]) := by
  have nd : N_lam1.Nodup := ls_1.nd
  exact s_call tk t.f_read_rule rfl (by decide) (s_nm 0) (l_nil) (stars1 (fun _ => rfl))
theorem ls_2 : NdefX.NScope N_lam2 [] ["odd"] lam_2.scope := NdefX.nscope_by (by decide +kernel)
theorem bl_2 (b : Bd) (C : MX.Ctx) (cl : List (Str × Addr)) (c : Addr) (g : Good (b.Y N_lam2 lam_2 cl c) C) (t : Tp (b.Y N_lam2 lam_2 cl c) C) (tk : L2N.Takes (b.Y N_lam2 lam_2 cl c) C.W) : SEv (b.Y N_lam2 lam_2 cl c) C lam_2.body (.call 47 [.var 0]) := by
  have nd : N_lam2.Nodup := ls_2.nd
  exact s_call tk t.f_read_rule rfl (by decide) (s_nm 0) (l_nil) (stars1 (fun _ => rfl))
theorem ls_3 : NdefX.NScope N_lam3 [] ["due"] lam_3.scope := NdefX.nscope_by (by decide +kernel)
theorem bl_3 (b : Bd) (C : MX.Ctx) (cl : List (Str × Addr)) (c : Addr) (g : Good (b.Y N_lam3 lam_3 cl c) C) (t : Tp (b.Y N_lam3 lam_3 cl c) C) (tk : L2N.Takes (b.Y N_lam3 lam_3 cl c) C.W) : SEv (b.Y N_lam3 lam_3 cl c) C lam_3.body (.call 44 [.var 0]) := by
  have nd : N_lam3.Nodup := ls_3.nd
  exact s_call tk t.f_rule_text rfl (by decide) (s_nm 0) (l_nil) (stars1 (fun _ => rfl))
theorem ls_4 : NdefX.NScope N_lam4 [] [] lam_4.scope := NdefX.nscope_by (by decide +kernel)
theorem bl_4 (b : Bd) (C : MX.Ctx) (cl : List (Str × Addr)) (c : Addr) (g : Good (b.Y N_lam4 lam_4 cl c) C) (t : Tp (b.Y N_lam4 lam_4 cl c) C) (tk : L2N.Takes (b.Y N_lam4 lam_4 cl c) C.W) : SEv (b.Y N_lam4 lam_4 cl c) C lam_4.body (.call 47 [.cst (.str "from -3 to 2 half each 2 by 2")]) := by
  have nd : N_lam4.Nodup := ls_4.nd
  exact s_call tk t.f_read_rule rfl (by decide) (s_str) (l_nil) (stars1 (fun _ => rfl))
abbrev sc__law_named_error : Scope := defScope (top 37)
theorem fs__law_named_error : FnScope N__law_named_error ["e"] (defScope (top 37)) := ⟨rfl, rfl, rfl, by decide +kernel, rfl, by decide +kernel, by decide +kernel⟩
theorem b__law_named_error (b : Bd) (C : MX.Ctx) {ds : List Addr} {ad : Addr} {oe : Obj} {i : Nat} (hc : L2H.HotC (L2H.cxH (L2N.CX b.P b.w) b.P b.w b.K b.mg b.base N__law_named_error "_law_named_error" (defScope (top 37)) b.f b.cdv b.A b.outer b.s b.H b.E (ad, oe))) (hp : (ad, oe) ∈ (L2H.cxH (L2N.CX b.P b.w) b.P b.w b.K b.mg b.base N__law_named_error "_law_named_error" (defScope (top 37)) b.f b.cdv b.A b.outer b.s b.H b.E (ad, oe)).pn) (fex : ExcC b.K (ds.getD i 0)) (hz : Zc (.ref (ds.getD i 0)) none oe) (hf : ∃ vs, oe.data = .fields vs) (hmg : ∀ (j : Nat) (x : Str), nmC[j]? = some x → b.mg x = some (.ref (ds.getD j 0))) (hkit : ∀ j, j < 14 → PySem.W.kitOne b.K (.ref (ds.getD i 0)) (.ref (ds.getD j 0)) = some (i == j)) (hmi : b.mg "isinstance" = none) (hzip : b.mg "zip" = none) : SSs (L2H.cxH (L2N.CX b.P b.w) b.P b.w b.K b.mg b.base N__law_named_error "_law_named_error" (defScope (top 37)) b.f b.cdv b.A b.outer b.s b.H b.E (ad, oe)) C (defBody (top 37)) (dN ad i).body := by
  have nd : N__law_named_error.Nodup := fs__law_named_error.nd
  exact b_cons (x_set (i := 1) nd rfl (Or.inl rfl) (s_lst (l_cons (s_isE (i := 0) (D := ds.getD i 0) (K2 := ds.getD 0 0) hp fex hz hf rfl (Or.inl rfl) (by decide) (by decide) (hmg 0 "InvalidRule" rfl) rfl (by decide) (hkit 0 (by decide)) rfl hmi rfl rfl) (l_cons (s_isE (i := 0) (D := ds.getD i 0) (K2 := ds.getD 1 0) hp fex hz hf rfl (Or.inl rfl) (by decide) (by decide) (hmg 1 "InvalidReach" rfl) rfl (by decide) (hkit 1 (by decide)) rfl hmi rfl rfl) (l_cons (s_isE (i := 0) (D := ds.getD i 0) (K2 := ds.getD 2 0) hp fex hz hf rfl (Or.inl rfl) (by decide) (by decide) (hmg 2 "InvalidCourse" rfl) rfl (by decide) (hkit 2 (by decide)) rfl hmi rfl rfl) (l_nil) rfl) rfl) rfl)) rfl (Or.inr rfl)) (b_cons (x_set (i := 1) nd rfl (Or.inl rfl) (s_bin (s_nm 1) (s_lst (l_cons (s_isE (i := 0) (D := ds.getD i 0) (K2 := ds.getD 3 0) hp fex hz hf rfl (Or.inl rfl) (by decide) (by decide) (hmg 3 "InvalidPrice" rfl) rfl (by decide) (hkit 3 (by decide)) rfl hmi rfl rfl) (l_cons (s_isE (i := 0) (D := ds.getD i 0) (K2 := ds.getD 4 0) hp fex hz hf rfl (Or.inl rfl) (by decide) (by decide) (hmg 4 "InvalidNumber" rfl) rfl (by decide) (hkit 4 (by decide)) rfl hmi rfl rfl) (l_cons (s_isE (i := 0) (D := ds.getD i 0) (K2 := ds.getD 5 0) hp fex hz hf rfl (Or.inl rfl) (by decide) (by decide) (hmg 5 "InvalidRounds" rfl) rfl (by decide) (hkit 5 (by decide)) rfl hmi rfl rfl) (l_nil) rfl) rfl) rfl))) rfl (Or.inr rfl)) (b_cons (x_set (i := 1) nd rfl (Or.inl rfl) (s_bin (s_nm 1) (s_lst (l_cons (s_isE (i := 0) (D := ds.getD i 0) (K2 := ds.getD 6 0) hp fex hz hf rfl (Or.inl rfl) (by decide) (by decide) (hmg 6 "InvalidSeen" rfl) rfl (by decide) (hkit 6 (by decide)) rfl hmi rfl rfl) (l_cons (s_isE (i := 0) (D := ds.getD i 0) (K2 := ds.getD 7 0) hp fex hz hf rfl (Or.inl rfl) (by decide) (by decide) (hmg 7 "InvalidNoted" rfl) rfl (by decide) (hkit 7 (by decide)) rfl hmi rfl rfl) (l_cons (s_isE (i := 0) (D := ds.getD i 0) (K2 := ds.getD 8 0) hp fex hz hf rfl (Or.inl rfl) (by decide) (by decide) (hmg 8 "InvalidStep" rfl) rfl (by decide) (hkit 8 (by decide)) rfl hmi rfl rfl) (l_nil) rfl) rfl) rfl))) rfl (Or.inr rfl)) (b_cons (x_set (i := 1) nd rfl (Or.inl rfl) (s_bin (s_nm 1) (s_lst (l_cons (s_isE (i := 0) (D := ds.getD i 0) (K2 := ds.getD 9 0) hp fex hz hf rfl (Or.inl rfl) (by decide) (by decide) (hmg 9 "InvalidIndex" rfl) rfl (by decide) (hkit 9 (by decide)) rfl hmi rfl rfl) (l_cons (s_isE (i := 0) (D := ds.getD i 0) (K2 := ds.getD 10 0) hp fex hz hf rfl (Or.inl rfl) (by decide) (by decide) (hmg 10 "InvalidText" rfl) rfl (by decide) (hkit 10 (by decide)) rfl hmi rfl rfl) (l_cons (s_isE (i := 0) (D := ds.getD i 0) (K2 := ds.getD 11 0) hp fex hz hf rfl (Or.inl rfl) (by decide) (by decide) (hmg 11 "TooMany" rfl) rfl (by decide) (hkit 11 (by decide)) rfl hmi rfl rfl) (l_nil) rfl) rfl) rfl))) rfl (Or.inr rfl)) (b_cons (x_set (i := 1) nd rfl (Or.inl rfl) (s_bin (s_nm 1) (s_lst (l_cons (s_isE (i := 0) (D := ds.getD i 0) (K2 := ds.getD 12 0) hp fex hz hf rfl (Or.inl rfl) (by decide) (by decide) (hmg 12 "Unlike" rfl) rfl (by decide) (hkit 12 (by decide)) rfl hmi rfl rfl) (l_cons (s_isE (i := 0) (D := ds.getD i 0) (K2 := ds.getD 13 0) hp fex hz hf rfl (Or.inl rfl) (by decide) (by decide) (hmg 13 "NothingToUndo" rfl) rfl (by decide) (hkit 13 (by decide)) rfl hmi rfl rfl) (l_nil) rfl) rfl))) rfl (Or.inr rfl)) (b_cons (x_set (i := 2) nd rfl (Or.inl rfl) (s_str) rfl (Or.inr rfl)) (b_cons (x_ret (s_join (s_str) (s_compH hc nd hzip rfl (s_split (s_nm 2) (s_str) rfl rfl rfl) (s_nm 1) rfl rfl (blkOk_by (own := [("label", 3), ("good", 4)]) (N := N__law_named_error) (sc := sc__law_named_error) (by decide +kernel)) rfl (fun _ _ _ _ _ => g_tpH hc (gs_cons nd rfl (Or.inl rfl) (Or.inr rfl) (gs_cons nd rfl (Or.inl rfl) (Or.inr rfl) (gs_nil))) rfl rfl) (fun _ _ _ _ _ => cond_one (t_val (s_nm 4) (by intro _; rfl))) (fun _ _ _ _ _ => se_of (s_nm 3)) (fun _ => rfl)) rfl rfl rfl)) (b_nil)))))))
end G

set_option Elab.async false
set_option linter.all false
set_option maxRecDepth 100000
set_option maxHeartbeats 8000000
set_option autoImplicit false
/-! GE: the promises of the defs of backinside_k12_texts_of_rules, what the top has written (printed by gen.py) -/
namespace G
open PySem PySem.Spec PyProof.Rows L2 MX
structure Top (K : PySem.W.Frag) (mg : Str → Option Value) (fa : Nat → Addr) (fd : Nat → FuncData) (cv : Nat → Value) (TT : List (Addr × Str)) (c19 P19 : Addr) (c24 P24 : Addr) (dd : List Addr) (BB : Addr) : Prop where
  F_is_whole : Fun K "is_whole" "is_whole" (top 19) (fa 0) (fd 0)
  M_is_whole : mg "is_whole" = some (.ref (fa 0))
  B_is_whole : Binds K (fd 0) ["value", "low", "high"] []
  F_is_way : Fun K "is_way" "is_way" (top 20) (fa 1) (fd 1)
  M_is_way : mg "is_way" = some (.ref (fa 1))
  B_is_way : Binds K (fd 1) ["value"] []
  F_fits_rule : Fun K "fits_rule" "fits_rule" (top 21) (fa 2) (fd 2)
  M_fits_rule : mg "fits_rule" = some (.ref (fa 2))
  B_fits_rule : Binds K (fd 2) ["value"] []
  F_need_rule : Fun K "need_rule" "need_rule" (top 22) (fa 3) (fd 3)
  M_need_rule : mg "need_rule" = some (.ref (fa 3))
  B_need_rule : Binds K (fd 3) ["value"] []
  F_as_text : Fun K "as_text" "as_text" (top 24) (fa 4) (fd 4)
  M_as_text : mg "as_text" = some (.ref (fa 4))
  B_as_text : Binds K (fd 4) ["rule"] []
  F_rule_text : Fun K "rule_text" "rule_text" (top 25) (fa 5) (fd 5)
  M_rule_text : mg "rule_text" = some (.ref (fa 5))
  B_rule_text : Binds K (fd 5) ["rule"] []
  F_figure_in : Fun K "figure_in" "figure_in" (top 26) (fa 6) (fd 6)
  M_figure_in : mg "figure_in" = some (.ref (fa 6))
  B_figure_in : Binds K (fd 6) ["word"] []
  F_rule_in : Fun K "rule_in" "rule_in" (top 27) (fa 7) (fd 7)
  M_rule_in : mg "rule_in" = some (.ref (fa 7))
  B_rule_in : Binds K (fd 7) ["text"] []
  F_read_rule : Fun K "read_rule" "read_rule" (top 28) (fa 8) (fd 8)
  M_read_rule : mg "read_rule" = some (.ref (fa 8))
  B_read_rule : Binds K (fd 8) ["text"] []
  F__law_cell : Fun K "_law_cell" "_law_cell" (top 30) (fa 9) (fd 9)
  M__law_cell : mg "_law_cell" = some (.ref (fa 9))
  B__law_cell : Binds K (fd 9) ["script", "k"] []
  F__law_draws : Fun K "_law_draws" "_law_draws" (top 31) (fa 10) (fd 10)
  M__law_draws : mg "_law_draws" = some (.ref (fa 10))
  B__law_draws : Binds K (fd 10) ["script", "k", "many", "base"] []
  F__law_bag : Fun K "_law_bag" "_law_bag" (top 32) (fa 11) (fd 11)
  M__law_bag : mg "_law_bag" = some (.ref (fa 11))
  B__law_bag : Binds K (fd 11) ["script", "k"] []
  F__law_take : Fun K "_law_take" "_law_take" (top 33) (fa 12) (fd 12)
  M__law_take : mg "_law_take" = some (.ref (fa 12))
  B__law_take : Binds K (fd 12) ["bag", "many"] []
  F__law_choice : Fun K "_law_choice" "_law_choice" (top 34) (fa 13) (fd 13)
  M__law_choice : mg "_law_choice" = some (.ref (fa 13))
  B__law_choice : Binds K (fd 13) ["bag", "some"] []
  F__law_known : Fun K "_law_known" "_law_known" (top 35) (fa 14) (fd 14)
  M__law_known : mg "_law_known" = some (.ref (fa 14))
  B__law_known : Binds K (fd 14) [] []
  F__law_rule : Fun K "_law_rule" "_law_rule" (top 36) (fa 15) (fd 15)
  M__law_rule : mg "_law_rule" = some (.ref (fa 15))
  B__law_rule : Binds K (fd 15) ["bag"] []
  F__law_named_error : Fun K "_law_named_error" "_law_named_error" (top 37) (fa 16) (fd 16)
  M__law_named_error : mg "_law_named_error" = some (.ref (fa 16))
  B__law_named_error : Binds K (fd 16) ["e"] []
  F__law_error : Fun K "_law_error" "_law_error" (top 38) (fa 17) (fd 17)
  M__law_error : mg "_law_error" = some (.ref (fa 17))
  B__law_error : Binds K (fd 17) ["call"] []
  F__law_told : Fun K "_law_told" "_law_told" (top 39) (fa 18) (fd 18)
  M__law_told : mg "_law_told" = some (.ref (fa 18))
  B__law_told : Binds K (fd 18) ["call"] []
  F__law_all_refused : FunC K "_law_all_refused" (top 40) (fa 19) (fd 19) c19
  H__law_all_refused : PySem.W.keepIn K (.ref (fa 19)) = true
  T__law_all_refused : (P19, ("_law_all_refused.<locals>.<lambda>" : Str)) ∈ TT
  U__law_all_refused : ∀ p ∈ TT, p.1 = P19 → p.2 = "_law_all_refused.<locals>.<lambda>"
  M__law_all_refused : mg "_law_all_refused" = some (.ref (fa 19))
  B__law_all_refused : Binds K (fd 19) ["call", "odds", "name"] []
  F__law_bad_rules : Fun K "_law_bad_rules" "_law_bad_rules" (top 41) (fa 20) (fd 20)
  M__law_bad_rules : mg "_law_bad_rules" = some (.ref (fa 20))
  B__law_bad_rules : Binds K (fd 20) [] []
  F__law_text : Fun K "_law_text" "_law_text" (top 42) (fa 21) (fd 21)
  M__law_text : mg "_law_text" = some (.ref (fa 21))
  B__law_text : Binds K (fd 21) ["rule_so"] []
  F__law_read : Fun K "_law_read" "_law_read" (top 43) (fa 22) (fd 22)
  M__law_read : mg "_law_read" = some (.ref (fa 22))
  B__law_read : Binds K (fd 22) ["text"] []
  F__law_bent : Fun K "_law_bent" "_law_bent" (top 44) (fa 23) (fd 23)
  M__law_bent : mg "_law_bent" = some (.ref (fa 23))
  B__law_bent : Binds K (fd 23) ["bag", "text"] []
  F_law : FunC K "law" (top 45) (fa 24) (fd 24) c24
  H_law : PySem.W.keepIn K (.ref (fa 24)) = true
  T_law : (P24, ("law.<locals>.<lambda>" : Str)) ∈ TT
  U_law : ∀ p ∈ TT, p.1 = P24 → p.2 = "law.<locals>.<lambda>"
  M_law : mg "law" = some (.ref (fa 24))
  B_law : Binds K (fd 24) ["script"] []
  X_BandError : ExcK K mg "BandError" (cv 0)
  X_InvalidRule : ExcK K mg "InvalidRule" (cv 1)
  X_InvalidReach : ExcK K mg "InvalidReach" (cv 3)
  X_InvalidCourse : ExcK K mg "InvalidCourse" (cv 2)
  X_InvalidPrice : ExcK K mg "InvalidPrice" (cv 4)
  X_InvalidNumber : ExcK K mg "InvalidNumber" (cv 5)
  X_InvalidRounds : ExcK K mg "InvalidRounds" (cv 6)
  X_InvalidSeen : ExcK K mg "InvalidSeen" (cv 7)
  X_InvalidNoted : ExcK K mg "InvalidNoted" (cv 8)
  X_InvalidStep : ExcK K mg "InvalidStep" (cv 9)
  X_InvalidIndex : ExcK K mg "InvalidIndex" (cv 10)
  X_InvalidText : ExcK K mg "InvalidText" (cv 11)
  X_TooMany : ExcK K mg "TooMany" (cv 12)
  X_Unlike : ExcK K mg "Unlike" (cv 13)
  X_NothingToUndo : ExcK K mg "NothingToUndo" (cv 14)
  K_WAYS : KK K mg "WAYS" D_WAYS
  K_MOST : KK K mg "MOST" D_MOST
  V_read_rule : PySem.W.nsIn K mainGlobals "read_rule" = some (some (.ref (fa 8)))
  V_rule_text : PySem.W.nsIn K mainGlobals "rule_text" = some (some (.ref (fa 5)))
  XA : XAll K cv nmL dd BB
  XB : mg "BandError" = some (.ref BB)
  XM : ∀ (j : Nat) (x : Str), nmC[j]? = some x → mg x = some (.ref (dd.getD j 0))
  XV : mg "ValueError" = none
  bl : ∀ x, x ∈ [("len" : Str), "abs", "int", "tuple", "list", "all", "bool", "sum", "max", "min", "isinstance", "str", "range", "enumerate", "zip"] → mg x = none
structure Oks (P : Program) (w : World) (K : PySem.W.Frag) (mg : Str → Option Value) (base : Heap) (fa : Nat → Addr) (fd : Nat → FuncData) (cv : Nat → Value) (TT : List (Addr × Str)) (n : Nat) : Prop where
  o_is_whole : FnOk P w K mg base (L2N.CX P w) (n + 1) (fa 0) (fd 0) ["value", "low", "high"] (FnS (callN defs n) K cv TT 0)
  o_is_way : FnOk P w K mg base (L2N.CX P w) (n + 1) (fa 1) (fd 1) ["value"] (FnS (callN defs n) K cv TT 1)
  o_fits_rule : FnOk P w K mg base (L2N.CX P w) (n + 1) (fa 2) (fd 2) ["value"] (FnS (callN defs n) K cv TT 2)
  o_need_rule : FnOk P w K mg base (L2N.CX P w) (n + 1) (fa 3) (fd 3) ["value"] (FnS (callN defs n) K cv TT 4)
  o_as_text : FnOk P w K mg base (L2N.CX P w) (n + 1) (fa 4) (fd 4) ["rule"] (FnS (callN defs n) K cv TT 43)
  o_rule_text : FnOk P w K mg base (L2N.CX P w) (n + 1) (fa 5) (fd 5) ["rule"] (FnS (callN defs n) K cv TT 44)
  o_figure_in : FnOk P w K mg base (L2N.CX P w) (n + 1) (fa 6) (fd 6) ["word"] (FnS (callN defs n) K cv TT 45)
  o_rule_in : FnOk P w K mg base (L2N.CX P w) (n + 1) (fa 7) (fd 7) ["text"] (FnS (callN defs n) K cv TT 46)
  o_read_rule : FnOk P w K mg base (L2N.CX P w) (n + 1) (fa 8) (fd 8) ["text"] (FnS (callN defs n) K cv TT 47)
  o__law_cell : FnOk P w K mg base (L2N.CX P w) (n + 1) (fa 9) (fd 9) ["script", "k"] (FnS (callN defs n) K cv TT 13)
  o__law_draws : FnOk P w K mg base (L2N.CX P w) (n + 1) (fa 10) (fd 10) ["script", "k", "many", "base"] (FnS (callN defs n) K cv TT 14)
  o__law_bag : FnOk P w K mg base (L2N.CX P w) (n + 1) (fa 11) (fd 11) ["script", "k"] (FnS (callN defs n) K cv TT 15)
  o__law_take : FnOk P w K mg base (L2N.CX P w) (n + 1) (fa 12) (fd 12) ["bag", "many"] (FnS (callN defs n) K cv TT 16)
  o__law_choice : FnOk P w K mg base (L2N.CX P w) (n + 1) (fa 13) (fd 13) ["bag", "some"] (FnS (callN defs n) K cv TT 17)
  o__law_known : FnOk P w K mg base (L2N.CX P w) (n + 1) (fa 14) (fd 14) [] (FnS (callN defs n) K cv TT 18)
  o__law_rule : FnOk P w K mg base (L2N.CX P w) (n + 1) (fa 15) (fd 15) ["bag"] (FnS (callN defs n) K cv TT 19)
  o__law_error : FnOk P w K mg base (L2N.CX P w) (n + 1) (fa 17) (fd 17) ["call"] (FnS (callN defs n) K cv TT 30)
  o__law_told : FnOk P w K mg base (L2N.CX P w) (n + 1) (fa 18) (fd 18) ["call"] (FnS (callN defs n) K cv TT 48)
  o__law_all_refused : FnOk P w K mg base (L2N.CX P w) (n + 1) (fa 19) (fd 19) ["call", "odds", "name"] (FnS (callN defs n) K cv TT 32)
  o__law_bad_rules : FnOk P w K mg base (L2N.CX P w) (n + 1) (fa 20) (fd 20) [] (FnS (callN defs n) K cv TT 33)
  o__law_text : FnOk P w K mg base (L2N.CX P w) (n + 1) (fa 21) (fd 21) ["rule_so"] (FnS (callN defs n) K cv TT 49)
  o__law_read : FnOk P w K mg base (L2N.CX P w) (n + 1) (fa 22) (fd 22) ["text"] (FnS (callN defs n) K cv TT 50)
  o__law_bent : FnOk P w K mg base (L2N.CX P w) (n + 1) (fa 23) (fd 23) ["bag", "text"] (FnS (callN defs n) K cv TT 51)
  o_law : FnOk P w K mg base (L2N.CX P w) (n + 1) (fa 24) (fd 24) ["script"] (FnS (callN defs n) K cv TT 52)
  lam : ∀ k l, lamTab[k]? = some l → LamOk P w K mg base (n + 1) l (FnS (callN defs n) K cv TT (lamN k))
section
variable {P : Program} {w : World} {K : PySem.W.Frag} {mg : Str → Option Value} {base : Heap} {fa : Nat → Addr} {fd : Nat → FuncData} {cv : Nat → Value} {TT : List (Addr × Str)} {n : Nat} {c19 P19 : Addr} {c24 P24 : Addr} {dd : List Addr} {BB : Addr}
theorem ok_zero : Oks P w K mg base fa fd cv TT 0 := ⟨fn_zero, fn_zero, fn_zero, fn_zero, fn_zero, fn_zero, fn_zero, fn_zero, fn_zero, fn_zero, fn_zero, fn_zero, fn_zero, fn_zero, fn_zero, fn_zero, fn_zero, fn_zero, fn_zero, fn_zero, fn_zero, fn_zero, fn_zero, fn_zero, fun _ _ _ => lam_zero⟩
theorem nm_ok (T : Top K mg fa fd cv TT c19 P19 c24 P24 dd BB) : FnHp P w K mg base (n + 1) (fa 16) (fd 16) ["e"] (spN K cv nmL TT) := by
  refine fnHp_of T.F__law_named_error fs__law_named_error (fun p vs H Q E h => by obtain ⟨c, x, G, L, e, _⟩ := h; subst e; rfl) (fun cdv A outer s H vs Q E p hot hr h => ?_)
  obtain ⟨c, x, G, L, e, hx, hz, hf, hT, rel, hq⟩ := h
  subst e
  obtain ⟨i, hi⟩ := lookup_at hx
  obtain ⟨S', hrun⟩ := rn_all (ad := p.1) hi
  obtain ⟨_, Lx, hT, ht⟩ := fn_read (d := dN p.1 i) (N := N__law_named_error) rfl rfl (Nat.le_of_ble_eq_true rfl) (spN_fnS (K := K) (cv := cv) (E := E) (d := dN p.1 i) hT rel hrun hq)
  have hl : i < dd.length := by rw [T.XA.len]; exact (List.getElem?_eq_some_iff.mp hi).1
  have ec := T.XA.cv_ i c x hi
  have zc := hz.zc
  rw [ec] at zc
  exact ⟨_, b__law_named_error ⟨P, w, K, mg, base, fa 16, cdv, A, outer, s, H, E⟩ ⟨_, Lx, fun c d _ H => E c d H, cv⟩ (ds := dd) (ad := p.1) (oe := p.2) (i := i) ⟨p, hot, List.mem_singleton.mpr rfl⟩ (List.mem_singleton.mpr rfl) (xrow_use (T.XA.row i hl)).1 zc hf T.XM (fun j hj => kit_at T.XA.kit hl (by rw [T.XA.len]; exact hj)) (T.bl "isinstance" (by decide)) (T.bl "zip" (by decide)), ht⟩
theorem tp_of {X : Cx} {C : MX.Ctx} (T : Top K mg fa fd cv TT c19 P19 c24 P24 dd BB) (o : Oks P w K mg base fa fd cv TT n) (hX : X.prog = P ∧ X.w = w ∧ X.K = K ∧ X.mg = mg ∧ X.base = base) (hC : C.cl = callN defs n ∧ C.cv = cv ∧ C.L.T = TT) (hr : Room (n + 1) X.A) : Tp X C := by
  obtain ⟨rfl, rfl, rfl, rfl, rfl⟩ := hX
  obtain ⟨h1, h2, h3⟩ := hC
  exact ⟨fng_of h1 h2 o.o_is_whole h3 hr T.M_is_whole T.F_is_whole.kp T.B_is_whole, fng_of h1 h2 o.o_is_way h3 hr T.M_is_way T.F_is_way.kp T.B_is_way, fng_of h1 h2 o.o_fits_rule h3 hr T.M_fits_rule T.F_fits_rule.kp T.B_fits_rule, fng_of h1 h2 o.o_need_rule h3 hr T.M_need_rule T.F_need_rule.kp T.B_need_rule, fng_of h1 h2 o.o_as_text h3 hr T.M_as_text T.F_as_text.kp T.B_as_text, fng_of h1 h2 o.o_rule_text h3 hr T.M_rule_text T.F_rule_text.kp T.B_rule_text, fng_of h1 h2 o.o_figure_in h3 hr T.M_figure_in T.F_figure_in.kp T.B_figure_in, fng_of h1 h2 o.o_rule_in h3 hr T.M_rule_in T.F_rule_in.kp T.B_rule_in, fng_of h1 h2 o.o_read_rule h3 hr T.M_read_rule T.F_read_rule.kp T.B_read_rule, fng_of h1 h2 o.o__law_cell h3 hr T.M__law_cell T.F__law_cell.kp T.B__law_cell, fng_of h1 h2 o.o__law_draws h3 hr T.M__law_draws T.F__law_draws.kp T.B__law_draws, fng_of h1 h2 o.o__law_bag h3 hr T.M__law_bag T.F__law_bag.kp T.B__law_bag, fng_of h1 h2 o.o__law_take h3 hr T.M__law_take T.F__law_take.kp T.B__law_take, fng_of h1 h2 o.o__law_choice h3 hr T.M__law_choice T.F__law_choice.kp T.B__law_choice, fng_of h1 h2 o.o__law_known h3 hr T.M__law_known T.F__law_known.kp T.B__law_known, fng_of h1 h2 o.o__law_rule h3 hr T.M__law_rule T.F__law_rule.kp T.B__law_rule, fng_of h1 h2 o.o__law_error h3 hr T.M__law_error T.F__law_error.kp T.B__law_error, fng_of h1 h2 o.o__law_told h3 hr T.M__law_told T.F__law_told.kp T.B__law_told, fng_of h1 h2 o.o__law_all_refused h3 hr T.M__law_all_refused T.H__law_all_refused T.B__law_all_refused, fng_of h1 h2 o.o__law_bad_rules h3 hr T.M__law_bad_rules T.F__law_bad_rules.kp T.B__law_bad_rules, fng_of h1 h2 o.o__law_text h3 hr T.M__law_text T.F__law_text.kp T.B__law_text, fng_of h1 h2 o.o__law_read h3 hr T.M__law_read T.F__law_read.kp T.B__law_read, fng_of h1 h2 o.o__law_bent h3 hr T.M__law_bent T.F__law_bent.kp T.B__law_bent, fng_of h1 h2 o.o_law h3 hr T.M_law T.H_law T.B_law, excg_of h2 T.X_BandError, excg_of h2 T.X_InvalidRule, excg_of h2 T.X_InvalidReach, excg_of h2 T.X_InvalidCourse, excg_of h2 T.X_InvalidPrice, excg_of h2 T.X_InvalidNumber, excg_of h2 T.X_InvalidRounds, excg_of h2 T.X_InvalidSeen, excg_of h2 T.X_InvalidNoted, excg_of h2 T.X_InvalidStep, excg_of h2 T.X_InvalidIndex, excg_of h2 T.X_InvalidText, excg_of h2 T.X_TooMany, excg_of h2 T.X_Unlike, excg_of h2 T.X_NothingToUndo, T.K_WAYS, T.K_MOST, kg_fn T.M_read_rule T.V_read_rule, kg_fn T.M_rule_text T.V_rule_text, nmg_of h2 h3 (nm_ok (n := n) T) hr T.M__law_named_error T.F__law_named_error.kp T.B__law_named_error, ⟨_, T.XB, by rw [h2]; exact T.XA.xf⟩, T.XV, lamG_of h1 h2 h3 hr o.lam, by
    intro f x a hn hns
    rw [h1] at hn
    have z := nm_of (defs := defs) (fun _ => rfl) (V := nmV) (by decide +kernel) (by decide +kernel) hn
    simp only [nmV, List.mem_cons, List.not_mem_nil, or_false, Prod.mk.injEq] at z
    rcases z with ⟨rfl, rfl⟩ | ⟨rfl, rfl⟩
    · exact fnn_at h1 h2 h3 hr T.V_read_rule hns o.o_read_rule T.F_read_rule.kp T.B_read_rule
    · exact fnn_at h1 h2 h3 hr T.V_rule_text hns o.o_rule_text T.F_rule_text.kp T.B_rule_text⟩
theorem st_is_whole_ok (T : Top K mg fa fd cv TT c19 P19 c24 P24 dd BB) (b19 : LamX.TabB base mg c19 P19) (b24 : LamX.TabB base mg c24 P24) (o : Oks P w K mg base fa fd cv TT n) : FnOk P w K mg base (L2N.CX P w) (n + 2) (fa 0) (fd 0) ["value", "low", "high"] (FnS (callN defs (n + 1)) K cv TT 0) := by
  refine okN T.F_is_whole fs_is_whole (fun vs H Q E h => (fn_read (d := d_is_whole) (N := N_is_whole) rfl rfl (by decide) h).1) (fun cdv A outer s H vs Q E hr h => ?_)
  obtain ⟨_, Lx, hT, ht⟩ := fn_read (d := d_is_whole) (N := N_is_whole) rfl rfl (by decide) h
  exact ⟨_, b_is_whole ⟨P, w, K, mg, base, fa 0, cdv, A, outer, s, H, E⟩ ⟨callN defs n, Lx, fun c d _ H => E c d H, cv⟩ ⟨fs_is_whole.nd, rfl, hu64 hr, T.bl⟩ (tp_of T o ⟨rfl, rfl, rfl, rfl, rfl⟩ ⟨rfl, rfl, hT⟩ hr) (takesN_of rfl rfl rfl rfl) PassesOwn.leaving, ht⟩
theorem st_is_way_ok (T : Top K mg fa fd cv TT c19 P19 c24 P24 dd BB) (b19 : LamX.TabB base mg c19 P19) (b24 : LamX.TabB base mg c24 P24) (o : Oks P w K mg base fa fd cv TT n) : FnOk P w K mg base (L2N.CX P w) (n + 2) (fa 1) (fd 1) ["value"] (FnS (callN defs (n + 1)) K cv TT 1) := by
  refine okN T.F_is_way fs_is_way (fun vs H Q E h => (fn_read (d := d_is_way) (N := N_is_way) rfl rfl (by decide) h).1) (fun cdv A outer s H vs Q E hr h => ?_)
  obtain ⟨_, Lx, hT, ht⟩ := fn_read (d := d_is_way) (N := N_is_way) rfl rfl (by decide) h
  exact ⟨_, b_is_way ⟨P, w, K, mg, base, fa 1, cdv, A, outer, s, H, E⟩ ⟨callN defs n, Lx, fun c d _ H => E c d H, cv⟩ ⟨fs_is_way.nd, rfl, hu64 hr, T.bl⟩ (tp_of T o ⟨rfl, rfl, rfl, rfl, rfl⟩ ⟨rfl, rfl, hT⟩ hr) (takesN_of rfl rfl rfl rfl) PassesOwn.leaving, ht⟩
theorem st_fits_rule_ok (T : Top K mg fa fd cv TT c19 P19 c24 P24 dd BB) (b19 : LamX.TabB base mg c19 P19) (b24 : LamX.TabB base mg c24 P24) (o : Oks P w K mg base fa fd cv TT n) : FnOk P w K mg base (L2N.CX P w) (n + 2) (fa 2) (fd 2) ["value"] (FnS (callN defs (n + 1)) K cv TT 2) := by
  refine okN T.F_fits_rule fs_fits_rule (fun vs H Q E h => (fn_read (d := d_fits_rule) (N := N_fits_rule) rfl rfl (by decide) h).1) (fun cdv A outer s H vs Q E hr h => ?_)
  obtain ⟨_, Lx, hT, ht⟩ := fn_read (d := d_fits_rule) (N := N_fits_rule) rfl rfl (by decide) h
  exact ⟨_, b_fits_rule ⟨P, w, K, mg, base, fa 2, cdv, A, outer, s, H, E⟩ ⟨callN defs n, Lx, fun c d _ H => E c d H, cv⟩ ⟨fs_fits_rule.nd, rfl, hu64 hr, T.bl⟩ (tp_of T o ⟨rfl, rfl, rfl, rfl, rfl⟩ ⟨rfl, rfl, hT⟩ hr) (takesN_of rfl rfl rfl rfl) PassesOwn.leaving, ht⟩
theorem st_need_rule_ok (T : Top K mg fa fd cv TT c19 P19 c24 P24 dd BB) (b19 : LamX.TabB base mg c19 P19) (b24 : LamX.TabB base mg c24 P24) (o : Oks P w K mg base fa fd cv TT n) : FnOk P w K mg base (L2N.CX P w) (n + 2) (fa 3) (fd 3) ["value"] (FnS (callN defs (n + 1)) K cv TT 4) := by
  refine okN T.F_need_rule fs_need_rule (fun vs H Q E h => (fn_read (d := d_need_rule) (N := N_need_rule) rfl rfl (by decide) h).1) (fun cdv A outer s H vs Q E hr h => ?_)
  obtain ⟨_, Lx, hT, ht⟩ := fn_read (d := d_need_rule) (N := N_need_rule) rfl rfl (by decide) h
  exact ⟨_, b_need_rule ⟨P, w, K, mg, base, fa 3, cdv, A, outer, s, H, E⟩ ⟨callN defs n, Lx, fun c d _ H => E c d H, cv⟩ ⟨fs_need_rule.nd, rfl, hu64 hr, T.bl⟩ (tp_of T o ⟨rfl, rfl, rfl, rfl, rfl⟩ ⟨rfl, rfl, hT⟩ hr) (takesN_of rfl rfl rfl rfl) PassesOwn.leaving, ht⟩
theorem st_as_text_ok (T : Top K mg fa fd cv TT c19 P19 c24 P24 dd BB) (b19 : LamX.TabB base mg c19 P19) (b24 : LamX.TabB base mg c24 P24) (o : Oks P w K mg base fa fd cv TT n) : FnOk P w K mg base (L2N.CX P w) (n + 2) (fa 4) (fd 4) ["rule"] (FnS (callN defs (n + 1)) K cv TT 43) := by
  refine okN T.F_as_text fs_as_text (fun vs H Q E h => (fn_read (d := d_as_text) (N := N_as_text) rfl rfl (by decide) h).1) (fun cdv A outer s H vs Q E hr h => ?_)
  obtain ⟨_, Lx, hT, ht⟩ := fn_read (d := d_as_text) (N := N_as_text) rfl rfl (by decide) h
  exact ⟨_, b_as_text ⟨P, w, K, mg, base, fa 4, cdv, A, outer, s, H, E⟩ ⟨callN defs n, Lx, fun c d _ H => E c d H, cv⟩ ⟨fs_as_text.nd, rfl, hu64 hr, T.bl⟩ (tp_of T o ⟨rfl, rfl, rfl, rfl, rfl⟩ ⟨rfl, rfl, hT⟩ hr) (takesN_of rfl rfl rfl rfl) PassesOwn.leaving, ht⟩
theorem st_rule_text_ok (T : Top K mg fa fd cv TT c19 P19 c24 P24 dd BB) (b19 : LamX.TabB base mg c19 P19) (b24 : LamX.TabB base mg c24 P24) (o : Oks P w K mg base fa fd cv TT n) : FnOk P w K mg base (L2N.CX P w) (n + 2) (fa 5) (fd 5) ["rule"] (FnS (callN defs (n + 1)) K cv TT 44) := by
  refine okN T.F_rule_text fs_rule_text (fun vs H Q E h => (fn_read (d := d_rule_text) (N := N_rule_text) rfl rfl (by decide) h).1) (fun cdv A outer s H vs Q E hr h => ?_)
  obtain ⟨_, Lx, hT, ht⟩ := fn_read (d := d_rule_text) (N := N_rule_text) rfl rfl (by decide) h
  exact ⟨_, b_rule_text ⟨P, w, K, mg, base, fa 5, cdv, A, outer, s, H, E⟩ ⟨callN defs n, Lx, fun c d _ H => E c d H, cv⟩ ⟨fs_rule_text.nd, rfl, hu64 hr, T.bl⟩ (tp_of T o ⟨rfl, rfl, rfl, rfl, rfl⟩ ⟨rfl, rfl, hT⟩ hr) (takesN_of rfl rfl rfl rfl) PassesOwn.leaving, ht⟩
theorem st_figure_in_ok (T : Top K mg fa fd cv TT c19 P19 c24 P24 dd BB) (b19 : LamX.TabB base mg c19 P19) (b24 : LamX.TabB base mg c24 P24) (o : Oks P w K mg base fa fd cv TT n) : FnOk P w K mg base (L2N.CX P w) (n + 2) (fa 6) (fd 6) ["word"] (FnS (callN defs (n + 1)) K cv TT 45) := by
  refine okN T.F_figure_in fs_figure_in (fun vs H Q E h => (fn_read (d := d_figure_in) (N := N_figure_in) rfl rfl (by decide) h).1) (fun cdv A outer s H vs Q E hr h => ?_)
  obtain ⟨_, Lx, hT, ht⟩ := fn_read (d := d_figure_in) (N := N_figure_in) rfl rfl (by decide) h
  exact ⟨_, b_figure_in ⟨P, w, K, mg, base, fa 6, cdv, A, outer, s, H, E⟩ ⟨callN defs n, Lx, fun c d _ H => E c d H, cv⟩ ⟨fs_figure_in.nd, rfl, hu64 hr, T.bl⟩ (tp_of T o ⟨rfl, rfl, rfl, rfl, rfl⟩ ⟨rfl, rfl, hT⟩ hr) (takesN_of rfl rfl rfl rfl) PassesOwn.leaving, ht⟩
theorem st_rule_in_ok (T : Top K mg fa fd cv TT c19 P19 c24 P24 dd BB) (b19 : LamX.TabB base mg c19 P19) (b24 : LamX.TabB base mg c24 P24) (o : Oks P w K mg base fa fd cv TT n) : FnOk P w K mg base (L2N.CX P w) (n + 2) (fa 7) (fd 7) ["text"] (FnS (callN defs (n + 1)) K cv TT 46) := by
  refine okN T.F_rule_in fs_rule_in (fun vs H Q E h => (fn_read (d := d_rule_in) (N := N_rule_in) rfl rfl (by decide) h).1) (fun cdv A outer s H vs Q E hr h => ?_)
  obtain ⟨_, Lx, hT, ht⟩ := fn_read (d := d_rule_in) (N := N_rule_in) rfl rfl (by decide) h
  exact ⟨_, b_rule_in ⟨P, w, K, mg, base, fa 7, cdv, A, outer, s, H, E⟩ ⟨callN defs n, Lx, fun c d _ H => E c d H, cv⟩ ⟨fs_rule_in.nd, rfl, hu64 hr, T.bl⟩ (tp_of T o ⟨rfl, rfl, rfl, rfl, rfl⟩ ⟨rfl, rfl, hT⟩ hr) (takesN_of rfl rfl rfl rfl) PassesOwn.leaving, ht⟩
theorem st_read_rule_ok (T : Top K mg fa fd cv TT c19 P19 c24 P24 dd BB) (b19 : LamX.TabB base mg c19 P19) (b24 : LamX.TabB base mg c24 P24) (o : Oks P w K mg base fa fd cv TT n) : FnOk P w K mg base (L2N.CX P w) (n + 2) (fa 8) (fd 8) ["text"] (FnS (callN defs (n + 1)) K cv TT 47) := by
  refine okN T.F_read_rule fs_read_rule (fun vs H Q E h => (fn_read (d := d_read_rule) (N := N_read_rule) rfl rfl (by decide) h).1) (fun cdv A outer s H vs Q E hr h => ?_)
  obtain ⟨_, Lx, hT, ht⟩ := fn_read (d := d_read_rule) (N := N_read_rule) rfl rfl (by decide) h
  exact ⟨_, b_read_rule ⟨P, w, K, mg, base, fa 8, cdv, A, outer, s, H, E⟩ ⟨callN defs n, Lx, fun c d _ H => E c d H, cv⟩ ⟨fs_read_rule.nd, rfl, hu64 hr, T.bl⟩ (tp_of T o ⟨rfl, rfl, rfl, rfl, rfl⟩ ⟨rfl, rfl, hT⟩ hr) (takesN_of rfl rfl rfl rfl) PassesOwn.leaving, ht⟩
theorem st__law_cell_ok (T : Top K mg fa fd cv TT c19 P19 c24 P24 dd BB) (b19 : LamX.TabB base mg c19 P19) (b24 : LamX.TabB base mg c24 P24) (o : Oks P w K mg base fa fd cv TT n) : FnOk P w K mg base (L2N.CX P w) (n + 2) (fa 9) (fd 9) ["script", "k"] (FnS (callN defs (n + 1)) K cv TT 13) := by
  refine okN T.F__law_cell fs__law_cell (fun vs H Q E h => (fn_read (d := d__law_cell) (N := N__law_cell) rfl rfl (by decide) h).1) (fun cdv A outer s H vs Q E hr h => ?_)
  obtain ⟨_, Lx, hT, ht⟩ := fn_read (d := d__law_cell) (N := N__law_cell) rfl rfl (by decide) h
  exact ⟨_, b__law_cell ⟨P, w, K, mg, base, fa 9, cdv, A, outer, s, H, E⟩ ⟨callN defs n, Lx, fun c d _ H => E c d H, cv⟩ ⟨fs__law_cell.nd, rfl, hu64 hr, T.bl⟩ (tp_of T o ⟨rfl, rfl, rfl, rfl, rfl⟩ ⟨rfl, rfl, hT⟩ hr) (takesN_of rfl rfl rfl rfl) PassesOwn.leaving, ht⟩
theorem st__law_draws_ok (T : Top K mg fa fd cv TT c19 P19 c24 P24 dd BB) (b19 : LamX.TabB base mg c19 P19) (b24 : LamX.TabB base mg c24 P24) (o : Oks P w K mg base fa fd cv TT n) : FnOk P w K mg base (L2N.CX P w) (n + 2) (fa 10) (fd 10) ["script", "k", "many", "base"] (FnS (callN defs (n + 1)) K cv TT 14) := by
  refine okN T.F__law_draws fs__law_draws (fun vs H Q E h => (fn_read (d := d__law_draws) (N := N__law_draws) rfl rfl (by decide) h).1) (fun cdv A outer s H vs Q E hr h => ?_)
  obtain ⟨_, Lx, hT, ht⟩ := fn_read (d := d__law_draws) (N := N__law_draws) rfl rfl (by decide) h
  exact ⟨_, b__law_draws ⟨P, w, K, mg, base, fa 10, cdv, A, outer, s, H, E⟩ ⟨callN defs n, Lx, fun c d _ H => E c d H, cv⟩ ⟨fs__law_draws.nd, rfl, hu64 hr, T.bl⟩ (tp_of T o ⟨rfl, rfl, rfl, rfl, rfl⟩ ⟨rfl, rfl, hT⟩ hr) (takesN_of rfl rfl rfl rfl) PassesOwn.leaving, ht⟩
theorem st__law_bag_ok (T : Top K mg fa fd cv TT c19 P19 c24 P24 dd BB) (b19 : LamX.TabB base mg c19 P19) (b24 : LamX.TabB base mg c24 P24) (o : Oks P w K mg base fa fd cv TT n) : FnOk P w K mg base (L2N.CX P w) (n + 2) (fa 11) (fd 11) ["script", "k"] (FnS (callN defs (n + 1)) K cv TT 15) := by
  refine okN T.F__law_bag fs__law_bag (fun vs H Q E h => (fn_read (d := d__law_bag) (N := N__law_bag) rfl rfl (by decide) h).1) (fun cdv A outer s H vs Q E hr h => ?_)
  obtain ⟨_, Lx, hT, ht⟩ := fn_read (d := d__law_bag) (N := N__law_bag) rfl rfl (by decide) h
  exact ⟨_, b__law_bag ⟨P, w, K, mg, base, fa 11, cdv, A, outer, s, H, E⟩ ⟨callN defs n, Lx, fun c d _ H => E c d H, cv⟩ ⟨fs__law_bag.nd, rfl, hu64 hr, T.bl⟩ (tp_of T o ⟨rfl, rfl, rfl, rfl, rfl⟩ ⟨rfl, rfl, hT⟩ hr) (takesN_of rfl rfl rfl rfl) PassesOwn.leaving, ht⟩
theorem st__law_take_ok (T : Top K mg fa fd cv TT c19 P19 c24 P24 dd BB) (b19 : LamX.TabB base mg c19 P19) (b24 : LamX.TabB base mg c24 P24) (o : Oks P w K mg base fa fd cv TT n) : FnOk P w K mg base (L2N.CX P w) (n + 2) (fa 12) (fd 12) ["bag", "many"] (FnS (callN defs (n + 1)) K cv TT 16) := by
  refine okN T.F__law_take fs__law_take (fun vs H Q E h => (fn_read (d := d__law_take) (N := N__law_take) rfl rfl (by decide) h).1) (fun cdv A outer s H vs Q E hr h => ?_)
  obtain ⟨_, Lx, hT, ht⟩ := fn_read (d := d__law_take) (N := N__law_take) rfl rfl (by decide) h
  exact ⟨_, b__law_take ⟨P, w, K, mg, base, fa 12, cdv, A, outer, s, H, E⟩ ⟨callN defs n, Lx, fun c d _ H => E c d H, cv⟩ ⟨fs__law_take.nd, rfl, hu64 hr, T.bl⟩ (tp_of T o ⟨rfl, rfl, rfl, rfl, rfl⟩ ⟨rfl, rfl, hT⟩ hr) (takesN_of rfl rfl rfl rfl) PassesOwn.leaving, ht⟩
theorem st__law_choice_ok (T : Top K mg fa fd cv TT c19 P19 c24 P24 dd BB) (b19 : LamX.TabB base mg c19 P19) (b24 : LamX.TabB base mg c24 P24) (o : Oks P w K mg base fa fd cv TT n) : FnOk P w K mg base (L2N.CX P w) (n + 2) (fa 13) (fd 13) ["bag", "some"] (FnS (callN defs (n + 1)) K cv TT 17) := by
  refine okN T.F__law_choice fs__law_choice (fun vs H Q E h => (fn_read (d := d__law_choice) (N := N__law_choice) rfl rfl (by decide) h).1) (fun cdv A outer s H vs Q E hr h => ?_)
  obtain ⟨_, Lx, hT, ht⟩ := fn_read (d := d__law_choice) (N := N__law_choice) rfl rfl (by decide) h
  exact ⟨_, b__law_choice ⟨P, w, K, mg, base, fa 13, cdv, A, outer, s, H, E⟩ ⟨callN defs n, Lx, fun c d _ H => E c d H, cv⟩ ⟨fs__law_choice.nd, rfl, hu64 hr, T.bl⟩ (tp_of T o ⟨rfl, rfl, rfl, rfl, rfl⟩ ⟨rfl, rfl, hT⟩ hr) (takesN_of rfl rfl rfl rfl) PassesOwn.leaving, ht⟩
theorem st__law_known_ok (T : Top K mg fa fd cv TT c19 P19 c24 P24 dd BB) (b19 : LamX.TabB base mg c19 P19) (b24 : LamX.TabB base mg c24 P24) (o : Oks P w K mg base fa fd cv TT n) : FnOk P w K mg base (L2N.CX P w) (n + 2) (fa 14) (fd 14) [] (FnS (callN defs (n + 1)) K cv TT 18) := by
  refine okN T.F__law_known fs__law_known (fun vs H Q E h => (fn_read (d := d__law_known) (N := N__law_known) rfl rfl (by decide) h).1) (fun cdv A outer s H vs Q E hr h => ?_)
  obtain ⟨_, Lx, hT, ht⟩ := fn_read (d := d__law_known) (N := N__law_known) rfl rfl (by decide) h
  exact ⟨_, b__law_known ⟨P, w, K, mg, base, fa 14, cdv, A, outer, s, H, E⟩ ⟨callN defs n, Lx, fun c d _ H => E c d H, cv⟩ ⟨fs__law_known.nd, rfl, hu64 hr, T.bl⟩ (tp_of T o ⟨rfl, rfl, rfl, rfl, rfl⟩ ⟨rfl, rfl, hT⟩ hr) (takesN_of rfl rfl rfl rfl) PassesOwn.leaving, ht⟩
theorem st__law_rule_ok (T : Top K mg fa fd cv TT c19 P19 c24 P24 dd BB) (b19 : LamX.TabB base mg c19 P19) (b24 : LamX.TabB base mg c24 P24) (o : Oks P w K mg base fa fd cv TT n) : FnOk P w K mg base (L2N.CX P w) (n + 2) (fa 15) (fd 15) ["bag"] (FnS (callN defs (n + 1)) K cv TT 19) := by
  refine okN T.F__law_rule fs__law_rule (fun vs H Q E h => (fn_read (d := d__law_rule) (N := N__law_rule) rfl rfl (by decide) h).1) (fun cdv A outer s H vs Q E hr h => ?_)
  obtain ⟨_, Lx, hT, ht⟩ := fn_read (d := d__law_rule) (N := N__law_rule) rfl rfl (by decide) h
  exact ⟨_, b__law_rule ⟨P, w, K, mg, base, fa 15, cdv, A, outer, s, H, E⟩ ⟨callN defs n, Lx, fun c d _ H => E c d H, cv⟩ ⟨fs__law_rule.nd, rfl, hu64 hr, T.bl⟩ (tp_of T o ⟨rfl, rfl, rfl, rfl, rfl⟩ ⟨rfl, rfl, hT⟩ hr) (takesN_of rfl rfl rfl rfl) PassesOwn.leaving, ht⟩
theorem st__law_error_ok (T : Top K mg fa fd cv TT c19 P19 c24 P24 dd BB) (b19 : LamX.TabB base mg c19 P19) (b24 : LamX.TabB base mg c24 P24) (o : Oks P w K mg base fa fd cv TT n) : FnOk P w K mg base (L2N.CX P w) (n + 2) (fa 17) (fd 17) ["call"] (FnS (callN defs (n + 1)) K cv TT 30) := by
  refine okN T.F__law_error fs__law_error (fun vs H Q E h => (fn_read (d := d__law_error) (N := N__law_error) rfl rfl (by decide) h).1) (fun cdv A outer s H vs Q E hr h => ?_)
  obtain ⟨_, Lx, hT, ht⟩ := fn_read (d := d__law_error) (N := N__law_error) rfl rfl (by decide) h
  exact ⟨_, b__law_error ⟨P, w, K, mg, base, fa 17, cdv, A, outer, s, H, E⟩ ⟨callN defs n, Lx, fun c d _ H => E c d H, cv⟩ ⟨fs__law_error.nd, rfl, hu64 hr, T.bl⟩ (tp_of T o ⟨rfl, rfl, rfl, rfl, rfl⟩ ⟨rfl, rfl, hT⟩ hr) (takesN_of rfl rfl rfl rfl) PassesOwn.leaving, ht⟩
theorem st__law_told_ok (T : Top K mg fa fd cv TT c19 P19 c24 P24 dd BB) (b19 : LamX.TabB base mg c19 P19) (b24 : LamX.TabB base mg c24 P24) (o : Oks P w K mg base fa fd cv TT n) : FnOk P w K mg base (L2N.CX P w) (n + 2) (fa 18) (fd 18) ["call"] (FnS (callN defs (n + 1)) K cv TT 48) := by
  refine okN T.F__law_told fs__law_told (fun vs H Q E h => (fn_read (d := d__law_told) (N := N__law_told) rfl rfl (by decide) h).1) (fun cdv A outer s H vs Q E hr h => ?_)
  obtain ⟨_, Lx, hT, ht⟩ := fn_read (d := d__law_told) (N := N__law_told) rfl rfl (by decide) h
  exact ⟨_, b__law_told ⟨P, w, K, mg, base, fa 18, cdv, A, outer, s, H, E⟩ ⟨callN defs n, Lx, fun c d _ H => E c d H, cv⟩ ⟨fs__law_told.nd, rfl, hu64 hr, T.bl⟩ (tp_of T o ⟨rfl, rfl, rfl, rfl, rfl⟩ ⟨rfl, rfl, hT⟩ hr) (takesN_of rfl rfl rfl rfl) PassesOwn.leaving, ht⟩
theorem st__law_all_refused_ok (T : Top K mg fa fd cv TT c19 P19 c24 P24 dd BB) (b19 : LamX.TabB base mg c19 P19) (b24 : LamX.TabB base mg c24 P24) (o : Oks P w K mg base fa fd cv TT n) : FnOk P w K mg base (L2N.CX P w) (n + 2) (fa 19) (fd 19) ["call", "odds", "name"] (FnS (callN defs (n + 1)) K cv TT 32) := by
  refine okC T.F__law_all_refused fs__law_all_refused (fun vs H Q E h => (fn_read (d := d__law_all_refused) (N := N__law_all_refused) rfl rfl (by decide) h).1) (fun A outer s H vs Q E hr h => ?_)
  obtain ⟨_, Lx, hT, ht⟩ := fn_read (d := d__law_all_refused) (N := N__law_all_refused) rfl rfl (by decide) h
  exact ⟨_, b__law_all_refused ⟨P, w, K, mg, base, fa 19, .ref c19, A, outer, s, H, E⟩ ⟨callN defs n, Lx, fun c d _ H => E c d H, cv⟩ b19 rfl (by rw [hT]; exact T.T__law_all_refused) (by rw [hT]; exact T.U__law_all_refused) ⟨fs__law_all_refused.nd, rfl, hu64 hr, T.bl⟩ (tp_of T o ⟨rfl, rfl, rfl, rfl, rfl⟩ ⟨rfl, rfl, hT⟩ hr) (takesN_of rfl rfl rfl rfl) PassesOwn.leaving, ht⟩
theorem st__law_bad_rules_ok (T : Top K mg fa fd cv TT c19 P19 c24 P24 dd BB) (b19 : LamX.TabB base mg c19 P19) (b24 : LamX.TabB base mg c24 P24) (o : Oks P w K mg base fa fd cv TT n) : FnOk P w K mg base (L2N.CX P w) (n + 2) (fa 20) (fd 20) [] (FnS (callN defs (n + 1)) K cv TT 33) := by
  refine okN T.F__law_bad_rules fs__law_bad_rules (fun vs H Q E h => (fn_read (d := d__law_bad_rules) (N := N__law_bad_rules) rfl rfl (by decide) h).1) (fun cdv A outer s H vs Q E hr h => ?_)
  obtain ⟨_, Lx, hT, ht⟩ := fn_read (d := d__law_bad_rules) (N := N__law_bad_rules) rfl rfl (by decide) h
  exact ⟨_, b__law_bad_rules ⟨P, w, K, mg, base, fa 20, cdv, A, outer, s, H, E⟩ ⟨callN defs n, Lx, fun c d _ H => E c d H, cv⟩ ⟨fs__law_bad_rules.nd, rfl, hu64 hr, T.bl⟩ (tp_of T o ⟨rfl, rfl, rfl, rfl, rfl⟩ ⟨rfl, rfl, hT⟩ hr) (takesN_of rfl rfl rfl rfl) PassesOwn.leaving, ht⟩
theorem st__law_text_ok (T : Top K mg fa fd cv TT c19 P19 c24 P24 dd BB) (b19 : LamX.TabB base mg c19 P19) (b24 : LamX.TabB base mg c24 P24) (o : Oks P w K mg base fa fd cv TT n) : FnOk P w K mg base (L2N.CX P w) (n + 2) (fa 21) (fd 21) ["rule_so"] (FnS (callN defs (n + 1)) K cv TT 49) := by
  refine okN T.F__law_text fs__law_text (fun vs H Q E h => (fn_read (d := d__law_text) (N := N__law_text) rfl rfl (by decide) h).1) (fun cdv A outer s H vs Q E hr h => ?_)
  obtain ⟨_, Lx, hT, ht⟩ := fn_read (d := d__law_text) (N := N__law_text) rfl rfl (by decide) h
  exact ⟨_, b__law_text ⟨P, w, K, mg, base, fa 21, cdv, A, outer, s, H, E⟩ ⟨callN defs n, Lx, fun c d _ H => E c d H, cv⟩ ⟨fs__law_text.nd, rfl, hu64 hr, T.bl⟩ (tp_of T o ⟨rfl, rfl, rfl, rfl, rfl⟩ ⟨rfl, rfl, hT⟩ hr) (takesN_of rfl rfl rfl rfl) PassesOwn.leaving, ht⟩
theorem st__law_read_ok (T : Top K mg fa fd cv TT c19 P19 c24 P24 dd BB) (b19 : LamX.TabB base mg c19 P19) (b24 : LamX.TabB base mg c24 P24) (o : Oks P w K mg base fa fd cv TT n) : FnOk P w K mg base (L2N.CX P w) (n + 2) (fa 22) (fd 22) ["text"] (FnS (callN defs (n + 1)) K cv TT 50) := by
  refine okN T.F__law_read fs__law_read (fun vs H Q E h => (fn_read (d := d__law_read) (N := N__law_read) rfl rfl (by decide) h).1) (fun cdv A outer s H vs Q E hr h => ?_)
  obtain ⟨_, Lx, hT, ht⟩ := fn_read (d := d__law_read) (N := N__law_read) rfl rfl (by decide) h
  exact ⟨_, b__law_read ⟨P, w, K, mg, base, fa 22, cdv, A, outer, s, H, E⟩ ⟨callN defs n, Lx, fun c d _ H => E c d H, cv⟩ ⟨fs__law_read.nd, rfl, hu64 hr, T.bl⟩ (tp_of T o ⟨rfl, rfl, rfl, rfl, rfl⟩ ⟨rfl, rfl, hT⟩ hr) (takesN_of rfl rfl rfl rfl) PassesOwn.leaving, ht⟩
theorem st__law_bent_ok (T : Top K mg fa fd cv TT c19 P19 c24 P24 dd BB) (b19 : LamX.TabB base mg c19 P19) (b24 : LamX.TabB base mg c24 P24) (o : Oks P w K mg base fa fd cv TT n) : FnOk P w K mg base (L2N.CX P w) (n + 2) (fa 23) (fd 23) ["bag", "text"] (FnS (callN defs (n + 1)) K cv TT 51) := by
  refine okN T.F__law_bent fs__law_bent (fun vs H Q E h => (fn_read (d := d__law_bent) (N := N__law_bent) rfl rfl (by decide) h).1) (fun cdv A outer s H vs Q E hr h => ?_)
  obtain ⟨_, Lx, hT, ht⟩ := fn_read (d := d__law_bent) (N := N__law_bent) rfl rfl (by decide) h
  exact ⟨_, b__law_bent ⟨P, w, K, mg, base, fa 23, cdv, A, outer, s, H, E⟩ ⟨callN defs n, Lx, fun c d _ H => E c d H, cv⟩ ⟨fs__law_bent.nd, rfl, hu64 hr, T.bl⟩ (tp_of T o ⟨rfl, rfl, rfl, rfl, rfl⟩ ⟨rfl, rfl, hT⟩ hr) (takesN_of rfl rfl rfl rfl) PassesOwn.leaving, ht⟩
theorem st_law_ok (T : Top K mg fa fd cv TT c19 P19 c24 P24 dd BB) (b19 : LamX.TabB base mg c19 P19) (b24 : LamX.TabB base mg c24 P24) (o : Oks P w K mg base fa fd cv TT n) : FnOk P w K mg base (L2N.CX P w) (n + 2) (fa 24) (fd 24) ["script"] (FnS (callN defs (n + 1)) K cv TT 52) := by
  refine okC T.F_law fs_law (fun vs H Q E h => (fn_read (d := d_law) (N := N_law) rfl rfl (by decide) h).1) (fun A outer s H vs Q E hr h => ?_)
  obtain ⟨_, Lx, hT, ht⟩ := fn_read (d := d_law) (N := N_law) rfl rfl (by decide) h
  exact ⟨_, b_law ⟨P, w, K, mg, base, fa 24, .ref c24, A, outer, s, H, E⟩ ⟨callN defs n, Lx, fun c d _ H => E c d H, cv⟩ b24 rfl (by rw [hT]; exact T.T_law) (by rw [hT]; exact T.U_law) ⟨fs_law.nd, rfl, hu64 hr, T.bl⟩ (tp_of T o ⟨rfl, rfl, rfl, rfl, rfl⟩ ⟨rfl, rfl, hT⟩ hr) (takesN_of rfl rfl rfl rfl) PassesOwn.leaving, ht⟩
theorem lo_0 (T : Top K mg fa fd cv TT c19 P19 c24 P24 dd BB) (o : Oks P w K mg base fa fd cv TT n) : LamOk P w K mg base (n + 2) lam_0 (FnS (callN defs (n + 1)) K cv TT (lamN 0)) :=
  lam_of (d := dl_0) (N := N_lam0) rfl rfl rfl rfl rfl (by decide) ls_0 (fun cl c pm ctv us hl => match us, hl with | [], _ => rfl) fun A outer s H f c cl E Lx hT hr =>
    (bl_0 ⟨P, w, K, mg, base, f, .none, A, outer, s, H, E⟩ ⟨callN defs n, Lx, fun c d _ H => E c d H, cv⟩ cl c ⟨ls_0.nd, rfl, hu64 hr, T.bl⟩ (tp_of T o ⟨rfl, rfl, rfl, rfl, rfl⟩ ⟨rfl, rfl, hT⟩ hr) (takesN_of rfl rfl rfl rfl)).se
theorem lo_1 (T : Top K mg fa fd cv TT c19 P19 c24 P24 dd BB) (o : Oks P w K mg base fa fd cv TT n) : LamOk P w K mg base (n + 2) lam_1 (FnS (callN defs (n + 1)) K cv TT (lamN 1)) :=
  lam_of (d := dl_1) (N := N_lam1) rfl rfl rfl rfl rfl (by decide) ls_1 (fun cl c pm ctv us hl => match us, hl with | [], _ => rfl) fun A outer s H f c cl E Lx hT hr =>
    (bl_1 ⟨P, w, K, mg, base, f, .none, A, outer, s, H, E⟩ ⟨callN defs n, Lx, fun c d _ H => E c d H, cv⟩ cl c ⟨ls_1.nd, rfl, hu64 hr, T.bl⟩ (tp_of T o ⟨rfl, rfl, rfl, rfl, rfl⟩ ⟨rfl, rfl, hT⟩ hr) (takesN_of rfl rfl rfl rfl)).se
theorem lo_2 (T : Top K mg fa fd cv TT c19 P19 c24 P24 dd BB) (o : Oks P w K mg base fa fd cv TT n) : LamOk P w K mg base (n + 2) lam_2 (FnS (callN defs (n + 1)) K cv TT (lamN 2)) :=
  lam_of (d := dl_2) (N := N_lam2) rfl rfl rfl rfl rfl (by decide) ls_2 (fun cl c pm ctv us hl => match us, hl with | [], _ => rfl) fun A outer s H f c cl E Lx hT hr =>
    (bl_2 ⟨P, w, K, mg, base, f, .none, A, outer, s, H, E⟩ ⟨callN defs n, Lx, fun c d _ H => E c d H, cv⟩ cl c ⟨ls_2.nd, rfl, hu64 hr, T.bl⟩ (tp_of T o ⟨rfl, rfl, rfl, rfl, rfl⟩ ⟨rfl, rfl, hT⟩ hr) (takesN_of rfl rfl rfl rfl)).se
theorem lo_3 (T : Top K mg fa fd cv TT c19 P19 c24 P24 dd BB) (o : Oks P w K mg base fa fd cv TT n) : LamOk P w K mg base (n + 2) lam_3 (FnS (callN defs (n + 1)) K cv TT (lamN 3)) :=
  lam_of (d := dl_3) (N := N_lam3) rfl rfl rfl rfl rfl (by decide) ls_3 (fun cl c pm ctv us hl => match us, hl with | [], _ => rfl) fun A outer s H f c cl E Lx hT hr =>
    (bl_3 ⟨P, w, K, mg, base, f, .none, A, outer, s, H, E⟩ ⟨callN defs n, Lx, fun c d _ H => E c d H, cv⟩ cl c ⟨ls_3.nd, rfl, hu64 hr, T.bl⟩ (tp_of T o ⟨rfl, rfl, rfl, rfl, rfl⟩ ⟨rfl, rfl, hT⟩ hr) (takesN_of rfl rfl rfl rfl)).se
theorem lo_4 (T : Top K mg fa fd cv TT c19 P19 c24 P24 dd BB) (o : Oks P w K mg base fa fd cv TT n) : LamOk P w K mg base (n + 2) lam_4 (FnS (callN defs (n + 1)) K cv TT (lamN 4)) :=
  lam_of (d := dl_4) (N := N_lam4) rfl rfl rfl rfl rfl (by decide) ls_4 (fun cl c pm ctv us hl => match us, hl with | [], _ => rfl) fun A outer s H f c cl E Lx hT hr =>
    (bl_4 ⟨P, w, K, mg, base, f, .none, A, outer, s, H, E⟩ ⟨callN defs n, Lx, fun c d _ H => E c d H, cv⟩ cl c ⟨ls_4.nd, rfl, hu64 hr, T.bl⟩ (tp_of T o ⟨rfl, rfl, rfl, rfl, rfl⟩ ⟨rfl, rfl, hT⟩ hr) (takesN_of rfl rfl rfl rfl)).se
theorem ok_succ (T : Top K mg fa fd cv TT c19 P19 c24 P24 dd BB) (b19 : LamX.TabB base mg c19 P19) (b24 : LamX.TabB base mg c24 P24) (o : Oks P w K mg base fa fd cv TT n) : Oks P w K mg base fa fd cv TT (n + 1) := ⟨st_is_whole_ok T b19 b24 o, st_is_way_ok T b19 b24 o, st_fits_rule_ok T b19 b24 o, st_need_rule_ok T b19 b24 o, st_as_text_ok T b19 b24 o, st_rule_text_ok T b19 b24 o, st_figure_in_ok T b19 b24 o, st_rule_in_ok T b19 b24 o, st_read_rule_ok T b19 b24 o, st__law_cell_ok T b19 b24 o, st__law_draws_ok T b19 b24 o, st__law_bag_ok T b19 b24 o, st__law_take_ok T b19 b24 o, st__law_choice_ok T b19 b24 o, st__law_known_ok T b19 b24 o, st__law_rule_ok T b19 b24 o, st__law_error_ok T b19 b24 o, st__law_told_ok T b19 b24 o, st__law_all_refused_ok T b19 b24 o, st__law_bad_rules_ok T b19 b24 o, st__law_text_ok T b19 b24 o, st__law_read_ok T b19 b24 o, st__law_bent_ok T b19 b24 o, st_law_ok T b19 b24 o, (fun k l h => match k, h with | 0, h => by cases h; exact lo_0 T o | 1, h => by cases h; exact lo_1 T o | 2, h => by cases h; exact lo_2 T o | 3, h => by cases h; exact lo_3 T o | 4, h => by cases h; exact lo_4 T o | _ + 5, h => by simp [lamTab] at h)⟩
theorem ok_all (T : Top K mg fa fd cv TT c19 P19 c24 P24 dd BB) (b19 : LamX.TabB base mg c19 P19) (b24 : LamX.TabB base mg c24 P24) : ∀ n, Oks P w K mg base fa fd cv TT n
  | 0 => ok_zero
  | n + 1 => ok_succ T b19 b24 (ok_all T b19 b24 n)
end
theorem all_mk {l : PySem.W.OpenLaw} {w : World} {K : PySem.W.Frag} {h : Heap} {mg : Str → Option Value} {fa f0 f1 f2 f3 f4 f5 f6 f7 f8 f9 f10 f11 f12 f13 f14 f15 f16 f17 f18 f19 c19 P19 f20 f21 f22 f23 f24 c24 P24 x0 x1 x2 x3 x4 x5 x6 x7 x8 x9 x10 x11 x12 x13 x14 ka0 : Addr} (X : K.In h) (G : h.Ns mainGlobals mg) (hfa : mg "law" = some (.ref fa))
    {od0 an0 od1 an1 od2 an2 od3 an3 od4 an4 od5 an5 od6 an6 od7 an7 od8 an8 od9 an9 od10 an10 od11 an11 od12 an12 od13 an13 od14 an14 od15 an15 od16 an16 od17 an17 od18 an18 od19 an19 po19 od20 an20 od21 an21 od22 an22 od23 an23 od24 an24 po24 oka0 : Option Addr} {sl0 sl1 sl2 sl3 sl4 sl5 sl6 sl7 sl8 sl9 sl10 sl11 sl12 sl13 sl14 sl15 sl16 sl17 sl18 sl19 ps19 sl20 sl21 sl22 sl23 sl24 ps24 ska0 : Array (Option Value)} {oc0 kV0 dc0 pm0 ct0 cd0 oc1 kV1 dc1 pm1 ct1 cd1 oc2 kV2 dc2 pm2 ct2 cd2 oc3 kV3 dc3 pm3 ct3 cd3 oc4 kV4 dc4 pm4 ct4 cd4 oc5 kV5 dc5 pm5 ct5 cd5 oc6 kV6 dc6 pm6 ct6 cd6 oc7 kV7 dc7 pm7 ct7 cd7 oc8 kV8 dc8 pm8 ct8 cd8 oc9 kV9 dc9 pm9 ct9 cd9 oc10 kV10 dc10 pm10 ct10 cd10 oc11 kV11 dc11 pm11 ct11 cd11 oc12 kV12 dc12 pm12 ct12 cd12 oc13 kV13 dc13 pm13 ct13 cd13 oc14 kV14 dc14 pm14 ct14 cd14 oc15 kV15 dc15 pm15 ct15 cd15 oc16 kV16 dc16 pm16 ct16 cd16 oc17 kV17 dc17 pm17 ct17 cd17 oc18 kV18 dc18 pm18 ct18 cd18 oc19 kV19 dc19 pm19 ct19 oc20 kV20 dc20 pm20 ct20 cd20 oc21 kV21 dc21 pm21 ct21 cd21 oc22 kV22 dc22 pm22 ct22 cd22 oc23 kV23 dc23 pm23 ct23 cd23 oc24 kV24 dc24 pm24 ct24 : Value} {vs19 vs24 : Array Value} {tk1 tk2 tk3 tk4 : Tok}
    (a0 : PySem.W.nsIn K mainGlobals "is_whole" = some (some (.ref f0))) (l0 : K.lookup f0 = some ⟨oc0, od0, .func (PySem.W.fnOf "is_whole" "is_whole" (defArgs (top 19)) (defBody (top 19)) (defScope (top 19)) .none kV0 dc0 pm0 an0 cd0 ct0), sl0⟩) (c_0 : PySem.W.codeIn K cd0 "is_whole" = true) (k0 : PySem.W.keepIn K (.ref f0) = true)
    (a1 : PySem.W.nsIn K mainGlobals "is_way" = some (some (.ref f1))) (l1 : K.lookup f1 = some ⟨oc1, od1, .func (PySem.W.fnOf "is_way" "is_way" (defArgs (top 20)) (defBody (top 20)) (defScope (top 20)) .none kV1 dc1 pm1 an1 cd1 ct1), sl1⟩) (c_1 : PySem.W.codeIn K cd1 "is_way" = true) (k1 : PySem.W.keepIn K (.ref f1) = true)
    (a2 : PySem.W.nsIn K mainGlobals "fits_rule" = some (some (.ref f2))) (l2 : K.lookup f2 = some ⟨oc2, od2, .func (PySem.W.fnOf "fits_rule" "fits_rule" (defArgs (top 21)) (defBody (top 21)) (defScope (top 21)) .none kV2 dc2 pm2 an2 cd2 ct2), sl2⟩) (c_2 : PySem.W.codeIn K cd2 "fits_rule" = true) (k2 : PySem.W.keepIn K (.ref f2) = true)
    (a3 : PySem.W.nsIn K mainGlobals "need_rule" = some (some (.ref f3))) (l3 : K.lookup f3 = some ⟨oc3, od3, .func (PySem.W.fnOf "need_rule" "need_rule" (defArgs (top 22)) (defBody (top 22)) (defScope (top 22)) .none kV3 dc3 pm3 an3 cd3 ct3), sl3⟩) (c_3 : PySem.W.codeIn K cd3 "need_rule" = true) (k3 : PySem.W.keepIn K (.ref f3) = true)
    (a4 : PySem.W.nsIn K mainGlobals "as_text" = some (some (.ref f4))) (l4 : K.lookup f4 = some ⟨oc4, od4, .func (PySem.W.fnOf "as_text" "as_text" (defArgs (top 24)) (defBody (top 24)) (defScope (top 24)) .none kV4 dc4 pm4 an4 cd4 ct4), sl4⟩) (c_4 : PySem.W.codeIn K cd4 "as_text" = true) (k4 : PySem.W.keepIn K (.ref f4) = true)
    (a5 : PySem.W.nsIn K mainGlobals "rule_text" = some (some (.ref f5))) (l5 : K.lookup f5 = some ⟨oc5, od5, .func (PySem.W.fnOf "rule_text" "rule_text" (defArgs (top 25)) (defBody (top 25)) (defScope (top 25)) .none kV5 dc5 pm5 an5 cd5 ct5), sl5⟩) (c_5 : PySem.W.codeIn K cd5 "rule_text" = true) (k5 : PySem.W.keepIn K (.ref f5) = true)
    (a6 : PySem.W.nsIn K mainGlobals "figure_in" = some (some (.ref f6))) (l6 : K.lookup f6 = some ⟨oc6, od6, .func (PySem.W.fnOf "figure_in" "figure_in" (defArgs (top 26)) (defBody (top 26)) (defScope (top 26)) .none kV6 dc6 pm6 an6 cd6 ct6), sl6⟩) (c_6 : PySem.W.codeIn K cd6 "figure_in" = true) (k6 : PySem.W.keepIn K (.ref f6) = true)
    (a7 : PySem.W.nsIn K mainGlobals "rule_in" = some (some (.ref f7))) (l7 : K.lookup f7 = some ⟨oc7, od7, .func (PySem.W.fnOf "rule_in" "rule_in" (defArgs (top 27)) (defBody (top 27)) (defScope (top 27)) .none kV7 dc7 pm7 an7 cd7 ct7), sl7⟩) (c_7 : PySem.W.codeIn K cd7 "rule_in" = true) (k7 : PySem.W.keepIn K (.ref f7) = true)
    (a8 : PySem.W.nsIn K mainGlobals "read_rule" = some (some (.ref f8))) (l8 : K.lookup f8 = some ⟨oc8, od8, .func (PySem.W.fnOf "read_rule" "read_rule" (defArgs (top 28)) (defBody (top 28)) (defScope (top 28)) .none kV8 dc8 pm8 an8 cd8 ct8), sl8⟩) (c_8 : PySem.W.codeIn K cd8 "read_rule" = true) (k8 : PySem.W.keepIn K (.ref f8) = true)
    (a9 : PySem.W.nsIn K mainGlobals "_law_cell" = some (some (.ref f9))) (l9 : K.lookup f9 = some ⟨oc9, od9, .func (PySem.W.fnOf "_law_cell" "_law_cell" (defArgs (top 30)) (defBody (top 30)) (defScope (top 30)) .none kV9 dc9 pm9 an9 cd9 ct9), sl9⟩) (c_9 : PySem.W.codeIn K cd9 "_law_cell" = true) (k9 : PySem.W.keepIn K (.ref f9) = true)
    (a10 : PySem.W.nsIn K mainGlobals "_law_draws" = some (some (.ref f10))) (l10 : K.lookup f10 = some ⟨oc10, od10, .func (PySem.W.fnOf "_law_draws" "_law_draws" (defArgs (top 31)) (defBody (top 31)) (defScope (top 31)) .none kV10 dc10 pm10 an10 cd10 ct10), sl10⟩) (c_10 : PySem.W.codeIn K cd10 "_law_draws" = true) (k10 : PySem.W.keepIn K (.ref f10) = true)
    (a11 : PySem.W.nsIn K mainGlobals "_law_bag" = some (some (.ref f11))) (l11 : K.lookup f11 = some ⟨oc11, od11, .func (PySem.W.fnOf "_law_bag" "_law_bag" (defArgs (top 32)) (defBody (top 32)) (defScope (top 32)) .none kV11 dc11 pm11 an11 cd11 ct11), sl11⟩) (c_11 : PySem.W.codeIn K cd11 "_law_bag" = true) (k11 : PySem.W.keepIn K (.ref f11) = true)
    (a12 : PySem.W.nsIn K mainGlobals "_law_take" = some (some (.ref f12))) (l12 : K.lookup f12 = some ⟨oc12, od12, .func (PySem.W.fnOf "_law_take" "_law_take" (defArgs (top 33)) (defBody (top 33)) (defScope (top 33)) .none kV12 dc12 pm12 an12 cd12 ct12), sl12⟩) (c_12 : PySem.W.codeIn K cd12 "_law_take" = true) (k12 : PySem.W.keepIn K (.ref f12) = true)
    (a13 : PySem.W.nsIn K mainGlobals "_law_choice" = some (some (.ref f13))) (l13 : K.lookup f13 = some ⟨oc13, od13, .func (PySem.W.fnOf "_law_choice" "_law_choice" (defArgs (top 34)) (defBody (top 34)) (defScope (top 34)) .none kV13 dc13 pm13 an13 cd13 ct13), sl13⟩) (c_13 : PySem.W.codeIn K cd13 "_law_choice" = true) (k13 : PySem.W.keepIn K (.ref f13) = true)
    (a14 : PySem.W.nsIn K mainGlobals "_law_known" = some (some (.ref f14))) (l14 : K.lookup f14 = some ⟨oc14, od14, .func (PySem.W.fnOf "_law_known" "_law_known" (defArgs (top 35)) (defBody (top 35)) (defScope (top 35)) .none kV14 dc14 pm14 an14 cd14 ct14), sl14⟩) (c_14 : PySem.W.codeIn K cd14 "_law_known" = true) (k14 : PySem.W.keepIn K (.ref f14) = true)
    (a15 : PySem.W.nsIn K mainGlobals "_law_rule" = some (some (.ref f15))) (l15 : K.lookup f15 = some ⟨oc15, od15, .func (PySem.W.fnOf "_law_rule" "_law_rule" (defArgs (top 36)) (defBody (top 36)) (defScope (top 36)) .none kV15 dc15 pm15 an15 cd15 ct15), sl15⟩) (c_15 : PySem.W.codeIn K cd15 "_law_rule" = true) (k15 : PySem.W.keepIn K (.ref f15) = true)
    (a16 : PySem.W.nsIn K mainGlobals "_law_named_error" = some (some (.ref f16))) (l16 : K.lookup f16 = some ⟨oc16, od16, .func (PySem.W.fnOf "_law_named_error" "_law_named_error" (defArgs (top 37)) (defBody (top 37)) (defScope (top 37)) .none kV16 dc16 pm16 an16 cd16 ct16), sl16⟩) (c_16 : PySem.W.codeIn K cd16 "_law_named_error" = true) (k16 : PySem.W.keepIn K (.ref f16) = true)
    (a17 : PySem.W.nsIn K mainGlobals "_law_error" = some (some (.ref f17))) (l17 : K.lookup f17 = some ⟨oc17, od17, .func (PySem.W.fnOf "_law_error" "_law_error" (defArgs (top 38)) (defBody (top 38)) (defScope (top 38)) .none kV17 dc17 pm17 an17 cd17 ct17), sl17⟩) (c_17 : PySem.W.codeIn K cd17 "_law_error" = true) (k17 : PySem.W.keepIn K (.ref f17) = true)
    (a18 : PySem.W.nsIn K mainGlobals "_law_told" = some (some (.ref f18))) (l18 : K.lookup f18 = some ⟨oc18, od18, .func (PySem.W.fnOf "_law_told" "_law_told" (defArgs (top 39)) (defBody (top 39)) (defScope (top 39)) .none kV18 dc18 pm18 an18 cd18 ct18), sl18⟩) (c_18 : PySem.W.codeIn K cd18 "_law_told" = true) (k18 : PySem.W.keepIn K (.ref f18) = true)
    (a19 : PySem.W.nsIn K mainGlobals "_law_all_refused" = some (some (.ref f19))) (l19 : K.lookup f19 = some ⟨oc19, od19, .func (PySem.W.fnOf "_law_all_refused" "_law_all_refused" (defArgs (top 40)) (defBody (top 40)) (defScope (top 40)) .none kV19 dc19 pm19 an19 (.ref c19) ct19), sl19⟩) (c_19 : PySem.W.codeIn K (.ref c19) "_law_all_refused" = true) (k19 : PySem.W.keepIn K (.ref f19) = true)
    (p19 : K.lookup c19 = some ⟨.type "code", po19, .fields vs19, ps19⟩) (pp19 : vs19[11]? = some (.ref P19))
    (a20 : PySem.W.nsIn K mainGlobals "_law_bad_rules" = some (some (.ref f20))) (l20 : K.lookup f20 = some ⟨oc20, od20, .func (PySem.W.fnOf "_law_bad_rules" "_law_bad_rules" (defArgs (top 41)) (defBody (top 41)) (defScope (top 41)) .none kV20 dc20 pm20 an20 cd20 ct20), sl20⟩) (c_20 : PySem.W.codeIn K cd20 "_law_bad_rules" = true) (k20 : PySem.W.keepIn K (.ref f20) = true)
    (a21 : PySem.W.nsIn K mainGlobals "_law_text" = some (some (.ref f21))) (l21 : K.lookup f21 = some ⟨oc21, od21, .func (PySem.W.fnOf "_law_text" "_law_text" (defArgs (top 42)) (defBody (top 42)) (defScope (top 42)) .none kV21 dc21 pm21 an21 cd21 ct21), sl21⟩) (c_21 : PySem.W.codeIn K cd21 "_law_text" = true) (k21 : PySem.W.keepIn K (.ref f21) = true)
    (a22 : PySem.W.nsIn K mainGlobals "_law_read" = some (some (.ref f22))) (l22 : K.lookup f22 = some ⟨oc22, od22, .func (PySem.W.fnOf "_law_read" "_law_read" (defArgs (top 43)) (defBody (top 43)) (defScope (top 43)) .none kV22 dc22 pm22 an22 cd22 ct22), sl22⟩) (c_22 : PySem.W.codeIn K cd22 "_law_read" = true) (k22 : PySem.W.keepIn K (.ref f22) = true)
    (a23 : PySem.W.nsIn K mainGlobals "_law_bent" = some (some (.ref f23))) (l23 : K.lookup f23 = some ⟨oc23, od23, .func (PySem.W.fnOf "_law_bent" "_law_bent" (defArgs (top 44)) (defBody (top 44)) (defScope (top 44)) .none kV23 dc23 pm23 an23 cd23 ct23), sl23⟩) (c_23 : PySem.W.codeIn K cd23 "_law_bent" = true) (k23 : PySem.W.keepIn K (.ref f23) = true)
    (a24 : PySem.W.nsIn K mainGlobals "law" = some (some (.ref f24))) (l24 : K.lookup f24 = some ⟨oc24, od24, .func (PySem.W.fnOf "law" "law" (defArgs (top 45)) (defBody (top 45)) (defScope (top 45)) .none kV24 dc24 pm24 an24 (.ref c24) ct24), sl24⟩) (c_24 : PySem.W.codeIn K (.ref c24) "law" = true) (k24 : PySem.W.keepIn K (.ref f24) = true)
    (p24 : K.lookup c24 = some ⟨.type "code", po24, .fields vs24, ps24⟩) (pp24 : vs24[11]? = some (.ref P24))
    (xa0 : PySem.W.nsIn K mainGlobals "BandError" = some (some (.ref x0))) (xx0 : PySem.W.excIn K x0 [.type "ValueError", .type "Exception", .type "BaseException", .type "object"] "ValueError.__new__" = true) (xk0 : PySem.W.keepIn K (.ref x0) = true) (xb0 : PySem.W.subIn K (.ref x0) (.type "BaseException") = some true) (xt0 : PySem.W.typeIn K (.ref x0) = some (.type "type"))
    (xa1 : PySem.W.nsIn K mainGlobals "InvalidRule" = some (some (.ref x1))) (xx1 : PySem.W.excIn K x1 [.type "ValueError", .type "Exception", .type "BaseException", .type "object"] "ValueError.__new__" = true) (xk1 : PySem.W.keepIn K (.ref x1) = true) (xb1 : PySem.W.subIn K (.ref x1) (.type "BaseException") = some true) (xt1 : PySem.W.typeIn K (.ref x1) = some (.type "type"))
    (xa2 : PySem.W.nsIn K mainGlobals "InvalidReach" = some (some (.ref x2))) (xx2 : PySem.W.excIn K x2 [.type "ValueError", .type "Exception", .type "BaseException", .type "object"] "ValueError.__new__" = true) (xk2 : PySem.W.keepIn K (.ref x2) = true) (xb2 : PySem.W.subIn K (.ref x2) (.type "BaseException") = some true) (xt2 : PySem.W.typeIn K (.ref x2) = some (.type "type"))
    (xa3 : PySem.W.nsIn K mainGlobals "InvalidCourse" = some (some (.ref x3))) (xx3 : PySem.W.excIn K x3 [.type "ValueError", .type "Exception", .type "BaseException", .type "object"] "ValueError.__new__" = true) (xk3 : PySem.W.keepIn K (.ref x3) = true) (xb3 : PySem.W.subIn K (.ref x3) (.type "BaseException") = some true) (xt3 : PySem.W.typeIn K (.ref x3) = some (.type "type"))
    (xa4 : PySem.W.nsIn K mainGlobals "InvalidPrice" = some (some (.ref x4))) (xx4 : PySem.W.excIn K x4 [.type "ValueError", .type "Exception", .type "BaseException", .type "object"] "ValueError.__new__" = true) (xk4 : PySem.W.keepIn K (.ref x4) = true) (xb4 : PySem.W.subIn K (.ref x4) (.type "BaseException") = some true) (xt4 : PySem.W.typeIn K (.ref x4) = some (.type "type"))
    (xa5 : PySem.W.nsIn K mainGlobals "InvalidNumber" = some (some (.ref x5))) (xx5 : PySem.W.excIn K x5 [.type "ValueError", .type "Exception", .type "BaseException", .type "object"] "ValueError.__new__" = true) (xk5 : PySem.W.keepIn K (.ref x5) = true) (xb5 : PySem.W.subIn K (.ref x5) (.type "BaseException") = some true) (xt5 : PySem.W.typeIn K (.ref x5) = some (.type "type"))
    (xa6 : PySem.W.nsIn K mainGlobals "InvalidRounds" = some (some (.ref x6))) (xx6 : PySem.W.excIn K x6 [.type "ValueError", .type "Exception", .type "BaseException", .type "object"] "ValueError.__new__" = true) (xk6 : PySem.W.keepIn K (.ref x6) = true) (xb6 : PySem.W.subIn K (.ref x6) (.type "BaseException") = some true) (xt6 : PySem.W.typeIn K (.ref x6) = some (.type "type"))
    (xa7 : PySem.W.nsIn K mainGlobals "InvalidSeen" = some (some (.ref x7))) (xx7 : PySem.W.excIn K x7 [.type "ValueError", .type "Exception", .type "BaseException", .type "object"] "ValueError.__new__" = true) (xk7 : PySem.W.keepIn K (.ref x7) = true) (xb7 : PySem.W.subIn K (.ref x7) (.type "BaseException") = some true) (xt7 : PySem.W.typeIn K (.ref x7) = some (.type "type"))
    (xa8 : PySem.W.nsIn K mainGlobals "InvalidNoted" = some (some (.ref x8))) (xx8 : PySem.W.excIn K x8 [.type "ValueError", .type "Exception", .type "BaseException", .type "object"] "ValueError.__new__" = true) (xk8 : PySem.W.keepIn K (.ref x8) = true) (xb8 : PySem.W.subIn K (.ref x8) (.type "BaseException") = some true) (xt8 : PySem.W.typeIn K (.ref x8) = some (.type "type"))
    (xa9 : PySem.W.nsIn K mainGlobals "InvalidStep" = some (some (.ref x9))) (xx9 : PySem.W.excIn K x9 [.type "ValueError", .type "Exception", .type "BaseException", .type "object"] "ValueError.__new__" = true) (xk9 : PySem.W.keepIn K (.ref x9) = true) (xb9 : PySem.W.subIn K (.ref x9) (.type "BaseException") = some true) (xt9 : PySem.W.typeIn K (.ref x9) = some (.type "type"))
    (xa10 : PySem.W.nsIn K mainGlobals "InvalidIndex" = some (some (.ref x10))) (xx10 : PySem.W.excIn K x10 [.type "ValueError", .type "Exception", .type "BaseException", .type "object"] "ValueError.__new__" = true) (xk10 : PySem.W.keepIn K (.ref x10) = true) (xb10 : PySem.W.subIn K (.ref x10) (.type "BaseException") = some true) (xt10 : PySem.W.typeIn K (.ref x10) = some (.type "type"))
    (xa11 : PySem.W.nsIn K mainGlobals "InvalidText" = some (some (.ref x11))) (xx11 : PySem.W.excIn K x11 [.type "ValueError", .type "Exception", .type "BaseException", .type "object"] "ValueError.__new__" = true) (xk11 : PySem.W.keepIn K (.ref x11) = true) (xb11 : PySem.W.subIn K (.ref x11) (.type "BaseException") = some true) (xt11 : PySem.W.typeIn K (.ref x11) = some (.type "type"))
    (xa12 : PySem.W.nsIn K mainGlobals "TooMany" = some (some (.ref x12))) (xx12 : PySem.W.excIn K x12 [.type "ValueError", .type "Exception", .type "BaseException", .type "object"] "ValueError.__new__" = true) (xk12 : PySem.W.keepIn K (.ref x12) = true) (xb12 : PySem.W.subIn K (.ref x12) (.type "BaseException") = some true) (xt12 : PySem.W.typeIn K (.ref x12) = some (.type "type"))
    (xa13 : PySem.W.nsIn K mainGlobals "Unlike" = some (some (.ref x13))) (xx13 : PySem.W.excIn K x13 [.type "ValueError", .type "Exception", .type "BaseException", .type "object"] "ValueError.__new__" = true) (xk13 : PySem.W.keepIn K (.ref x13) = true) (xb13 : PySem.W.subIn K (.ref x13) (.type "BaseException") = some true) (xt13 : PySem.W.typeIn K (.ref x13) = some (.type "type"))
    (xa14 : PySem.W.nsIn K mainGlobals "NothingToUndo" = some (some (.ref x14))) (xx14 : PySem.W.excIn K x14 [.type "ValueError", .type "Exception", .type "BaseException", .type "object"] "ValueError.__new__" = true) (xk14 : PySem.W.keepIn K (.ref x14) = true) (xb14 : PySem.W.subIn K (.ref x14) (.type "BaseException") = some true) (xt14 : PySem.W.typeIn K (.ref x14) = some (.type "type"))
    (kn_WAYS : PySem.W.nsIn K mainGlobals "WAYS" = some (some (.ref ka0)))
    (lka0 : K.lookup ka0 = some ⟨.type "tuple", oka0, .seq #[.str "edge" tk1, .str "half" tk2, .str "middle" tk3] 0, ska0⟩)
    (kn_MOST : PySem.W.nsIn K mainGlobals "MOST" = some (some (.int 6 tk4)))
    (xr : ∀ i, i < 14 → xrow K x0 (([x1, x2, x3, x4, x5, x6, x7, x8, x9, x10, x11, x12, x13, x14] : List Addr).getD i 0) = true) (xq : kitRow K [x1, x2, x3, x4, x5, x6, x7, x8, x9, x10, x11, x12, x13, x14] = true) (z_ValueError : PySem.W.nsIn K mainGlobals "ValueError" = some none)
    (z_len : PySem.W.nsIn K mainGlobals "len" = some none)
    (z_abs : PySem.W.nsIn K mainGlobals "abs" = some none)
    (z_int : PySem.W.nsIn K mainGlobals "int" = some none)
    (z_tuple : PySem.W.nsIn K mainGlobals "tuple" = some none)
    (z_list : PySem.W.nsIn K mainGlobals "list" = some none)
    (z_all : PySem.W.nsIn K mainGlobals "all" = some none)
    (z_bool : PySem.W.nsIn K mainGlobals "bool" = some none)
    (z_sum : PySem.W.nsIn K mainGlobals "sum" = some none)
    (z_max : PySem.W.nsIn K mainGlobals "max" = some none)
    (z_min : PySem.W.nsIn K mainGlobals "min" = some none)
    (z_isinstance : PySem.W.nsIn K mainGlobals "isinstance" = some none)
    (z_str : PySem.W.nsIn K mainGlobals "str" = some none)
    (z_range : PySem.W.nsIn K mainGlobals "range" = some none)
    (z_enumerate : PySem.W.nsIn K mainGlobals "enumerate" = some none)
    (z_zip : PySem.W.nsIn K mainGlobals "zip" = some none)
    (pd : (([(P19, ("_law_all_refused.<locals>.<lambda>" : Str)), (P24, ("law.<locals>.<lambda>" : Str))] : List (Addr × Str)).map (·.1)).Nodup) :
    ∃ (fd : FuncData) (cv : Nat → Value), (∀ (s : Shared) (v : Value), BindsTo s fd ⟨[v], []⟩ [("script", v)]) ∧ ∀ (n : Nat) (base : Heap), K.In base → base.Ns mainGlobals mg → (∀ p ∈ ([(c19, P19), (c24, P24)] : List (Addr × Addr)), LamX.TabB base mg p.1 p.2) → FnOk l.prog w K mg base (L2N.CX l.prog w) (n + 1) fa fd ["script"] (FnS (callN defs n) K cv [(P19, ("_law_all_refused.<locals>.<lambda>" : Str)), (P24, ("law.<locals>.<lambda>" : Str))] 52) := by
  have e := (PySem.W.mg_of X G a24).symm.trans hfa
  cases e
  have T : Top K mg (fun i => ([f0, f1, f2, f3, f4, f5, f6, f7, f8, f9, f10, f11, f12, f13, f14, f15, f16, f17, f18, f19, f20, f21, f22, f23, fa] : List Addr).getD i 0) (fun i => ([PySem.W.fnOf "is_whole" "is_whole" (defArgs (top 19)) (defBody (top 19)) (defScope (top 19)) .none kV0 dc0 pm0 an0 cd0 ct0, PySem.W.fnOf "is_way" "is_way" (defArgs (top 20)) (defBody (top 20)) (defScope (top 20)) .none kV1 dc1 pm1 an1 cd1 ct1, PySem.W.fnOf "fits_rule" "fits_rule" (defArgs (top 21)) (defBody (top 21)) (defScope (top 21)) .none kV2 dc2 pm2 an2 cd2 ct2, PySem.W.fnOf "need_rule" "need_rule" (defArgs (top 22)) (defBody (top 22)) (defScope (top 22)) .none kV3 dc3 pm3 an3 cd3 ct3, PySem.W.fnOf "as_text" "as_text" (defArgs (top 24)) (defBody (top 24)) (defScope (top 24)) .none kV4 dc4 pm4 an4 cd4 ct4, PySem.W.fnOf "rule_text" "rule_text" (defArgs (top 25)) (defBody (top 25)) (defScope (top 25)) .none kV5 dc5 pm5 an5 cd5 ct5, PySem.W.fnOf "figure_in" "figure_in" (defArgs (top 26)) (defBody (top 26)) (defScope (top 26)) .none kV6 dc6 pm6 an6 cd6 ct6, PySem.W.fnOf "rule_in" "rule_in" (defArgs (top 27)) (defBody (top 27)) (defScope (top 27)) .none kV7 dc7 pm7 an7 cd7 ct7, PySem.W.fnOf "read_rule" "read_rule" (defArgs (top 28)) (defBody (top 28)) (defScope (top 28)) .none kV8 dc8 pm8 an8 cd8 ct8, PySem.W.fnOf "_law_cell" "_law_cell" (defArgs (top 30)) (defBody (top 30)) (defScope (top 30)) .none kV9 dc9 pm9 an9 cd9 ct9, PySem.W.fnOf "_law_draws" "_law_draws" (defArgs (top 31)) (defBody (top 31)) (defScope (top 31)) .none kV10 dc10 pm10 an10 cd10 ct10, PySem.W.fnOf "_law_bag" "_law_bag" (defArgs (top 32)) (defBody (top 32)) (defScope (top 32)) .none kV11 dc11 pm11 an11 cd11 ct11, PySem.W.fnOf "_law_take" "_law_take" (defArgs (top 33)) (defBody (top 33)) (defScope (top 33)) .none kV12 dc12 pm12 an12 cd12 ct12, PySem.W.fnOf "_law_choice" "_law_choice" (defArgs (top 34)) (defBody (top 34)) (defScope (top 34)) .none kV13 dc13 pm13 an13 cd13 ct13, PySem.W.fnOf "_law_known" "_law_known" (defArgs (top 35)) (defBody (top 35)) (defScope (top 35)) .none kV14 dc14 pm14 an14 cd14 ct14, PySem.W.fnOf "_law_rule" "_law_rule" (defArgs (top 36)) (defBody (top 36)) (defScope (top 36)) .none kV15 dc15 pm15 an15 cd15 ct15, PySem.W.fnOf "_law_named_error" "_law_named_error" (defArgs (top 37)) (defBody (top 37)) (defScope (top 37)) .none kV16 dc16 pm16 an16 cd16 ct16, PySem.W.fnOf "_law_error" "_law_error" (defArgs (top 38)) (defBody (top 38)) (defScope (top 38)) .none kV17 dc17 pm17 an17 cd17 ct17, PySem.W.fnOf "_law_told" "_law_told" (defArgs (top 39)) (defBody (top 39)) (defScope (top 39)) .none kV18 dc18 pm18 an18 cd18 ct18, PySem.W.fnOf "_law_all_refused" "_law_all_refused" (defArgs (top 40)) (defBody (top 40)) (defScope (top 40)) .none kV19 dc19 pm19 an19 (.ref c19) ct19, PySem.W.fnOf "_law_bad_rules" "_law_bad_rules" (defArgs (top 41)) (defBody (top 41)) (defScope (top 41)) .none kV20 dc20 pm20 an20 cd20 ct20, PySem.W.fnOf "_law_text" "_law_text" (defArgs (top 42)) (defBody (top 42)) (defScope (top 42)) .none kV21 dc21 pm21 an21 cd21 ct21, PySem.W.fnOf "_law_read" "_law_read" (defArgs (top 43)) (defBody (top 43)) (defScope (top 43)) .none kV22 dc22 pm22 an22 cd22 ct22, PySem.W.fnOf "_law_bent" "_law_bent" (defArgs (top 44)) (defBody (top 44)) (defScope (top 44)) .none kV23 dc23 pm23 an23 cd23 ct23, PySem.W.fnOf "law" "law" (defArgs (top 45)) (defBody (top 45)) (defScope (top 45)) .none kV24 dc24 pm24 an24 (.ref c24) ct24] : List FuncData).getD i (PySem.W.fnOf "is_whole" "is_whole" (defArgs (top 19)) (defBody (top 19)) (defScope (top 19)) .none kV0 dc0 pm0 an0 cd0 ct0)) (fun i => ([.ref x0, .ref x1, .ref x3, .ref x2, .ref x4, .ref x5, .ref x6, .ref x7, .ref x8, .ref x9, .ref x10, .ref x11, .ref x12, .ref x13, .ref x14] : List Value).getD i .none) [(P19, ("_law_all_refused.<locals>.<lambda>" : Str)), (P24, ("law.<locals>.<lambda>" : Str))] c19 P19 c24 P24 [x1, x2, x3, x4, x5, x6, x7, x8, x9, x10, x11, x12, x13, x14] x0 := ⟨(fun_mk (st := top 19) l0 c_0 k0), PySem.W.mg_of X G a0, (fun_mk (st := top 19) l0 c_0 k0).binds (ps := ["value", "low", "high"]) (fun _ _ _ _ _ _ us hl => match us, hl with | [_, _, _], _ => rfl), (fun_mk (st := top 20) l1 c_1 k1), PySem.W.mg_of X G a1, (fun_mk (st := top 20) l1 c_1 k1).binds (ps := ["value"]) (fun _ _ _ _ _ _ us hl => match us, hl with | [_], _ => rfl), (fun_mk (st := top 21) l2 c_2 k2), PySem.W.mg_of X G a2, (fun_mk (st := top 21) l2 c_2 k2).binds (ps := ["value"]) (fun _ _ _ _ _ _ us hl => match us, hl with | [_], _ => rfl), (fun_mk (st := top 22) l3 c_3 k3), PySem.W.mg_of X G a3, (fun_mk (st := top 22) l3 c_3 k3).binds (ps := ["value"]) (fun _ _ _ _ _ _ us hl => match us, hl with | [_], _ => rfl), (fun_mk (st := top 24) l4 c_4 k4), PySem.W.mg_of X G a4, (fun_mk (st := top 24) l4 c_4 k4).binds (ps := ["rule"]) (fun _ _ _ _ _ _ us hl => match us, hl with | [_], _ => rfl), (fun_mk (st := top 25) l5 c_5 k5), PySem.W.mg_of X G a5, (fun_mk (st := top 25) l5 c_5 k5).binds (ps := ["rule"]) (fun _ _ _ _ _ _ us hl => match us, hl with | [_], _ => rfl), (fun_mk (st := top 26) l6 c_6 k6), PySem.W.mg_of X G a6, (fun_mk (st := top 26) l6 c_6 k6).binds (ps := ["word"]) (fun _ _ _ _ _ _ us hl => match us, hl with | [_], _ => rfl), (fun_mk (st := top 27) l7 c_7 k7), PySem.W.mg_of X G a7, (fun_mk (st := top 27) l7 c_7 k7).binds (ps := ["text"]) (fun _ _ _ _ _ _ us hl => match us, hl with | [_], _ => rfl), (fun_mk (st := top 28) l8 c_8 k8), PySem.W.mg_of X G a8, (fun_mk (st := top 28) l8 c_8 k8).binds (ps := ["text"]) (fun _ _ _ _ _ _ us hl => match us, hl with | [_], _ => rfl), (fun_mk (st := top 30) l9 c_9 k9), PySem.W.mg_of X G a9, (fun_mk (st := top 30) l9 c_9 k9).binds (ps := ["script", "k"]) (fun _ _ _ _ _ _ us hl => match us, hl with | [_, _], _ => rfl), (fun_mk (st := top 31) l10 c_10 k10), PySem.W.mg_of X G a10, (fun_mk (st := top 31) l10 c_10 k10).binds (ps := ["script", "k", "many", "base"]) (fun _ _ _ _ _ _ us hl => match us, hl with | [_, _, _, _], _ => rfl), (fun_mk (st := top 32) l11 c_11 k11), PySem.W.mg_of X G a11, (fun_mk (st := top 32) l11 c_11 k11).binds (ps := ["script", "k"]) (fun _ _ _ _ _ _ us hl => match us, hl with | [_, _], _ => rfl), (fun_mk (st := top 33) l12 c_12 k12), PySem.W.mg_of X G a12, (fun_mk (st := top 33) l12 c_12 k12).binds (ps := ["bag", "many"]) (fun _ _ _ _ _ _ us hl => match us, hl with | [_, _], _ => rfl), (fun_mk (st := top 34) l13 c_13 k13), PySem.W.mg_of X G a13, (fun_mk (st := top 34) l13 c_13 k13).binds (ps := ["bag", "some"]) (fun _ _ _ _ _ _ us hl => match us, hl with | [_, _], _ => rfl), (fun_mk (st := top 35) l14 c_14 k14), PySem.W.mg_of X G a14, (fun_mk (st := top 35) l14 c_14 k14).binds (ps := []) (fun _ _ _ _ _ _ us hl => match us, hl with | [], _ => rfl), (fun_mk (st := top 36) l15 c_15 k15), PySem.W.mg_of X G a15, (fun_mk (st := top 36) l15 c_15 k15).binds (ps := ["bag"]) (fun _ _ _ _ _ _ us hl => match us, hl with | [_], _ => rfl), (fun_mk (st := top 37) l16 c_16 k16), PySem.W.mg_of X G a16, (fun_mk (st := top 37) l16 c_16 k16).binds (ps := ["e"]) (fun _ _ _ _ _ _ us hl => match us, hl with | [_], _ => rfl), (fun_mk (st := top 38) l17 c_17 k17), PySem.W.mg_of X G a17, (fun_mk (st := top 38) l17 c_17 k17).binds (ps := ["call"]) (fun _ _ _ _ _ _ us hl => match us, hl with | [_], _ => rfl), (fun_mk (st := top 39) l18 c_18 k18), PySem.W.mg_of X G a18, (fun_mk (st := top 39) l18 c_18 k18).binds (ps := ["call"]) (fun _ _ _ _ _ _ us hl => match us, hl with | [_], _ => rfl), (func_mk (st := top 40) l19 c_19), k19, by simp, tt_u pd (by simp), PySem.W.mg_of X G a19, (fun_mk (st := top 40) l19 c_19 k19).binds (ps := ["call", "odds", "name"]) (fun _ _ _ _ _ _ us hl => match us, hl with | [_, _, _], _ => rfl), (fun_mk (st := top 41) l20 c_20 k20), PySem.W.mg_of X G a20, (fun_mk (st := top 41) l20 c_20 k20).binds (ps := []) (fun _ _ _ _ _ _ us hl => match us, hl with | [], _ => rfl), (fun_mk (st := top 42) l21 c_21 k21), PySem.W.mg_of X G a21, (fun_mk (st := top 42) l21 c_21 k21).binds (ps := ["rule_so"]) (fun _ _ _ _ _ _ us hl => match us, hl with | [_], _ => rfl), (fun_mk (st := top 43) l22 c_22 k22), PySem.W.mg_of X G a22, (fun_mk (st := top 43) l22 c_22 k22).binds (ps := ["text"]) (fun _ _ _ _ _ _ us hl => match us, hl with | [_], _ => rfl), (fun_mk (st := top 44) l23 c_23 k23), PySem.W.mg_of X G a23, (fun_mk (st := top 44) l23 c_23 k23).binds (ps := ["bag", "text"]) (fun _ _ _ _ _ _ us hl => match us, hl with | [_, _], _ => rfl), (func_mk (st := top 45) l24 c_24), k24, by simp, tt_u pd (by simp), PySem.W.mg_of X G a24, (fun_mk (st := top 45) l24 c_24 k24).binds (ps := ["script"]) (fun _ _ _ _ _ _ us hl => match us, hl with | [_], _ => rfl), ⟨_, _, _, _, _, PySem.F.excBase_ValueError, xx0, PySem.W.mg_of X G xa0, xk0, xb0, xt0, rfl⟩, ⟨_, _, _, _, _, PySem.F.excBase_ValueError, xx1, PySem.W.mg_of X G xa1, xk1, xb1, xt1, rfl⟩, ⟨_, _, _, _, _, PySem.F.excBase_ValueError, xx2, PySem.W.mg_of X G xa2, xk2, xb2, xt2, rfl⟩, ⟨_, _, _, _, _, PySem.F.excBase_ValueError, xx3, PySem.W.mg_of X G xa3, xk3, xb3, xt3, rfl⟩, ⟨_, _, _, _, _, PySem.F.excBase_ValueError, xx4, PySem.W.mg_of X G xa4, xk4, xb4, xt4, rfl⟩, ⟨_, _, _, _, _, PySem.F.excBase_ValueError, xx5, PySem.W.mg_of X G xa5, xk5, xb5, xt5, rfl⟩, ⟨_, _, _, _, _, PySem.F.excBase_ValueError, xx6, PySem.W.mg_of X G xa6, xk6, xb6, xt6, rfl⟩, ⟨_, _, _, _, _, PySem.F.excBase_ValueError, xx7, PySem.W.mg_of X G xa7, xk7, xb7, xt7, rfl⟩, ⟨_, _, _, _, _, PySem.F.excBase_ValueError, xx8, PySem.W.mg_of X G xa8, xk8, xb8, xt8, rfl⟩, ⟨_, _, _, _, _, PySem.F.excBase_ValueError, xx9, PySem.W.mg_of X G xa9, xk9, xb9, xt9, rfl⟩, ⟨_, _, _, _, _, PySem.F.excBase_ValueError, xx10, PySem.W.mg_of X G xa10, xk10, xb10, xt10, rfl⟩, ⟨_, _, _, _, _, PySem.F.excBase_ValueError, xx11, PySem.W.mg_of X G xa11, xk11, xb11, xt11, rfl⟩, ⟨_, _, _, _, _, PySem.F.excBase_ValueError, xx12, PySem.W.mg_of X G xa12, xk12, xb12, xt12, rfl⟩, ⟨_, _, _, _, _, PySem.F.excBase_ValueError, xx13, PySem.W.mg_of X G xa13, xk13, xb13, xt13, rfl⟩, ⟨_, _, _, _, _, PySem.F.excBase_ValueError, xx14, PySem.W.mg_of X G xa14, xk14, xb14, xt14, rfl⟩, ⟨.ref ka0, .ref ka0, PySem.W.mg_of X G kn_WAYS, rel_ref, fun _ => .tup (.inr ⟨_, _, _, lka0, rfl, rfl, Nat.le_of_ble_eq_true rfl, .cons rel_str (.cons rel_str (.cons rel_str (.nil)))⟩) (.cons (.str _) (.cons (.str _) (.cons (.str _) (.nil))))⟩, ⟨.int 6 tk4, .int 6, PySem.W.mg_of X G kn_MOST, rel_int, fun _ => .int _⟩, a8, a5, ⟨rfl, (fun i c x h => match i, h with | 0, h => by cases h; rfl | 1, h => by cases h; rfl | 2, h => by cases h; rfl | 3, h => by cases h; rfl | 4, h => by cases h; rfl | 5, h => by cases h; rfl | 6, h => by cases h; rfl | 7, h => by cases h; rfl | 8, h => by cases h; rfl | 9, h => by cases h; rfl | 10, h => by cases h; rfl | 11, h => by cases h; rfl | 12, h => by cases h; rfl | 13, h => by cases h; rfl | _ + 14, h => by simp [nmL] at h), xr, xq⟩, PySem.W.mg_of X G xa0, (fun j x h => match j, h with | 0, h => by cases h; exact PySem.W.mg_of X G xa1 | 1, h => by cases h; exact PySem.W.mg_of X G xa2 | 2, h => by cases h; exact PySem.W.mg_of X G xa3 | 3, h => by cases h; exact PySem.W.mg_of X G xa4 | 4, h => by cases h; exact PySem.W.mg_of X G xa5 | 5, h => by cases h; exact PySem.W.mg_of X G xa6 | 6, h => by cases h; exact PySem.W.mg_of X G xa7 | 7, h => by cases h; exact PySem.W.mg_of X G xa8 | 8, h => by cases h; exact PySem.W.mg_of X G xa9 | 9, h => by cases h; exact PySem.W.mg_of X G xa10 | 10, h => by cases h; exact PySem.W.mg_of X G xa11 | 11, h => by cases h; exact PySem.W.mg_of X G xa12 | 12, h => by cases h; exact PySem.W.mg_of X G xa13 | 13, h => by cases h; exact PySem.W.mg_of X G xa14 | _ + 14, h => by simp [nmC] at h), PySem.W.mg_none_of X G z_ValueError, by
    intro x hx
    simp only [List.mem_cons, List.not_mem_nil, or_false] at hx
    rcases hx with rfl | rfl | rfl | rfl | rfl | rfl | rfl | rfl | rfl | rfl | rfl | rfl | rfl | rfl | rfl
    · exact PySem.W.mg_none_of X G z_len
    · exact PySem.W.mg_none_of X G z_abs
    · exact PySem.W.mg_none_of X G z_int
    · exact PySem.W.mg_none_of X G z_tuple
    · exact PySem.W.mg_none_of X G z_list
    · exact PySem.W.mg_none_of X G z_all
    · exact PySem.W.mg_none_of X G z_bool
    · exact PySem.W.mg_none_of X G z_sum
    · exact PySem.W.mg_none_of X G z_max
    · exact PySem.W.mg_none_of X G z_min
    · exact PySem.W.mg_none_of X G z_isinstance
    · exact PySem.W.mg_none_of X G z_str
    · exact PySem.W.mg_none_of X G z_range
    · exact PySem.W.mg_none_of X G z_enumerate
    · exact PySem.W.mg_none_of X G z_zip⟩
  exact ⟨PySem.W.fnOf "law" "law" (defArgs (top 45)) (defBody (top 45)) (defScope (top 45)) .none kV24 dc24 pm24 an24 (.ref c24) ct24, _, fun s v => .of_eq rfl, fun n base _ _ hb => (ok_all T (hb (c19, P19) (by simp)) (hb (c24, P24) (by simp)) n).o_law⟩
end G

set_option Elab.async false
set_option linter.all false
set_option maxRecDepth 100000
set_option maxHeartbeats 8000000
set_option autoImplicit false
/-! GH: the law (printed by gen.py) -/
open PySem PySem.W PyProof.Rows
set_option maxHeartbeats 0 in
theorem PySem.Challenge.cw_backinside_k12_texts_of_rules_holds : PySem.Challenge.rw_backinside_k12_texts_of_rules.Holds := by
  w_on; o_law; k_head; (case hw => w_witness2)
  k_fill
  refine LamX.walk_ofTs (l := PySem.Challenge.rw_backinside_k12_texts_of_rules) (n := 63) (k := G.lev + 1) (x := "script") (CX := fun w => L2N.CX (PySem.Challenge.rw_backinside_k12_texts_of_rules).prog w) rfl (by decide) rfl ⟨rfl, by decide, by decide⟩ (fun w h Y => PySem.W.km_in_of Y) ?F (fun _ _ _ _ _ h => MX.cx_false h)
  case F =>
    intro w mg fa h Y KX G hmg
    have YT := PySem.W.km_tabs_of Y
    refine' MX.mk_lawT (_root_.G.all_mk KX G hmg ?a0 ?l0 ?c_0 ?k0 ?a1 ?l1 ?c_1 ?k1 ?a2 ?l2 ?c_2 ?k2 ?a3 ?l3 ?c_3 ?k3 ?a4 ?l4 ?c_4 ?k4 ?a5 ?l5 ?c_5 ?k5 ?a6 ?l6 ?c_6 ?k6 ?a7 ?l7 ?c_7 ?k7 ?a8 ?l8 ?c_8 ?k8 ?a9 ?l9 ?c_9 ?k9 ?a10 ?l10 ?c_10 ?k10 ?a11 ?l11 ?c_11 ?k11 ?a12 ?l12 ?c_12 ?k12 ?a13 ?l13 ?c_13 ?k13 ?a14 ?l14 ?c_14 ?k14 ?a15 ?l15 ?c_15 ?k15 ?a16 ?l16 ?c_16 ?k16 ?a17 ?l17 ?c_17 ?k17 ?a18 ?l18 ?c_18 ?k18 ?a19 ?l19 ?c_19 ?k19 ?p19 ?pp19 ?a20 ?l20 ?c_20 ?k20 ?a21 ?l21 ?c_21 ?k21 ?a22 ?l22 ?c_22 ?k22 ?a23 ?l23 ?c_23 ?k23 ?a24 ?l24 ?c_24 ?k24 ?p24 ?pp24 ?xa0 ?xx0 ?xk0 ?xb0 ?xt0 ?xa1 ?xx1 ?xk1 ?xb1 ?xt1 ?xa2 ?xx2 ?xk2 ?xb2 ?xt2 ?xa3 ?xx3 ?xk3 ?xb3 ?xt3 ?xa4 ?xx4 ?xk4 ?xb4 ?xt4 ?xa5 ?xx5 ?xk5 ?xb5 ?xt5 ?xa6 ?xx6 ?xk6 ?xb6 ?xt6 ?xa7 ?xx7 ?xk7 ?xb7 ?xt7 ?xa8 ?xx8 ?xk8 ?xb8 ?xt8 ?xa9 ?xx9 ?xk9 ?xb9 ?xt9 ?xa10 ?xx10 ?xk10 ?xb10 ?xt10 ?xa11 ?xx11 ?xk11 ?xb11 ?xt11 ?xa12 ?xx12 ?xk12 ?xb12 ?xt12 ?xa13 ?xx13 ?xk13 ?xb13 ?xt13 ?xa14 ?xx14 ?xk14 ?xb14 ?xt14 ?kn_WAYS ?lka0 ?kn_MOST ?xr ?xq ?z_ValueError ?z_len ?z_abs ?z_int ?z_tuple ?z_list ?z_all ?z_bool ?z_sum ?z_max ?z_min ?z_isinstance ?z_str ?z_range ?z_enumerate ?z_zip ?pd) ?hT ?nT ?CH ?hTT _root_.G.law_true
    (case a0 => k_is)
    (case l0 => k_is)
    (case c_0 => k_is)
    (case k0 => k_is)
    (case a1 => k_is)
    (case l1 => k_is)
    (case c_1 => k_is)
    (case k1 => k_is)
    (case a2 => k_is)
    (case l2 => k_is)
    (case c_2 => k_is)
    (case k2 => k_is)
    (case a3 => k_is)
    (case l3 => k_is)
    (case c_3 => k_is)
    (case k3 => k_is)
    (case a4 => k_is)
    (case l4 => k_is)
    (case c_4 => k_is)
    (case k4 => k_is)
    (case a5 => k_is)
    (case l5 => k_is)
    (case c_5 => k_is)
    (case k5 => k_is)
    (case a6 => k_is)
    (case l6 => k_is)
    (case c_6 => k_is)
    (case k6 => k_is)
    (case a7 => k_is)
    (case l7 => k_is)
    (case c_7 => k_is)
    (case k7 => k_is)
    (case a8 => k_is)
    (case l8 => k_is)
    (case c_8 => k_is)
    (case k8 => k_is)
    (case a9 => k_is)
    (case l9 => k_is)
    (case c_9 => k_is)
    (case k9 => k_is)
    (case a10 => k_is)
    (case l10 => k_is)
    (case c_10 => k_is)
    (case k10 => k_is)
    (case a11 => k_is)
    (case l11 => k_is)
    (case c_11 => k_is)
    (case k11 => k_is)
    (case a12 => k_is)
    (case l12 => k_is)
    (case c_12 => k_is)
    (case k12 => k_is)
    (case a13 => k_is)
    (case l13 => k_is)
    (case c_13 => k_is)
    (case k13 => k_is)
    (case a14 => k_is)
    (case l14 => k_is)
    (case c_14 => k_is)
    (case k14 => k_is)
    (case a15 => k_is)
    (case l15 => k_is)
    (case c_15 => k_is)
    (case k15 => k_is)
    (case a16 => k_is)
    (case l16 => k_is)
    (case c_16 => k_is)
    (case k16 => k_is)
    (case a17 => k_is)
    (case l17 => k_is)
    (case c_17 => k_is)
    (case k17 => k_is)
    (case a18 => k_is)
    (case l18 => k_is)
    (case c_18 => k_is)
    (case k18 => k_is)
    (case a19 => k_is)
    (case l19 => k_is)
    (case c_19 => k_is)
    (case k19 => k_is)
    (case p19 => k_is)
    (case pp19 => first | rfl | kernel_rfl)
    (case a20 => k_is)
    (case l20 => k_is)
    (case c_20 => k_is)
    (case k20 => k_is)
    (case a21 => k_is)
    (case l21 => k_is)
    (case c_21 => k_is)
    (case k21 => k_is)
    (case a22 => k_is)
    (case l22 => k_is)
    (case c_22 => k_is)
    (case k22 => k_is)
    (case a23 => k_is)
    (case l23 => k_is)
    (case c_23 => k_is)
    (case k23 => k_is)
    (case a24 => k_is)
    (case l24 => k_is)
    (case c_24 => k_is)
    (case k24 => k_is)
    (case p24 => k_is)
    (case pp24 => first | rfl | kernel_rfl)
    (case xa0 => k_is)
    (case xx0 => k_exc)
    (case xk0 => k_is)
    (case xb0 => k_is)
    (case xt0 => k_is)
    (case xa1 => k_is)
    (case xx1 => k_exc)
    (case xk1 => k_is)
    (case xb1 => k_is)
    (case xt1 => k_is)
    (case xa2 => k_is)
    (case xx2 => k_exc)
    (case xk2 => k_is)
    (case xb2 => k_is)
    (case xt2 => k_is)
    (case xa3 => k_is)
    (case xx3 => k_exc)
    (case xk3 => k_is)
    (case xb3 => k_is)
    (case xt3 => k_is)
    (case xa4 => k_is)
    (case xx4 => k_exc)
    (case xk4 => k_is)
    (case xb4 => k_is)
    (case xt4 => k_is)
    (case xa5 => k_is)
    (case xx5 => k_exc)
    (case xk5 => k_is)
    (case xb5 => k_is)
    (case xt5 => k_is)
    (case xa6 => k_is)
    (case xx6 => k_exc)
    (case xk6 => k_is)
    (case xb6 => k_is)
    (case xt6 => k_is)
    (case xa7 => k_is)
    (case xx7 => k_exc)
    (case xk7 => k_is)
    (case xb7 => k_is)
    (case xt7 => k_is)
    (case xa8 => k_is)
    (case xx8 => k_exc)
    (case xk8 => k_is)
    (case xb8 => k_is)
    (case xt8 => k_is)
    (case xa9 => k_is)
    (case xx9 => k_exc)
    (case xk9 => k_is)
    (case xb9 => k_is)
    (case xt9 => k_is)
    (case xa10 => k_is)
    (case xx10 => k_exc)
    (case xk10 => k_is)
    (case xb10 => k_is)
    (case xt10 => k_is)
    (case xa11 => k_is)
    (case xx11 => k_exc)
    (case xk11 => k_is)
    (case xb11 => k_is)
    (case xt11 => k_is)
    (case xa12 => k_is)
    (case xx12 => k_exc)
    (case xk12 => k_is)
    (case xb12 => k_is)
    (case xt12 => k_is)
    (case xa13 => k_is)
    (case xx13 => k_exc)
    (case xk13 => k_is)
    (case xb13 => k_is)
    (case xt13 => k_is)
    (case xa14 => k_is)
    (case xx14 => k_exc)
    (case xk14 => k_is)
    (case xb14 => k_is)
    (case xt14 => k_is)
    (case kn_WAYS => k_is)
    (case lka0 => k_is)
    (case kn_MOST => k_is)
    (case xr => intro i hi; (iterate 14 (rcases i with _ | i; · kernel_rfl)); omega)
    (case xq => first | rfl | kernel_rfl)
    (case z_ValueError => k_is)
    (case z_len => k_is)
    (case z_abs => k_is)
    (case z_int => k_is)
    (case z_tuple => k_is)
    (case z_list => k_is)
    (case z_all => k_is)
    (case z_bool => k_is)
    (case z_sum => k_is)
    (case z_max => k_is)
    (case z_min => k_is)
    (case z_isinstance => k_is)
    (case z_str => k_is)
    (case z_range => k_is)
    (case z_enumerate => k_is)
    (case z_zip => k_is)
    (case pd => decide)
    (case hT => exact List.forall_mem_cons.mpr ⟨YT _ (by k_mem), List.forall_mem_cons.mpr ⟨YT _ (by k_mem), (fun _ h => nomatch h)⟩⟩)
    (case nT => exact List.forall_mem_cons.mpr ⟨by kernel_rfl, List.forall_mem_cons.mpr ⟨by kernel_rfl, (fun _ h => nomatch h)⟩⟩)
    (case CH => exact List.forall_mem_cons.mpr ⟨PySem.W.codeHd_of_K KX (by kernel_rfl), List.forall_mem_cons.mpr ⟨PySem.W.codeHd_of_K KX (by kernel_rfl), (fun _ h => nomatch h)⟩⟩)
    (case hTT => decide)
