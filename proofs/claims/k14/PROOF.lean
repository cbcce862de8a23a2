import PyProof.Rows.All
import Wide.All
import OpenK.AllK
import Wide.FinOn
import HandS.ForMost
import HandS.Walk
import HandS.Exc
import HandS.ExcOwn
import HandS.WordsExc
import HandS.IsInst
import HandS.Wide
import HandS.EndBits
import HandS.Zip
import HandS.Style
import HandS.Flow
import PySem.Challenge.RW_maskedprints_k14_whole_lamps_that_fade
set_option Elab.async false
set_option Elab.async false
set_option linter.all false
set_option autoImplicit false
set_option maxRecDepth 100000
set_option maxHeartbeats 4000000
/-! The pure interpreter: values, syntax, what it computes. -/
namespace PI
open PySem

/-- a value: tuples and lists by value; scr: the script; ref k: the k-th shared mutable object; rcd: an instance that no longer changes -/
inductive PV where
  | non | bl (b : Bool) | int (i : Int) | str (s : Str)
  | tup (xs : List PV) | lst (xs : List PV) | scr (ns : List Int) | ref (k : Nat)
  | rcd (c : Str) (fs : List PV)
  deriving Inhabited

/-- what a name holds: a value, or a list that it alone holds -/
inductive SV where
  | val (d : PV) | own (xs : List PV)
  deriving Inhabited
/-- a shared mutable object -/
inductive SO where
  | row (xs : List PV)
  deriving Inhabited

abbrev Loc := List (Option SV)
abbrev Sto := List SO
structure Ps where
  loc : Loc
  sto : Sto

inductive R (α : Type) where
  | ok (a : α) (s : Ps)
  | exc (c : Str) (fs : List PV) (s : Ps)
  | stuck

@[simp] def R.bind {α β : Type} (r : R α) (f : α → Ps → R β) : R β :=
  match r with
  | .ok a s => f a s
  | .exc c fs s => .exc c fs s
  | .stuck => .stuck

/-- what a call gives -/
inductive C where
  | ok (a : SV) (s : Sto)
  | exc (c : Str) (fs : List PV) (s : Sto)
  | stuck

/-- targets -/
inductive T where
  | var (i : Nat)
  | tup (ts : List T)

inductive IK where | seq | rng | enm | zp
  deriving DecidableEq

/-- built-in functions and classes that are called -/
inductive Pm where
  | len | int | max2 | min2 | sum
  deriving DecidableEq

inductive E where
  | var (i : Nat)
  | glob (x : Str)
  | cst (v : PV)
  | bin (op : Operator) (a b : E)
  | neg (a : E)
  | not (a : E)
  | and (a b : E)
  | or (a b : E)
  | cmp (op : CmpOp) (a b : E)
  | chain (op op' : CmpOp) (a b c : E)
  | ite (c a b : E)
  | tup (es : List E)
  | lst (es : List E)
  | call (f : Str) (es : List E)
  | prim (f : Pm) (es : List E)
  | isi (a : E) (t : String)
  | app (i : Nat) (e : E)
  | idx (a i : E)
  | comp (own : List (Str × Nat)) (elt : E) (tg : T) (k : IK) (src : List E) (ifs : List E)

inductive S where
  | expr (e : E)
  | asg (t : T) (e : E)
  | newRow (i : Nat) (es : List E)
  | par (i j : Nat) (a b : E)
  | setIdx (i : Nat) (k : E) (e : E)
  | aug (i : Nat) (op : Operator) (e : E)
  | if_ (c : E) (a b : List S)
  | for_ (t : T) (k : IK) (src : List E) (body : List S)
  | ret (e : E)
  | never
  | pass

/-! ### equality of data -/
mutual
def eqv : PV → PV → Bool
  | .non, .non => true
  | .bl a, .bl b => a == b
  | .bl a, .int j => (if a then 1 else 0) == j
  | .int i, .bl b => i == (if b then 1 else 0)
  | .int i, .int j => i == j
  | .str x, .str y => x == y
  | .lst xs, .lst ys => eqvAll xs ys
  | .tup xs, .tup ys => eqvAll xs ys
  | _, _ => false
def eqvAll : List PV → List PV → Bool
  | [], [] => true
  | x :: xs, y :: ys => eqv x y && eqvAll xs ys
  | _, _ => false
end
mutual
/-- plain data, nested less than n deep -/
def shal : Nat → PV → Bool
  | _, .non => true
  | _, .bl _ => true
  | _, .int _ => true
  | _, .str x => PyData.strOk x
  | n + 1, .tup xs => shalAll n xs
  | n + 1, .lst xs => shalAll n xs
  | _, _ => false
def shalAll : Nat → List PV → Bool
  | _, [] => true
  | n, x :: xs => shal n x && shalAll n xs
end
mutual
def toData : PV → PyData
  | .non => .none
  | .bl b => .bool b
  | .int i => .int i
  | .str x => .str x
  | .tup xs => .tuple (toDatas xs)
  | .lst xs => .list (toDatas xs)
  | _ => .none
def toDatas : List PV → List PyData
  | [] => []
  | x :: xs => toData x :: toDatas xs
end
end PI

set_option Elab.async false
set_option linter.all false
set_option autoImplicit false
set_option maxRecDepth 100000
set_option maxHeartbeats 4000000
namespace PI
open PySem

abbrev lim : Nat := 16777216
def SV.pv : SV → PV
  | .val d => d
  | .own xs => .lst xs

/-- a value, or a name that alone holds its list -/
inductive BV where
  | v (d : PV)
  | s (i : Nat)
def deref (s : Ps) : BV → Option PV
  | .v d => some d
  | .s i => match s.loc[i]? with
    | some (some (.own xs)) => some (.lst xs)
    | some (some (.val d)) => some d
    | _ => none
def derefs (s : Ps) : List BV → Option (List PV)
  | [] => some []
  | b :: bs => match deref s b, derefs s bs with
    | some d, some ds => some (d :: ds)
    | _, _ => none

/-! ### operators -/
def binP : Operator → PV → PV → Option SV
  | .Add, .int a, .int b => some (.val (.int (a + b)))
  | .Add, .str a, .str b => if a.length + b.length ≤ lim then some (.val (.str (a ++ b))) else none
  | .Add, .lst a, .lst b => if a.length + b.length ≤ lim then some (.own (a ++ b)) else none
  | .Sub, .int a, .int b => some (.val (.int (a - b)))
  | .Mult, .int a, .int b => if (-(2 ^ 64) < a ∧ a < 2 ^ 64) ∨ (-(2 ^ 64) < b ∧ b < 2 ^ 64) then some (.val (.int (a * b))) else none
  | .FloorDiv, .int a, .int b => if 0 < b ∧ b.natAbs.log2 < 9000 then some (.val (.int (a / b))) else none
  | .Mod, .int a, .int b => if 0 < b then some (.val (.int (a % b))) else none
  | .Pow, .int a, .int b => if 0 ≤ b ∧ b ≤ 1000000 ∧ a.natAbs < 2 ^ 64 then some (.val (.int (a ^ b.toNat))) else none
  | _, _, _ => none
def cmpP : CmpOp → PV → PV → Option Bool
  | .Lt, .int a, .int b => some (decide (a < b))
  | .LtE, .int a, .int b => some (decide (a ≤ b))
  | .Gt, .int a, .int b => some (decide (b < a))
  | .GtE, .int a, .int b => some (decide (b ≤ a))
  | .Eq, .str a, .str b => some (a == b)
  | .Eq, a, b => if shal 60 a && shal 60 b then some (eqv a b) else none
  | .NotEq, .str a, .str b => some (!(a == b))
  | .NotEq, a, b => if shal 60 a && shal 60 b then some (!eqv a b) else none
  | .Is, a, .non => some (match a with | .non => true | _ => false)
  | .IsNot, a, .non => some (match a with | .non => false | _ => true)
  | _, _, _ => none
def truP : PV → Option Bool
  | .non => some false
  | .bl b => some b
  | .int i => some (i != 0)
  | .lst xs => some (!xs.isEmpty)
  | .tup xs => some (!xs.isEmpty)
  | _ => none
def atP {α : Type} (xs : List α) (i : Int) : Option α := L2.atI xs i
def idxP (st : Sto) : PV → PV → Option PV
  | .lst xs, .int i => atP xs i
  | .tup xs, .int i => atP xs i
  | .scr ns, .int i => (atP ns i).map .int
  | .str z, .int i => if z.length ≤ lim then (atP z.cps.toList i).map fun c => .str ⟨#[c]⟩ else none
  | .ref k, .int i => match st[k]? with
    | some (.row xs) => atP xs i
    | _ => none
  | _, _ => none
def isiP (t : String) : PV → Option Bool
  | .non => some false
  | .bl _ => some (t == "bool" || t == "int")
  | .int _ => some (t == "int")
  | .str _ => some (t == "str")
  | .tup _ => some (t == "tuple")
  | .lst _ => some (t == "list")
  | _ => none
def unInts : List PV → Option (List Int)
  | [] => some []
  | .int i :: r => (unInts r).map (i :: ·)
  | _ :: _ => none
def unBls : List PV → Option (List Bool)
  | [] => some []
  | .bl i :: r => (unBls r).map (i :: ·)
  | _ :: _ => none
def primP : Pm → List PV → Option SV
  | .len, [.lst xs] => some (.val (.int xs.length))
  | .len, [.tup xs] => some (.val (.int xs.length))
  | .len, [.scr ns] => some (.val (.int ns.length))
  | .len, [.str z] => if z.length ≤ lim then some (.val (.int z.length)) else none
  | .int, [.int i] => some (.val (.int i))
  | .int, [.bl b] => some (.val (.int (if b then 1 else 0)))
  | .max2, [.int i, .int j] => some (.val (.int (if j > i then j else i)))
  | .min2, [.int i, .int j] => some (.val (.int (if j < i then j else i)))
  | .sum, [.lst xs] => (unInts xs).map fun ns => .val (.int ns.sum)
  | _, _ => none

def liftO {α : Type} (o : Option α) (s : Ps) : R α := match o with
  | some a => .ok a s
  | none => .stuck

/-! ### targets, sources -/
mutual
def asgT : T → PV → Loc → Option Loc
  | .var i, d, l => some (l.set i (some (.val d)))
  | .tup ts, .tup ds, l => asgTs ts ds l
  | _, _, _ => none
def asgTs : List T → List PV → Loc → Option Loc
  | [], [], l => some l
  | t :: ts, d :: ds, l => match asgT t d l with
    | some l' => asgTs ts ds l'
    | none => none
  | _, _, _ => none
end
def intsFrom (a : Int) : Nat → List PV
  | 0 => []
  | n + 1 => .int a :: intsFrom (a + 1) n
def seqP : List PV → Option (List PV)
  | [.lst xs] => some xs
  | [.tup xs] => some xs
  | _ => none
def rngP : List PV → Option (List PV)
  | [.int j] => if -(2 ^ 62) ≤ j ∧ j < 2 ^ 62 then some (intsFrom 0 j.toNat) else none
  | [.int i, .int j] => if -(2 ^ 62) ≤ i ∧ i < 2 ^ 62 ∧ -(2 ^ 62) ≤ j ∧ j < 2 ^ 62 then some (intsFrom i (j - i).toNat) else none
  | _ => none
def itemsP : IK → List PV → Option (List PV)
  | .seq, ds => seqP ds
  | .rng, ds => rngP ds
  | _, _ => none
def wipeL (l : Loc) : List Nat → Loc
  | [] => l
  | v :: vs => (wipeL l vs).set v none
/-- the slots vs as they were in l0 -/
def backL (l0 l : Loc) : List Nat → Loc
  | [] => l
  | v :: vs => (backL l0 l vs).set v (l0[v]?.getD none)

def compLoop (body : PV → Ps → R (Option PV)) : List PV → List PV → Ps → R (List PV)
  | [], acc, s => .ok acc s
  | x :: xs, acc, s => (body x s).bind fun o s1 => match o with
    | some y => if acc.length < lim then compLoop body xs (acc ++ [y]) s1 else .stuck
    | none => compLoop body xs acc s1

/-! ### denotations -/
structure En where
  cl : Str → List PV → Sto → C
  gl : Str → Option PV

/-- what an expression does: as a name (its slot), as a value, as a test -/
structure Den where
  vr : Option Nat
  v : Ps → R SV
  t : Ps → R Bool
/-- as an operand: a name that alone holds its list is not copied -/
def Den.b (d : Den) (b : Bool) (s : Ps) : R BV := match b, d.vr with
  | true, some i => match s.loc[i]? with
    | some (some (.val d)) => .ok (.v d) s
    | some (some (.own _)) => .ok (.s i) s
    | _ => .stuck
  | _, _ => (d.v s).bind fun x s1 => .ok (.v x.pv) s1
def Den.bs (b : Bool) : List Den → Ps → R (List BV)
  | [], s => .ok [] s
  | e :: es, s => (e.b b s).bind fun x s1 => (Den.bs b es s1).bind fun xs s2 => .ok (x :: xs) s2
/-- operands, then what is done with their values -/
def opnd1 {α : Type} (a : Den) (f : PV → Ps → R α) (s : Ps) : R α := (a.b true s).bind fun x s1 => match deref s1 x with
  | some dx => f dx s1
  | none => .stuck
def opnd2 {α : Type} (a b : Den) (f : PV → PV → Ps → R α) (s : Ps) : R α := (a.b true s).bind fun x s1 => (b.b true s1).bind fun y s2 => match deref s2 x, deref s2 y with
  | some dx, some dy => f dx dy s2
  | _, _ => .stuck
def opnds {α : Type} (b : Bool) (es : List Den) (f : List PV → Ps → R α) (s : Ps) : R α := (Den.bs b es s).bind fun xs s1 => match derefs s1 xs with
  | some ds => f ds s1
  | none => .stuck
def Den.ofV (v : Ps → R SV) : Den := ⟨none, v, fun s => (v s).bind fun x s1 => liftO (truP x.pv) s1⟩

def dVar (i : Nat) : Den := ⟨some i, fun s => match s.loc[i]? with
    | some (some (.val d)) => .ok (.val d) s
    | some (some (.own xs)) => .ok (.val (.lst xs)) { s with loc := s.loc.set i (some (.val (.lst xs))) }
    | _ => .stuck,
  fun s => match s.loc[i]? with
    | some (some (.val d)) => liftO (truP d) s
    | some (some (.own xs)) => liftO (truP (.lst xs)) s
    | _ => .stuck⟩
def dGlob (G : En) (x : Str) : Den := .ofV fun s => liftO ((G.gl x).map .val) s
def dCst (d : PV) : Den := .ofV fun s => .ok (.val d) s
def dBin (op : Operator) (a b : Den) : Den := .ofV (opnd2 a b fun dx dy s => liftO (binP op dx dy) s)
def dNeg (a : Den) : Den := .ofV (opnd1 a fun d s => match d with
    | .int i => .ok (.val (.int (-i))) s
    | _ => .stuck)
def tNotR (a : Den) (s : Ps) : R Bool := (a.t s).bind fun b s1 => .ok (!b) s1
def dNot (a : Den) : Den := ⟨none, opnd1 a fun d s => liftO ((truP d).map fun b => .val (.bl (!b))) s, tNotR a⟩
def dAnd (a b : Den) : Den := ⟨none, fun s => (a.v s).bind fun x s1 => match x with
    | .val (.bl true) => b.v s1
    | .val (.bl false) => .ok (.val (.bl false)) s1
    | _ => .stuck,
  fun s => (a.t s).bind fun x s1 => if x then b.t s1 else .ok false s1⟩
def dOr (a b : Den) : Den := ⟨none, fun s => (a.v s).bind fun x s1 => match x with
    | .val (.bl true) => .ok (.val (.bl true)) s1
    | .val (.bl false) => b.v s1
    | _ => .stuck,
  fun s => (a.t s).bind fun x s1 => if x then .ok true s1 else b.t s1⟩
def dCmp (op : CmpOp) (a b : Den) : Den := ⟨none, opnd2 a b fun dx dy s => liftO ((cmpP op dx dy).map fun b => .val (.bl b)) s,
  opnd2 a b fun dx dy s => liftO (cmpP op dx dy) s⟩
def chainR (op op' : CmpOp) (a b c : Den) (s : Ps) : R Bool := (a.b true s).bind fun x s1 => (b.b true s1).bind fun y s2 => match deref s2 x, deref s2 y with
    | some dx, some dy => match cmpP op dx dy with
      | some true => (c.b true s2).bind fun z s3 => match deref s3 y, deref s3 z with
        | some dy, some dz => liftO (cmpP op' dy dz) s3
        | _, _ => .stuck
      | some false => .ok false s2
      | none => .stuck
    | _, _ => .stuck
def dChain (op op' : CmpOp) (a b c : Den) : Den := ⟨none, fun s => (chainR op op' a b c s).bind fun b s1 => .ok (.val (.bl b)) s1, chainR op op' a b c⟩
def dIte (c a b : Den) : Den := ⟨none, fun s => (c.t s).bind fun k s1 => if k then a.v s1 else b.v s1, fun s => (c.t s).bind fun k s1 => if k then a.t s1 else b.t s1⟩
def dTup (es : List Den) : Den := .ofV (opnds false es fun ds s => .ok (.val (.tup ds)) s)
def dLst (es : List Den) : Den := .ofV (opnds false es fun ds s => .ok (.own ds) s)
def dCall (G : En) (f : Str) (es : List Den) : Den := .ofV (opnds false es fun ds s => match G.cl f ds s.sto with
      | .ok v st => .ok v { s with sto := st }
      | .exc c fs st => .exc c fs { s with sto := st }
      | .stuck => .stuck)
def dPrim (f : Pm) (es : List Den) : Den := .ofV (opnds true es fun ds s => liftO (primP f ds) s)
def dIsi (a : Den) (t : String) : Den := .ofV (opnd1 a fun d s => liftO ((isiP t d).map fun b => .val (.bl b)) s)
def appP (i : Nat) (x : SV) (s1 : Ps) : R SV := match s1.loc[i]? with
    | some (some (.own xs)) => if xs.length < lim then .ok (.val .non) { s1 with loc := s1.loc.set i (some (.own (xs ++ [x.pv]))) } else .stuck
    | _ => .stuck
def isOwn (i : Nat) (s : Ps) : Bool := match s.loc[i]? with
  | some (some (.own _)) => true
  | _ => false
def dApp (i : Nat) (e : Den) : Den := .ofV fun s => if isOwn i s then (e.v s).bind (appP i) else .stuck
def dIdx (a i : Den) : Den := .ofV (opnd2 a i fun dx dy s => liftO ((idxP s.sto dx dy).map .val) s)
def tstsR : List Den → Ps → R Bool
  | [], s => .ok true s
  | [e], s => e.t s
  | _ :: _ :: _, _ => .stuck
def compBody (own : List Nat) (elt : Den) (tg : T) (ifs : List Den) (x : PV) (s2 : Ps) : R (Option PV) := match asgT tg x s2.loc with
  | some l => (tstsR ifs { s2 with loc := l }).bind fun b s3 =>
    if b then (elt.v s3).bind fun y s4 => .ok (some y.pv) { s4 with loc := wipeL s4.loc own }
    else .ok none { s3 with loc := wipeL s3.loc own }
  | none => .stuck
def compR (own : List Nat) (elt : Den) (tg : T) (ifs : List Den) (its : List PV) (s1 : Ps) : R SV :=
  match compLoop (compBody own elt tg ifs) its [] { s1 with loc := wipeL s1.loc own } with
  | .ok acc s5 => .ok (.own acc) { s5 with loc := backL s1.loc s5.loc own }
  | _ => .stuck
def dComp (own : List Nat) (elt : Den) (tg : T) (k : IK) (src : List Den) (ifs : List Den) : Den := .ofV (opnds false src fun ds s1 => match itemsP k ds with
      | some its => compR own elt tg ifs its s1
      | none => .stuck)

mutual
def den (G : En) : E → Den
  | .var i => dVar i
  | .glob x => dGlob G x
  | .cst d => dCst d
  | .bin op a b => dBin op (den G a) (den G b)
  | .neg a => dNeg (den G a)
  | .not a => dNot (den G a)
  | .and a b => dAnd (den G a) (den G b)
  | .or a b => dOr (den G a) (den G b)
  | .cmp op a b => dCmp op (den G a) (den G b)
  | .chain op op' a b c => dChain op op' (den G a) (den G b) (den G c)
  | .ite c a b => dIte (den G c) (den G a) (den G b)
  | .tup es => dTup (dens G es)
  | .lst es => dLst (dens G es)
  | .call f es => dCall G f (dens G es)
  | .prim f es => dPrim f (dens G es)
  | .isi a t => dIsi (den G a) t
  | .app i e => dApp i (den G e)
  | .idx a i => dIdx (den G a) (den G i)
  | .comp own elt tg k src ifs => dComp (own.map (·.2)) (den G elt) tg k (dens G src) (dens G ifs)
def dens (G : En) : List E → List Den
  | [] => []
  | e :: es => den G e :: dens G es
end

/-! ### statements -/
inductive Fl where
  | next | ret (v : SV) | brk | cont
abbrev DS := Ps → R Fl
def sExpr (e : Den) : DS := fun s => (e.v s).bind fun _ s1 => .ok .next s1
def asgS (t : T) (x : SV) (s : Ps) : R Fl := match t, x with
  | .var i, x => .ok .next { s with loc := s.loc.set i (some x) }
  | t, .val d => match asgT t d s.loc with
    | some l => .ok .next { s with loc := l }
    | none => .stuck
  | _, _ => .stuck
def sAsg (t : T) (e : Den) : DS := fun s => (e.v s).bind fun x s1 => asgS t x s1
def sRow (i : Nat) (es : List Den) : DS := opnds false es fun ds s => .ok .next { loc := s.loc.set i (some (.val (.ref s.sto.length))), sto := s.sto ++ [.row ds] }
def sPar (i j : Nat) (a b : Den) : DS := fun s => (a.v s).bind fun x s1 => (b.v s1).bind fun y s2 => .ok .next { s2 with loc := (s2.loc.set i (some x)).set j (some y) }
def setP (i : Nat) (k : PV) (x : PV) (s : Ps) : R Fl := match k, s.loc[i]? with
  | .int k, some (some (.own xs)) => match L2.ixN xs.length k with
    | some j => .ok .next { s with loc := s.loc.set i (some (.own (xs.set j x))) }
    | none => .stuck
  | .int k, some (some (.val (.ref a))) => match s.sto[a]? with
    | some (.row xs) => match L2.ixN xs.length k with
      | some j => .ok .next { s with sto := s.sto.set a (.row (xs.set j x)) }
      | none => .stuck
    | _ => .stuck
  | _, _ => .stuck
def filled (i : Nat) (s : Ps) : Bool := match s.loc[i]? with
  | some (some _) => true
  | _ => false
def sSet (i : Nat) (k e : Den) : DS := fun s => if filled i s then (e.v s).bind fun x s1 => (k.v s1).bind fun y s2 => setP i y.pv x.pv s2 else .stuck
def augP (op : Operator) (x y : PV) : Option SV := match op, x, y with
  | .Add, .int a, .int b => some (.val (.int (a + b)))
  | .Sub, .int a, .int b => some (.val (.int (a - b)))
  | .Mult, .int a, .int b => if (-(2 ^ 64) < a ∧ a < 2 ^ 64) ∨ (-(2 ^ 64) < b ∧ b < 2 ^ 64) then some (.val (.int (a * b))) else none
  | .Add, .str a, .str b => if a.length + b.length ≤ lim then some (.val (.str (a ++ b))) else none
  | _, _, _ => none
def sAug (i : Nat) (op : Operator) (e : Den) : DS := fun s => match s.loc[i]? with
  | some (some (.val x)) => (e.v s).bind fun y s1 => match augP op x y.pv with
    | some z => .ok .next { s1 with loc := s1.loc.set i (some z) }
    | none => .stuck
  | _ => .stuck
def sIf (c : Den) (a b : DS) : DS := fun s => (c.t s).bind fun k s1 => if k then a s1 else b s1
def forLoop (body : PV → DS) : List PV → DS
  | [], s => .ok .next s
  | x :: xs, s => match body x s with
    | .ok .next s1 => forLoop body xs s1
    | .ok .cont s1 => forLoop body xs s1
    | .ok .brk s1 => .ok .next s1
    | .ok (.ret v) s1 => .ok (.ret v) s1
    | .exc c fs s1 => .exc c fs s1
    | .stuck => .stuck
def forBody (t : T) (body : DS) (x : PV) : DS := fun s => match asgT t x s.loc with
  | some l => body { s with loc := l }
  | none => .stuck
def sFor (t : T) (k : IK) (src : List Den) (body : DS) : DS := opnds false src fun ds s => match itemsP k ds with
  | some its => forLoop (forBody t body) its s
  | none => .stuck
def sRet (e : Den) : DS := fun s => match e.vr.bind (fun i => s.loc[i]?) with
  | some (some (.own xs)) => .ok (.ret (.own xs)) s
  | _ => (e.v s).bind fun x s1 => .ok (.ret x) s1
def sSeq (a b : DS) : DS := fun s => match a s with
  | .ok .next s1 => b s1
  | r => r
def sNext : DS := fun s => .ok .next s
mutual
def dst (G : En) : S → DS
  | .expr e => sExpr (den G e)
  | .asg t e => sAsg t (den G e)
  | .newRow i es => sRow i (dens G es)
  | .par i j a b => sPar i j (den G a) (den G b)
  | .setIdx i k e => sSet i (den G k) (den G e)
  | .aug i op e => sAug i op (den G e)
  | .if_ c a b => sIf (den G c) (dsts G a) (dsts G b)
  | .for_ t k src body => sFor t k (dens G src) (dsts G body)
  | .ret e => sRet (den G e)
  | .never => fun _ => .stuck
  | .pass => sNext
def dsts (G : En) : List S → DS
  | [] => sNext
  | s :: ss => sSeq (dst G s) (dsts G ss)
end

/-! ### defs -/
structure Fn where
  ps : Nat
  n : Nat
  body : List S
def runFn (G : En) (f : Fn) (ds : List PV) (st : Sto) : C :=
  if ds.length = f.ps then
    match dsts G f.body ⟨ds.map (fun d => some (.val d)) ++ List.replicate (f.n - f.ps) none, st⟩ with
    | .ok .next s => .ok (.val .non) s.sto
    | .ok (.ret v) s => .ok v s.sto
    | .exc c fs s => .exc c fs s.sto
    | _ => .stuck
  else .stuck
def callP (fs : Str → Option Fn) (gl : Str → Option PV) : Nat → Str → List PV → Sto → C
  | 0, _, _, _ => .stuck
  | n + 1, f, ds, st => match fs f with
    | some fn => runFn ⟨callP fs gl n, gl⟩ fn ds st
    | none => .stuck
end PI

set_option Elab.async false
set_option linter.all false
set_option autoImplicit false
set_option maxRecDepth 100000
set_option maxHeartbeats 4000000
/-! What a value of the machine denotes; the state; what follows. -/
namespace PI
open PySem L2

mutual
inductive Dn (K : PySem.W.Frag) (F : Hp) (M : List Addr) : V → PV → Prop
  | non : Dn K F M .non .non
  | bl (b : Bool) : Dn K F M (.bl b) (.bl b)
  | int (i : Int) : Dn K F M (.int i) (.int i)
  | str (x : Str) : Dn K F M (.str x) (.str x)
  | tup {p : Addr} {vs : List V} {ds : List PV} : SqT K F p vs → Dns K F M vs ds → Dn K F M (.ref p) (.tup ds)
  | lst {p : Addr} {vs : List V} {ds : List PV} : F p = some (.lst vs) → Dns K F M vs ds → Dn K F M (.ref p) (.lst ds)
  | scr {p : Addr} {ns : List Int} : SqL K F p (ns.map V.int) → Dn K F M (.ref p) (.scr ns)
  | ref {a : Addr} {k : Nat} : M[k]? = some a → Dn K F M (.ref a) (.ref k)
inductive Dns (K : PySem.W.Frag) (F : Hp) (M : List Addr) : List V → List PV → Prop
  | nil : Dns K F M [] []
  | cons {v : V} {vs : List V} {d : PV} {ds : List PV} : Dn K F M v d → Dns K F M vs ds → Dns K F M (v :: vs) (d :: ds)
end

section
variable {K : PySem.W.Frag} {F F' H H' : Hp} {M M' : List Addr}
theorem sqT_mono (e : Same F F') {a : Addr} {xs : List V} (h : SqT K F a xs) : SqT K F' a xs := by
  rcases h with (h | ⟨o, h⟩) | h
  · exact .inl (.inl (e _ _ h))
  · exact .inl (.inr ⟨o, e _ _ h⟩)
  · exact .inr h
theorem pre_get {M M' : List Addr} (p : M <+: M') {k : Nat} {a : Addr} (h : M[k]? = some a) : M'[k]? = some a := by
  obtain ⟨r, rfl⟩ := p
  rw [List.getElem?_append_left]
  · exact h
  · exact (List.getElem?_eq_some_iff.mp h).1
mutual
theorem Dn.mono (e : Same F F') (m : M <+: M') : ∀ {v : V} {d : PV}, Dn K F M v d → Dn K F' M' v d
  | _, _, .non => .non
  | _, _, .bl b => .bl b
  | _, _, .int i => .int i
  | _, _, .str x => .str x
  | _, _, .tup h r => .tup (sqT_mono e h) (Dns.mono e m r)
  | _, _, .lst h r => .lst (e _ _ h) (Dns.mono e m r)
  | _, _, .scr h => .scr (e.seq h)
  | _, _, .ref h => .ref (pre_get m h)
theorem Dns.mono (e : Same F F') (m : M <+: M') : ∀ {v : List V} {d : List PV}, Dns K F M v d → Dns K F' M' v d
  | _, _, .nil => .nil
  | _, _, .cons h r => .cons (Dn.mono e m h) (Dns.mono e m r)
end
theorem Dns.length : ∀ {vs : List V} {ds : List PV}, Dns K F M vs ds → vs.length = ds.length
  | _, _, .nil => rfl
  | _, _, .cons _ r => by rw [List.length_cons, List.length_cons, r.length]
theorem Dns.get : ∀ {vs : List V} {ds : List PV} {i : Nat} {d : PV}, Dns K F M vs ds → ds[i]? = some d → ∃ v, vs[i]? = some v ∧ Dn K F M v d
  | _, _, _, _, .nil, h => by simp at h
  | _, _, 0, _, .cons h _, e => by simp at e; subst e; exact ⟨_, rfl, h⟩
  | _, _, i + 1, _, .cons _ r, e => by
    obtain ⟨v, h1, h2⟩ := Dns.get (i := i) r (by simpa using e)
    exact ⟨v, by simpa using h1, h2⟩
theorem Dns.append : ∀ {vs ws : List V} {ds es : List PV}, Dns K F M vs ds → Dns K F M ws es → Dns K F M (vs ++ ws) (ds ++ es)
  | _, _, _, _, .nil, h => h
  | _, _, _, _, .cons h r, q => .cons h (r.append q)
theorem Dns.set : ∀ {vs : List V} {ds : List PV} {v : V} {d : PV} (i : Nat), Dns K F M vs ds → Dn K F M v d → Dns K F M (vs.set i v) (ds.set i d)
  | _, _, _, _, _, .nil, _ => .nil
  | _, _, _, _, 0, .cons _ r, q => .cons q r
  | _, _, _, _, i + 1, .cons h r, q => .cons h (Dns.set i r q)
theorem Dns.at {vs : List V} {ds : List PV} {i : Int} {d : PV} (h : Dns K F M vs ds) (e : atP ds i = some d) : ∃ v, atI vs i = some v ∧ Dn K F M v d := by
  have e' : (ixN ds.length i).bind (fun j => ds[j]?) = some d := e
  cases q : ixN ds.length i with
  | none => rw [q] at e'; cases e'
  | some j =>
    rw [q] at e'
    obtain ⟨v, h1, h2⟩ := h.get (i := j) (d := d) e'
    refine ⟨v, ?_, h2⟩
    show (ixN vs.length i).bind (fun j => vs[j]?) = some v
    rw [h.length, q]
    exact h1
theorem Dns.ints : ∀ {vs : List V} {ds : List PV} {ns : List Int}, Dns K F M vs ds → unInts ds = some ns → vs = ns.map V.int
  | _, _, ns, .nil, e => by
    have : ([] : List Int) = ns := Option.some.inj e
    subst this; rfl
  | _, _, ns, .cons (d := d) (ds := ds) h r, e => by
    cases d with
    | int i =>
      cases h
      have e' : (unInts ds).map (i :: ·) = some ns := e
      cases q : unInts ds with
      | none => rw [q] at e'; cases e'
      | some ms =>
        rw [q] at e'
        have := Option.some.inj e'
        subst this
        rw [r.ints q]; rfl
    | _ => exact absurd e (by intro z; cases z)
theorem Dns.ofInts (ns : List Int) : Dns K F M (ns.map V.int) (ns.map PV.int) := by
  induction ns with
  | nil => exact .nil
  | cons i r ih => exact .cons (.int i) ih
end

/-- the names that alone hold a list: at which addresses -/
def Own (σ : L2.St) (l : Loc) (p : Addr) : Prop := ∃ (i : Nat) (xs : List PV), l[i]? = some (some (SV.own xs)) ∧ σ[i]? = some (some (V.ref p))

def SlotOk (K : PySem.W.Frag) (F H : Hp) (M : List Addr) (v : Option (Option V)) : Option SV → Prop
  | none => True
  | some (.val d) => ∃ x, v = some (some x) ∧ Dn K F M x d
  | some (.own xs) => ∃ p vs, v = some (some (.ref p)) ∧ F p = none ∧ H p = some (.lst vs) ∧ Dns K F M vs xs ∧ p ∉ M

def SoOk (K : PySem.W.Frag) (F H : Hp) (M : List Addr) (a : Addr) : SO → Prop
  | .row xs => F a = none ∧ ∃ vs, H a = some (.lst vs) ∧ Dns K F M vs xs

structure Stos (K : PySem.W.Frag) (F H : Hp) (M : List Addr) (st : Sto) : Prop where
  len : M.length = st.length
  nd : M.Nodup
  ok : ∀ (k : Nat) (so : SO) (a : Addr), st[k]? = some so → M[k]? = some a → SoOk K F H M a so

structure Rl (K : PySem.W.Frag) (F H : Hp) (M : List Addr) (σ : L2.St) (s : Ps) : Prop where
  same : Same F H
  len : s.loc.length = σ.length
  slot : ∀ (i : Nat) (o : Option SV), s.loc[i]? = some o → SlotOk K F H M σ[i]? o
  inj : ∀ (i j : Nat) (xs ys : List PV) (p : Addr), s.loc[i]? = some (some (.own xs)) → s.loc[j]? = some (some (.own ys)) → σ[i]? = some (some (.ref p)) → σ[j]? = some (some (.ref p)) → i = j
  sto : Stos K F H M s.sto

/-- from one state to a later one: what is not held by a name alone, and no shared object, is kept -/
structure Ext (O : Addr → Prop) (F H : Hp) (M : List Addr) (F' H' : Hp) (M' : List Addr) (O' : Addr → Prop) : Prop where
  fs : Same F F'
  keep : ∀ p o, H p = some o → p ∉ M → ¬ O p → H' p = some o
  dom : ∀ p o, H p = some o → ∃ o', H' p = some o'
  newF : ∀ p o, F' p = some o → F p = some o ∨ H p = none ∨ O p
  pre : M <+: M'
  newM : ∀ a, a ∈ M' → a ∈ M ∨ H a = none
  newO : ∀ p, O' p → O p ∨ H p = none

section
variable {K : PySem.W.Frag} {F F' F2 H H' H2 : Hp} {M M' M2 : List Addr} {O O' O2 : Addr → Prop} {σ : L2.St} {s s' : Ps}
theorem Ext.refl : Ext O F H M F H M O := ⟨Same.refl _, fun _ _ h _ _ => h, fun _ o h => ⟨o, h⟩, fun _ _ h => .inl h, List.prefix_refl _, fun _ h => .inl h, fun _ h => .inl h⟩
theorem Ext.none_back (x : Ext O F H M F' H' M' O') {p : Addr} (h : H' p = none) : H p = none := by
  cases q : H p with
  | none => rfl
  | some o =>
    obtain ⟨o', e⟩ := x.dom p o q
    rw [h] at e; cases e
theorem Ext.trans (x : Ext O F H M F' H' M' O') (y : Ext O' F' H' M' F2 H2 M2 O2) : Ext O F H M F2 H2 M2 O2 where
  fs := x.fs.trans y.fs
  keep := fun p o h hm ho => y.keep p o (x.keep p o h hm ho) (fun z => (x.newM p z).elim hm fun e => by rw [h] at e; cases e) fun z => (x.newO p z).elim ho fun e => by rw [h] at e; cases e
  dom := fun p o h => by
    obtain ⟨o', e⟩ := x.dom p o h
    exact y.dom p o' e
  newF := fun p o h => by
    rcases y.newF p o h with h | h | h
    · exact x.newF p o h
    · exact .inr (.inl (x.none_back h))
    · rcases x.newO p h with h | h
      · exact .inr (.inr h)
      · exact .inr (.inl h)
  pre := x.pre.trans y.pre
  newM := fun a h => by
    rcases y.newM a h with h | h
    · exact x.newM a h
    · exact .inr (x.none_back h)
  newO := fun p h => by
    rcases y.newO p h with h | h
    · exact x.newO p h
    · exact .inr (x.none_back h)

theorem same_upd (e : Same F H) {p : Addr} {o : HO} (h : H p = none) : Same (upd F p o) (upd H p o) := fun b u q => by
  by_cases z : b = p
  · subst z; rw [upd_same] at q ⊢; exact q
  · rw [upd_ne z] at q ⊢; exact e b u q
theorem same_new {p : Addr} {o : HO} (h : F p = none) : Same F (upd F p o) := fun b u q => by
  rw [upd_ne (ne_of_none q h)]; exact q
theorem same_mut (e : Same F H) {p : Addr} {o : HO} (h : F p = none) : Same F (upd H p o) := fun b u q => by
  rw [upd_ne (ne_of_none q h)]; exact e b u q

theorem Rl.own_some (r : Rl K F H M σ s) {p : Addr} (h : Own σ s.loc p) : (∃ vs, H p = some (.lst vs)) ∧ F p = none ∧ p ∉ M := by
  obtain ⟨i, xs, h1, h2⟩ := h
  obtain ⟨q, vs, e, f, hh, _, nm⟩ : ∃ p vs, σ[i]? = some (some (V.ref p)) ∧ F p = none ∧ H p = some (.lst vs) ∧ Dns K F M vs xs ∧ p ∉ M := r.slot i _ h1
  rw [h2] at e
  have : p = q := V.ref.inj (Option.some.inj (Option.some.inj e))
  subst this
  exact ⟨⟨vs, hh⟩, f, nm⟩
theorem SoOk.mono {a : Addr} {so : SO} (h : SoOk K F H M a so) (e : Same F F') (m : M <+: M') (hf : F' a = none) (hh : H' a = H a) : SoOk K F' H' M' a so := by
  cases so with
  | row xs =>
    obtain ⟨h1, vs, h2, h3⟩ := h
    exact ⟨hf, vs, by rw [hh]; exact h2, h3.mono e m⟩
theorem SoOk.some {a : Addr} {so : SO} (h : SoOk K F H M a so) : F a = none ∧ ∃ o, H a = some o := by
  cases so with
  | row xs =>
    obtain ⟨h1, vs, h2, h3⟩ := h
    exact ⟨h1, _, h2⟩
theorem Stos.some (h : Stos K F H M s.sto) {a : Addr} (ha : a ∈ M) : F a = none ∧ ∃ o, H a = some o := by
  obtain ⟨k, hk⟩ := List.mem_iff_getElem?.mp ha
  have hl : k < s.sto.length := by rw [← h.len]; exact (List.getElem?_eq_some_iff.mp hk).1
  exact (h.ok k s.sto[k] a (by simp [hl]) hk).some
/-- a new object, known to both -/
theorem Rl.new (r : Rl K F H M σ s) {p : Addr} {o : HO} (h : H p = none) : Rl K (upd F p o) (upd H p o) M σ s := by
  have hf := r.same.free h
  refine ⟨same_upd r.same h, r.len, fun i o' e => ?_, r.inj, ⟨r.sto.len, r.sto.nd, fun k so a e1 e2 => ?_⟩⟩
  · have q := r.slot i o' e
    cases o' with
    | none => trivial
    | some sv =>
      cases sv with
      | val d =>
        obtain ⟨x, e1, e2⟩ := q
        exact ⟨x, e1, e2.mono (same_new hf) (List.prefix_refl _)⟩
      | own xs =>
        obtain ⟨q, vs, e1, e2, e3, e4, e5⟩ := q
        have ne : q ≠ p := ne_of_none e3 h
        exact ⟨q, vs, e1, by rw [upd_ne ne]; exact e2, by rw [upd_ne ne]; exact e3, e4.mono (same_new hf) (List.prefix_refl _), e5⟩
  · have z := r.sto.ok k so a e1 e2
    obtain ⟨z1, o2, z2⟩ := z.some
    have ne : a ≠ p := ne_of_none z2 h
    exact z.mono (same_new hf) (List.prefix_refl _) (by rw [upd_ne ne]; exact z1) (by rw [upd_ne ne])
theorem Ext.new (r : Rl K F H M σ s) {p : Addr} {o : HO} (h : H p = none) : Ext O F H M (upd F p o) (upd H p o) M O where
  fs := same_new (r.same.free h)
  keep := fun q u e _ _ => by rw [upd_ne (ne_of_none e h)]; exact e
  dom := fun q u e => ⟨u, by rw [upd_ne (ne_of_none e h)]; exact e⟩
  newF := fun q u e => by
    by_cases z : q = p
    · subst z; exact .inr (.inl h)
    · rw [upd_ne z] at e; exact .inl e
  pre := List.prefix_refl _
  newM := fun _ h => .inl h
  newO := fun _ h => .inl h
/-- a new object, the heap's alone -/
theorem Rl.newH (r : Rl K F H M σ s) {p : Addr} {o : HO} (h : H p = none) : Rl K F (upd H p o) M σ s := by
  refine ⟨same_mut r.same (r.same.free h), r.len, fun i o' e => ?_, r.inj, ⟨r.sto.len, r.sto.nd, fun k so a e1 e2 => ?_⟩⟩
  · have q := r.slot i o' e
    cases o' with
    | none => trivial
    | some sv =>
      cases sv with
      | val d => exact q
      | own xs =>
        obtain ⟨q, vs, e1, e2, e3, e4, e5⟩ := q
        exact ⟨q, vs, e1, e2, by rw [upd_ne (ne_of_none e3 h)]; exact e3, e4, e5⟩
  · have z := r.sto.ok k so a e1 e2
    obtain ⟨z1, o2, z2⟩ := z.some
    exact z.mono (Same.refl _) (List.prefix_refl _) z1 (by rw [upd_ne (ne_of_none z2 h)])
theorem Ext.newH (r : Rl K F H M σ s) {p : Addr} {o : HO} (h : H p = none) : Ext O F H M F (upd H p o) M O where
  fs := Same.refl _
  keep := fun q u e _ _ => by rw [upd_ne (ne_of_none e h)]; exact e
  dom := fun q u e => ⟨u, by rw [upd_ne (ne_of_none e h)]; exact e⟩
  newF := fun q u e => .inl e
  pre := List.prefix_refl _
  newM := fun _ h => .inl h
  newO := fun _ h => .inl h
/-- what the heap alone knew is known to both from now on -/
theorem Rl.frz (r : Rl K F H M σ s) {p : Addr} {o : HO} (h : H p = some o) (hf : F p = none) (hm : p ∉ M) (ho : ¬ Own σ s.loc p) : Rl K (upd F p o) H M σ s := by
  refine ⟨fun b u q => ?_, r.len, fun i o' e => ?_, r.inj, ⟨r.sto.len, r.sto.nd, fun k so a e1 e2 => ?_⟩⟩
  · by_cases z : b = p
    · subst z; rw [upd_same] at q; rw [← q]; exact h
    · rw [upd_ne z] at q; exact r.same b u q
  · have q := r.slot i o' e
    cases o' with
    | none => trivial
    | some sv =>
      cases sv with
      | val d =>
        obtain ⟨x, e1, e2⟩ := q
        exact ⟨x, e1, e2.mono (same_new hf) (List.prefix_refl _)⟩
      | own xs =>
        obtain ⟨q, vs, e1, e2, e3, e4, e5⟩ := q
        have ne : q ≠ p := fun z => ho ⟨i, xs, e, by rw [e1, z]⟩
        exact ⟨q, vs, e1, by rw [upd_ne ne]; exact e2, e3, e4.mono (same_new hf) (List.prefix_refl _), e5⟩
  · have z := r.sto.ok k so a e1 e2
    have ne : a ≠ p := fun z => hm (by rw [← z]; exact List.mem_of_getElem? e2)
    exact z.mono (same_new hf) (List.prefix_refl _) (by rw [upd_ne ne]; exact z.some.1) rfl
end
end PI

set_option Elab.async false
set_option linter.all false
set_option autoImplicit false
set_option maxRecDepth 100000
set_option maxHeartbeats 4000000
/-! Readings by the pure interpreter, and the expressions that keep them. -/
namespace PI
open PySem L2

/-- what is fixed through a law: the written part, how an exception lies -/
structure Ct where
  K : PySem.W.Frag
  xr : Str → List PV → Hp → Hp → List Addr → Value → Option Addr → Prop

def DnR (K : PySem.W.Frag) (F H : Hp) (M : List Addr) (H0 : Hp) (v : V) : SV → Prop
  | .val d => Dn K F M v d
  | .own xs => ∃ p vs, v = .ref p ∧ F p = none ∧ H p = some (.lst vs) ∧ Dns K F M vs xs ∧ p ∉ M ∧ H0 p = none
def DnB (K : PySem.W.Frag) (σ : L2.St) (F : Hp) (M : List Addr) (v : V) : BV → Prop
  | .v d => Dn K F M v d
  | .s i => σ[i]? = some (some v)
/-- an operand: known to both, or a list that a name alone holds -/
def DnO (K : PySem.W.Frag) (F H : Hp) (M : List Addr) (v : V) (d : PV) : Prop :=
  Dn K F M v d ∨ ∃ p vs ds, v = .ref p ∧ d = .lst ds ∧ H p = some (.lst vs) ∧ Dns K F M vs ds ∧ F p = none

/-- .. while the slots stay as they are -/
structure ExtE (O : Addr → Prop) (F H : Hp) (M : List Addr) (F' H' : Hp) (M' : List Addr) (O' : Addr → Prop) : Prop where
  x : Ext O F H M F' H' M' O'
  shr : ∀ p, O' p → O p
theorem ExtE.refl {O : Addr → Prop} {F H : Hp} {M : List Addr} : ExtE O F H M F H M O := ⟨Ext.refl, fun _ h => h⟩
theorem ExtE.trans {O O' O2 : Addr → Prop} {F H F' H' F2 H2 : Hp} {M M' M2 : List Addr} (x : ExtE O F H M F' H' M' O') (y : ExtE O' F' H' M' F2 H2 M2 O2) : ExtE O F H M F2 H2 M2 O2 := ⟨x.x.trans y.x, fun p h => x.shr p (y.shr p h)⟩

def Pst (ct : Ct) (W : WX) {α β : Type} (Dr : Hp → Hp → List Addr → Hp → β → α → Prop) (σ : L2.St) (F H : Hp) (M : List Addr) (s : Ps) (Q : β → Hp → Prop) : R α → Prop
  | .ok x s' => ∀ b F' H' M', ExtE (Own σ s.loc) F H M F' H' M' (Own σ s'.loc) → Rl ct.K F' H' M' σ s' → Dr F' H' M' H b x → Q b H'
  | .exc c fs s' => ∀ cls d F' H' M', ExtE (Own σ s.loc) F H M F' H' M' (Own σ s'.loc) → Rl ct.K F' H' M' σ s' → ct.xr c fs F' H' M' cls d → W cls d σ H'
  | .stuck => False
abbrev DrV (K : PySem.W.Frag) : Hp → Hp → List Addr → Hp → V → SV → Prop := DnR K
abbrev DrB (K : PySem.W.Frag) (σ : L2.St) : Hp → Hp → List Addr → Hp → V → BV → Prop := fun F _ M _ v x => DnB K σ F M v x
abbrev DrT : Hp → Hp → List Addr → Hp → Bool → Bool → Prop := fun _ _ _ _ b x => b = x
def tV (ct : Ct) (W : WX) (f : Ps → R SV) : TE := fun σ H Q => ∃ F M s, Rl ct.K F H M σ s ∧ Pst ct W (DrV ct.K) σ F H M s Q (f s)
def tBo (ct : Ct) (W : WX) (f : Ps → R BV) : TE := fun σ H Q => ∃ F M s, Rl ct.K F H M σ s ∧ Pst ct W (DrB ct.K σ) σ F H M s Q (f s)
def tTs (ct : Ct) (W : WX) (f : Ps → R Bool) : TT := fun σ H Q => ∃ F M s, Rl ct.K F H M σ s ∧ Pst ct W DrT σ F H M s Q (f s)

theorem PE.imp {X : Cx} {e : Expr} {t t' : TE} (h : PE X e t) (i : ∀ σ H Q, t' σ H Q → t σ H Q) : PE X e t' := ⟨fun pins s σ H Q I q => h.run pins s σ H Q I (i σ H Q q)⟩
theorem PT.imp {X : Cx} {e : Expr} {t t' : TT} (h : PT X e t) (i : ∀ σ H Q, t' σ H Q → t σ H Q) : PT X e t' := ⟨fun pins s σ H Q I q => h.run pins s σ H Q I (i σ H Q q)⟩

section
variable {ct : Ct} {W : WX} {α β γ δ : Type} {Dr : Hp → Hp → List Addr → Hp → β → α → Prop} {Dr' : Hp → Hp → List Addr → Hp → δ → γ → Prop}
variable {σ : L2.St} {F F1 H H1 : Hp} {M M1 : List Addr} {s s1 : Ps} {Q : β → Hp → Prop}
/-- from a later state on -/
theorem Pst.at {r : R α} (x : ExtE (Own σ s.loc) F H M F1 H1 M1 (Own σ s1.loc)) (hD : ∀ F' H' M' b a, Dr F' H' M' H1 b a → Dr F' H' M' H b a) (p : Pst ct W Dr σ F H M s Q r) : Pst ct W Dr σ F1 H1 M1 s1 Q r := by
  cases r with
  | ok a s' => exact fun b F' H' M' e rl d => p b F' H' M' (x.trans e) rl (hD _ _ _ _ _ d)
  | exc c fs s' => exact fun cls d F' H' M' e rl z => p cls d F' H' M' (x.trans e) rl z
  | stuck => exact p
theorem Pst.bind {f : R γ} {g : γ → Ps → R α} (hD : ∀ H1 F' H' M' b a, (∀ p, H1 p = none → H p = none) → Dr F' H' M' H1 b a → Dr F' H' M' H b a) (p : Pst ct W Dr σ F H M s Q (f.bind g)) :
    Pst ct W Dr' σ F H M s (fun b H1 => ∃ x s1 F1 M1, ExtE (Own σ s.loc) F H M F1 H1 M1 (Own σ s1.loc) ∧ Rl ct.K F1 H1 M1 σ s1 ∧ Dr' F1 H1 M1 H b x ∧ Pst ct W Dr σ F1 H1 M1 s1 Q (g x s1)) f := by
  cases f with
  | ok a s' => exact fun b F' H' M' e rl d => ⟨a, s', F', M', e, rl, d, p.at e (fun _ _ _ _ _ => hD _ _ _ _ _ _ fun _ => e.x.none_back)⟩
  | exc c fs s' => exact p
  | stuck => exact p
theorem hdV (K : PySem.W.Frag) (H : Hp) : ∀ H1 F' H' M' b a, (∀ p, H1 p = none → H p = none) → DrV K F' H' M' H1 b a → DrV K F' H' M' H b a := fun H1 F' H' M' b a h d => by
  cases a with
  | val d' => exact d
  | own xs =>
    obtain ⟨p, vs, e1, e2, e3, e4, e5, e6⟩ := d
    exact ⟨p, vs, e1, e2, e3, e4, e5, h _ e6⟩
theorem hdB (K : PySem.W.Frag) (H : Hp) : ∀ H1 F' H' M' b a, (∀ p, H1 p = none → H p = none) → DrB K σ F' H' M' H1 b a → DrB K σ F' H' M' H b a := fun _ _ _ _ _ _ _ d => d
theorem hdT (H : Hp) : ∀ H1 F' H' M' b a, (∀ p, H1 p = none → H p = none) → DrT F' H' M' H1 b a → DrT F' H' M' H b a := fun _ _ _ _ _ _ _ d => d
/-- the end -/
theorem Pst.fin {a : α} {b : β} (rl : Rl ct.K F H M σ s) (p : Pst ct W Dr σ F H M s Q (.ok a s)) (d : Dr F H M H b a) : Q b H := p b F H M ExtE.refl rl d
theorem Pst.lift {o : Option α} {Q : β → Hp → Prop} (p : Pst ct W Dr σ F H M s Q (liftO o s)) : ∃ a, o = some a ∧ Pst ct W Dr σ F H M s Q (.ok a s) := by
  cases o with
  | none => exact p.elim
  | some a => exact ⟨a, rfl, p⟩
end

structure Snd (ct : Ct) (X : Cx) (W : WX) (x : Expr) (d : Den) : Prop where
  v : PE X x (tV ct W d.v)
  b : PE X x (tBo ct W (d.b true))
  t : PT X x (tTs ct W d.t)

section
variable {ct : Ct} {X : Cx} {W : WX} {x y : Expr} {σ : L2.St} {F H : Hp} {M : List Addr} {s : Ps}

/-- a new list that is now known to both: seen from the state ahead of its making -/
theorem fz_ext {H0 F0 : Hp} {M0 : List Addr} {s0 : Ps} (rl0 : Rl ct.K F0 H0 M0 σ s0) (e : ExtE (Own σ s0.loc) F0 H0 M0 F H M (Own σ s.loc)) (rl : Rl ct.K F H M σ s) {v : V} {a : SV} (d : DnR ct.K F H M H0 v a) :
    ∃ F', ExtE (Own σ s0.loc) F0 H0 M0 F' H M (Own σ s.loc) ∧ Rl ct.K F' H M σ s ∧ Dn ct.K F' M v a.pv := by
  cases a with
  | val d' => exact ⟨F, e, rl, d⟩
  | own xs =>
    obtain ⟨p, vs, rfl, e2, e3, e4, e5, e6⟩ := d
    have no : ¬ Own σ s.loc p := fun z => by
      obtain ⟨⟨vs', q⟩, _⟩ := rl0.own_some (e.shr p z)
      rw [e6] at q; cases q
    refine ⟨upd F p (.lst vs), ⟨⟨e.x.fs.trans (same_new e2), e.x.keep, e.x.dom, fun q o hq => ?_, e.x.pre, e.x.newM, e.x.newO⟩, e.shr⟩, rl.frz e3 e2 e5 no, .lst upd_same (e4.mono (same_new e2) (List.prefix_refl _))⟩
    by_cases z : q = p
    · subst z; exact .inr (.inl e6)
    · rw [upd_ne z] at hq; exact e.x.newF q o hq

theorem PE.toB {f : Ps → R SV} (h : PE X x (tV ct W f)) : PE X x (tBo ct W fun s => (f s).bind fun x s1 => .ok (.v x.pv) s1) :=
  PE.imp h fun σ H Q ⟨F, M, s, rl, p⟩ => ⟨F, M, s, rl, by
    have p' : Pst ct W (DrB ct.K σ) σ F H M s Q ((f s).bind fun x s1 => .ok (.v x.pv) s1) := p
    cases e : f s with
    | stuck => rw [e] at p'; exact p'
    | exc c fs s' => rw [e] at p'; exact p'
    | ok a s' =>
      rw [e] at p'
      intro v F' H' M' ex rl' d
      obtain ⟨F2, e2, r2, d2⟩ := fz_ext rl ex rl' d
      exact p' v F2 H' M' e2 r2 d2⟩
theorem tru_of {v : V} {d : PV} {k : Bool} (h : Dn ct.K F M v d) (e : Same F H) (t : truP d = some k) : TruV ct.K v H k := by
  cases h with
  | non => exact (Option.some.inj t).symm
  | bl b => exact (Option.some.inj t).symm
  | int i => exact (Option.some.inj t).symm
  | str z => cases t
  | tup q r =>
    refine .inr (.inl ⟨_, sqT_mono e q, ?_⟩)
    have z := r.length
    rw [← Option.some.inj t]
    cases r <;> rfl
  | lst q r =>
    refine .inl ⟨_, SqL.of (e _ _ q), ?_⟩
    rw [← Option.some.inj t]
    cases r <;> rfl
  | scr q => cases t
  | ref q => cases t
theorem tru_ofO {v : V} {d : PV} {k : Bool} (h : DnO ct.K F H M v d) (e : Same F H) (t : truP d = some k) : TruV ct.K v H k := by
  rcases h with h | ⟨p, vs, ds, rfl, rfl, h1, h2, _⟩
  · exact tru_of h e t
  · refine .inl ⟨_, SqL.of h1, ?_⟩
    rw [← Option.some.inj t]
    cases h2 <;> rfl
/-- an expression by its value alone -/
theorem Snd.ofV {f : Ps → R SV} (hK : X.K = ct.K) (h : PE X x (tV ct W f)) (he : ∀ whole, isTrue x X.env whole = (do let v ← whole; standAt x.pos; holding [v] (truthy v))) : Snd ct X W x (Den.ofV f) where
  v := h
  b := PE.toB h
  t := by
    refine PT.imp (pt_truth (PE.toB h) he) fun σ H Q ⟨F, M, s, rl, p⟩ => ⟨F, M, s, rl, ?_⟩
    show Pst ct W (DrB ct.K σ) σ F H M s _ ((f s).bind fun x s1 => .ok (.v x.pv) s1)
    have p' : Pst ct W DrT σ F H M s Q ((f s).bind fun x s1 => liftO (truP x.pv) s1) := p
    cases e : f s with
    | stuck => rw [e] at p'; exact p'
    | exc c fs s' => rw [e] at p'; exact p'
    | ok a s' =>
      rw [e] at p'
      intro v F' H' M' ex rl' d
      obtain ⟨k, hk, p2⟩ := Pst.lift (Pst.at (r := liftO (truP a.pv) s') ex (fun _ _ _ _ _ z => z) p')
      exact ⟨k, by rw [hK]; exact tru_of d rl'.same hk, Pst.fin rl' p2 rfl⟩
end
end PI

set_option Elab.async false
set_option linter.all false
set_option autoImplicit false
set_option maxRecDepth 100000
set_option maxHeartbeats 4000000
namespace PI
open PySem L2
section
variable {ct : Ct} {X : Cx} {W : WX} {x y z : Expr} {pos : Pos} {da db dc : Den}
variable {α β : Type} {Dr : Hp → Hp → List Addr → Hp → β → α → Prop}

theorem DnB.mono {K : PySem.W.Frag} {σ : L2.St} {F F' : Hp} {M M' : List Addr} {v : V} {b : BV} (h : DnB K σ F M v b) (e : Same F F') (m : M <+: M') : DnB K σ F' M' v b := by
  cases b with
  | v d => exact Dn.mono e m h
  | s i => exact h
theorem derefO {σ : L2.St} {F H : Hp} {M : List Addr} {s : Ps} {v : V} {b : BV} {d : PV} (rl : Rl ct.K F H M σ s) (h : DnB ct.K σ F M v b) (e : deref s b = some d) : DnO ct.K F H M v d := by
  cases b with
  | v d' =>
    cases e
    exact .inl h
  | s i =>
    have h : σ[i]? = some (some v) := h
    have e : (match s.loc[i]? with
      | some (some (.own xs)) => some (PV.lst xs)
      | some (some (.val d)) => some d
      | _ => none) = some d := e
    cases q : s.loc[i]? with
    | none => rw [q] at e; cases e
    | some o =>
      cases o with
      | none => rw [q] at e; cases e
      | some sv =>
        have z := rl.slot i _ q
        cases sv with
        | val d' =>
          rw [q] at e
          obtain ⟨w, e1, e2⟩ := z
          rw [h] at e1
          cases e1
          cases e
          exact .inl e2
        | own xs =>
          rw [q] at e
          obtain ⟨p, vs, e1, e2, e3, e4, e5⟩ := z
          rw [h] at e1
          cases e1
          cases e
          exact .inr ⟨p, vs, xs, rfl, rfl, e3, e4, e2⟩

theorem opnd1_rd {σ : L2.St} {H : Hp} {Q : β → Hp → Prop} {f : PV → Ps → R α} {Kt : V → Hp → Prop}
    (hD : ∀ H H1 F' H' M' b a, (∀ p, H1 p = none → H p = none) → Dr F' H' M' H1 b a → Dr F' H' M' H b a)
    (h : ∃ F M s, Rl ct.K F H M σ s ∧ Pst ct W Dr σ F H M s Q (opnd1 da f s))
    (hk : ∀ v F H M s dx, Rl ct.K F H M σ s → DnO ct.K F H M v dx → Pst ct W Dr σ F H M s Q (f dx s) → Kt v H) :
    tBo ct W (da.b true) σ H Kt := by
  obtain ⟨F, M, s, rl, p⟩ := h
  refine ⟨F, M, s, rl, ?_⟩
  have p1 := Pst.bind (f := da.b true s) (Dr' := DrB ct.K σ) (hD H) p
  cases e : da.b true s with
  | stuck => rw [e] at p1; exact p1
  | exc c fs s' => rw [e] at p1; exact p1
  | ok a s' =>
    rw [e] at p1
    intro v F' H' M' ex rl' d
    obtain ⟨b1, s1, F1, M1, ex1, rl1, d1, p2⟩ := p1 v F' H' M' ex rl' d
    cases q : deref s1 b1 with
    | none => rw [q] at p2; exact p2.elim
    | some dx =>
      rw [q] at p2
      exact hk v F1 H' M1 s1 dx rl1 (derefO rl1 d1 q) p2
theorem opnd2_rd {σ : L2.St} {H : Hp} {Q : β → Hp → Prop} {f : PV → PV → Ps → R α} {Kt : V → V → Hp → Prop}
    (hD : ∀ H H1 F' H' M' b a, (∀ p, H1 p = none → H p = none) → Dr F' H' M' H1 b a → Dr F' H' M' H b a)
    (h : ∃ F M s, Rl ct.K F H M σ s ∧ Pst ct W Dr σ F H M s Q (opnd2 da db f s))
    (hk : ∀ v w F H M s dx dy, Rl ct.K F H M σ s → DnO ct.K F H M v dx → DnO ct.K F H M w dy → Pst ct W Dr σ F H M s Q (f dx dy s) → Kt v w H) :
    tBo ct W (da.b true) σ H fun v H1 => tBo ct W (db.b true) σ H1 fun w H2 => Kt v w H2 := by
  obtain ⟨F, M, s, rl, p⟩ := h
  refine ⟨F, M, s, rl, ?_⟩
  have p1 := Pst.bind (f := da.b true s) (Dr' := DrB ct.K σ) (hD H) p
  cases e : da.b true s with
  | stuck => rw [e] at p1; exact p1
  | exc c fs s' => rw [e] at p1; exact p1
  | ok a s' =>
    rw [e] at p1
    intro v F' H' M' ex rl' d
    obtain ⟨b1, s1, F1, M1, ex1, rl1, d1, p2⟩ := p1 v F' H' M' ex rl' d
    refine ⟨F1, M1, s1, rl1, ?_⟩
    have p3 := Pst.bind (f := db.b true s1) (Dr' := DrB ct.K σ) (hD H') p2
    cases e2 : db.b true s1 with
    | stuck => rw [e2] at p3; exact p3
    | exc c fs s' => rw [e2] at p3; exact p3
    | ok a2 s2' =>
      rw [e2] at p3
      intro w F2' H2' M2' ex2 rl2' dd
      obtain ⟨b2, s2, F2, M2, ex3, rl3, d3, p4⟩ := p3 w F2' H2' M2' ex2 rl2' dd
      cases q1 : deref s2 b1 with
      | none => rw [q1] at p4; exact p4.elim
      | some dx =>
        cases q2 : deref s2 b2 with
        | none => rw [q1, q2] at p4; exact p4.elim
        | some dy =>
          rw [q1, q2] at p4
          exact hk v w F2 H2' M2 s2 dx dy rl3 (derefO rl3 (d1.mono ex3.x.fs ex3.x.pre) q1) (derefO rl3 d3 q2) p4

/-! ### names and constants -/
theorem own_set_val {σ : L2.St} {l : Loc} {i : Nat} {d : PV} {p : Addr} (h : Own σ (l.set i (some (.val d))) p) : Own σ l p := by
  obtain ⟨j, xs, h1, h2⟩ := h
  refine ⟨j, xs, ?_, h2⟩
  by_cases hj : i = j
  · subst hj
    by_cases hl : i < l.length
    · rw [List.getElem?_set_self hl] at h1; cases h1
    · rw [List.getElem?_eq_none (by simpa using hl)] at h1; cases h1
  · rw [List.getElem?_set_ne hj] at h1; exact h1
theorem Rl.frzSlot {σ : L2.St} {F H : Hp} {M : List Addr} {s : Ps} (rl : Rl ct.K F H M σ s) {i : Nat} {xs : List PV} (h : s.loc[i]? = some (some (.own xs))) :
    ∃ p F', σ[i]? = some (some (.ref p)) ∧ ExtE (Own σ s.loc) F H M F' H M (Own σ (s.loc.set i (some (.val (.lst xs))))) ∧ Rl ct.K F' H M σ { s with loc := s.loc.set i (some (.val (.lst xs))) } ∧ Dn ct.K F' M (.ref p) (.lst xs) := by
  obtain ⟨p, vs, e1, e2, e3, e4, e5⟩ : ∃ p vs, σ[i]? = some (some (V.ref p)) ∧ F p = none ∧ H p = some (.lst vs) ∧ Dns ct.K F M vs xs ∧ p ∉ M := rl.slot i _ h
  have hi : i < s.loc.length := (List.getElem?_eq_some_iff.mp h).1
  have hown : Own σ s.loc p := ⟨i, xs, h, e1⟩
  have sm : Same F (upd F p (.lst vs)) := same_new e2
  have dn : Dn ct.K (upd F p (.lst vs)) M (.ref p) (.lst xs) := .lst upd_same (e4.mono sm (List.prefix_refl _))
  refine ⟨p, upd F p (.lst vs), e1, ⟨⟨sm, fun _ _ q _ _ => q, fun _ o q => ⟨o, q⟩, fun q o e => ?_, List.prefix_refl _, fun _ q => .inl q, fun q z => .inl (own_set_val z)⟩, fun q z => own_set_val z⟩, ⟨fun b u q => ?_, by simpa using rl.len, fun j o e => ?_, fun j k ys zs q a1 a2 a3 a4 => ?_, ⟨rl.sto.len, rl.sto.nd, fun k so a q1 q2 => ?_⟩⟩, dn⟩
  · by_cases z : q = p
    · subst z; exact .inr (.inr hown)
    · rw [upd_ne z] at e; exact .inl e
  · by_cases z : b = p
    · subst z; rw [upd_same] at q; rw [← q]; exact e3
    · rw [upd_ne z] at q; exact rl.same b u q
  · have e : (s.loc.set i (some (.val (.lst xs))))[j]? = some o := e
    by_cases hj : i = j
    · subst hj
      rw [List.getElem?_set_self hi] at e
      cases e
      exact ⟨_, e1, dn⟩
    · rw [List.getElem?_set_ne hj] at e
      have q := rl.slot j o e
      cases o with
      | none => trivial
      | some sv =>
        cases sv with
        | val d =>
          obtain ⟨w, w1, w2⟩ := q
          exact ⟨w, w1, w2.mono sm (List.prefix_refl _)⟩
        | own ys =>
          obtain ⟨q, us, w1, w2, w3, w4, w5⟩ := q
          have ne : q ≠ p := fun z => hj (rl.inj i j xs ys p h e e1 (by rw [w1, z]))
          exact ⟨q, us, w1, by rw [upd_ne ne]; exact w2, w3, w4.mono sm (List.prefix_refl _), w5⟩
  · have back : ∀ {j : Nat} {ys : List PV}, (s.loc.set i (some (.val (.lst xs))))[j]? = some (some (.own ys)) → s.loc[j]? = some (some (.own ys)) := fun {j ys} a => by
      by_cases hj : i = j
      · subst hj; rw [List.getElem?_set_self hi] at a; cases a
      · rw [List.getElem?_set_ne hj] at a; exact a
    exact rl.inj j k ys zs q (back a1) (back a2) a3 a4
  · have z := rl.sto.ok k so a q1 q2
    have ne : a ≠ p := fun z => e5 (by rw [← z]; exact List.mem_of_getElem? q2)
    exact z.mono sm (List.prefix_refl _) (by rw [upd_ne ne]; exact z.some.1) rfl

theorem snd_var {i : Nat} (hK : X.K = ct.K) (h : PE X x (tVar i)) (he : ∀ whole, isTrue x X.env whole = (do let v ← whole; standAt x.pos; holding [v] (truthy v))) : Snd ct X W x (dVar i) where
  v := PE.imp h fun σ H Q ⟨F, M, s, rl, p⟩ => by
    have p : Pst ct W (DrV ct.K) σ F H M s Q (match s.loc[i]? with
      | some (some (.val d)) => .ok (.val d) s
      | some (some (.own xs)) => .ok (.val (.lst xs)) { s with loc := s.loc.set i (some (.val (.lst xs))) }
      | _ => .stuck) := p
    cases q : s.loc[i]? with
    | none => rw [q] at p; exact p.elim
    | some o =>
      cases o with
      | none => rw [q] at p; exact p.elim
      | some sv =>
        have z := rl.slot i _ q
        cases sv with
        | val d =>
          rw [q] at p
          obtain ⟨w, e1, e2⟩ := z
          exact ⟨w, e1, Pst.fin rl p e2⟩
        | own xs =>
          rw [q] at p
          obtain ⟨pp, F', e1, ex, rl', dn⟩ := rl.frzSlot q
          exact ⟨_, e1, p _ F' H M ex rl' dn⟩
  b := PE.imp h fun σ H Q ⟨F, M, s, rl, p⟩ => by
    have p : Pst ct W (DrB ct.K σ) σ F H M s Q (match s.loc[i]? with
      | some (some (.val d)) => .ok (.v d) s
      | some (some (.own _)) => .ok (.s i) s
      | _ => .stuck) := p
    cases q : s.loc[i]? with
    | none => rw [q] at p; exact p.elim
    | some o =>
      cases o with
      | none => rw [q] at p; exact p.elim
      | some sv =>
        have z := rl.slot i _ q
        cases sv with
        | val d =>
          rw [q] at p
          obtain ⟨w, e1, e2⟩ := z
          exact ⟨w, e1, Pst.fin rl p e2⟩
        | own xs =>
          rw [q] at p
          obtain ⟨pp, vs, e1, _⟩ := z
          exact ⟨_, e1, Pst.fin rl p e1⟩
  t := by
    refine PT.imp (pt_truth h he) fun σ H Q ⟨F, M, s, rl, p⟩ => ?_
    have p : Pst ct W DrT σ F H M s Q (match s.loc[i]? with
      | some (some (.val d)) => liftO (truP d) s
      | some (some (.own xs)) => liftO (truP (.lst xs)) s
      | _ => .stuck) := p
    cases q : s.loc[i]? with
    | none => rw [q] at p; exact p.elim
    | some o =>
      cases o with
      | none => rw [q] at p; exact p.elim
      | some sv =>
        have z := rl.slot i _ q
        cases sv with
        | val d =>
          rw [q] at p
          obtain ⟨w, e1, e2⟩ := z
          obtain ⟨k, hk, p2⟩ := Pst.lift p
          exact ⟨w, e1, k, by rw [hK]; exact tru_of e2 rl.same hk, Pst.fin rl p2 rfl⟩
        | own xs =>
          rw [q] at p
          obtain ⟨pp, vs, e1, e2, e3, e4, _⟩ := z
          obtain ⟨k, hk, p2⟩ := Pst.lift p
          exact ⟨_, e1, k, by rw [hK]; exact tru_ofO (.inr ⟨pp, vs, xs, rfl, rfl, e3, e4, e2⟩) rl.same hk, Pst.fin rl p2 rfl⟩
theorem pe_cstV {v : V} {d : PV} (h : PE X x (tC v)) (hd : ∀ F M, Dn ct.K F M v d) : PE X x (tV ct W fun s => .ok (.val d) s) :=
  PE.imp h fun σ H Q ⟨F, M, s, rl, p⟩ => Pst.fin rl p (hd F M)
end
end PI

set_option Elab.async false
set_option linter.all false
set_option autoImplicit false
set_option maxRecDepth 100000
set_option maxHeartbeats 4000000
namespace PI
open PySem L2
section
variable {ct : Ct} {X : Cx} {W : WX} {x y z : Expr} {pos : Pos} {da db dc : Den}
variable {σ : L2.St} {F H : Hp} {M : List Addr} {s : Ps} {Q : VK}

theorem Rl.notM (rl : Rl ct.K F H M σ s) {q : Addr} (h : H q = none) : q ∉ M := fun z => by
  obtain ⟨_, o, e⟩ := rl.sto.some z
  rw [h] at e; cases e
theorem fin_lst (rl : Rl ct.K F H M σ s) {ds : List PV} {vs : List V} {q : Addr} (p : Pst ct W (DrV ct.K) σ F H M s Q (.ok (.own ds) s)) (hq : H q = none) (d : Dns ct.K F M vs ds) : Q (.ref q) (upd H q (.lst vs)) :=
  p _ F _ M ⟨Ext.newH rl hq, fun _ h => h⟩ (rl.newH hq) ⟨q, vs, rfl, rl.same.free hq, upd_same, d, rl.notM hq, hq⟩
theorem fin_tup (rl : Rl ct.K F H M σ s) {ds : List PV} {vs : List V} {q : Addr} (p : Pst ct W (DrV ct.K) σ F H M s Q (.ok (.val (.tup ds)) s)) (hq : H q = none) (d : Dns ct.K F M vs ds) : Q (.ref q) (upd H q (.tup vs)) :=
  p _ (upd F q (.tup vs)) _ M ⟨Ext.new rl hq, fun _ h => h⟩ (rl.new hq) (.tup (SqT.of upd_same) (d.mono (same_new (rl.same.free hq)) (List.prefix_refl _)))
theorem DnO.int {v : V} {i : Int} (h : DnO ct.K F H M v (.int i)) : v = .int i := by
  rcases h with h | ⟨p, vs, ds, _, e, _⟩
  · cases h; rfl
  · cases e
theorem DnO.str {v : V} {i : Str} (h : DnO ct.K F H M v (.str i)) : v = .str i := by
  rcases h with h | ⟨p, vs, ds, _, e, _⟩
  · cases h; rfl
  · cases e
theorem DnO.bl {v : V} {i : Bool} (h : DnO ct.K F H M v (.bl i)) : v = .bl i := by
  rcases h with h | ⟨p, vs, ds, _, e, _⟩
  · cases h; rfl
  · cases e
theorem DnO.non {v : V} (h : DnO ct.K F H M v .non) : v = .non := by
  rcases h with h | ⟨p, vs, ds, _, e, _⟩
  · cases h; rfl
  · cases e
theorem DnO.lst {v : V} {ds : List PV} (sm : Same F H) (h : DnO ct.K F H M v (.lst ds)) : ∃ p vs, v = .ref p ∧ H p = some (.lst vs) ∧ Dns ct.K F M vs ds := by
  rcases h with h | ⟨p, vs, ds', e1, e, h1, h2, _⟩
  · cases h with
    | lst h1 h2 => exact ⟨_, _, rfl, sm _ _ h1, h2⟩
  · cases e; exact ⟨p, vs, e1, h1, h2⟩
theorem DnO.tup {v : V} {ds : List PV} (sm : Same F H) (h : DnO ct.K F H M v (.tup ds)) : ∃ p vs, v = .ref p ∧ SqT ct.K H p vs ∧ Dns ct.K F M vs ds := by
  rcases h with h | ⟨p, vs, ds', e1, e, h1, h2, _⟩
  · cases h with
    | tup h1 h2 => exact ⟨_, _, rfl, sqT_mono sm h1, h2⟩
  · cases e
theorem lim_eq : sizeLine = lim := by rw [sizeLine_eq]

/-! ### a op b -/
def rB (K : PySem.W.Frag) : Operator → R2
  | .Add => fun x y H Q => rI0 (fun i j => .int (i + j)) x y H Q ∨ (∃ i j, x = .str i ∧ y = .str j ∧ i.length + j.length ≤ sizeLine ∧ Q (.str (i ++ j)) H) ∨ rCat x y H Q
  | .Sub => rI0 fun i j => .int (i - j)
  | .Mult => rI CMul fun i j => .int (i * j)
  | .FloorDiv => rI CDivW fun i j => .int (i / j)
  | .Mod => rI (fun _ j => 0 < j) fun i j => .int (i % j)
  | .Pow => rI CPow fun i j => .int (i ^ j.toNat)
  | _ => fun _ _ _ _ => False
theorem opB (op : Operator) : OpR X (binaryOp op) (rB X.K op) := by
  cases op with
  | Add => exact op_add.or (op_add_str.or op_cat)
  | Sub => exact op_sub
  | Mult => exact op_mul
  | FloorDiv => exact op_fdivW
  | Mod => exact op_mod
  | Pow => exact op_pow
  | _ => exact fun _ _ _ _ _ _ _ _ _ _ _ _ h => h.elim
theorem binP_ok {op : Operator} {v w : V} {dx dy : PV} {K : PySem.W.Frag} {r : SV} (rl : Rl ct.K F H M σ s) (hv : DnO ct.K F H M v dx) (hw : DnO ct.K F H M w dy) (e : binP op dx dy = some r) (p : Pst ct W (DrV ct.K) σ F H M s Q (.ok r s)) : rB K op v w H Q := by
  unfold binP at e
  split at e
  · cases e; exact .inl ⟨_, _, hv.int, hw.int, Pst.fin rl p (.int _)⟩
  · split at e
    · rename_i hl
      cases e; exact .inr (.inl ⟨_, _, hv.str, hw.str, by rw [lim_eq]; exact hl, Pst.fin rl p (.str _)⟩)
    · cases e
  · split at e
    · rename_i hl
      cases e
      obtain ⟨l, xs, rfl, h1, d1⟩ := hv.lst rl.same
      obtain ⟨b, zs, rfl, h2, d2⟩ := hw.lst rl.same
      exact .inr (.inr ⟨l, b, xs, zs, rfl, rfl, h1, h2, by rw [lim_eq, d1.length, d2.length]; exact hl, fun q hq => fin_lst rl p hq (d1.append d2)⟩)
    · cases e
  · cases e; exact ⟨_, _, hv.int, hw.int, Pst.fin rl p (.int _)⟩
  · split at e
    · rename_i hc
      cases e; exact ⟨_, _, hv.int, hw.int, hc, Pst.fin rl p (.int _)⟩
    · cases e
  · split at e
    · rename_i hc
      cases e; exact ⟨_, _, hv.int, hw.int, hc, Pst.fin rl p (.int _)⟩
    · cases e
  · split at e
    · rename_i hc
      cases e; exact ⟨_, _, hv.int, hw.int, hc, Pst.fin rl p (.int _)⟩
    · cases e
  · split at e
    · rename_i hc
      cases e; exact ⟨_, _, hv.int, hw.int, hc, Pst.fin rl p (.int _)⟩
    · cases e
  · cases e
theorem snd_bin {op : Operator} (hK : X.K = ct.K) (ha : Snd ct X W x da) (hb : Snd ct X W y db) : Snd ct X W (.BinOp x op y pos) (dBin op da db) :=
  Snd.ofV hK (PE.imp (pe_op (opB op) ha.b hb.b) fun σ H Q h => opnd2_rd (fun H => hdV ct.K H) h fun v w F H M s dx dy rl hv hw p => by
    obtain ⟨r, e, p⟩ := Pst.lift p
    exact binP_ok rl hv hw e p) fun _ => rfl
theorem snd_neg (hK : X.K = ct.K) (ha : Snd ct X W x da) : Snd ct X W (.UnaryOp .USub x pos) (dNeg da) :=
  Snd.ofV hK (PE.imp (pe_un un_neg ha.b) fun σ H Q h => opnd1_rd (fun H => hdV ct.K H) h fun v F H M s dx rl hv p => by
    cases dx with
    | int i => exact ⟨i, hv.int, Pst.fin rl p (.int _)⟩
    | _ => exact p.elim) fun _ => rfl

end
end PI

set_option Elab.async false
set_option linter.all false
set_option autoImplicit false
set_option maxRecDepth 100000
set_option maxHeartbeats 4000000
namespace PI
open PySem L2
/-! ### data -/
mutual
theorem toData_eqv : ∀ (n m : Nat) (a b : PV), shal n a = true → shal m b = true → PyData.eqv (toData a) (toData b) = eqv a b
  | n, m, .non, b, ha, hb => by cases b <;> first | rfl | (cases m <;> cases hb)
  | n, m, .bl x, b, ha, hb => by cases b <;> first | rfl | (cases m <;> cases hb)
  | n, m, .int x, b, ha, hb => by cases b <;> first | rfl | (cases m <;> cases hb)
  | n, m, .str x, b, ha, hb => by cases b <;> first | rfl | (cases m <;> cases hb)
  | n, m, .tup xs, b, ha, hb => by
    cases n with
    | zero => cases ha
    | succ n =>
      cases b with
      | tup ys =>
        cases m with
        | zero => cases hb
        | succ m => exact toDatas_eqv n m xs ys ha hb
      | _ => first | rfl | (cases m <;> cases hb)
  | n, m, .lst xs, b, ha, hb => by
    cases n with
    | zero => cases ha
    | succ n =>
      cases b with
      | lst ys =>
        cases m with
        | zero => cases hb
        | succ m => exact toDatas_eqv n m xs ys ha hb
      | _ => first | rfl | (cases m <;> cases hb)
  | n, m, .scr _, b, ha, hb => by cases n <;> cases ha
  | n, m, .ref _, b, ha, hb => by cases n <;> cases ha
  | n, m, .rcd _ _, b, ha, hb => by cases n <;> cases ha
theorem toDatas_eqv : ∀ (n m : Nat) (a b : List PV), shalAll n a = true → shalAll m b = true → PyData.eqvAll (toDatas a) (toDatas b) = eqvAll a b
  | n, m, [], [], _, _ => rfl
  | n, m, [], _ :: _, _, _ => rfl
  | n, m, _ :: _, [], _, _ => rfl
  | n, m, x :: xs, y :: ys, ha, hb => by
    have ha : (shal n x && shalAll n xs) = true := ha
    have hb : (shal m y && shalAll m ys) = true := hb
    rw [Bool.and_eq_true] at ha hb
    show (PyData.eqv (toData x) (toData y) && PyData.eqvAll (toDatas xs) (toDatas ys)) = (eqv x y && eqvAll xs ys)
    rw [toData_eqv n m x y ha.1 hb.1, toDatas_eqv n m xs ys ha.2 hb.2]
end
mutual
theorem toData_lay : ∀ (n : Nat) (a : PV), shal n a = true → (toData a).canLay0 = true ∧ (toData a).depth ≤ n + 1
  | n, .non, _ => ⟨rfl, by simp [toData, PyData.depth]⟩
  | n, .bl _, _ => ⟨rfl, by simp [toData, PyData.depth]⟩
  | n, .int _, _ => ⟨rfl, by simp [toData, PyData.depth]⟩
  | n, .str x, h => ⟨by cases n <;> simpa [toData, PyData.canLay0, shal] using h, by simp [toData, PyData.depth]⟩
  | 0, .tup _, h => by cases h
  | 0, .lst _, h => by cases h
  | n + 1, .tup xs, h => by
    obtain ⟨h1, h2⟩ := toDatas_lay n xs h
    exact ⟨by simpa [toData, PyData.canLay0] using h1, by simp only [toData, PyData.depth]; omega⟩
  | n + 1, .lst xs, h => by
    obtain ⟨h1, h2⟩ := toDatas_lay n xs h
    exact ⟨by simpa [toData, PyData.canLay0] using h1, by simp only [toData, PyData.depth]; omega⟩
  | n, .scr _, h => by cases n <;> cases h
  | n, .ref _, h => by cases n <;> cases h
  | n, .rcd _ _, h => by cases n <;> cases h
theorem toDatas_lay : ∀ (n : Nat) (a : List PV), shalAll n a = true → PyData.canLayAll0 (toDatas a) = true ∧ PyData.depthAll (toDatas a) ≤ n + 1
  | n, [], _ => ⟨rfl, by simp [toDatas, PyData.depthAll]⟩
  | n, x :: xs, h => by
    have h : (shal n x && shalAll n xs) = true := h
    rw [Bool.and_eq_true] at h
    obtain ⟨a1, a2⟩ := toData_lay n x h.1
    obtain ⟨b1, b2⟩ := toDatas_lay n xs h.2
    refine ⟨by simp [toDatas, PyData.canLayAll0, a1, b1], ?_⟩
    simp only [toDatas, PyData.depthAll]
    omega
end
theorem shaped_of {a : PV} (h : shal 60 a = true) : SeqAt.shaped (toData a) = true := by
  obtain ⟨h1, h2⟩ := toData_lay 60 a h
  unfold SeqAt.shaped
  rw [h1, Bool.true_and, decide_eq_true_eq]
  omega
section
variable {K : PySem.W.Frag} {F H : Hp} {M : List Addr}
mutual
theorem Dn.data (sm : Same F H) : ∀ {v : V} {d : PV} (n : Nat), Dn K F M v d → shal n d = true → Dp K H v (toData d)
  | _, _, _, .non, _ => .non
  | _, _, _, .bl b, _ => .bl b
  | _, _, _, .int i, _ => .int i
  | _, _, _, .str x, _ => .str x
  | _, _, 0, .tup h r, q => by cases q
  | _, _, n + 1, .tup h r, q => .tup (sqT_mono sm h) (Dns.data sm n r q)
  | _, _, 0, .lst h r, q => by cases q
  | _, _, n + 1, .lst h r, q => .lst (SqL.of (sm _ _ h)) (Dns.data sm n r q)
  | _, _, n, .scr _, q => by cases n <;> cases q
  | _, _, n, .ref _, q => by cases n <;> cases q
theorem Dns.data (sm : Same F H) : ∀ {vs : List V} {ds : List PV} (n : Nat), Dns K F M vs ds → shalAll n ds = true → DpAll K H vs (toDatas ds)
  | _, _, _, .nil, _ => .nil
  | _, _, n, .cons (d := d) (ds := ds) h r, q => by
    have q : (shal n d && shalAll n ds) = true := q
    rw [Bool.and_eq_true] at q
    exact .cons (Dn.data sm n h q.1) (Dns.data sm n r q.2)
end
theorem DnO.data (sm : Same F H) {v : V} {d : PV} {n : Nat} (h : DnO K F H M v d) (q : shal n d = true) : Dp K H v (toData d) := by
  rcases h with h | ⟨p, vs, ds, rfl, rfl, h1, h2, _⟩
  · exact h.data sm n q
  · cases n with
    | zero => cases q
    | succ n => exact .lst (SqL.of h1) (Dns.data sm n h2 q)
end

section
variable {ct : Ct} {X : Cx} {W : WX} {x y z : Expr} {pos : Pos} {da db dc : Den}
variable {σ : L2.St} {F H : Hp} {M : List Addr} {s : Ps} {Q : VK}
/-! ### comparisons -/
def rC (K : PySem.W.Frag) : CmpOp → R2
  | .Lt => rI0 fun i j => .bl (decide (i < j))
  | .LtE => rI0 fun i j => .bl (decide (i ≤ j))
  | .Gt => rI0 fun i j => .bl (decide (j < i))
  | .GtE => rI0 fun i j => .bl (decide (j ≤ i))
  | .Eq => fun x y H Q => rEq x y H Q ∨ rEqD K x y H Q
  | .NotEq => fun x y H Q => rNe x y H Q ∨ rNeD K x y H Q
  | .Is => fun x y H Q => y = .non ∧ Q (.bl (decide (x = .non))) H
  | .IsNot => fun x y H Q => y = .non ∧ Q (.bl (!decide (x = .non))) H
  | _ => fun _ _ _ _ => False
theorem opC (hu : X.A.units + 64 < cLine) (op : CmpOp) : OpR X (compareOp op) (rC X.K op) := by
  cases op with
  | Lt => exact op_lt
  | LtE => exact op_le
  | Gt => exact op_gt
  | GtE => exact op_ge
  | Eq => exact op_eq.or (op_eqD hu)
  | NotEq => exact op_ne.or (op_neD hu)
  | Is => exact op_isN
  | IsNot => exact op_notN
  | _ => exact fun _ _ _ _ _ _ _ _ _ _ _ _ h => h.elim
theorem cmpP_ok {op : CmpOp} {v w : V} {dx dy : PV} {b : Bool} (sm : Same F H) (hv : DnO ct.K F H M v dx) (hw : DnO ct.K F H M w dy) (e : cmpP op dx dy = some b) (q : Q (.bl b) H) : rC ct.K op v w H Q := by
  unfold cmpP at e
  split at e
  · cases e; exact ⟨_, _, hv.int, hw.int, q⟩
  · cases e; exact ⟨_, _, hv.int, hw.int, q⟩
  · cases e; exact ⟨_, _, hv.int, hw.int, q⟩
  · cases e; exact ⟨_, _, hv.int, hw.int, q⟩
  · cases e; rw [hv.str, hw.str]; exact .inl ⟨rfl, by rw [dec_str]; exact q⟩
  · split at e
    · rename_i hs
      cases e
      rw [Bool.and_eq_true] at hs
      refine .inr ?_
      exact ⟨_, _, hv.data sm hs.1, hw.data sm hs.2, shaped_of hs.1, shaped_of hs.2, by rw [toData_eqv 60 60 _ _ hs.1 hs.2]; exact q⟩
    · cases e
  · cases e; rw [hv.str, hw.str]; exact .inl ⟨rfl, by rw [dec_str]; exact q⟩
  · split at e
    · rename_i hs
      cases e
      rw [Bool.and_eq_true] at hs
      refine .inr ?_
      exact ⟨_, _, hv.data sm hs.1, hw.data sm hs.2, shaped_of hs.1, shaped_of hs.2, by rw [toData_eqv 60 60 _ _ hs.1 hs.2]; exact q⟩
    · cases e
  · refine ⟨hw.non, ?_⟩
    cases e
    rcases hv with h | ⟨p, vs, ds, rfl, rfl, _⟩
    · cases h <;> exact q
    · exact q
  · refine ⟨hw.non, ?_⟩
    cases e
    rcases hv with h | ⟨p, vs, ds, rfl, rfl, _⟩
    · cases h <;> exact q
    · exact q
  · cases e
theorem snd_cmp {op : CmpOp} (hK : X.K = ct.K) (hu : X.A.units + 64 < cLine) (ha : Snd ct X W x da) (hb : Snd ct X W y db) (hm : behindInMarks op y = false) : Snd ct X W (.Compare x [op] [y] pos) (dCmp op da db) where
  v := PE.imp (pe_cmpR (opC hu op) ha.b hb.b hm) fun σ H Q h => opnd2_rd (fun H => hdV ct.K H) h fun v w F H M s dx dy rl hv hw p => by
    obtain ⟨r, e, p⟩ := Pst.lift p
    obtain ⟨b, e', rfl⟩ := Option.map_eq_some_iff.mp e
    rw [hK]
    exact cmpP_ok rl.same hv hw e' (Pst.fin rl p (.bl _))
  b := PE.toB (PE.imp (pe_cmpR (opC hu op) ha.b hb.b hm) fun σ H Q h => opnd2_rd (fun H => hdV ct.K H) h fun v w F H M s dx dy rl hv hw p => by
    obtain ⟨r, e, p⟩ := Pst.lift p
    obtain ⟨b, e', rfl⟩ := Option.map_eq_some_iff.mp e
    rw [hK]
    exact cmpP_ok rl.same hv hw e' (Pst.fin rl p (.bl _)))
  t := PT.imp (pt_cmpR (opC hu op) ha.b hb.b hm) fun σ H Q h => opnd2_rd (fun H => hdT H) h fun v w F H M s dx dy rl hv hw p => by
    obtain ⟨b, e, p⟩ := Pst.lift p
    rw [hK]
    exact cmpP_ok (Q := fun x H' => ∃ k, x = .bl k ∧ Q k H') rl.same hv hw e ⟨b, rfl, Pst.fin rl p rfl⟩
end
end PI

set_option Elab.async false
set_option linter.all false
set_option autoImplicit false
set_option maxRecDepth 100000
set_option maxHeartbeats 4000000
namespace PI
open PySem L2
section
variable {ct : Ct} {X : Cx} {W : WX} {x y z : Expr} {pos : Pos} {da db dc : Den}
variable {σ : L2.St} {F H : Hp} {M : List Addr} {s : Ps} {Q : VK}

/-! ### a test, then .. -/
theorem tst_rd {α β : Type} {Dr : Hp → Hp → List Addr → Hp → β → α → Prop} {f : Ps → R Bool} {g : Bool → Ps → R α} {σ : L2.St} {H : Hp} {Q : β → Hp → Prop} {Kt : Bool → Hp → Prop}
    (hD : ∀ H H1 F' H' M' b a, (∀ p, H1 p = none → H p = none) → Dr F' H' M' H1 b a → Dr F' H' M' H b a)
    (h : ∃ F M s, Rl ct.K F H M σ s ∧ Pst ct W Dr σ F H M s Q ((f s).bind g))
    (hk : ∀ b F H M s, Rl ct.K F H M σ s → Pst ct W Dr σ F H M s Q (g b s) → Kt b H) : tTs ct W f σ H Kt := by
  obtain ⟨F, M, s, rl, p⟩ := h
  refine ⟨F, M, s, rl, ?_⟩
  have p1 := Pst.bind (f := f s) (Dr' := DrT) (hD H) p
  cases e : f s with
  | stuck => rw [e] at p1; exact p1
  | exc c fs s' => rw [e] at p1; exact p1
  | ok a s' =>
    rw [e] at p1
    intro b F' H' M' ex rl' d
    obtain ⟨b1, s1, F1, M1, ex1, rl1, d1, p2⟩ := p1 b F' H' M' ex rl' d
    subst d1
    exact hk b F1 H' M1 s1 rl1 p2
/-- a value, then .. -/
theorem val_rd {α β : Type} {Dr : Hp → Hp → List Addr → Hp → β → α → Prop} {f : Ps → R SV} {g : SV → Ps → R α} {σ : L2.St} {H : Hp} {Q : β → Hp → Prop} {Kt : V → Hp → Prop}
    (hD : ∀ H H1 F' H' M' b a, (∀ p, H1 p = none → H p = none) → Dr F' H' M' H1 b a → Dr F' H' M' H b a)
    (h : ∃ F M s, Rl ct.K F H M σ s ∧ Pst ct W Dr σ F H M s Q ((f s).bind g))
    (hk : ∀ v a F0 M0 s0 F H' M s, Rl ct.K F0 H M0 σ s0 → ExtE (Own σ s0.loc) F0 H M0 F H' M (Own σ s.loc) → Rl ct.K F H' M σ s → DnR ct.K F H' M H v a → Pst ct W Dr σ F H' M s Q (g a s) → Kt v H') : tV ct W f σ H Kt := by
  obtain ⟨F, M, s, rl, p⟩ := h
  refine ⟨F, M, s, rl, ?_⟩
  have p1 := Pst.bind (f := f s) (Dr' := DrV ct.K) (hD H) p
  cases e : f s with
  | stuck => rw [e] at p1; exact p1
  | exc c fs s' => rw [e] at p1; exact p1
  | ok a s' =>
    rw [e] at p1
    intro b F' H' M' ex rl' d
    obtain ⟨b1, s1, F1, M1, ex1, rl1, d1, p2⟩ := p1 b F' H' M' ex rl' d
    exact hk b b1 F M s F1 H' M1 s1 rl ex1 rl1 d1 p2
/-- .. known to both from then on -/
theorem fz_rd {α β : Type} {Dr : Hp → Hp → List Addr → Hp → β → α → Prop} {f : Ps → R SV} {g : SV → Ps → R α} {σ : L2.St} {H : Hp} {Q : β → Hp → Prop} {Kt : V → Hp → Prop}
    (hD : ∀ H H1 F' H' M' b a, (∀ p, H1 p = none → H p = none) → Dr F' H' M' H1 b a → Dr F' H' M' H b a)
    (h : ∃ F M s, Rl ct.K F H M σ s ∧ Pst ct W Dr σ F H M s Q ((f s).bind g))
    (hk : ∀ v a F H M s, Rl ct.K F H M σ s → Dn ct.K F M v a.pv → Pst ct W Dr σ F H M s Q (g a s) → Kt v H) : tV ct W f σ H Kt := by
  obtain ⟨F, M, s, rl, p⟩ := h
  refine ⟨F, M, s, rl, ?_⟩
  cases e : f s with
  | stuck => rw [e] at p; exact p
  | exc c fs s' => rw [e] at p; exact p
  | ok a s' =>
    rw [e] at p
    intro b F' H' M' ex rl' d
    obtain ⟨F2, e2, r2, d2⟩ := fz_ext rl ex rl' d
    exact hk b a F2 H' M' s' r2 d2 (Pst.at (r := g a s') e2 (fun _ _ _ _ _ => hD _ _ _ _ _ _ _ fun _ => e2.x.none_back) p)

theorem snd_not (hK : X.K = ct.K) (ha : Snd ct X W x da) : Snd ct X W (.UnaryOp .Not x pos) (dNot da) := by
  have hv : PE X (.UnaryOp .Not x pos) (tV ct W (dNot da).v) := PE.imp (pe_notT ha.b) fun σ H Q h => opnd1_rd (fun H => hdV ct.K H) h fun v F H M s dx rl hv p => by
    obtain ⟨r, e, p⟩ := Pst.lift p
    obtain ⟨b, e', rfl⟩ := Option.map_eq_some_iff.mp e
    exact ⟨b, by rw [hK]; exact tru_ofO hv rl.same e', Pst.fin rl p (.bl _)⟩
  refine ⟨hv, PE.toB hv, ?_⟩
  exact PT.imp (pt_not ha.t) fun σ H Q h => tst_rd (fun H => hdT H) h fun b F H M s rl p => Pst.fin rl p rfl

/-- a row of and, or -/
structure SndL (ct : Ct) (X : Cx) (W : WX) (op : BoolOp) (es : List Expr) (pos : Pos) (d : Den) : Prop where
  v : PE X (.BoolOp op es pos) (tV ct W d.v)
  t : PW X (.BoolOp op es pos) (tTs ct W d.t)
theorem sndL_one {op : BoolOp} (ha : Snd ct X W x da) : SndL ct X W op [x] pos da := by
  refine ⟨pe_one ha.v, ?_⟩
  cases op with
  | And => exact pw_and1 ha.t
  | Or => exact pw_or1 ha.t
theorem PW.imp {X : Cx} {e : Expr} {t t' : TT} (h : PW X e t) (i : ∀ σ H Q, t' σ H Q → t σ H Q) : PW X e t' := ⟨fun wh pins s σ H Q I q => h.run wh pins s σ H Q I (i σ H Q q)⟩
theorem sndL_and {rest : List Expr} (ha : Snd ct X W x da) (hb : SndL ct X W .And (y :: rest) pos db) : SndL ct X W .And (x :: y :: rest) pos (dAnd da db) where
  v := PE.imp (pe_and ha.v hb.v) fun σ H Q h => fz_rd (fun H => hdV ct.K H) h fun v a F H M s rl d p => by
    cases a with
    | own xs => exact p.elim
    | val d' =>
      cases d' with
      | bl c =>
        cases d
        refine ⟨c, rfl, ?_⟩
        cases c with
        | true => exact ⟨F, M, s, rl, p⟩
        | false => exact Pst.fin rl p (.bl _)
      | _ => exact p.elim
  t := PW.imp (pw_and ha.t hb.t) fun σ H Q h => tst_rd (fun H => hdT H) h fun b F H M s rl p => by
    cases b with
    | true => exact ⟨F, M, s, rl, p⟩
    | false => exact Pst.fin rl p rfl
theorem sndL_or {rest : List Expr} (ha : Snd ct X W x da) (hb : SndL ct X W .Or (y :: rest) pos db) : SndL ct X W .Or (x :: y :: rest) pos (dOr da db) where
  v := PE.imp (pe_or ha.v hb.v) fun σ H Q h => fz_rd (fun H => hdV ct.K H) h fun v a F H M s rl d p => by
    cases a with
    | own xs => exact p.elim
    | val d' =>
      cases d' with
      | bl c =>
        cases d
        refine ⟨c, rfl, ?_⟩
        cases c with
        | true => exact Pst.fin rl p (.bl _)
        | false => exact ⟨F, M, s, rl, p⟩
      | _ => exact p.elim
  t := PW.imp (pw_or ha.t hb.t) fun σ H Q h => tst_rd (fun H => hdT H) h fun b F H M s rl p => by
    cases b with
    | true => exact Pst.fin rl p rfl
    | false => exact ⟨F, M, s, rl, p⟩
theorem SndL.snd {op : BoolOp} {es : List Expr} {d : Den} (h : SndL ct X W op es pos d) (hv : d.vr = none) : Snd ct X W (.BoolOp op es pos) d := by
  refine ⟨h.v, ?_, h.t.pt⟩
  have e : d.b true = fun s => (d.v s).bind fun x s1 => .ok (.v x.pv) s1 := by
    funext s
    unfold Den.b
    rw [hv]
  rw [e]
  exact PE.toB h.v
theorem pt_ifExp {tA tB tC : TT} (hc : PT X x tA) (ha : PT X y tB) (hb : PT X z tC) : PT X (.IfExp x y z pos) (fun σ H Q => tA σ H fun c H1 => if c = true then tB σ H1 Q else tC σ H1 Q) := by
  refine ⟨fun pins s σ H Q I h => ?_⟩
  refine PyProof.Rows.isTrue_IfExp (thn (hc.run pins s σ H _ I h) fun d s1 ⟨H1, I1, q1⟩ => ?_)
  cases d with
  | true => exact ha.run pins s1 σ H1 Q I1 q1
  | false => exact hb.run pins s1 σ H1 Q I1 q1
theorem snd_ite (hc : Snd ct X W x dc) (ha : Snd ct X W y da) (hb : Snd ct X W z db) : Snd ct X W (.IfExp x y z pos) (dIte dc da db) := by
  have hv : PE X (.IfExp x y z pos) (tV ct W (dIte dc da db).v) := PE.imp (pe_ifExp hc.t ha.v hb.v) fun σ H Q h => tst_rd (fun H => hdV ct.K H) h fun b F H M s rl p => by
    cases b with
    | true => exact ⟨F, M, s, rl, p⟩
    | false => exact ⟨F, M, s, rl, p⟩
  refine ⟨hv, PE.toB hv, ?_⟩
  exact PT.imp (pt_ifExp hc.t ha.t hb.t) fun σ H Q h => tst_rd (fun H => hdT H) h fun b F H M s rl p => by
    cases b with
    | true => exact ⟨F, M, s, rl, p⟩
    | false => exact ⟨F, M, s, rl, p⟩

/-! ### a < b < c -/
theorem chain_rd {σ : L2.St} {H : Hp} {β : Type} {Dr : Hp → Hp → List Addr → Hp → β → Bool → Prop} {Q : β → Hp → Prop} {op op' : CmpOp} {Kt : V → Hp → Prop}
    (hD : ∀ H H1 F' H' M' b a, (∀ p, H1 p = none → H p = none) → Dr F' H' M' H1 b a → Dr F' H' M' H b a)
    (h : ∃ F M s, Rl ct.K F H M σ s ∧ Pst ct W Dr σ F H M s Q (chainR op op' da db dc s))
    (hk : ∀ b F H M s, Rl ct.K F H M σ s → Pst ct W Dr σ F H M s Q (.ok b s) → Kt (.bl b) H) :
    tChain (rC ct.K op) (rC ct.K op') (tBo ct W (da.b true)) (tBo ct W (db.b true)) (tBo ct W (dc.b true)) σ H Kt := by
  obtain ⟨F, M, s, rl, p⟩ := h
  refine ⟨F, M, s, rl, ?_⟩
  have p1 := Pst.bind (f := da.b true s) (Dr' := DrB ct.K σ) (hD H) p
  cases e : da.b true s with
  | stuck => rw [e] at p1; exact p1
  | exc c fs s' => rw [e] at p1; exact p1
  | ok a s' =>
    rw [e] at p1
    intro v F' H' M' ex rl' d
    obtain ⟨b1, s1, F1, M1, ex1, rl1, d1, p2⟩ := p1 v F' H' M' ex rl' d
    refine ⟨F1, M1, s1, rl1, ?_⟩
    have p3 := Pst.bind (f := db.b true s1) (Dr' := DrB ct.K σ) (hD H') p2
    cases e2 : db.b true s1 with
    | stuck => rw [e2] at p3; exact p3
    | exc c fs s' => rw [e2] at p3; exact p3
    | ok a2 s2' =>
      rw [e2] at p3
      intro w F2' H2' M2' ex2 rl2' dd
      obtain ⟨b2, s2, F2, M2, ex3, rl3, d3, p4⟩ := p3 w F2' H2' M2' ex2 rl2' dd
      cases q1 : deref s2 b1 with
      | none => rw [q1] at p4; exact p4.elim
      | some dx =>
        cases q2 : deref s2 b2 with
        | none => rw [q1, q2] at p4; exact p4.elim
        | some dy =>
          rw [q1, q2] at p4
          have hx := derefO rl3 (d1.mono ex3.x.fs ex3.x.pre) q1
          have hy := derefO rl3 d3 q2
          cases q3 : cmpP op dx dy with
          | none => simp only [q3] at p4; exact p4.elim
          | some k =>
            simp only [q3] at p4
            refine cmpP_ok rl3.same hx hy q3 ⟨k, rfl, ?_⟩
            cases k with
            | false => exact hk false F2 H2' M2 s2 rl3 p4
            | true =>
              refine ⟨F2, M2, s2, rl3, ?_⟩
              have p5 := Pst.bind (f := dc.b true s2) (Dr' := DrB ct.K σ) (hD H2') p4
              cases e3 : dc.b true s2 with
              | stuck => rw [e3] at p5; exact p5
              | exc c fs s' => rw [e3] at p5; exact p5
              | ok a3 s3' =>
                rw [e3] at p5
                intro u F3' H3' M3' ex4 rl4' d4'
                obtain ⟨b3, s3, F3, M3, ex5, rl5, d5, p6⟩ := p5 u F3' H3' M3' ex4 rl4' d4'
                cases q4 : deref s3 b2 with
                | none => rw [q4] at p6; exact p6.elim
                | some dy2 =>
                  cases q5 : deref s3 b3 with
                  | none => rw [q4, q5] at p6; exact p6.elim
                  | some dz =>
                    rw [q4, q5] at p6
                    obtain ⟨r, er, p7⟩ := Pst.lift p6
                    exact cmpP_ok rl5.same (derefO rl5 (d3.mono ex5.x.fs ex5.x.pre) q4) (derefO rl5 d5 q5) er (hk r F3 H3' M3 s3 rl5 p7)
theorem snd_chain {op op' : CmpOp} (hK : X.K = ct.K) (hu : X.A.units + 64 < cLine) (ha : Snd ct X W x da) (hb : Snd ct X W y db) (hc : Snd ct X W z dc) (hm : lastMarks [op, op'] [y, z] = false) : Snd ct X W (.Compare x [op, op'] [y, z] pos) (dChain op op' da db dc) := by
  have hv : PE X (.Compare x [op, op'] [y, z] pos) (tV ct W (dChain op op' da db dc).v) := PE.imp (pe_chain (opC hu op) (opC hu op') ha.b hb.b hc.b hm) fun σ H Q h => by
    obtain ⟨F, M, s, rl, p⟩ := h
    rw [hK]
    refine chain_rd (Dr := fun F' H' M' H0 v b => DrV ct.K F' H' M' H0 v (.val (.bl b))) (fun H => fun H1 F' H' M' b a hh d => d) ⟨F, M, s, rl, ?_⟩ fun b F H M s rl p => Pst.fin rl p (.bl _)
    have p : Pst ct W (DrV ct.K) σ F H M s Q ((chainR op op' da db dc s).bind fun b s1 => .ok (.val (.bl b)) s1) := p
    cases e : chainR op op' da db dc s with
    | stuck => rw [e] at p; exact p
    | exc c fs s' => rw [e] at p; exact p
    | ok a s' => rw [e] at p; exact p
  refine ⟨hv, PE.toB hv, ?_⟩
  exact PT.imp (pt_chain (opC hu op) (opC hu op') ha.b hb.b hc.b hm) fun σ H Q h => by
    rw [hK]
    exact chain_rd (fun H => hdT H) h fun b F H M s rl p => ⟨b, rfl, Pst.fin rl p rfl⟩
end
end PI

set_option Elab.async false
set_option linter.all false
set_option autoImplicit false
set_option maxRecDepth 100000
set_option maxHeartbeats 4000000
namespace PI
open PySem L2
def DnBs (K : PySem.W.Frag) (σ : L2.St) (F : Hp) (M : List Addr) : List V → List BV → Prop
  | [], [] => True
  | v :: vs, b :: bs => DnB K σ F M v b ∧ DnBs K σ F M vs bs
  | _, _ => False
def DnOs (K : PySem.W.Frag) (F H : Hp) (M : List Addr) : List V → List PV → Prop
  | [], [] => True
  | v :: vs, b :: bs => DnO K F H M v b ∧ DnOs K F H M vs bs
  | _, _ => False
abbrev DrBs (K : PySem.W.Frag) (σ : L2.St) : Hp → Hp → List Addr → Hp → List V → List BV → Prop := fun F _ M _ v x => DnBs K σ F M v x
def tBsR (ct : Ct) (W : WX) (f : Ps → R (List BV)) : TA := fun σ H Q => ∃ F M s, Rl ct.K F H M σ s ∧ Pst ct W (DrBs ct.K σ) σ F H M s Q (f s)
theorem PA.imp {X : Cx} {e : List Expr} {t t' : TA} (h : PA X e t) (i : ∀ σ H Q, t' σ H Q → t σ H Q) : PA X e t' := ⟨fun pos pins s σ H Q I q => h.run pos pins s σ H Q I (i σ H Q q)⟩

def noStar : Expr → Bool
  | .Starred .. => false
  | _ => true
theorem starEach_cons {e : Expr} (es : List Expr) (env : Env) (h : noStar e = true) : starEach (e :: es) env = (false, eval e env) :: starEach es env := by
  cases e <;> first | rfl | cases h
theorem starEach_any {env : Env} {pos : Pos} : ∀ {es : List Expr}, es.all noStar = true → (backTo pos (starEach es env)).any (·.1) = false
  | [], _ => rfl
  | e :: es, h => by
    rw [List.all_cons, Bool.and_eq_true] at h
    rw [starEach_cons es env h.1]
    have := starEach_any (env := env) (pos := pos) h.2
    simpa [backTo] using this

section
variable {ct : Ct} {X : Cx} {W : WX} {x y z : Expr} {pos : Pos} {da db dc : Den}
theorem Den.b_false (d : Den) (s : Ps) : d.b false s = (d.v s).bind fun x s1 => .ok (.v x.pv) s1 := by
  unfold Den.b
  cases d.vr <;> rfl
theorem Snd.bb (h : Snd ct X W x da) (b : Bool) : PE X x (tBo ct W (da.b b)) := by
  cases b with
  | true => exact h.b
  | false =>
    have e : da.b false = fun s => (da.v s).bind fun x s1 => .ok (.v x.pv) s1 := by funext s; exact Den.b_false da s
    rw [e]
    exact PE.toB h.v
theorem DnBs.mono {K : PySem.W.Frag} {σ : L2.St} {F F' : Hp} {M M' : List Addr} (e : Same F F') (m : M <+: M') : ∀ {vs : List V} {bs : List BV}, DnBs K σ F M vs bs → DnBs K σ F' M' vs bs
  | [], [], _ => trivial
  | _ :: _, _ :: _, h => ⟨h.1.mono e m, DnBs.mono e m h.2⟩
  | [], _ :: _, h => h.elim
  | _ :: _, [], h => h.elim
theorem derefsO {σ : L2.St} {F H : Hp} {M : List Addr} {s : Ps} (rl : Rl ct.K F H M σ s) : ∀ {vs : List V} {bs : List BV} {ds : List PV}, DnBs ct.K σ F M vs bs → derefs s bs = some ds → DnOs ct.K F H M vs ds
  | [], [], ds, _, e => by cases e; trivial
  | v :: vs, b :: bs, ds, h, e => by
    have e : (match deref s b, derefs s bs with
      | some d, some ds => some (d :: ds)
      | _, _ => none) = some ds := e
    cases q1 : deref s b with
    | none => rw [q1] at e; cases e
    | some d =>
      cases q2 : derefs s bs with
      | none => rw [q1, q2] at e; cases e
      | some ds' =>
        rw [q1, q2] at e
        cases e
        exact ⟨derefO rl h.1 q1, derefsO rl h.2 q2⟩
  | [], _ :: _, _, h, _ => h.elim
  | _ :: _, [], _, h, _ => h.elim
theorem DnOs.length {K : PySem.W.Frag} {F H : Hp} {M : List Addr} : ∀ {vs : List V} {ds : List PV}, DnOs K F H M vs ds → vs.length = ds.length
  | [], [], _ => rfl
  | _ :: _, _ :: _, h => by rw [List.length_cons, List.length_cons, DnOs.length h.2]
  | [], _ :: _, h => h.elim
  | _ :: _, [], h => h.elim

theorem pa_nilB {b : Bool} : PA X [] (tBsR ct W (Den.bs b [])) := PA.imp pa_nil fun σ H Q ⟨F, M, s, rl, p⟩ => Pst.fin rl p trivial
theorem pa_consB {b : Bool} {es : List Expr} {ds : List Den} (ha : Snd ct X W x da) (hr : PA X es (tBsR ct W (Den.bs b ds))) (hs : noStar x = true) : PA X (x :: es) (tBsR ct W (Den.bs b (da :: ds))) := by
  refine PA.imp (pa_cons (ha.bb b) hr (starEach_cons es X.env hs)) fun σ H Q ⟨F, M, s, rl, p⟩ => ?_
  refine ⟨F, M, s, rl, ?_⟩
  have p1 := Pst.bind (f := da.b b s) (Dr' := DrB ct.K σ) (fun _ _ _ _ _ _ _ d => d) p
  cases e : da.b b s with
  | stuck => rw [e] at p1; exact p1
  | exc c fs s' => rw [e] at p1; exact p1
  | ok a s' =>
    rw [e] at p1
    intro v F' H' M' ex rl' d
    obtain ⟨b1, s1, F1, M1, ex1, rl1, d1, p2⟩ := p1 v F' H' M' ex rl' d
    refine ⟨F1, M1, s1, rl1, ?_⟩
    have p3 := Pst.bind (f := Den.bs b ds s1) (Dr' := DrBs ct.K σ) (fun _ _ _ _ _ _ _ d => d) p2
    cases e2 : Den.bs b ds s1 with
    | stuck => rw [e2] at p3; exact p3
    | exc c fs s' => rw [e2] at p3; exact p3
    | ok a2 s2' =>
      rw [e2] at p3
      intro w F2' H2' M2' ex2 rl2' dd
      obtain ⟨b2, s2, F2, M2, ex3, rl3, d3, p4⟩ := p3 w F2' H2' M2' ex2 rl2' dd
      exact Pst.fin rl3 p4 ⟨d1.mono ex3.x.fs ex3.x.pre, d3⟩

theorem opnds_rd {α β : Type} {Dr : Hp → Hp → List Addr → Hp → β → α → Prop} {σ : L2.St} {H : Hp} {Q : β → Hp → Prop} {b : Bool} {ds : List Den} {f : List PV → Ps → R α} {Kt : List V → Hp → Prop}
    (hD : ∀ H H1 F' H' M' b a, (∀ p, H1 p = none → H p = none) → Dr F' H' M' H1 b a → Dr F' H' M' H b a)
    (h : ∃ F M s, Rl ct.K F H M σ s ∧ Pst ct W Dr σ F H M s Q (opnds b ds f s))
    (hk : ∀ vs F H M s es bs, Rl ct.K F H M σ s → DnBs ct.K σ F M vs bs → derefs s bs = some es → DnOs ct.K F H M vs es → Pst ct W Dr σ F H M s Q (f es s) → Kt vs H) :
    tBsR ct W (Den.bs b ds) σ H Kt := by
  obtain ⟨F, M, s, rl, p⟩ := h
  refine ⟨F, M, s, rl, ?_⟩
  have p1 := Pst.bind (f := Den.bs b ds s) (Dr' := DrBs ct.K σ) (hD H) p
  cases e : Den.bs b ds s with
  | stuck => rw [e] at p1; exact p1
  | exc c fs s' => rw [e] at p1; exact p1
  | ok a s' =>
    rw [e] at p1
    intro v F' H' M' ex rl' d
    obtain ⟨b1, s1, F1, M1, ex1, rl1, d1, p2⟩ := p1 v F' H' M' ex rl' d
    cases q : derefs s1 b1 with
    | none => rw [q] at p2; exact p2.elim
    | some dx =>
      rw [q] at p2
      exact hk v F1 H' M1 s1 dx b1 rl1 d1 q (derefsO rl1 d1 q) p2
/-- operands that were all copied -/
theorem bs_vals {s s' : Ps} {ds : List Den} : ∀ {bs : List BV}, Den.bs false ds s = .ok bs s' → ∀ b ∈ bs, ∃ d, b = .v d := by
  induction ds generalizing s s' with
  | nil => intro bs e b hb; cases e; cases hb
  | cons d ds ih =>
    intro bs e b hb
    have e : ((d.b false s).bind fun x s1 => (Den.bs false ds s1).bind fun xs s2 => .ok (x :: xs) s2) = .ok bs s' := e
    rw [Den.b_false] at e
    cases q : d.v s with
    | stuck => rw [q] at e; cases e
    | exc c fs s' => rw [q] at e; cases e
    | ok a s1 =>
      rw [q] at e
      have e : ((Den.bs false ds s1).bind fun xs s2 => R.ok (BV.v a.pv :: xs) s2) = .ok bs s' := e
      cases q2 : Den.bs false ds s1 with
      | stuck => rw [q2] at e; cases e
      | exc c fs s' => rw [q2] at e; cases e
      | ok a2 s2 =>
        rw [q2] at e
        cases e
        rcases List.mem_cons.mp hb with rfl | hb
        · exact ⟨_, rfl⟩
        · exact ih q2 b hb
theorem dns_of {σ : L2.St} {F : Hp} {M : List Addr} {s : Ps} {K : PySem.W.Frag} : ∀ {vs : List V} {bs : List BV} {es : List PV}, DnBs K σ F M vs bs → (∀ b ∈ bs, ∃ d, b = .v d) → derefs s bs = some es → Dns K F M vs es
  | [], [], es, _, _, e => by cases e; exact .nil
  | v :: vs, b :: bs, es, h, hb, e => by
    obtain ⟨d, rfl⟩ := hb b List.mem_cons_self
    have e : (match some d, derefs s bs with
      | some d, some ds => some (d :: ds)
      | _, _ => none) = some es := e
    cases q2 : derefs s bs with
    | none => rw [q2] at e; cases e
    | some ds' =>
      rw [q2] at e
      cases e
      exact .cons h.1 (dns_of h.2 (fun b hm => hb b (List.mem_cons_of_mem _ hm)) q2)
  | [], _ :: _, _, h, _, _ => h.elim
  | _ :: _, [], _, h, _, _ => h.elim
theorem bs_len {b : Bool} {ds : List Den} : ∀ {s s' : Ps} {bs : List BV}, Den.bs b ds s = .ok bs s' → bs.length = ds.length := by
  induction ds with
  | nil => intro s s' bs e; cases e; rfl
  | cons d ds ih =>
    intro s s' bs e
    have e : ((d.b b s).bind fun x s1 => (Den.bs b ds s1).bind fun xs s2 => .ok (x :: xs) s2) = .ok bs s' := e
    cases q : d.b b s with
    | stuck => rw [q] at e; cases e
    | exc c fs s' => rw [q] at e; cases e
    | ok a s1 =>
      rw [q] at e
      have e : ((Den.bs b ds s1).bind fun xs s2 => R.ok (a :: xs) s2) = .ok bs s' := e
      cases q2 : Den.bs b ds s1 with
      | stuck => rw [q2] at e; cases e
      | exc c fs s' => rw [q2] at e; cases e
      | ok a2 s2 =>
        rw [q2] at e
        cases e
        rw [List.length_cons, List.length_cons, ih q2]
theorem derefs_len {s : Ps} : ∀ {bs : List BV} {es : List PV}, derefs s bs = some es → es.length = bs.length
  | [], es, e => by cases e; rfl
  | b :: bs, es, e => by
    have e : (match deref s b, derefs s bs with
      | some d, some ds => some (d :: ds)
      | _, _ => none) = some es := e
    cases q1 : deref s b with
    | none => rw [q1] at e; cases e
    | some d =>
      cases q2 : derefs s bs with
      | none => rw [q1, q2] at e; cases e
      | some ds' =>
        rw [q1, q2] at e
        cases e
        rw [List.length_cons, List.length_cons, derefs_len q2]
/-- .. of copied operands -/
theorem opndsF_rd {α β : Type} {Dr : Hp → Hp → List Addr → Hp → β → α → Prop} {σ : L2.St} {H : Hp} {Q : β → Hp → Prop} {ds : List Den} {f : List PV → Ps → R α} {Kt : List V → Hp → Prop}
    (hD : ∀ H H1 F' H' M' b a, (∀ p, H1 p = none → H p = none) → Dr F' H' M' H1 b a → Dr F' H' M' H b a)
    (h : ∃ F M s, Rl ct.K F H M σ s ∧ Pst ct W Dr σ F H M s Q (opnds false ds f s))
    (hk : ∀ vs F H M s es, Rl ct.K F H M σ s → Dns ct.K F M vs es → es.length = ds.length → Pst ct W Dr σ F H M s Q (f es s) → Kt vs H) :
    tBsR ct W (Den.bs false ds) σ H Kt := by
  obtain ⟨F, M, s, rl, p⟩ := h
  refine ⟨F, M, s, rl, ?_⟩
  cases e : Den.bs false ds s with
  | stuck => unfold opnds at p; rw [e] at p; exact p
  | exc c fs s' => unfold opnds at p; rw [e] at p; exact p
  | ok a s' =>
    unfold opnds at p
    rw [e] at p
    intro v F' H' M' ex rl' d
    have p2 := Pst.at (F1 := F') (H1 := H') (M1 := M') (s1 := s') ex (fun _ _ _ _ _ => hD _ _ _ _ _ _ _ fun _ => ex.x.none_back) p
    have p2 : Pst ct W Dr σ F' H' M' s' Q (match derefs s' a with
      | some ds => f ds s'
      | none => .stuck) := p2
    cases q : derefs s' a with
    | none => rw [q] at p2; exact p2.elim
    | some dx =>
      rw [q] at p2
      exact hk v F' H' M' s' dx rl' (dns_of d (bs_vals e) q) (by rw [derefs_len q, bs_len e]) p2

/-! ### displays -/
theorem snd_tup {es : List Expr} {ds : List Den} {k1 : Nat} (hK : X.K = ct.K) (ha : PA X es (tBsR ct W (Den.bs false ds))) (hl : ds.length ≤ lim) : Snd ct X W (.Tuple es k1 pos) (dTup ds) :=
  Snd.ofV hK (PE.imp (pe_tup ha) fun σ H Q h => opndsF_rd (fun H => hdV ct.K H) h fun vs F H M s es rl d le p =>
    ⟨by rw [lim_eq, d.length, le]; exact hl, fun q hq => fin_tup rl p hq d⟩) fun _ => rfl
theorem snd_lst {es : List Expr} {ds : List Den} (hK : X.K = ct.K) (ha : PA X es (tBsR ct W (Den.bs false ds))) (hl : ds.length ≤ lim) : Snd ct X W (.List es pos) (dLst ds) :=
  Snd.ofV hK (PE.imp (pe_lst ha) fun σ H Q h => opndsF_rd (fun H => hdV ct.K H) h fun vs F H M s es rl d le p =>
    ⟨by rw [lim_eq, d.length, le]; exact hl, fun q hq => fin_lst rl p hq d⟩) fun _ => rfl

/-! ### a[i] -/
theorem SqL.scr_at {K : PySem.W.Frag} {ns : List Int} {i : Int} {n : Int} (e : atP ns i = some n) : atI (ns.map V.int) i = some (V.int n) := by
  have e' : (ixN ns.length i).bind (fun j => ns[j]?) = some n := e
  show (ixN (ns.map V.int).length i).bind (fun j => (ns.map V.int)[j]?) = some (V.int n)
  rw [List.length_map]
  cases q : ixN ns.length i with
  | none => rw [q] at e'; cases e'
  | some j =>
    rw [q] at e'
    have e' : ns[j]? = some n := e'
    show (ns.map V.int)[j]? = some (V.int n)
    rw [List.getElem?_map, e']; rfl
theorem idxP_ok {σ : L2.St} {F H : Hp} {M : List Addr} {s : Ps} {Q : VK} {v w : V} {dx dy d : PV} (rl : Rl ct.K F H M σ s) (hv : DnO ct.K F H M v dx) (hw : DnO ct.K F H M w dy) (e : idxP s.sto dx dy = some d) (p : Pst ct W (DrV ct.K) σ F H M s Q (.ok (.val d) s)) : rIx ct.K v w H Q := by
  unfold idxP at e
  split at e
  · obtain ⟨l, vs, rfl, h1, d1⟩ := hv.lst rl.same
    obtain ⟨u, e1, e2⟩ := d1.at e
    exact .inl ⟨l, vs, _, u, rfl, hw.int, SqL.of h1, e1, Pst.fin rl p e2⟩
  · obtain ⟨l, vs, rfl, h1, d1⟩ := hv.tup rl.same
    obtain ⟨u, e1, e2⟩ := d1.at e
    exact .inr (.inl ⟨l, vs, _, u, rfl, hw.int, h1, e1, Pst.fin rl p e2⟩)
  · obtain ⟨n, e1, rfl⟩ := Option.map_eq_some_iff.mp e
    rcases hv with h | ⟨_, _, _, _, e, _⟩
    · cases h with
      | scr h1 => exact .inl ⟨_, _, _, _, rfl, hw.int, rl.same.seq h1, SqL.scr_at (K := ct.K) e1, Pst.fin rl p (.int _)⟩
    · cases e
  · split at e
    · rename_i hl
      obtain ⟨c, e1, rfl⟩ := Option.map_eq_some_iff.mp e
      exact .inr (.inr ⟨_, _, c, hv.str, hw.int, by rw [lim_eq]; exact hl, e1, Pst.fin rl p (.str _)⟩)
    · cases e
  · split at e
    · rename_i k i xs hk
      rcases hv with h | ⟨_, _, _, _, e, _⟩
      · cases h with
        | ref h1 =>
          obtain ⟨_, vs, h2, h3⟩ : F _ = none ∧ ∃ vs, H _ = some (.lst vs) ∧ Dns ct.K F M vs xs := rl.sto.ok _ _ _ hk h1
          obtain ⟨u, e1, e2⟩ := h3.at e
          exact .inl ⟨_, vs, _, u, rfl, hw.int, SqL.of h2, e1, Pst.fin rl p e2⟩
      · cases e
    · cases e
  · cases e
theorem snd_idx (hK : X.K = ct.K) (ha : Snd ct X W x da) (hb : Snd ct X W y db) (hs : PlainIx y) : Snd ct X W (.Subscript x y pos) (dIdx da db) :=
  Snd.ofV hK (PE.imp (pe_ix ix_seq ha.b hb.b hs) fun σ H Q h => opnd2_rd (fun H => hdV ct.K H) h fun v w F H M s dx dy rl hv hw p => by
    obtain ⟨r, e, p⟩ := Pst.lift p
    obtain ⟨d, e', rfl⟩ := Option.map_eq_some_iff.mp e
    rw [hK]
    exact idxP_ok rl hv hw e' p) fun _ => rfl

/-! ### built-ins -/
/-- a built-in function or class by its name -/
def Pm.name : Pm → Str
  | .len => "len"
  | .int => "int"
  | .max2 => "max"
  | .min2 => "min"
  | .sum => "sum"
def Pm.fn : Pm → Bool
  | .int => false
  | _ => true
def Pm.id : Pm → String
  | .len => "len"
  | .int => "int"
  | .max2 => "max"
  | .min2 => "min"
  | .sum => "sum"
def Pm.val (f : Pm) : Value := if f.fn then .builtin f.id else .type f.id
def rPrim (ct : Ct) (W : WX) (f : Pm) : List V → Hp → VK → Prop := fun vs H Q => ∃ σ F M s ds, Rl ct.K F H M σ s ∧ DnOs ct.K F H M vs ds ∧ Pst ct W (DrV ct.K) σ F H M s Q (liftO (primP f ds) s)
theorem prim_ok (hK : X.K = ct.K) (hc : X.calm = true) (f : Pm) : CallR X f.val (rPrim ct W f) := by
  intro pins sh σ H vs us Q I r ⟨σ', F, M, s, ds, rl, hd, p⟩
  obtain ⟨z, e, p⟩ := Pst.lift p
  unfold primP at e
  split at e
  · rename_i xs
    cases e
    match vs, hd with
    | [v], h =>
      obtain ⟨l, ws, rfl, h1, d1⟩ := h.1.lst rl.same
      exact call_len pins sh σ H _ us Q I r ⟨_, xs.length, rfl, .inl ⟨ws, SqL.of h1, by rw [d1.length]⟩, Pst.fin rl p (.int _)⟩
  · rename_i xs
    cases e
    match vs, hd with
    | [v], h =>
      obtain ⟨l, ws, rfl, h1, d1⟩ := h.1.tup rl.same
      exact call_len pins sh σ H _ us Q I r ⟨_, xs.length, rfl, .inr ⟨ws, by rw [hK]; exact h1, by rw [d1.length]⟩, Pst.fin rl p (.int _)⟩
  · rename_i ns
    cases e
    match vs, hd with
    | [v], h =>
      rcases h.1 with h | ⟨_, _, _, _, e, _⟩
      · cases h with
        | scr h1 => exact call_len pins sh σ H _ us Q I r ⟨_, ns.length, rfl, .inl ⟨_, by rw [hK]; exact rl.same.seq h1, by rw [List.length_map]⟩, Pst.fin rl p (.int _)⟩
      · cases e
  · rename_i zz
    split at e
    · rename_i hl
      cases e
      match vs, hd with
      | [v], h =>
        rw [h.1.str] at r
        exact call_len pins sh σ H _ us Q I r ⟨_, zz.length, rfl, ⟨by rw [lim_eq]; exact hl, rfl⟩, Pst.fin rl p (.int _)⟩
    · cases e
  · cases e
    match vs, hd with
    | [v], h =>
      rw [h.1.int] at r
      exact call_int1 pins sh σ H _ us Q I r (.inl ⟨_, rfl, Pst.fin rl p (.int _)⟩)
  · cases e
    match vs, hd with
    | [v], h =>
      rw [h.1.bl] at r
      exact call_int1 pins sh σ H _ us Q I r (.inr ⟨_, rfl, Pst.fin rl p (.int _)⟩)
  · cases e
    match vs, hd with
    | [v, w], h =>
      rw [h.1.int, h.2.1.int] at r
      exact call_max2 hc pins sh σ H _ us Q I r ⟨_, _, rfl, Pst.fin rl p (.int _)⟩
  · cases e
    match vs, hd with
    | [v, w], h =>
      rw [h.1.int, h.2.1.int] at r
      exact call_min2 hc pins sh σ H _ us Q I r ⟨_, _, rfl, Pst.fin rl p (.int _)⟩
  · obtain ⟨ns, e1, rfl⟩ := Option.map_eq_some_iff.mp e
    match vs, hd with
    | [v], h =>
      obtain ⟨l, ws, rfl, h1, d1⟩ := h.1.lst rl.same
      have ew := d1.ints e1
      subst ew
      exact cr_sum hc pins sh σ H _ us Q I r ⟨_, ns, rfl, SqL.of h1, Pst.fin rl p (.int _)⟩
  · cases e
theorem pm_boot (f : Pm) : bootBuiltins f.name = some f.val := by
  cases f <;> decide +kernel
theorem pm_ok (f : Pm) : f.name ≠ "__name__" ∧ (f.name == ("__debug__" : Str)) = false := by
  cases f <;> decide +kernel
theorem snd_prim {f : Pm} {p : Pos} {es : List Expr} {ds : List Den} (hK : X.K = ct.K) (hc : X.calm = true) (hg : Gl X f.name) (hm : X.mg f.name = none) (ha : PA X (x :: es) (tBsR ct W (Den.bs true ds))) (hs : (x :: es).all noStar = true) :
    Snd ct X W (.Call (.Name f.name p) (x :: es) [] pos) (dPrim f ds) := by
  have hs' : noStar x = true ∧ es.all noStar = true := by rw [List.all_cons, Bool.and_eq_true] at hs; exact hs
  have key : PE X (.Call (.Name f.name p) (x :: es) [] pos) (tCB (rPrim ct W f) (tBsR ct W (Den.bs true ds))) := by
    have hv := pm_boot f
    have hr := prim_ok (W := W) hK hc f
    by_cases hf : f.fn = true
    · rw [show f.val = .builtin f.id from by unfold Pm.val; rw [if_pos hf]] at hv hr
      exact pe_callB hr hg hm hv ha (pm_ok f).1 (pm_ok f).2 (starEach_cons es X.env hs'.1) (starEach_any hs'.2)
    · rw [show f.val = .type f.id from by unfold Pm.val; rw [if_neg hf]] at hv hr
      exact pe_callTy hr hg hm hv ha (pm_ok f).1 (pm_ok f).2 (starEach_cons es X.env hs'.1) (starEach_any hs'.2)
  exact Snd.ofV hK (PE.imp key fun σ H Q h => opnds_rd (fun H => hdV ct.K H) h fun vs F H M s es bs rl _ _ d p => ⟨σ, F, M, s, es, rl, d, p⟩) fun _ => rfl
/-! ### isinstance(x, T), T a built-in class -/
def isiTys : List String := ["int", "bool", "str", "tuple", "list"]
def tyName : PV → Option String
  | .non => some "NoneType"
  | .bl _ => some "bool"
  | .int _ => some "int"
  | .str _ => some "str"
  | .tup _ => some "tuple"
  | .lst _ => some "list"
  | _ => none
def isiB (a t : String) : Bool := a == t || (a == "bool" && t == "int")
theorem isi_kit : (["NoneType", "bool", "int", "str", "tuple", "list"].all fun a => isiTys.all fun t => kitB a t == some (isiB a t)) = true := by decide +kernel
theorem isi_boot : (isiTys.all fun t => bootBuiltins (Str.ofString t) == some (Value.type t) && Str.ofString t != "__name__" && !(Str.ofString t == ("__debug__" : Str))) = true := by decide +kernel
theorem isiP_eq {t : String} {d : PV} {b : Bool} (e : isiP t d = some b) : ∃ a, tyName d = some a ∧ a ∈ ["NoneType", "bool", "int", "str", "tuple", "list"] ∧ (t ∈ isiTys → b = isiB a t) := by
  cases d with
  | non =>
    cases e
    refine ⟨_, rfl, by simp, fun h => ?_⟩
    simp only [isiTys, List.mem_cons, List.not_mem_nil, or_false] at h
    rcases h with rfl | rfl | rfl | rfl | rfl <;> decide
  | bl _ =>
    cases e
    refine ⟨_, rfl, by simp, fun h => ?_⟩
    simp only [isiTys, List.mem_cons, List.not_mem_nil, or_false] at h
    rcases h with rfl | rfl | rfl | rfl | rfl <;> decide
  | int _ =>
    cases e
    refine ⟨_, rfl, by simp, fun h => ?_⟩
    simp only [isiTys, List.mem_cons, List.not_mem_nil, or_false] at h
    rcases h with rfl | rfl | rfl | rfl | rfl <;> decide
  | str _ =>
    cases e
    refine ⟨_, rfl, by simp, fun h => ?_⟩
    simp only [isiTys, List.mem_cons, List.not_mem_nil, or_false] at h
    rcases h with rfl | rfl | rfl | rfl | rfl <;> decide
  | tup _ =>
    cases e
    refine ⟨_, rfl, by simp, fun h => ?_⟩
    simp only [isiTys, List.mem_cons, List.not_mem_nil, or_false] at h
    rcases h with rfl | rfl | rfl | rfl | rfl <;> decide
  | lst _ =>
    cases e
    refine ⟨_, rfl, by simp, fun h => ?_⟩
    simp only [isiTys, List.mem_cons, List.not_mem_nil, or_false] at h
    rcases h with rfl | rfl | rfl | rfl | rfl <;> decide
  | _ => cases e
theorem ty_of {F H : Hp} {M : List Addr} {v : V} {d : PV} {a : String} (sm : Same F H) (h : DnO ct.K F H M v d) (e : tyName d = some a) : TyX ct.K H v (.type a) := by
  rcases h with h | ⟨p, vs, ds, rfl, rfl, h1, h2, _⟩
  · cases h with
    | non => cases e; exact .base .non
    | bl b => cases e; exact .base (.bl b)
    | int i => cases e; exact .base (.int i)
    | str x => cases e; exact .base (.str x)
    | tup q r =>
      cases e
      rcases q with (q | ⟨o, q⟩) | ⟨o, its, n, hk, hc, _⟩
      · exact .base (.tup (sm _ _ q))
      · exact .fTuple (sm _ _ q)
      · exact .kTuple hk hc
    | lst q r => cases e; exact .base (.lst (sm _ _ q))
    | scr q => cases e
    | ref q => cases e
  · cases e; exact .base (.lst h1)
theorem snd_isi {t : String} {p p2 : Pos} (hK : X.K = ct.K) (ht : t ∈ isiTys) (hg : Gl X "isinstance") (hm : X.mg "isinstance" = none) (hgt : Gl X (Str.ofString t)) (hmt : X.mg (Str.ofString t) = none) (ha : Snd ct X W x da) (hs : noStar x = true) :
    Snd ct X W (.Call (.Name "isinstance" p) [x, .Name (Str.ofString t) p2] [] pos) (dIsi da t) := by
  have hb := List.all_eq_true.mp isi_boot t ht
  simp only [Bool.and_eq_true, beq_iff_eq, bne_iff_ne, Bool.not_eq_true'] at hb
  have hT : PE X (.Name (Str.ofString t) p2) (tC (.ty t)) := pe_bltn hgt hmt hb.1.1 rfl hb.1.2 hb.2
  have key : PE X (.Call (.Name "isinstance" p) [x, .Name (Str.ofString t) p2] [] pos) (tCB (rIsi X.K) (tCons (tBo ct W (da.b true)) (tCons (tC (.ty t)) tNil))) :=
    pe_callB call_isi hg hm (by decide +kernel) (pa_cons ha.b (pa_cons hT pa_nil) (starEach_cons _ X.env hs)) (by decide) (by decide) (starEach_cons _ X.env hs) rfl
  refine Snd.ofV hK (PE.imp key fun σ H Q h => opnd1_rd (fun H => hdV ct.K H) h fun v F H M s dx rl hv p => ?_) fun _ => rfl
  obtain ⟨r, e, p⟩ := Pst.lift p
  obtain ⟨b, e', rfl⟩ := Option.map_eq_some_iff.mp e
  obtain ⟨a, ea, ma, eb⟩ := isiP_eq e'
  have kk := List.all_eq_true.mp (List.all_eq_true.mp isi_kit a ma) t ht
  rw [beq_iff_eq] at kk
  exact ⟨v, .ty t, .type a, .type t, b, rfl, .ty t, by rw [hK]; exact ty_of rl.same hv ea, by rw [eb ht]; exact kit_ty kk, Pst.fin rl p (.bl _)⟩

/-! ### name.append(e) -/
theorem Rl.setOwn {σ : L2.St} {F H : Hp} {M : List Addr} {s : Ps} (rl : Rl ct.K F H M σ s) {i : Nat} {xs ys : List PV} {p : Addr} {ws : List V} (h : s.loc[i]? = some (some (.own xs))) (hp : σ[i]? = some (some (.ref p))) (d : Dns ct.K F M ws ys) :
    ExtE (Own σ s.loc) F H M F (upd H p (.lst ws)) M (Own σ (s.loc.set i (some (.own ys)))) ∧ Rl ct.K F (upd H p (.lst ws)) M σ { s with loc := s.loc.set i (some (.own ys)) } := by
  obtain ⟨q, vs, e1, e2, e3, e4, e5⟩ : ∃ p vs, σ[i]? = some (some (V.ref p)) ∧ F p = none ∧ H p = some (.lst vs) ∧ Dns ct.K F M vs xs ∧ p ∉ M := rl.slot i _ h
  rw [hp] at e1
  have e1 : p = q := V.ref.inj (Option.some.inj (Option.some.inj e1))
  subst e1
  have hi : i < s.loc.length := (List.getElem?_eq_some_iff.mp h).1
  have hown : Own σ s.loc p := ⟨i, xs, h, hp⟩
  have back : ∀ q, Own σ (s.loc.set i (some (.own ys))) q → Own σ s.loc q := fun q ⟨j, zs, a1, a2⟩ => by
    by_cases hj : i = j
    · subst hj
      rw [hp] at a2
      have : p = q := V.ref.inj (Option.some.inj (Option.some.inj a2))
      subst this
      exact hown
    · rw [List.getElem?_set_ne hj] at a1; exact ⟨j, zs, a1, a2⟩
  refine ⟨⟨⟨Same.refl _, fun q o a1 a2 a3 => ?_, fun q o a1 => ?_, fun q o a => .inl a, List.prefix_refl _, fun _ a => .inl a, fun q a => .inl (back q a)⟩, back⟩, ⟨same_mut rl.same e2, by simpa using rl.len, fun j o e => ?_, fun j k us zs q a1 a2 a3 a4 => ?_, ⟨rl.sto.len, rl.sto.nd, fun k so a q1 q2 => ?_⟩⟩⟩
  · rw [upd_ne fun z => a3 (by rw [z]; exact hown)]; exact a1
  · by_cases z : q = p
    · subst z; exact ⟨_, upd_same⟩
    · exact ⟨o, by rw [upd_ne z]; exact a1⟩
  · have e : (s.loc.set i (some (.own ys)))[j]? = some o := e
    by_cases hj : i = j
    · subst hj
      rw [List.getElem?_set_self hi] at e
      cases e
      exact ⟨p, ws, hp, e2, upd_same, d, e5⟩
    · rw [List.getElem?_set_ne hj] at e
      have q := rl.slot j o e
      cases o with
      | none => trivial
      | some sv =>
        cases sv with
        | val d' => exact q
        | own zs =>
          obtain ⟨q, us, w1, w2, w3, w4, w5⟩ := q
          have ne : q ≠ p := fun z => hj (rl.inj i j xs zs p h e hp (by rw [w1, z]))
          exact ⟨q, us, w1, w2, by rw [upd_ne ne]; exact w3, w4, w5⟩
  · have back : ∀ {j : Nat} {zs : List PV}, (s.loc.set i (some (.own ys)))[j]? = some (some (.own zs)) → ∃ us, s.loc[j]? = some (some (.own us)) := fun {j zs} a => by
      by_cases hj : i = j
      · subst hj; exact ⟨xs, h⟩
      · rw [List.getElem?_set_ne hj] at a; exact ⟨zs, a⟩
    obtain ⟨u1, b1⟩ := back a1
    obtain ⟨u2, b2⟩ := back a2
    exact rl.inj j k u1 u2 q b1 b2 a3 a4
  · have z := rl.sto.ok k so a q1 q2
    have ne : a ≠ p := fun z => e5 (by rw [← z]; exact List.mem_of_getElem? q2)
    exact z.mono (Same.refl _) (List.prefix_refl _) z.some.1 (by rw [upd_ne ne])
theorem own_of {σ : L2.St} {F H : Hp} {M : List Addr} {s : Ps} {i : Nat} (rl : Rl ct.K F H M σ s) (h : isOwn i s = true) : ∃ xs p vs, s.loc[i]? = some (some (.own xs)) ∧ σ[i]? = some (some (V.ref p)) ∧ F p = none ∧ H p = some (.lst vs) ∧ Dns ct.K F M vs xs ∧ p ∉ M := by
  unfold isOwn at h
  split at h
  · rename_i xs q
    obtain ⟨p, vs, e1, e2, e3, e4, e5⟩ := rl.slot i _ q
    exact ⟨xs, p, vs, q, e1, e2, e3, e4, e5⟩
  · cases h
theorem few1 {env : Env} {cpos : Pos} (h : noStar y = true) : ((backTo cpos (starEach [y] env)).all (fun x => !x.1) && (backToKw cpos (keywordEach [] env)).all (fun x => x.1.isSome)
      && decide (([y] : List Expr).length + ([] : List Keyword).length + (if ([] : List Keyword).isEmpty then 0 else 1) < 30)) = true := by
  rw [starEach_cons [] env h]
  rfl
theorem snd_app {i : Nat} {apos pn : Pos} {nm : Str} (hK : X.K = ct.K) (hx : PE X (.Name nm pn) (tVar i)) (ha : Snd ct X W y da) (hs : noStar y = true) (hline : (apos.endLine == pos.line) = true) : Snd ct X W (.Call (.Attribute (.Name nm pn) "append" apos) [y] [] pos) (dApp i da) := by
  have key : PE X (.Call (.Attribute (.Name nm pn) "append" apos) [y] [] pos) (tBM X.K "list" rAppend (tVar i) (tCons (tV ct W da.v) tNil)) :=
    pe_bm PySem.F.plainAttrs_list PySem.F.slot_list_append PySem.F.type_list_append mt_append hx (pa_cons ha.v pa_nil (starEach_cons _ X.env hs)) rfl (few1 hs) hline (starEach_cons _ X.env hs) rfl
  refine Snd.ofV hK (PE.imp key fun σ H Q h => ?_) fun _ => rfl
  obtain ⟨F, M, s, rl, p⟩ := h
  by_cases ho : isOwn i s = true
  · simp only [ho, if_true] at p
    obtain ⟨xs0, pp, vs0, q0, e1, e2, e3, e4, e5⟩ := own_of rl ho
    refine ⟨_, e1, .inl ⟨rfl, vs0, SqL.of e3⟩, ?_⟩
    refine fz_rd (fun H => hdV ct.K H) ⟨F, M, s, rl, p⟩ fun v a F H M s rl d p => ?_
    unfold appP at p
    split at p
    · rename_i xs q
      split at p
      · rename_i hl
        obtain ⟨p2, vs, f1, f2, f3, f4, f5⟩ := rl.slot i _ q
        rw [e1] at f1
        have f1 : pp = p2 := V.ref.inj (Option.some.inj (Option.some.inj f1))
        subst f1
        obtain ⟨ex, rl2⟩ := rl.setOwn q e1 (f4.append (.cons d .nil))
        exact ⟨pp, vs, v, rfl, rfl, f3, by rw [lim_eq, f4.length]; exact hl, p _ F _ M ex rl2 .non⟩
      · exact p.elim
    · exact p.elim
  · simp only [ho] at p
    exact p.elim
end
end PI

set_option Elab.async false
set_option linter.all false
set_option autoImplicit false
set_option maxRecDepth 100000
set_option maxHeartbeats 4000000
namespace PI
open PySem L2
abbrev O0 : Addr → Prop := fun _ => False
/-! ### calls of the text's own defs -/
def spF (ct : Ct) (cl : Str → List PV → Sto → C) (f : Str) (ar : Nat) : Sp := fun vs H Q E => ∃ F M st ds, Same F H ∧ Stos ct.K F H M st ∧ Dns ct.K F M vs ds ∧ ds.length = ar ∧
  (match cl f ds st with
  | .ok x st' => ∀ v F' H' M', Ext O0 F H M F' H' M' O0 → Same F' H' → Stos ct.K F' H' M' st' → DnR ct.K F' H' M' H v x → Q v H'
  | .exc c fs st' => ∀ cls d F' H' M', Ext O0 F H M F' H' M' O0 → Same F' H' → Stos ct.K F' H' M' st' → ct.xr c fs F' H' M' cls d → E cls d H'
  | .stuck => False)
structure FOk (ct : Ct) (X : Cx) (n : Nat) (cl : Str → List PV → Sto → C) (f : Str) (ar : Nat) (a : Addr) (fd : FuncData) (ps : List Str) : Prop where
  mg : X.mg f = some (.ref a)
  kp : PySem.W.keepIn X.K (.ref a) = true
  bn : Binds X.K fd ps []
  ok : FnOk X.prog X.w X.K X.mg X.base (CX X.prog X.w) n a fd ps (spF ct cl f ar)
  db : (f == ("__debug__" : Str)) = false
section
variable {ct : Ct} {X : Cx} {W : WX} {x y z : Expr} {pos : Pos} {da db dc : Den}
theorem Rl.after {σ : L2.St} {F H F' H' : Hp} {M M' : List Addr} {s : Ps} {st : Sto} (rl : Rl ct.K F H M σ s) (e : Ext O0 F H M F' H' M' O0) (sm : Same F' H') (so : Stos ct.K F' H' M' st) :
    ExtE (Own σ s.loc) F H M F' H' M' (Own σ s.loc) ∧ Rl ct.K F' H' M' σ { s with sto := st } := by
  refine ⟨⟨⟨e.fs, fun p o h1 h2 h3 => e.keep p o h1 h2 id, e.dom, fun p o h => (e.newF p o h).imp_right fun q => q.imp_right False.elim, e.pre, e.newM, fun _ h => .inl h⟩, fun _ h => h⟩, ⟨sm, rl.len, fun i o h => ?_, rl.inj, so⟩⟩
  have q := rl.slot i o h
  cases o with
  | none => trivial
  | some sv =>
    cases sv with
    | val d =>
      obtain ⟨w, w1, w2⟩ := q
      exact ⟨w, w1, w2.mono e.fs e.pre⟩
    | own xs =>
      obtain ⟨p, vs, w1, w2, w3, w4, w5⟩ := q
      refine ⟨p, vs, w1, ?_, e.keep p _ w3 w5 id, w4.mono e.fs e.pre, fun z => ?_⟩
      · cases z : F' p with
        | none => rfl
        | some o =>
          rcases e.newF p o z with h | h | h
          · rw [w2] at h; cases h
          · rw [w3] at h; cases h
          · exact h.elim
      · rcases e.newM p z with h | h
        · exact w5 h
        · rw [w3] at h; cases h
theorem call_rd {σ : L2.St} {F H : Hp} {M : List Addr} {s : Ps} {Q : VK} {cl : Str → List PV → Sto → C} {f : Str} {ar : Nat} {vs : List V} {ds : List PV} (rl : Rl ct.K F H M σ s) (d : Dns ct.K F M vs ds) (ha : ds.length = ar)
    (p : Pst ct W (DrV ct.K) σ F H M s Q (match cl f ds s.sto with
      | .ok v st => .ok v { s with sto := st }
      | .exc c fs st => .exc c fs { s with sto := st }
      | .stuck => .stuck)) : spF ct cl f ar vs H Q (WE W σ) := by
  refine ⟨F, M, s.sto, ds, rl.same, rl.sto, d, ha, ?_⟩
  cases e : cl f ds s.sto with
  | stuck => rw [e] at p; exact p
  | ok x st =>
    rw [e] at p
    intro v F' H' M' ex sm so dr
    obtain ⟨a, b⟩ := rl.after ex sm so
    exact p v F' H' M' a b dr
  | exc c fs st =>
    rw [e] at p
    intro cls dd F' H' M' ex sm so dr
    obtain ⟨a, b⟩ := rl.after ex sm so
    exact p cls dd F' H' M' a b dr
theorem snd_call {n : Nat} {G : En} {f : Str} {ar : Nat} {a : Addr} {fd : FuncData} {ps : List Str} {pn : Pos} {es : List Expr} {ds : List Den} (hK : X.K = ct.K) (tk : Takes X W) (hr : Room n X.A) (hF : FOk ct X n G.cl f ar a fd ps) (hg : Gl X f)
    (ha : PA X (x :: es) (tBsR ct W (Den.bs false ds))) (hs : (x :: es).all noStar = true) (hl : ds.length = ar) : Snd ct X W (.Call (.Name f pn) (x :: es) [] pos) (dCall G f ds) := by
  have hs' : noStar x = true ∧ es.all noStar = true := by rw [List.all_cons, Bool.and_eq_true] at hs; exact hs
  have key := pe_callS (E := WE W) (pos := pos) (p := pn) hF.ok hr hg hF.mg hF.kp hF.bn (fun σ => passAt tk σ) ha hF.db (starEach_cons es X.env hs'.1) (starEach_any hs'.2)
  exact Snd.ofV hK (PE.imp key fun σ H Q h => opndsF_rd (fun H => hdV ct.K H) h fun vs F H M s es rl d le p => call_rd rl d (by rw [le, hl]) p) fun _ => rfl
theorem pe_callS0 {CX : CXT} {k : Nat} {f : Addr} {fd : FuncData} {ps : List Str} {sp : Sp} {E : L2.St → XK} {nm : Str} {pn : Pos} (F : FnOk X.prog X.w X.K X.mg X.base CX k f fd ps sp) (hr : Room k X.A) (hg : Gl X nm) (hm : X.mg nm = some (.ref f)) (hk : PySem.W.keepIn X.K (.ref f) = true) (hb : Binds X.K fd ps []) (hx : ∀ σ, PassesAt CX X σ (E σ))
    (hdb : (nm == ("__debug__" : Str)) = false) : PE X (.Call (.Name nm pn) [] [] pos) (fun σ H Q => sp [] H Q (E σ)) := by
  refine ⟨fun pins s σ H Q I h => ?_⟩
  refine PySem.wpAny_Call_Name_kw (ld_glob I hg hm ?_ hdb)
  exact PySem.W.callWith_K0 I.kIn hk (run_fnS (us := []) F hr hb (hx σ) I .nil h)
theorem snd_call0 {n : Nat} {G : En} {f : Str} {a : Addr} {fd : FuncData} {ps : List Str} {pn : Pos} (hK : X.K = ct.K) (tk : Takes X W) (hr : Room n X.A) (hF : FOk ct X n G.cl f 0 a fd ps) (hg : Gl X f) : Snd ct X W (.Call (.Name f pn) [] [] pos) (dCall G f []) := by
  have key := pe_callS0 (E := WE W) (pos := pos) (pn := pn) hF.ok hr hg hF.mg hF.kp hF.bn (fun σ => passAt tk σ) hF.db
  exact Snd.ofV hK (PE.imp key fun σ H Q ⟨F, M, s, rl, p⟩ => call_rd rl .nil rfl p) fun _ => rfl

/-! ### module constants -/
theorem snd_glob {G : En} {f : Str} {pn : Pos} {v : V} {u : Value} {d : PV} (hK : X.K = ct.K) (hg : Gl X f) (hm : X.mg f = some u) (r : RelV v u) (hd : (f == ("__debug__" : Str)) = false) (he : G.gl f = some d) (hdn : ∀ F M, Dn ct.K F M v d) : Snd ct X W (.Name f pn) (dGlob G f) :=
  Snd.ofV hK (PE.imp (pe_glob hg hm r hd) fun σ H Q ⟨F, M, s, rl, p⟩ => by
    have p : Pst ct W (DrV ct.K) σ F H M s Q (liftO ((G.gl f).map .val) s) := p
    rw [he] at p
    exact Pst.fin rl p (hdn F M)) fun _ => rfl

/-! ### what is walked -/
/-- the walk J gives its, one after another -/
def WkOk (K : PySem.W.Frag) (F : Hp) (M : List Addr) (J : It) (its : List PV) : Prop :=
  ∃ G Y, Walk J its.length G Y ∧ (∀ H, Same F H → G H) ∧ ∀ i H1 v H2, Y i H1 v H2 → Same F H1 → i < its.length → ∃ d, its[i]? = some d ∧
    ((H2 = H1 ∧ Dn K F M v d) ∨ ∃ p o, v = .ref p ∧ H1 p = none ∧ H2 = upd H1 p o ∧ ∀ F' M', Same F F' → M <+: M' → F' p = none → Dn K (upd F' p o) M' v d)
abbrev DrI (K : PySem.W.Frag) : Hp → Hp → List Addr → Hp → It → List PV → Prop := fun F _ M _ J its => WkOk K F M J its
def tIt (ct : Ct) (W : WX) (f : Ps → R (List PV)) : TI := fun σ H R => ∃ F M s, Rl ct.K F H M σ s ∧ Pst ct W (DrI ct.K) σ F H M s R (f s)
def itR (k : IK) (src : List Den) : Ps → R (List PV) := opnds false src fun ds s => liftO (itemsP k ds) s
theorem PI.imp {tg e : Expr} {t t' : TI} (h : L2.PI X tg e t) (i : ∀ σ H Q, t' σ H Q → t σ H Q) : L2.PI X tg e t' := ⟨fun pins s σ H Q I q => h.run pins s σ H Q I (i σ H Q q)⟩
theorem pi_seq {tg l : Expr} {tl : TE} (hl : PE X l tl) : L2.PI X tg l (fun σ H R => tl σ H fun v H1 => (∃ a, v = .ref a ∧ (∃ xs, SqL X.K H1 a xs) ∧ R (Itl X.K a) H1) ∨ (∃ a, v = .ref a ∧ (∃ xs, SqT X.K H1 a xs) ∧ R (Itt X.K a) H1)) := by
  refine ⟨fun pins s σ H R I h => ?_⟩
  refine thn (hl.run pins s σ H _ I h) fun v s1 ⟨x, H1, I1, r1, q1⟩ => ?_
  rcases q1 with ⟨a, e, ⟨xs, hq⟩, q⟩ | ⟨a, e, ⟨xs, hq⟩, q⟩
  · subst e
    cases r1
    obtain ⟨its, rv, p, hz⟩ := I1.list hq
    refine wpAny_pyIter_list p.isList ?_
    refine ⟨s1.heap.objs.size, [s1.heap.objs.size], _, _, H1, rfl, I1.kept (t' := s1.toks) fun b o e => Heap.get?_push_of_some _ e, turn_list a _, ⟨_, Heap.get?_push_size _ rfl, rfl, rfl⟩, fun b hb => ?_, q⟩
    have e : b = s1.heap.objs.size := by simpa using hb
    subst e
    exact I1.fpOk (Nat.le_refl _) (I1.hok.fresh (Nat.le_refl _))
  · subst e
    cases r1
    obtain ⟨its, rv, p, hz⟩ := I1.tuple hq
    refine PySem.wpAny_pyIter_tuple (show s1.heap.IsTuple a its.toArray from p) ?_
    refine ⟨s1.heap.objs.size, [s1.heap.objs.size], _, _, H1, rfl, I1.kept (t' := s1.toks) fun b o e => Heap.get?_push_of_some _ e, turn_tuple a _, ⟨_, Heap.get?_push_size _ rfl, rfl, rfl⟩, fun b hb => ?_, q⟩
    have e : b = s1.heap.objs.size := by simpa using hb
    subst e
    exact I1.fpOk (Nat.le_refl _) (I1.hok.fresh (Nat.le_refl _))
theorem wk_list {F : Hp} {M : List Addr} {a : Addr} {vs : List V} {ds : List PV} {K : PySem.W.Frag} (h : F a = some (.lst vs)) (d : Dns K F M vs ds) : WkOk K F M (Itl K a) ds := by
  have w := walk_list (K := K) (a := a) (xs := vs)
  rw [d.length] at w
  refine ⟨_, _, w, fun H sm => SqL.of (sm _ _ h), fun i H1 v H2 y sm hi => ?_⟩
  obtain ⟨e1, e2⟩ := y
  obtain ⟨v', h1, h2⟩ := d.get (i := i) (d := ds[i]) (by simp [hi])
  rw [e2] at h1
  cases h1
  exact ⟨ds[i], by simp [hi], .inl ⟨e1, h2⟩⟩
theorem wk_tup {F : Hp} {M : List Addr} {a : Addr} {vs : List V} {ds : List PV} {K : PySem.W.Frag} (h : SqT K F a vs) (d : Dns K F M vs ds) : WkOk K F M (Itt K a) ds := by
  have w := walk_tup (K := K) (a := a) (xs := vs)
  rw [d.length] at w
  refine ⟨_, _, w, fun H sm => sqT_mono sm h, fun i H1 v H2 y sm hi => ?_⟩
  obtain ⟨e1, e2⟩ := y
  obtain ⟨v', h1, h2⟩ := d.get (i := i) (d := ds[i]) (by simp [hi])
  rw [e2] at h1
  cases h1
  exact ⟨ds[i], by simp [hi], .inl ⟨e1, h2⟩⟩
theorem intsFrom_len : ∀ (a : Int) (n : Nat), (intsFrom a n).length = n
  | _, 0 => rfl
  | a, n + 1 => by rw [intsFrom, List.length_cons, intsFrom_len]
theorem intsFrom_get : ∀ (a : Int) (n i : Nat), i < n → (intsFrom a n)[i]? = some (.int (a + i))
  | a, n + 1, 0, _ => by simp [intsFrom]
  | a, n + 1, i + 1, h => by
    rw [intsFrom, List.getElem?_cons_succ, intsFrom_get (a + 1) n i (by omega)]
    congr 2
    omega
theorem wk_range {F : Hp} {M : List Addr} {a : Int} {n : Nat} {K : PySem.W.Frag} : WkOk K F M (Itr a n) (intsFrom a n) := by
  have w := walk_range (lo := a) (n := n)
  refine ⟨_, _, by rw [intsFrom_len]; exact w, fun _ _ => trivial, fun i H1 v H2 y sm hi => ?_⟩
  rw [intsFrom_len] at hi
  obtain ⟨e1, e2⟩ := y
  exact ⟨_, intsFrom_get a n i hi, .inl ⟨e1, by rw [e2]; exact .int _⟩⟩
theorem it_seq {tg : Expr} (hK : X.K = ct.K) (ha : Snd ct X W x da) : L2.PI X tg x (tIt ct W (itR .seq [da])) := by
  refine PI.imp (pi_seq (ha.bb false)) fun σ H R h => ?_
  obtain ⟨F, M, s, rl, p⟩ := h
  refine ⟨F, M, s, rl, ?_⟩
  have p : Pst ct W (DrI ct.K) σ F H M s R ((((da.b false s).bind fun x s1 => PI.R.bind (.ok [] s1) fun xs s2 => .ok (x :: xs) s2)).bind fun xs s1 => match derefs s1 xs with
    | some ds => liftO (itemsP .seq ds) s1
    | none => .stuck) := p
  rw [Den.b_false] at p ⊢
  cases e : da.v s with
  | stuck => rw [e] at p; exact p
  | exc c fs s' => rw [e] at p; exact p
  | ok a s' =>
    rw [e] at p
    intro v F' H' M' ex rl' d
    have p2 := Pst.at (r := liftO (itemsP .seq [a.pv]) s') ex (fun _ _ _ _ _ z => z) p
    obtain ⟨its, ei, p3⟩ := Pst.lift p2
    have d : Dn ct.K F' M' v a.pv := d
    cases q : a.pv with
    | lst xs =>
      rw [q] at d ei
      cases ei
      cases d with
      | lst h1 h2 => exact .inl ⟨_, rfl, ⟨_, SqL.of (rl'.same _ _ h1)⟩, by rw [hK]; exact Pst.fin rl' p3 (wk_list h1 h2)⟩
    | tup xs =>
      rw [q] at d ei
      cases ei
      cases d with
      | tup h1 h2 => exact .inr ⟨_, rfl, ⟨_, by rw [hK]; exact sqT_mono rl'.same h1⟩, by rw [hK]; exact Pst.fin rl' p3 (wk_tup h1 h2)⟩
    | _ => rw [q] at ei; cases ei
theorem it_rng1 {tg : Expr} {p : Pos} (hg : Gl X "range") (hm : X.mg "range" = none) (ha : Snd ct X W x da) (hs : noStar x = true) : L2.PI X tg (.Call (.Name "range" p) [x] [] pos) (tIt ct W (itR .rng [da])) := by
  refine PI.imp (pi_range1 hg hm (pa_consB (b := false) ha pa_nilB hs) (starEach_cons [] X.env hs)) fun σ H R h => opndsF_rd (fun _ _ _ _ _ _ _ _ z => z) h fun vs F H M s es rl d le p => ?_
  obtain ⟨its, ei, p⟩ := Pst.lift p
  have ei : rngP es = some its := ei
  match es, le, ei, d with
  | [.int j], _, ei, d =>
    have ei : (if -(2 ^ 62) ≤ j ∧ j < 2 ^ 62 then some (intsFrom 0 j.toNat) else none) = some its := ei
    split at ei
    · rename_i hj
      cases ei
      cases d with
      | cons h1 h2 =>
        cases h2
        cases h1
        exact ⟨j, rfl, hj.1, hj.2, Pst.fin rl p wk_range⟩
    · cases ei
theorem it_rng2 {tg : Expr} {p : Pos} (hg : Gl X "range") (hm : X.mg "range" = none) (ha : Snd ct X W x da) (hb : Snd ct X W y db) (hs : noStar x = true) (hs2 : noStar y = true) : L2.PI X tg (.Call (.Name "range" p) [x, y] [] pos) (tIt ct W (itR .rng [da, db])) := by
  refine PI.imp (pi_range2 hg hm (pa_consB (b := false) ha (pa_consB hb pa_nilB hs2) hs) (by rw [starEach_cons _ X.env hs, starEach_cons _ X.env hs2]; rfl) (starEach_cons _ X.env hs2)) fun σ H R h => opndsF_rd (fun _ _ _ _ _ _ _ _ z => z) h fun vs F H M s es rl d le p => ?_
  obtain ⟨its, ei, p⟩ := Pst.lift p
  have ei : rngP es = some its := ei
  match es, le, ei, d with
  | [.int i, .int j], _, ei, d =>
    have ei : (if -(2 ^ 62) ≤ i ∧ i < 2 ^ 62 ∧ -(2 ^ 62) ≤ j ∧ j < 2 ^ 62 then some (intsFrom i (j - i).toNat) else none) = some its := ei
    split at ei
    · rename_i hj
      cases ei
      cases d with
      | cons h1 h2 =>
        cases h2 with
        | cons h3 h4 =>
          cases h4
          cases h1
          cases h3
          exact ⟨i, j, rfl, hj, Pst.fin rl p wk_range⟩
    · cases ei

/-! ### targets -/
mutual
def tsl : T → List Nat
  | .var i => [i]
  | .tup ts => tsls ts
def tsls : List T → List Nat
  | [] => []
  | t :: ts => tsl t ++ tsls ts
end
def gT (ct : Ct) (t : T) : TG := fun v σ H Q => ∃ F M s d l, Rl ct.K F H M σ s ∧ Dn ct.K F M v d ∧ asgT t d s.loc = some l ∧ ∀ σ', Rl ct.K F H M σ' { s with loc := l } → (∀ p, Own σ' l p → Own σ s.loc p) → (∀ j, j ∉ tsl t → σ'[j]? = σ[j]?) → Q σ' H
def gTs (ct : Ct) (ts : List T) : TGs := fun vs σ H Q => ∃ F M s ds l, Rl ct.K F H M σ s ∧ Dns ct.K F M vs ds ∧ asgTs ts ds s.loc = some l ∧ ∀ σ', Rl ct.K F H M σ' { s with loc := l } → (∀ p, Own σ' l p → Own σ s.loc p) → (∀ j, j ∉ tsls ts → σ'[j]? = σ[j]?) → Q σ' H
theorem PG.imp {e : Expr} {t t' : TG} (h : PG X e t) (i : ∀ v σ H Q, t' v σ H Q → t v σ H Q) : PG X e t' := ⟨fun pins s σ H v u Q I r q => h.run pins s σ H v u Q I r (i v σ H Q q)⟩
theorem PGs.imp {e : List Expr} {t t' : TGs} (h : PGs X e t) (i : ∀ v σ H Q, t' v σ H Q → t v σ H Q) : PGs X e t' := ⟨fun pins s σ H v u Q I r q => h.run pins s σ H v u Q I r (i v σ H Q q)⟩
theorem Rl.set {σ : L2.St} {F H : Hp} {M : List Addr} {s : Ps} {v : V} {d : PV} (rl : Rl ct.K F H M σ s) (h : Dn ct.K F M v d) (i : Nat) : Rl ct.K F H M (σ.set i (some v)) { s with loc := s.loc.set i (some (.val d)) } ∧ ∀ p, Own (σ.set i (some v)) (s.loc.set i (some (.val d))) p → Own σ s.loc p := by
  have back : ∀ {j : Nat} {xs : List PV}, (s.loc.set i (some (.val d)))[j]? = some (some (.own xs)) → i ≠ j ∧ s.loc[j]? = some (some (.own xs)) := fun {j xs} a => by
    by_cases hj : i = j
    · subst hj
      by_cases hl : i < s.loc.length
      · rw [List.getElem?_set_self hl] at a; cases a
      · rw [List.getElem?_eq_none (by simpa using hl)] at a; cases a
    · rw [List.getElem?_set_ne hj] at a; exact ⟨hj, a⟩
  refine ⟨⟨rl.same, by simpa using rl.len, fun j o e => ?_, fun j k xs ys p a1 a2 a3 a4 => ?_, rl.sto⟩, fun p ⟨j, xs, a1, a2⟩ => ?_⟩
  · have e : (s.loc.set i (some (.val d)))[j]? = some o := e
    by_cases hj : i = j
    · subst hj
      by_cases hl : i < s.loc.length
      · rw [List.getElem?_set_self hl] at e
        cases e
        exact ⟨v, by rw [List.getElem?_set_self (by rw [← rl.len]; exact hl)], h⟩
      · rw [List.getElem?_eq_none (by simpa using hl)] at e; cases e
    · rw [List.getElem?_set_ne hj] at e
      rw [List.getElem?_set_ne hj]
      exact rl.slot j o e
  · obtain ⟨n1, b1⟩ := back a1
    obtain ⟨n2, b2⟩ := back a2
    rw [List.getElem?_set_ne n1] at a3
    rw [List.getElem?_set_ne n2] at a4
    exact rl.inj j k xs ys p b1 b2 a3 a4
  · obtain ⟨n1, b1⟩ := back a1
    rw [List.getElem?_set_ne n1] at a2
    exact ⟨j, xs, b1, a2⟩
theorem tg_var {i : Nat} (h : PG X x (gName i)) : PG X x (gT ct (.var i)) := PG.imp h fun v σ H Q ⟨F, M, s, d, l, rl, dn, e, k⟩ => by
  cases e
  obtain ⟨a, b⟩ := rl.set dn i
  exact k _ a b fun j hj => List.getElem?_set_ne (fun z => hj (by rw [← z]; simp [tsl]))
def noStarT : Expr → Bool := noStar
theorem assignEach_cons {e : Expr} (es : List Expr) (env : Env) (h : noStar e = true) : assignEach (e :: es) env = (false, assign e env) :: assignEach es env := by
  cases e <;> first | rfl | cases h
theorem assignEach_len {env : Env} : ∀ {es : List Expr}, es.all noStar = true → (assignEach es env).length = es.length ∧ (assignEach es env).findIdx? (·.1) = none
  | [], _ => ⟨rfl, rfl⟩
  | e :: es, h => by
    rw [List.all_cons, Bool.and_eq_true] at h
    obtain ⟨h1, h2⟩ := assignEach_len (env := env) h.2
    rw [assignEach_cons es env h.1]
    refine ⟨by rw [List.length_cons, List.length_cons, h1], ?_⟩
    rw [List.findIdx?_cons]
    simp [h2]
theorem tgs_nil : PGs X [] (gTs ct []) := PGs.imp pgs_nil fun vs σ H Q ⟨F, M, s, ds, l, rl, dn, e, k⟩ => by
  cases dn with
  | nil =>
    cases e
    exact ⟨rfl, k σ rl (fun _ h => h) fun _ _ => rfl⟩
  | cons _ _ => cases e
theorem tgs_cons {es : List Expr} {t : T} {ts : List T} (h1 : PG X x (gT ct t)) (h2 : PGs X es (gTs ct ts)) (hs : noStar x = true) : PGs X (x :: es) (gTs ct (t :: ts)) :=
  PGs.imp (pgs_cons h1 h2 (by rw [assignEach_cons es X.env hs]; rfl)) fun vs σ H Q ⟨F, M, s, ds, l, rl, dn, e, k⟩ => by
    cases dn with
    | nil => cases e
    | @cons v vs d ds d1 d2 =>
      have e : (match asgT t d s.loc with
        | some l' => asgTs ts ds l'
        | none => none) = some l := e
      cases q : asgT t d s.loc with
      | none => rw [q] at e; cases e
      | some l1 =>
        rw [q] at e
        refine ⟨v, vs, rfl, F, M, s, d, l1, rl, d1, q, fun σ' rl' o' g' => ?_⟩
        exact ⟨F, M, { s with loc := l1 }, ds, l, rl', d2, e, fun σ2 rl2 o2 g2 => k σ2 rl2 (fun p z => o' p (o2 p z)) fun j hj => (g2 j fun z => hj (by simp [tsls, z])).trans (g' j fun z => hj (by simp [tsls, z]))⟩
theorem asgTs_len : ∀ {ts : List T} {ds : List PV} {l l' : Loc}, asgTs ts ds l = some l' → ds.length = ts.length
  | [], [], _, _, _ => rfl
  | t :: ts, d :: ds, l, l', e => by
    have e : (match asgT t d l with
      | some l' => asgTs ts ds l'
      | none => none) = some l' := e
    cases q : asgT t d l with
    | none => rw [q] at e; cases e
    | some l1 =>
      rw [q] at e
      rw [List.length_cons, List.length_cons, asgTs_len e]
  | [], _ :: _, _, _, e => by cases e
  | _ :: _, [], _, _, e => by cases e
mutual
theorem asgT_len : ∀ {t : T} {d : PV} {l l' : Loc}, asgT t d l = some l' → l'.length = l.length
  | .var i, d, l, l', e => by
    cases e; rw [List.length_set]
  | .tup ts, .tup ds, l, l', e => asgTs_llen (ts := ts) (ds := ds) e
  | .tup _, .non, _, _, e => by cases e
  | .tup _, .bl _, _, _, e => by cases e
  | .tup _, .int _, _, _, e => by cases e
  | .tup _, .str _, _, _, e => by cases e
  | .tup _, .lst _, _, _, e => by cases e
  | .tup _, .scr _, _, _, e => by cases e
  | .tup _, .ref _, _, _, e => by cases e
  | .tup _, .rcd _ _, _, _, e => by cases e
theorem asgTs_llen : ∀ {ts : List T} {ds : List PV} {l l' : Loc}, asgTs ts ds l = some l' → l'.length = l.length
  | [], [], _, _, e => by cases e; rfl
  | t :: ts, d :: ds, l, l', e => by
    have e : (match asgT t d l with
      | some l' => asgTs ts ds l'
      | none => none) = some l' := e
    cases q : asgT t d l with
    | none => rw [q] at e; cases e
    | some l1 =>
      rw [q] at e
      rw [asgTs_llen e, asgT_len q]
  | [], _ :: _, _, _, e => by cases e
  | _ :: _, [], _, _, e => by cases e
end
theorem tg_tup {es : List Expr} {ts : List T} {k1 : Nat} (hK : X.K = ct.K) (hc : X.calm = true) (h : PGs X es (gTs ct ts)) (hl : es.length = ts.length) (hs : es.all noStar = true) : PG X (.Tuple es k1 pos) (gT ct (.tup ts)) :=
  PG.imp (pg_tup (n := es.length) hc h (assignEach_len hs).1 (assignEach_len hs).2) fun v σ H Q ⟨F, M, s, d, l, rl, dn, e, k⟩ => by
    cases d with
    | tup ds =>
      have e : asgTs ts ds s.loc = some l := e
      cases dn with
      | @tup p vs _ h1 h2 => exact ⟨p, vs, rfl, by rw [hK]; exact sqT_mono rl.same h1, by rw [h2.length, asgTs_len e, hl], F, M, s, ds, l, rl, h2, e, k⟩
    | _ => cases e
end
end PI

set_option Elab.async false
set_option linter.all false
set_option autoImplicit false
set_option maxRecDepth 100000
set_option maxHeartbeats 4000000
namespace PI
open PySem L2
abbrev W0 : WX := fun _ _ _ _ => False
/-! ### the slots of a comprehension's own names -/
theorem wipeL_len (l : Loc) : ∀ vs : List Nat, (wipeL l vs).length = l.length
  | [] => rfl
  | v :: vs => by unfold wipeL; rw [List.length_set, wipeL_len l vs]
theorem wipeL_out {l : Loc} {i : Nat} : ∀ {vs : List Nat}, i ∉ vs → (wipeL l vs)[i]? = l[i]?
  | [], _ => rfl
  | v :: vs, h => by
    unfold wipeL
    rw [List.getElem?_set_ne (fun e => h (by simp [e])), wipeL_out fun z => h (List.mem_cons_of_mem _ z)]
theorem wipeL_in {l : Loc} {i : Nat} {o : Option SV} : ∀ {vs : List Nat}, i ∈ vs → (wipeL l vs)[i]? = some o → o = none
  | [], h, _ => by cases h
  | v :: vs, h, e => by
    unfold wipeL at e
    by_cases hv : v = i
    · subst hv
      by_cases hl : v < (wipeL l vs).length
      · rw [List.getElem?_set_self hl] at e; cases e; rfl
      · rw [List.getElem?_eq_none (by simpa using hl)] at e; cases e
    · rw [List.getElem?_set_ne hv] at e
      rcases List.mem_cons.mp h with z | z
      · exact absurd z.symm hv
      · exact wipeL_in z e
theorem backL_len (l0 l : Loc) : ∀ vs : List Nat, (backL l0 l vs).length = l.length
  | [] => rfl
  | v :: vs => by unfold backL; rw [List.length_set, backL_len l0 l vs]
theorem backL_out {l0 l : Loc} {i : Nat} : ∀ {vs : List Nat}, i ∉ vs → (backL l0 l vs)[i]? = l[i]?
  | [], _ => rfl
  | v :: vs, h => by
    unfold backL
    rw [List.getElem?_set_ne (fun e => h (by simp [e])), backL_out fun z => h (List.mem_cons_of_mem _ z)]
theorem backL_in {l0 l : Loc} {i : Nat} {o : Option SV} : ∀ {vs : List Nat}, i ∈ vs → (backL l0 l vs)[i]? = some o → o = l0[i]?.getD none
  | [], h, _ => by cases h
  | v :: vs, h, e => by
    unfold backL at e
    by_cases hv : v = i
    · subst hv
      by_cases hl : v < (backL l0 l vs).length
      · rw [List.getElem?_set_self hl] at e; cases e; rfl
      · rw [List.getElem?_eq_none (by simpa using hl)] at e; cases e
    · rw [List.getElem?_set_ne hv] at e
      rcases List.mem_cons.mp h with z | z
      · exact absurd z.symm hv
      · exact backL_in z e
theorem wipe_in {σ : L2.St} {i : Nat} : ∀ {vs : List Nat}, i ∈ vs → (wipe σ vs)[i]? = σ[i]?.map fun _ => none
  | [], h => by cases h
  | v :: vs, h => by
    unfold wipe
    by_cases hv : v = i
    · subst hv
      by_cases hl : v < σ.length
      · rw [List.getElem?_set_self (by rw [wipe_length]; exact hl)]
        simp [hl]
      · rw [List.getElem?_eq_none (by rw [List.length_set, wipe_length]; omega), List.getElem?_eq_none (by omega)]
        rfl
    · rw [List.getElem?_set_ne hv]
      rcases List.mem_cons.mp h with z | z
      · exact absurd z.symm hv
      · exact wipe_in z
theorem wipe_congr {σ σ' : L2.St} {vs : List Nat} (h : ∀ j, j ∉ vs → σ'[j]? = σ[j]?) (hl : σ'.length = σ.length) : wipe σ' vs = wipe σ vs := by
  apply List.ext_getElem?
  intro j
  by_cases hj : j ∈ vs
  · rw [wipe_in hj, wipe_in hj]
    by_cases hk : j < σ.length
    · have hk' : j < σ'.length := by rw [hl]; exact hk
      simp [hk, hk']
    · rw [List.getElem?_eq_none (by omega), List.getElem?_eq_none (by omega)]
  · rw [wipe_out hj, wipe_out hj, h j hj]
theorem wipe_wipe (σ : L2.St) (vs : List Nat) : wipe (wipe σ vs) vs = wipe σ vs := by
  apply List.ext_getElem?
  intro j
  by_cases hj : j ∈ vs
  · rw [wipe_in hj, wipe_in hj]
    cases σ[j]? <;> rfl
  · rw [wipe_out hj]
section
variable {ct : Ct} {X : Cx} {W : WX} {x y z : Expr} {pos : Pos} {da db dc : Den}
variable {σ σ' : L2.St} {F F' H H' : Hp} {M M' : List Addr} {s s' : Ps}
theorem own_wipe {vs : List Nat} {l : Loc} {p : Addr} (h : Own (wipe σ vs) (wipeL l vs) p) : ∃ (i : Nat) (xs : List PV), i ∉ vs ∧ l[i]? = some (some (.own xs)) ∧ σ[i]? = some (some (.ref p)) := by
  obtain ⟨i, xs, h1, h2⟩ := h
  by_cases hi : i ∈ vs
  · cases wipeL_in hi h1
  · rw [wipeL_out hi] at h1
    rw [wipe_out hi] at h2
    exact ⟨i, xs, hi, h1, h2⟩
theorem Rl.wipe (rl : Rl ct.K F H M σ s) (vs : List Nat) : Rl ct.K F H M (L2.wipe σ vs) { s with loc := wipeL s.loc vs } := by
  refine ⟨rl.same, by rw [wipeL_len, wipe_length]; exact rl.len, fun i o e => ?_, fun i j xs ys p a1 a2 a3 a4 => ?_, rl.sto⟩
  · by_cases hi : i ∈ vs
    · rw [wipeL_in hi e]; trivial
    · have e : (wipeL s.loc vs)[i]? = some o := e
      rw [wipeL_out hi] at e
      rw [wipe_out hi]
      exact rl.slot i o e
  · have hi : i ∉ vs := fun z => by cases wipeL_in z a1
    have hj : j ∉ vs := fun z => by cases wipeL_in z a2
    have a1 : (wipeL s.loc vs)[i]? = some (some (.own xs)) := a1
    have a2 : (wipeL s.loc vs)[j]? = some (some (.own ys)) := a2
    rw [wipeL_out hi] at a1
    rw [wipeL_out hj] at a2
    rw [wipe_out hi] at a3
    rw [wipe_out hj] at a4
    exact rl.inj i j xs ys p a1 a2 a3 a4
/-- an object that no name and no value knows is changed -/
theorem Rl.mutH (rl : Rl ct.K F H M σ s) {p : Addr} {o : HO} (hf : F p = none) (hm : p ∉ M) (ho : ¬ Own σ s.loc p) : Rl ct.K F (upd H p o) M σ s := by
  refine ⟨same_mut rl.same hf, rl.len, fun i o' e => ?_, rl.inj, ⟨rl.sto.len, rl.sto.nd, fun k so a e1 e2 => ?_⟩⟩
  · have q := rl.slot i o' e
    cases o' with
    | none => trivial
    | some sv =>
      cases sv with
      | val d => exact q
      | own xs =>
        obtain ⟨q, vs, e1, e2, e3, e4, e5⟩ := q
        have ne : q ≠ p := fun z => ho ⟨i, xs, e, by rw [e1, z]⟩
        exact ⟨q, vs, e1, e2, by rw [upd_ne ne]; exact e3, e4, e5⟩
  · have z := rl.sto.ok k so a e1 e2
    have ne : a ≠ p := fun z => hm (by rw [← z]; exact List.mem_of_getElem? e2)
    exact z.mono (Same.refl _) (List.prefix_refl _) z.some.1 (by rw [upd_ne ne])
/-- a state that came of the base, the new list at D apart -/
structure CInv (ct : Ct) (σw : L2.St) (O : Addr → Prop) (F1 H1 : Hp) (M1 : List Addr) (D : Addr) (F H : Hp) (M : List Addr) (s : Ps) (acc : List PV) : Prop where
  rl : Rl ct.K F H M σw s
  fs : Same F1 F
  keep : ∀ p o, H1 p = some o → p ∉ M1 → ¬ O p → H p = some o
  dom : ∀ p o, H1 p = some o → ∃ o', H p = some o'
  newF : ∀ p o, F p = some o → F1 p = some o ∨ H1 p = none ∨ O p
  pre : M1 <+: M
  newM : ∀ a, a ∈ M → a ∈ M1 ∨ H1 a = none
  shr : ∀ p, Own σw s.loc p → O p
  nD : H1 D = none
  fD : F D = none
  mD : D ∉ M
  hD : ∃ ws, H D = some (.lst ws) ∧ Dns ct.K F M ws acc
theorem CInv.nO {σw : L2.St} {O : Addr → Prop} {F1 H1 : Hp} {M1 : List Addr} {D : Addr} {acc : List PV} (hO : ∀ p, O p → H1 p ≠ none) (c : CInv ct σw O F1 H1 M1 D F H M s acc) : ¬ Own σw s.loc D := fun z => hO D (c.shr D z) c.nD
/-- a further step that leaves D's list -/
theorem CInv.step {σw : L2.St} {O : Addr → Prop} {F1 H1 F2 H2 : Hp} {M1 M2 : List Addr} {D : Addr} {acc : List PV} {s2 : Ps} {σ2 : L2.St} (hO : ∀ p, O p → H1 p ≠ none) (c : CInv ct σw O F1 H1 M1 D F H M s acc)
    (e : Ext (Own σw s.loc) F H M F2 H2 M2 (Own σ2 s2.loc)) (sh : ∀ p, Own σ2 s2.loc p → Own σw s.loc p) (rl2 : Rl ct.K F2 H2 M2 σ2 s2) : CInv ct σ2 O F1 H1 M1 D F2 H2 M2 s2 acc := by
  obtain ⟨ws, w1, w2⟩ := c.hD
  have nO := c.nO hO
  refine ⟨rl2, c.fs.trans e.fs, fun p o h1 h2 h3 => e.keep p o (c.keep p o h1 h2 h3) (fun z => (c.newM p z).elim h2 fun q => by rw [h1] at q; cases q) fun z => h3 (c.shr p z), fun p o h => ?_, fun p o h => ?_, c.pre.trans e.pre, fun a h => ?_,
    fun p h => c.shr p (sh p h), c.nD, ?_, ?_, ws, e.keep D _ w1 c.mD nO, w2.mono e.fs e.pre⟩
  · obtain ⟨o', h'⟩ := c.dom p o h
    exact e.dom p o' h'
  · rcases e.newF p o h with h | h | h
    · exact c.newF p o h
    · refine .inr (.inl ?_)
      cases q : H1 p with
      | none => rfl
      | some o =>
        obtain ⟨o', h'⟩ := c.dom p o q
        rw [h] at h'; cases h'
    · exact .inr (.inr (c.shr p h))
  · rcases e.newM a h with h | h
    · exact c.newM a h
    · refine .inr ?_
      cases q : H1 a with
      | none => rfl
      | some o =>
        obtain ⟨o', h'⟩ := c.dom a o q
        rw [h] at h'; cases h'
  · cases q : F2 D with
    | none => rfl
    | some o =>
      rcases e.newF D o q with h | h | h
      · rw [c.fD] at h; cases h
      · rw [w1] at h; cases h
      · exact (nO h).elim
  · intro z
    rcases e.newM D z with h | h
    · exact c.mD h
    · rw [w1] at h; cases h
/-- D's list grows -/
theorem CInv.grow {σw : L2.St} {O : Addr → Prop} {F1 H1 : Hp} {M1 : List Addr} {D : Addr} {acc : List PV} {ws : List V} {v : V} {d : PV} (hO : ∀ p, O p → H1 p ≠ none) (c : CInv ct σw O F1 H1 M1 D F H M s acc) (hw : H D = some (.lst ws)) (hd : Dn ct.K F M v d) :
    CInv ct σw O F1 H1 M1 D F (upd H D (.lst (ws ++ [v]))) M s (acc ++ [d]) := by
  obtain ⟨ws', w1, w2⟩ := c.hD
  rw [hw] at w1
  cases w1
  have neD : ∀ p o, H1 p = some o → p ≠ D := fun p o h z => by rw [z, c.nD] at h; cases h
  exact ⟨c.rl.mutH c.fD c.mD (c.nO hO), c.fs, fun p o h1 h2 h3 => by rw [upd_ne (neD p o h1)]; exact c.keep p o h1 h2 h3, fun p o h => by rw [upd_ne (neD p o h)]; exact c.dom p o h, c.newF, c.pre, c.newM, c.shr, c.nD, c.fD, c.mD, _, upd_same, w2.append (.cons hd .nil)⟩
/-- the block is left -/
theorem CInv.back {F1 H1 : Hp} {M1 : List Addr} {D : Addr} {acc : List PV} {s1 : Ps} {vs : List Nat} (rl1 : Rl ct.K F1 H1 M1 σ s1) (c : CInv ct (L2.wipe σ vs) (Own (L2.wipe σ vs) (wipeL s1.loc vs)) F1 H1 M1 D F H M s acc) :
    ExtE (Own σ s1.loc) F1 H1 M1 F H M (Own σ (backL s1.loc s.loc vs)) ∧ Rl ct.K F H M σ { s with loc := backL s1.loc s.loc vs } := by
  have sub : ∀ p, Own (L2.wipe σ vs) (wipeL s1.loc vs) p → Own σ s1.loc p := fun p h => by
    obtain ⟨i, xs, _, h1, h2⟩ := own_wipe h
    exact ⟨i, xs, h1, h2⟩
  have key : ∀ {j : Nat} {o : Option SV}, (backL s1.loc s.loc vs)[j]? = some o → (j ∈ vs ∧ (o = none ∨ s1.loc[j]? = some o)) ∨ (j ∉ vs ∧ s.loc[j]? = some o) := fun {j o} e => by
    by_cases hj : j ∈ vs
    · refine .inl ⟨hj, ?_⟩
      have q := backL_in hj e
      cases z : s1.loc[j]? with
      | none => rw [z] at q; exact .inl q
      | some o' => rw [z] at q; exact .inr (by rw [q]; rfl)
    · rw [backL_out hj] at e; exact .inr ⟨hj, e⟩
  have shr : ∀ p, Own σ (backL s1.loc s.loc vs) p → Own σ s1.loc p := fun p ⟨j, xs, h1, h2⟩ => by
    rcases key h1 with ⟨hj, q | q⟩ | ⟨hj, q⟩
    · cases q
    · exact ⟨j, xs, q, h2⟩
    · exact sub p (c.shr p ⟨j, xs, q, by rw [wipe_out hj]; exact h2⟩)
  -- a list that a covered name alone holds
  have cov : ∀ {j : Nat} {xs : List PV} {p : Addr}, j ∈ vs → s1.loc[j]? = some (some (.own xs)) → σ[j]? = some (some (.ref p)) → ¬ Own (L2.wipe σ vs) (wipeL s1.loc vs) p := fun {j xs p} hj h1 h2 z => by
    obtain ⟨i, ys, hi, a1, a2⟩ := own_wipe z
    exact hi (by rw [rl1.inj i j ys xs p a1 h1 a2 h2]; exact hj)
  refine ⟨⟨⟨c.fs, fun p o h1 h2 h3 => c.keep p o h1 h2 fun z => h3 (sub p z), c.dom, fun p o h => (c.newF p o h).imp_right fun q => q.imp_right (sub p), c.pre, c.newM, fun p h => .inl (shr p h)⟩, shr⟩, ⟨c.rl.same, ?_, fun j o e => ?_, fun j k xs ys p a1 a2 a3 a4 => ?_, c.rl.sto⟩⟩
  · rw [backL_len]
    have := c.rl.len
    rw [wipe_length] at this
    exact this
  · rcases key e with ⟨hj, q | q⟩ | ⟨hj, q⟩
    · rw [q]; trivial
    · have z := rl1.slot j o q
      cases o with
      | none => trivial
      | some sv =>
        cases sv with
        | val d =>
          obtain ⟨w, w1, w2⟩ := z
          exact ⟨w, w1, w2.mono c.fs c.pre⟩
        | own xs =>
          obtain ⟨p, us, w1, w2, w3, w4, w5⟩ := z
          have nc := cov hj q w1
          refine ⟨p, us, w1, ?_, c.keep p _ w3 w5 nc, w4.mono c.fs c.pre, fun z => ?_⟩
          · cases z : F p with
            | none => rfl
            | some o =>
              rcases c.newF p o z with h | h | h
              · rw [w2] at h; cases h
              · rw [w3] at h; cases h
              · exact (nc h).elim
          · rcases c.newM p z with h | h
            · exact w5 h
            · rw [w3] at h; cases h
    · have z := c.rl.slot j o q
      rw [wipe_out hj] at z
      exact z
  · have a1 : (backL s1.loc s.loc vs)[j]? = some (some (.own xs)) := a1
    have a2 : (backL s1.loc s.loc vs)[k]? = some (some (.own ys)) := a2
    rcases key a1 with ⟨hj, q | q⟩ | ⟨hj, q⟩
    · cases q
    · rcases key a2 with ⟨hk, r | r⟩ | ⟨hk, r⟩
      · cases r
      · exact rl1.inj j k xs ys p q r a3 a4
      · exact (cov hj q a3 (c.shr p ⟨k, ys, r, by rw [wipe_out hk]; exact a4⟩)).elim
    · rcases key a2 with ⟨hk, r | r⟩ | ⟨hk, r⟩
      · cases r
      · exact (cov hk r a4 (c.shr p ⟨j, xs, q, by rw [wipe_out hj]; exact a3⟩)).elim
      · exact c.rl.inj j k xs ys p q r (by rw [wipe_out hj]; exact a3) (by rw [wipe_out hk]; exact a4)
end
end PI

set_option Elab.async false
set_option linter.all false
set_option autoImplicit false
set_option maxRecDepth 100000
set_option maxHeartbeats 4000000
namespace PI
open PySem L2
section
variable {ct : Ct} {X : Cx} {W : WX} {x y z : Expr} {pos : Pos} {da db dc : Den}
variable {σ σ' : L2.St} {F F' H H' : Hp} {M M' : List Addr} {s s' : Ps}
theorem compBody_ok {vs : List Nat} {delt : Den} {t : T} {difs : List Den} {d : PV} {s2 s6 : Ps} {o : Option PV} (e : compBody vs delt t difs d s2 = .ok o s6) :
    ∃ l b s3, asgT t d s2.loc = some l ∧ tstsR difs { s2 with loc := l } = .ok b s3 ∧
      ((b = true ∧ ∃ y s4, delt.v s3 = .ok y s4 ∧ o = some y.pv ∧ s6 = { s4 with loc := wipeL s4.loc vs }) ∨ (b = false ∧ o = none ∧ s6 = { s3 with loc := wipeL s3.loc vs })) := by
  unfold compBody at e
  cases q : asgT t d s2.loc with
  | none => rw [q] at e; cases e
  | some l =>
    rw [q] at e
    have e : ((tstsR difs { s2 with loc := l }).bind fun b s3 =>
      if b then (delt.v s3).bind fun y s4 => .ok (some y.pv) { s4 with loc := wipeL s4.loc vs }
      else .ok none { s3 with loc := wipeL s3.loc vs }) = .ok o s6 := e
    cases q2 : tstsR difs { s2 with loc := l } with
    | stuck => rw [q2] at e; cases e
    | exc c fs s' => rw [q2] at e; cases e
    | ok b s3 =>
      rw [q2] at e
      refine ⟨l, b, s3, rfl, q2, ?_⟩
      cases b with
      | false =>
        have e : (R.ok none { s3 with loc := wipeL s3.loc vs } : R (Option PV)) = .ok o s6 := e
        cases e
        exact .inr ⟨rfl, rfl, rfl⟩
      | true =>
        have e : ((delt.v s3).bind fun y s4 => (.ok (some y.pv) { s4 with loc := wipeL s4.loc vs } : R (Option PV))) = .ok o s6 := e
        cases q3 : delt.v s3 with
        | stuck => rw [q3] at e; cases e
        | exc c fs s' => rw [q3] at e; cases e
        | ok y s4 =>
          rw [q3] at e
          cases e
          exact .inl ⟨rfl, y, s4, rfl, rfl, rfl⟩
theorem compLoop_cons {body : PV → Ps → R (Option PV)} {d : PV} {ds acc a : List PV} {s s5 : Ps} (e : compLoop body (d :: ds) acc s = .ok a s5) :
    ∃ o s6, body d s = .ok o s6 ∧ ((∃ y, o = some y ∧ acc.length < lim ∧ compLoop body ds (acc ++ [y]) s6 = .ok a s5) ∨ (o = none ∧ compLoop body ds acc s6 = .ok a s5)) := by
  have e : ((body d s).bind fun o s1 => match o with
    | some y => if acc.length < lim then compLoop body ds (acc ++ [y]) s1 else .stuck
    | none => compLoop body ds acc s1) = .ok a s5 := e
  cases q : body d s with
  | stuck => rw [q] at e; cases e
  | exc c fs s' => rw [q] at e; cases e
  | ok o s6 =>
    rw [q] at e
    refine ⟨o, s6, rfl, ?_⟩
    cases o with
    | none => exact .inr ⟨rfl, e⟩
    | some y =>
      have e : (if acc.length < lim then compLoop body ds (acc ++ [y]) s6 else .stuck) = .ok a s5 := e
      split at e
      · rename_i h
        exact .inl ⟨y, rfl, h, e⟩
      · cases e

theorem comp_rd {Q : VK} {vs : List Nat} {delt : Den} {t : T} {difs : List Den} {f : Ps → R (List PV)} (hts : ∀ j ∈ tsl t, j ∈ vs)
    (h : tV ct W (fun s => (f s).bind fun its s1 => compR vs delt t difs its s1) σ H Q) :
    tLc (tIt ct W f) (gT ct t) (tTs ct W0 (tstsR difs)) (tV ct W0 delt.v) vs σ H Q := by
  obtain ⟨F, M, s, rl, p⟩ := h
  refine ⟨F, M, s, rl, ?_⟩
  have p : Pst ct W (DrV ct.K) σ F H M s Q ((f s).bind fun its s1 => compR vs delt t difs its s1) := p
  have p1 := Pst.bind (f := f s) (Dr' := DrI ct.K) (hdV ct.K H) p
  cases e : f s with
  | stuck => rw [e] at p1; exact p1
  | exc c fs s' => rw [e] at p1; exact p1
  | ok a s' =>
    rw [e] at p1
    intro J F' H1 M' ex rl' wk D hD
    obtain ⟨its, s1, F1, M1, ex1, rl1, wk, p2⟩ := p1 J F' H1 M' ex rl' wk
    unfold compR at p2
    cases e2 : compLoop (compBody vs delt t difs) its [] { s1 with loc := wipeL s1.loc vs } with
    | stuck => rw [e2] at p2; exact p2.elim
    | exc c fs s' => rw [e2] at p2; exact p2.elim
    | ok acc s5 =>
      rw [e2] at p2
      obtain ⟨G, Y, wlk, hG, hY⟩ := wk
      have hO : ∀ p, Own (wipe σ vs) (wipeL s1.loc vs) p → H1 p ≠ none := fun p z q => by
        obtain ⟨i, xs, _, h1, h2⟩ := own_wipe z
        obtain ⟨⟨ws, hw⟩, _⟩ := rl1.own_some ⟨i, xs, h1, h2⟩
        rw [hw] at q; cases q
      refine lc_it wlk (fun i H => ∃ F2 M2 s2 acc2, CInv ct (wipe σ vs) (Own (wipe σ vs) (wipeL s1.loc vs)) F1 H1 M1 D F2 H M2 s2 acc2 ∧ compLoop (compBody vs delt t difs) (its.drop i) acc2 s2 = .ok acc s5) ?_ ?_ ?_ ?_
      · refine ⟨F1, M1, { s1 with loc := wipeL s1.loc vs }, [], ⟨(rl1.wipe vs).newH hD, Same.refl _, fun p o h _ _ => ?_, fun p o h => ⟨o, ?_⟩, fun _ _ h => .inl h, List.prefix_refl _, fun _ h => .inl h, fun _ h => h, hD, rl1.same.free hD, rl1.notM hD, [], upd_same, .nil⟩, e2⟩
        · rw [upd_ne (ne_of_none h hD)]; exact h
        · rw [upd_ne (ne_of_none h hD)]; exact h
      · rintro i H _ ⟨F2, M2, s2, acc2, c, _⟩
        exact hG H (fun b o z => c.rl.same b o (c.fs b o z))
      · rintro i v H H' hi ⟨F2, M2, s2, acc2, c, el⟩ hy
        obtain ⟨d, hd, hv⟩ := hY i H v H' hy (fun b o z => c.rl.same b o (c.fs b o z)) hi
        have hdrop : its.drop i = d :: its.drop (i + 1) := by
          have := List.getElem?_eq_some_iff.mp hd
          obtain ⟨h1, h2⟩ := this
          rw [← h2]
          exact List.drop_eq_getElem_cons h1
        rw [hdrop] at el
        obtain ⟨o, s6, eb, el⟩ := compLoop_cons el
        obtain ⟨l, b, s3, ea, et, eb⟩ := compBody_ok eb
        -- the item
        obtain ⟨F3, c3, dn3⟩ : ∃ F3, CInv ct (wipe σ vs) (Own (wipe σ vs) (wipeL s1.loc vs)) F1 H1 M1 D F3 H' M2 s2 acc2 ∧ Dn ct.K F3 M2 v d := by
          rcases hv with ⟨rfl, dn⟩ | ⟨q, ob, rfl, hq, rfl, dn⟩
          · exact ⟨F2, c, dn.mono c.fs c.pre⟩
          · exact ⟨upd F2 q ob, c.step hO (Ext.new c.rl hq) (fun _ z => z) (c.rl.new hq), dn F2 M2 c.fs c.pre (c.rl.same.free hq)⟩
        refine ⟨F3, M2, s2, d, l, c3.rl, dn3, ea, fun σ2 rl2 o2 g2 => ?_⟩
        have hlen : σ2.length = (wipe σ vs).length := by
          have a1 := rl2.len
          have a2 := c3.rl.len
          have a3 : l.length = s2.loc.length := ?_
          · have a1 : l.length = σ2.length := a1
            omega
          · exact asgT_len ea
        have ew : wipe σ2 vs = wipe σ vs := by
          rw [wipe_congr (σ := wipe σ vs) (fun j hj => g2 j fun z => hj (hts j z)) hlen, wipe_wipe]
        refine ⟨ew, ?_⟩
        have c4 : CInv ct σ2 (Own (wipe σ vs) (wipeL s1.loc vs)) F1 H1 M1 D F3 H' M2 { s2 with loc := l } acc2 := c3.step hO ⟨Same.refl _, fun _ _ h _ _ => h, fun _ o h => ⟨o, h⟩, fun _ _ h => .inl h, List.prefix_refl _, fun _ h => .inl h, fun p h => .inl (o2 p h)⟩ o2 rl2
        refine ⟨F3, M2, { s2 with loc := l }, rl2, ?_⟩
        rw [et]
        intro b' F4 H4 M4 ex4 rl4 eb'
        have eb' : b' = b := eb'
        subst eb'
        have c5 := c4.step hO ex4.x ex4.shr rl4
        rcases eb with ⟨rfl, y, s4, ey, rfl, rfl⟩ | ⟨rfl, rfl, rfl⟩
        · rw [if_pos rfl]
          refine ⟨F4, M4, s3, rl4, ?_⟩
          rw [ey]
          intro w F5 H5 M5 ex5 rl5 dw
          obtain ⟨F6, ex6, rl6, dn6⟩ := fz_ext rl4 ex5 rl5 dw
          have c6 := c5.step hO ex6.x ex6.shr rl6
          obtain ⟨ws, hw, hws⟩ := c6.hD
          rcases el with ⟨y', ey', hl, el⟩ | ⟨ey', _⟩
          · cases ey'
            refine ⟨ws, hw, by rw [lim_eq, hws.length]; exact hl, ?_⟩
            have c7 := c6.grow hO hw dn6
            have rl8 := c7.rl.wipe vs
            rw [ew] at rl8
            refine ⟨F6, M5, { s4 with loc := wipeL s4.loc vs }, acc2 ++ [y.pv], c7.step hO (s2 := { s4 with loc := wipeL s4.loc vs }) ⟨Same.refl _, fun _ _ h _ _ => h, fun _ o h => ⟨o, h⟩, fun _ _ h => .inl h, List.prefix_refl _, fun _ h => .inl h, fun p h => .inl ?_⟩ (fun p h => ?_) rl8, el⟩
            · rw [← ew] at h
              obtain ⟨i, xs, _, h1, h2⟩ := own_wipe h
              exact ⟨i, xs, h1, h2⟩
            · rw [← ew] at h
              obtain ⟨i, xs, _, h1, h2⟩ := own_wipe h
              exact ⟨i, xs, h1, h2⟩
          · cases ey'
        · rw [if_neg (by decide)]
          rcases el with ⟨y', ey', _⟩ | ⟨_, el⟩
          · cases ey'
          · have rl8 := c5.rl.wipe vs
            rw [ew] at rl8
            refine ⟨F4, M4, { s3 with loc := wipeL s3.loc vs }, acc2, c5.step hO (s2 := { s3 with loc := wipeL s3.loc vs }) ⟨Same.refl _, fun _ _ h _ _ => h, fun _ o h => ⟨o, h⟩, fun _ _ h => .inl h, List.prefix_refl _, fun _ h => .inl h, fun p h => .inl ?_⟩ (fun p h => ?_) rl8, el⟩
            · rw [← ew] at h
              obtain ⟨i, xs, _, h1, h2⟩ := own_wipe h
              exact ⟨i, xs, h1, h2⟩
            · rw [← ew] at h
              obtain ⟨i, xs, _, h1, h2⟩ := own_wipe h
              exact ⟨i, xs, h1, h2⟩
      · rintro H ⟨F2, M2, s2, acc2, c, el⟩
        rw [List.drop_length] at el
        have el : (R.ok acc2 s2 : R (List PV)) = .ok acc s5 := el
        cases el
        obtain ⟨ex5, rl5⟩ := c.back rl1
        obtain ⟨ws, hw, hws⟩ := c.hD
        exact p2 _ F2 H M2 ex5 rl5 ⟨D, ws, rfl, c.fD, hw, hws, c.mD, c.nD⟩
end
end PI

set_option Elab.async false
set_option linter.all false
set_option autoImplicit false
set_option maxRecDepth 100000
set_option maxHeartbeats 4000000
namespace PI
open PySem L2
section
variable {ct : Ct} {X : Cx} {W : WX} {x y z : Expr} {pos : Pos} {da db dc : Den}
theorem dComp_eq (vs : List Nat) (delt : Den) (t : T) (k : IK) (src difs : List Den) (s : Ps) : (dComp vs delt t k src difs).v s = (itR k src s).bind fun its s1 => compR vs delt t difs its s1 := by
  show (opnds false src (fun ds s1 => match itemsP k ds with
      | some its => compR vs delt t difs its s1
      | none => .stuck) s) = ((opnds false src fun ds s => liftO (itemsP k ds) s) s).bind _
  unfold opnds
  cases Den.bs false src s with
  | stuck => rfl
  | exc c fs s' => rfl
  | ok a s' =>
    show (match derefs s' a with
      | some ds => (match itemsP k ds with
        | some its => compR vs delt t difs its s'
        | none => .stuck)
      | none => .stuck) = (match derefs s' a with
      | some ds => liftO (itemsP k ds) s'
      | none => .stuck).bind _
    cases derefs s' a with
    | none => rfl
    | some ds =>
      show (match itemsP k ds with
        | some its => compR vs delt t difs its s'
        | none => .stuck) = (liftO (itemsP k ds) s').bind _
      cases itemsP k ds <;> rfl
/-- the parts of a comprehension -/
structure CompP (ct : Ct) (X : Cx) (W : WX) (elt tg iter : Expr) (ifs : List Expr) (scope : Scope) (own : List (Str × Nat)) (delt : Den) (t : T) (k : IK) (src difs : List Den) : Prop where
  hi : L2.PI X tg iter (tIt ct W (itR k src))
  ok : BlkOk X.N X.env.scope scope own
  hg : ∀ (s : Shared) (H : Hp) (C : Addr) (cl : List (Str × Addr)) (fp : List Addr), PG (X.blk s H scope (compEnvC scope cl C X.env) fp) tg (gT ct t)
  ht : ∀ (s : Shared) (H : Hp) (C : Addr) (cl : List (Str × Addr)) (fp : List Addr), PTs (X.blk s H scope (compEnvC scope cl C X.env) fp) ifs (tTs ct W0 (tstsR difs))
  he : ∀ (s : Shared) (H : Hp) (C : Addr) (cl : List (Str × Addr)) (fp : List Addr), PE (X.blk s H scope (compEnvC scope cl C X.env) fp) elt (tV ct W0 delt.v)
  hs : ∀ v, foldedSetIterable iter X.env v = pure v
  ts : ∀ j ∈ tsl t, j ∈ own.map (·.2)
theorem pts_nilR : PTs X [] (tTs ct W (tstsR [])) := ⟨fun pins s σ H Q I h => pts_nil.run pins s σ H Q I (by
  obtain ⟨F, M, s, rl, p⟩ := h
  exact Pst.fin rl p rfl)⟩
theorem pts_oneR (h : PT X x (tTs ct W da.t)) : PTs X [x] (tTs ct W (tstsR [da])) := pts_one h
theorem snd_comp {elt tg iter : Expr} {ifs : List Expr} {scope : Scope} {own : List (Str × Nat)} {delt : Den} {t : T} {k : IK} {src difs : List Den} (hK : X.K = ct.K) (hc : X.calm = true) (hN : X.N.Nodup) (c : CompP ct X W elt tg iter ifs scope own delt t k src difs) :
    Snd ct X W (.ListComp elt [⟨tg, iter, ifs, 0⟩] scope pos) (dComp (own.map (·.2)) delt t k src difs) :=
  Snd.ofV hK (PE.imp (pe_lc hc hN c.hi c.ok c.hg c.ht c.he c.hs) fun σ H Q h => comp_rd c.ts (by
    obtain ⟨F, M, s, rl, p⟩ := h
    exact ⟨F, M, s, rl, by show Pst ct W (DrV ct.K) σ F H M s Q ((itR k src s).bind fun its s1 => compR (own.map (·.2)) delt t difs its s1); rw [← dComp_eq]; exact p⟩)) fun _ => rfl

/-! ### statements -/
/-- what is handed back: a value, or a list that nobody else holds -/
def DnT (K : PySem.W.Frag) (F H : Hp) (M : List Addr) (H0 : Hp) (O : Addr → Prop) (v : V) : SV → Prop
  | .val d => Dn K F M v d
  | .own xs => ∃ p vs, v = .ref p ∧ F p = none ∧ H p = some (.lst vs) ∧ Dns K F M vs xs ∧ p ∉ M ∧ (H0 p = none ∨ O p)
def PstS (ct : Ct) (W : WX) (D : Ends) (σ : L2.St) (F H : Hp) (M : List Addr) (s : Ps) : R Fl → Prop
  | .ok .next s' => ∀ σ' F' H' M', Ext (Own σ s.loc) F H M F' H' M' (Own σ' s'.loc) → Rl ct.K F' H' M' σ' s' → D.nx σ' H'
  | .ok .brk s' => ∀ σ' F' H' M', Ext (Own σ s.loc) F H M F' H' M' (Own σ' s'.loc) → Rl ct.K F' H' M' σ' s' → D.bk σ' H'
  | .ok .cont s' => ∀ σ' F' H' M', Ext (Own σ s.loc) F H M F' H' M' (Own σ' s'.loc) → Rl ct.K F' H' M' σ' s' → D.ct σ' H'
  | .ok (.ret r) s' => ∀ v F' H' M', Ext (Own σ s.loc) F H M F' H' M' O0 → Same F' H' → Stos ct.K F' H' M' s'.sto → DnT ct.K F' H' M' H (Own σ s.loc) v r → D.rt v H'
  | .exc c fs s' => ∀ cls d σ' F' H' M', Ext (Own σ s.loc) F H M F' H' M' (Own σ' s'.loc) → Rl ct.K F' H' M' σ' s' → ct.xr c fs F' H' M' cls d → W cls d σ' H'
  | .stuck => False
def tEx (ct : Ct) (W : WX) (f : DS) : TS := fun D σ H => ∃ F M s, Rl ct.K F H M σ s ∧ PstS ct W D σ F H M s (f s)
theorem PS.imp {st : Stmt} {t t' : TS} (h : PS X st t) (i : ∀ D σ H, t' D σ H → t D σ H) : PS X st t' := ⟨fun pins s σ H D I q => h.run pins s σ H D I (i D σ H q)⟩
theorem PSs.imp {st : List Stmt} {t t' : TS} (h : PSs X st t) (i : ∀ D σ H, t' D σ H → t D σ H) : PSs X st t' := ⟨fun pins s σ H D I q => h.run pins s σ H D I (i D σ H q)⟩
variable {σ σ1 : L2.St} {F F1 H H1 : Hp} {M M1 : List Addr} {s s1 : Ps} {D : Ends}
theorem PstS.at {r : R Fl} (e : Ext (Own σ s.loc) F H M F1 H1 M1 (Own σ1 s1.loc)) (p : PstS ct W D σ F H M s r) : PstS ct W D σ1 F1 H1 M1 s1 r := by
  cases r with
  | stuck => exact p
  | exc c fs s' => exact fun cls d σ' F' H' M' x rl q => p cls d σ' F' H' M' (e.trans x) rl q
  | ok fl s' =>
    cases fl with
    | next => exact fun σ' F' H' M' x rl => p σ' F' H' M' (e.trans x) rl
    | brk => exact fun σ' F' H' M' x rl => p σ' F' H' M' (e.trans x) rl
    | cont => exact fun σ' F' H' M' x rl => p σ' F' H' M' (e.trans x) rl
    | ret r =>
      refine fun v F' H' M' x sm so d => p v F' H' M' (e.trans x) sm so ?_
      cases r with
      | val d' => exact d
      | own xs =>
        obtain ⟨q, vs, a1, a2, a3, a4, a5, a6⟩ := d
        refine ⟨q, vs, a1, a2, a3, a4, a5, ?_⟩
        rcases a6 with a6 | a6
        · exact .inl (e.none_back a6)
        · exact (e.newO q a6).symm
/-- an expression's value, then .. -/
theorem valS_rd {f : Ps → R SV} {g : SV → Ps → R Fl} {Kt : V → Hp → Prop} (h : ∃ F M s, Rl ct.K F H M σ s ∧ PstS ct W D σ F H M s ((f s).bind g))
    (hk : ∀ v a F0 M0 s0 F H' M s, Rl ct.K F0 H M0 σ s0 → ExtE (Own σ s0.loc) F0 H M0 F H' M (Own σ s.loc) → Rl ct.K F H' M σ s → DnR ct.K F H' M H v a → PstS ct W D σ F0 H M0 s0 (g a s) → Kt v H') : tV ct W f σ H Kt := by
  obtain ⟨F, M, s, rl, p⟩ := h
  refine ⟨F, M, s, rl, ?_⟩
  cases e : f s with
  | stuck => rw [e] at p; exact p
  | exc c fs s' => rw [e] at p; exact fun cls d F' H' M' x rl q => p cls d σ F' H' M' x.x rl q
  | ok a s' =>
    rw [e] at p
    exact fun v F' H' M' x rl' d => hk v a F M s F' H' M' s' rl x rl' d p
theorem fzS_rd {f : Ps → R SV} {g : SV → Ps → R Fl} {Kt : V → Hp → Prop} (h : ∃ F M s, Rl ct.K F H M σ s ∧ PstS ct W D σ F H M s ((f s).bind g))
    (hk : ∀ v a F H M s, Rl ct.K F H M σ s → Dn ct.K F M v a.pv → PstS ct W D σ F H M s (g a s) → Kt v H) : tV ct W f σ H Kt :=
  valS_rd h fun v a F0 M0 s0 F H' M s rl0 ex rl d p => by
    obtain ⟨F2, e2, r2, d2⟩ := fz_ext rl0 ex rl d
    exact hk v a F2 H' M s r2 d2 (p.at e2.x)
theorem tstS_rd {f : Ps → R Bool} {g : Bool → Ps → R Fl} {Kt : Bool → Hp → Prop} (h : ∃ F M s, Rl ct.K F H M σ s ∧ PstS ct W D σ F H M s ((f s).bind g))
    (hk : ∀ b F H M s, Rl ct.K F H M σ s → PstS ct W D σ F H M s (g b s) → Kt b H) : tTs ct W f σ H Kt := by
  obtain ⟨F, M, s, rl, p⟩ := h
  refine ⟨F, M, s, rl, ?_⟩
  cases e : f s with
  | stuck => rw [e] at p; exact p
  | exc c fs s' => rw [e] at p; exact fun cls d F' H' M' x rl q => p cls d σ F' H' M' x.x rl q
  | ok a s' =>
    rw [e] at p
    intro b F' H' M' x rl' d
    have d : b = a := d
    subst d
    exact hk b F' H' M' s' rl' (PstS.at x.x p)
theorem opndsS_rd {ds : List Den} {f : List PV → Ps → R Fl} {Kt : List V → Hp → Prop} (h : ∃ F M s, Rl ct.K F H M σ s ∧ PstS ct W D σ F H M s (opnds false ds f s))
    (hk : ∀ vs F H M s es, Rl ct.K F H M σ s → Dns ct.K F M vs es → es.length = ds.length → PstS ct W D σ F H M s (f es s) → Kt vs H) : tBsR ct W (Den.bs false ds) σ H Kt := by
  obtain ⟨F, M, s, rl, p⟩ := h
  refine ⟨F, M, s, rl, ?_⟩
  unfold opnds at p
  cases e : Den.bs false ds s with
  | stuck => rw [e] at p; exact p
  | exc c fs s' => rw [e] at p; exact fun cls d F' H' M' x rl q => p cls d σ F' H' M' x.x rl q
  | ok a s' =>
    rw [e] at p
    intro v F' H' M' x rl' d
    have p2 : PstS ct W D σ F H M s (match derefs s' a with
      | some ds => f ds s'
      | none => .stuck) := p
    cases q : derefs s' a with
    | none => rw [q] at p2; exact p2.elim
    | some dx =>
      rw [q] at p2
      exact hk v F' H' M' s' dx rl' (dns_of d (bs_vals e) q) (by rw [derefs_len q, bs_len e]) (PstS.at x.x p2)

/-! ### blocks -/
theorem sts_nil : PSs X [] (tEx ct W sNext) := PSs.imp pss_nil fun D σ H ⟨F, M, s, rl, p⟩ => p σ F H M Ext.refl rl
theorem sts_cons {st : Stmt} {rest : List Stmt} {a b : DS} (h1 : PS X st (tEx ct W a)) (h2 : PSs X rest (tEx ct W b)) : PSs X (st :: rest) (tEx ct W (sSeq a b)) :=
  PSs.imp (pss_cons h1 h2) fun D σ H ⟨F, M, s, rl, p⟩ => by
    refine ⟨F, M, s, rl, ?_⟩
    have p : PstS ct W D σ F H M s (match a s with
      | .ok .next s1 => b s1
      | r => r) := p
    cases e : a s with
    | stuck => rw [e] at p; exact p
    | exc c fs s' => rw [e] at p; exact p
    | ok fl s' =>
      cases fl with
      | next => rw [e] at p; exact fun σ' F' H' M' x rl' => ⟨F', M', s', rl', PstS.at x p⟩
      | brk => rw [e] at p; exact p
      | cont => rw [e] at p; exact p
      | ret v => rw [e] at p; exact p
theorem st_pass : PS X (.Pass pos) (tEx ct W sNext) := PS.imp ps_pass fun D σ H ⟨F, M, s, rl, p⟩ => p σ F H M Ext.refl rl
theorem st_never {st : Stmt} : PS X st (tEx ct W fun _ => .stuck) := PS.imp ps_never fun D σ H ⟨F, M, s, rl, p⟩ => p
theorem st_expr (ha : Snd ct X W x da) (hs : swapsWith x none pos.line X.env = pure false) : PS X (.Expr x pos) (tEx ct W (sExpr da)) :=
  PS.imp (ps_expr ha.v hs) fun D σ H h => fzS_rd h fun v a F H M s rl d p => p σ F H M Ext.refl rl
theorem st_if {a b : List Stmt} {ta tb : DS} (hc : Snd ct X W x dc) (ha : PSs X a (tEx ct W ta)) (hb : PSs X b (tEx ct W tb)) : PS X (.If x a b pos) (tEx ct W (sIf dc ta tb)) :=
  PS.imp (ps_if hc.t ha hb) fun D σ H h => tstS_rd h fun b F H M s rl p => by
    cases b with
    | true => exact ⟨F, M, s, rl, p⟩
    | false => exact ⟨F, M, s, rl, p⟩
/-- a name gets a list that nobody else holds -/
theorem Rl.setNew {v : V} {a : SV} (rl : Rl ct.K F H M σ s) {H0 : Hp} (h : DnR ct.K F H M H0 v a) (ho : ∀ p, Own σ s.loc p → H0 p ≠ none) (i : Nat) :
    Rl ct.K F H M (σ.set i (some v)) { s with loc := s.loc.set i (some a) } ∧ ∀ p, Own (σ.set i (some v)) (s.loc.set i (some a)) p → Own σ s.loc p ∨ H0 p = none := by
  cases a with
  | val d =>
    obtain ⟨a, b⟩ := rl.set h i
    exact ⟨a, fun p z => .inl (b p z)⟩
  | own xs =>
    obtain ⟨q, vs, rfl, e2, e3, e4, e5, e6⟩ := h
    have back : ∀ {j : Nat} {zs : List PV}, (s.loc.set i (some (.own xs)))[j]? = some (some (.own zs)) → (i = j ∧ j < s.loc.length) ∨ (i ≠ j ∧ s.loc[j]? = some (some (.own zs))) := fun {j zs} a => by
      by_cases hj : i = j
      · subst hj
        by_cases hl : i < s.loc.length
        · exact .inl ⟨rfl, hl⟩
        · rw [List.getElem?_eq_none (by simpa using hl)] at a; cases a
      · rw [List.getElem?_set_ne hj] at a; exact .inr ⟨hj, a⟩
    refine ⟨⟨rl.same, by simpa using rl.len, fun j o e => ?_, fun j k us zs p a1 a2 a3 a4 => ?_, rl.sto⟩, fun p ⟨j, zs, a1, a2⟩ => ?_⟩
    · have e : (s.loc.set i (some (.own xs)))[j]? = some o := e
      by_cases hj : i = j
      · subst hj
        by_cases hl : i < s.loc.length
        · rw [List.getElem?_set_self hl] at e
          cases e
          exact ⟨q, vs, by rw [List.getElem?_set_self (by rw [← rl.len]; exact hl)], e2, e3, e4, e5⟩
        · rw [List.getElem?_eq_none (by simpa using hl)] at e; cases e
      · rw [List.getElem?_set_ne hj] at e
        rw [List.getElem?_set_ne hj]
        exact rl.slot j o e
    · have nq : ∀ {j : Nat} {zs : List PV}, s.loc[j]? = some (some (.own zs)) → σ[j]? = some (some (.ref q)) → False := fun {j zs} b1 b2 => ho q ⟨j, zs, b1, b2⟩ e6
      rcases back a1 with ⟨rfl, hl⟩ | ⟨n1, b1⟩
      · rcases back a2 with ⟨rfl, _⟩ | ⟨n2, b2⟩
        · rfl
        · rw [List.getElem?_set_self (by rw [← rl.len]; exact hl)] at a3
          have : q = p := V.ref.inj (Option.some.inj (Option.some.inj a3))
          subst this
          rw [List.getElem?_set_ne n2] at a4
          exact (nq b2 a4).elim
      · rw [List.getElem?_set_ne n1] at a3
        rcases back a2 with ⟨rfl, hl⟩ | ⟨n2, b2⟩
        · rw [List.getElem?_set_self (by rw [← rl.len]; exact hl)] at a4
          have : q = p := V.ref.inj (Option.some.inj (Option.some.inj a4))
          subst this
          exact (nq b1 a3).elim
        · rw [List.getElem?_set_ne n2] at a4
          exact rl.inj j k us zs p b1 b2 a3 a4
    · rcases back a1 with ⟨rfl, hl⟩ | ⟨n1, b1⟩
      · rw [List.getElem?_set_self (by rw [← rl.len]; exact hl)] at a2
        have : q = p := V.ref.inj (Option.some.inj (Option.some.inj a2))
        subst this
        exact .inr e6
      · rw [List.getElem?_set_ne n1] at a2
        exact .inl ⟨j, zs, b1, a2⟩
theorem asgV_rd {i : Nat} {v : V} {a : SV} {F0 H0 : Hp} {M0 : List Addr} {s0 : Ps} (rl0 : Rl ct.K F0 H0 M0 σ s0) (ex : ExtE (Own σ s0.loc) F0 H0 M0 F H M (Own σ s.loc)) (rl : Rl ct.K F H M σ s) (d : DnR ct.K F H M H0 v a)
    (p : PstS ct W D σ F0 H0 M0 s0 (.ok .next { s with loc := s.loc.set i (some a) })) : D.nx (σ.set i (some v)) H := by
  have ho : ∀ p, Own σ s.loc p → H0 p ≠ none := fun p z q => by
    obtain ⟨⟨vs', q'⟩, _⟩ := rl0.own_some (ex.shr p z)
    rw [q] at q'; cases q'
  obtain ⟨a1, a2⟩ := rl.setNew d ho i
  refine p _ F H M ⟨ex.x.fs, ex.x.keep, ex.x.dom, ex.x.newF, ex.x.pre, ex.x.newM, fun q z => ?_⟩ a1
  rcases a2 q z with h | h
  · exact .inl (ex.shr q h)
  · exact .inr h
theorem st_asgV {i : Nat} {t : TE} (hp : PS X (.Assign [y] x pos) (tAsg t (gName i))) (ht : ∀ σ H Q, tV ct W da.v σ H Q → t σ H Q) : PS X (.Assign [y] x pos) (tEx ct W (sAsg (.var i) da)) :=
  PS.imp hp fun D σ H h => ht σ H _ (valS_rd h fun v a F0 M0 s0 F H' M s rl0 ex rl d p => asgV_rd rl0 ex rl d p)
theorem st_asgT {ts : List T} (ha : Snd ct X W x da) (hg : PG X y (gT ct (.tup ts))) (hs : swapsWithSole [y] x pos.line X.env = pure false) (hw : swappedStores [y] x X.env = pure none) (h1 : (assignEach [y] X.env).map (·.2) = [assign y X.env]) :
    PS X (.Assign [y] x pos) (tEx ct W (sAsg (.tup ts) da)) :=
  PS.imp (ps_asg ha.v hg hs hw h1) fun D σ H h => fzS_rd h fun v a F H M s rl d p => by
    have p : PstS ct W D σ F H M s (asgS (.tup ts) a s) := p
    cases a with
    | own xs => exact p.elim
    | val d' =>
      have p : PstS ct W D σ F H M s (match asgT (.tup ts) d' s.loc with
        | some l => .ok .next { s with loc := l }
        | none => .stuck) := p
      cases q : asgT (.tup ts) d' s.loc with
      | none => rw [q] at p; exact p.elim
      | some l =>
        rw [q] at p
        exact ⟨F, M, s, d', l, rl, d, q, fun σ' rl' o' _ => p σ' F H M ⟨Same.refl _, fun _ _ h _ _ => h, fun _ o h => ⟨o, h⟩, fun _ _ h => .inl h, List.prefix_refl _, fun _ h => .inl h, fun q z => .inl (o' q z)⟩ rl'⟩
theorem st_ret (ha : Snd ct X W x da) (hv : ∀ i, da.vr = some i → PE X x (tVar i)) : PS X (.Return (some x) pos) (tEx ct W (sRet da)) := by
  refine ⟨fun pins sh σ H D I ⟨F, M, s, rl, p⟩ => ?_⟩
  have plain : PstS ct W D σ F H M s ((da.v s).bind fun x s1 => .ok (.ret x) s1) → wpAny (model X.prog X.w) X.A (exec (.Return (some x) pos) X.env) (SP X pins D) X.xe sh := fun p =>
    (ps_ret ha.v).run pins sh σ H D I (valS_rd ⟨F, M, s, rl, p⟩ fun v a F0 M0 s0 F H' M s rl0 ex rl d p => by
      refine p v F H' M ⟨ex.x.fs, ex.x.keep, ex.x.dom, ex.x.newF, ex.x.pre, ex.x.newM, fun _ h => h.elim⟩ rl.same rl.sto ?_
      cases a with
      | val d' => exact d
      | own xs =>
        obtain ⟨q, vs, a1, a2, a3, a4, a5, a6⟩ := d
        exact ⟨q, vs, a1, a2, a3, a4, a5, .inl a6⟩)
  unfold sRet at p
  split at p
  · rename_i xs q
    cases hi : da.vr with
    | none => rw [hi] at q; cases q
    | some i =>
      rw [hi] at q
      have q : s.loc[i]? = some (some (.own xs)) := q
      obtain ⟨pp, vs, e1, e2, e3, e4, e5⟩ := rl.slot i _ q
      exact (ps_ret (hv i hi)).run pins sh σ H D I ⟨_, e1, p _ F H M ⟨Same.refl _, fun _ _ h _ _ => h, fun _ o h => ⟨o, h⟩, fun _ _ h => .inl h, List.prefix_refl _, fun _ h => .inl h, fun _ h => h.elim⟩ rl.same rl.sto ⟨pp, vs, rfl, e2, e3, e4, e5, .inr ⟨i, xs, q, e1⟩⟩⟩
  · exact plain p
end
end PI

set_option Elab.async false
set_option linter.all false
set_option autoImplicit false
set_option maxRecDepth 100000
set_option maxHeartbeats 4000000
namespace PI
open PySem L2
section
variable {ct : Ct} {X : Cx} {W : WX} {x y z : Expr} {pos : Pos} {da db dc : Den}
variable {σ σ1 : L2.St} {F F1 H H1 : Hp} {M M1 : List Addr} {s s1 : Ps} {D : Ends}
theorem sFor_eq (t : T) (k : IK) (src : List Den) (body : DS) (s : Ps) : sFor t k src body s = (itR k src s).bind fun its s1 => forLoop (forBody t body) its s1 := by
  unfold sFor itR opnds
  cases Den.bs false src s with
  | stuck => rfl
  | exc c fs s' => rfl
  | ok a s' =>
    show (match derefs s' a with
      | some ds => (match itemsP k ds with
        | some its => forLoop (forBody t body) its s'
        | none => .stuck)
      | none => .stuck) = (match derefs s' a with
      | some ds => liftO (itemsP k ds) s'
      | none => .stuck).bind _
    cases derefs s' a with
    | none => rfl
    | some ds =>
      show (match itemsP k ds with
        | some its => forLoop (forBody t body) its s'
        | none => .stuck) = (liftO (itemsP k ds) s').bind _
      cases itemsP k ds <;> rfl
theorem extT {σ' : L2.St} {s' : Ps} (o' : ∀ p, Own σ' s'.loc p → Own σ s.loc p) : Ext (Own σ s.loc) F H M F H M (Own σ' s'.loc) := ⟨Same.refl _, fun _ _ h _ _ => h, fun _ o h => ⟨o, h⟩, fun _ _ h => .inl h, List.prefix_refl _, fun _ h => .inl h, fun q z => .inl (o' q z)⟩
theorem st_for {tg iter : Expr} {t : T} {k : IK} {src : List Den} {body : List Stmt} {tb : DS} (hp : PassesOwn (model X.prog X.w) X.A X.env X.xe) (hc : X.calm = true) (hi : L2.PI X tg iter (tIt ct W (itR k src))) (hg : PG X tg (gT ct t)) (hb : PSs X body (tEx ct W tb))
    (hs : ∀ v, foldedSetIterable iter X.env v = pure v) : PS X (.For tg iter body [] pos) (tEx ct W (sFor t k src tb)) :=
  PS.imp (ps_for hp hc hi hg hb hs) fun D σ H ⟨F, M, s, rl, p⟩ => by
    refine ⟨F, M, s, rl, ?_⟩
    rw [sFor_eq] at p
    cases e : itR k src s with
    | stuck => rw [e] at p; exact p
    | exc c fs s' => rw [e] at p; exact fun cls d F' H' M' x rl q => p cls d σ F' H' M' x.x rl q
    | ok its s1 =>
      rw [e] at p
      intro J F1 H1 M1 ex rl1 wk
      have p1 : PstS ct W D σ F1 H1 M1 s1 (forLoop (forBody t tb) its s1) := PstS.at ex.x p
      obtain ⟨G, Y, wlk, hG, hY⟩ := wk
      refine for_it wlk (fun i σ2 H => ∃ F2 M2 s2, Rl ct.K F2 H M2 σ2 s2 ∧ Same F1 F2 ∧ M1 <+: M2 ∧ PstS ct W D σ2 F2 H M2 s2 (forLoop (forBody t tb) (its.drop i) s2)) ⟨F1, M1, s1, rl1, Same.refl _, List.prefix_refl _, p1⟩ ?_ ?_ ?_
      · rintro i σ2 H _ ⟨F2, M2, s2, rl2, fs2, _, _⟩
        exact hG H fun b o z => rl2.same b o (fs2 b o z)
      · rintro i v σ2 H H' hi2 ⟨F2, M2, s2, rl2, fs2, pre2, p2⟩ hy
        obtain ⟨d, hd, hv⟩ := hY i H v H' hy (fun b o z => rl2.same b o (fs2 b o z)) hi2
        have hdrop : its.drop i = d :: its.drop (i + 1) := by
          obtain ⟨h1, h2⟩ := List.getElem?_eq_some_iff.mp hd
          rw [← h2]
          exact List.drop_eq_getElem_cons h1
        rw [hdrop] at p2
        obtain ⟨F3, rl3, fs3, ex3, dn3⟩ : ∃ F3, Rl ct.K F3 H' M2 σ2 s2 ∧ Same F1 F3 ∧ Ext (Own σ2 s2.loc) F2 H M2 F3 H' M2 (Own σ2 s2.loc) ∧ Dn ct.K F3 M2 v d := by
          rcases hv with ⟨rfl, dn⟩ | ⟨q, ob, rfl, hq, rfl, dn⟩
          · exact ⟨F2, rl2, fs2, Ext.refl, dn.mono fs2 pre2⟩
          · exact ⟨upd F2 q ob, rl2.new hq, fs2.trans (same_new (rl2.same.free hq)), Ext.new rl2 hq, dn F2 M2 fs2 pre2 (rl2.same.free hq)⟩
        have p3 := PstS.at ex3 p2
        have p3 : PstS ct W D σ2 F3 H' M2 s2 (match (match asgT t d s2.loc with
            | some l => tb { s2 with loc := l }
            | none => .stuck) with
          | .ok .next s1 => forLoop (forBody t tb) (its.drop (i + 1)) s1
          | .ok .cont s1 => forLoop (forBody t tb) (its.drop (i + 1)) s1
          | .ok .brk s1 => .ok .next s1
          | .ok (.ret v) s1 => .ok (.ret v) s1
          | .exc c fs s1 => .exc c fs s1
          | .stuck => .stuck) := p3
        cases ea : asgT t d s2.loc with
        | none => rw [ea] at p3; exact p3.elim
        | some l =>
          rw [ea] at p3
          refine ⟨F3, M2, s2, d, l, rl3, dn3, ea, fun σ3 rl4 o4 _ => ⟨F3, M2, { s2 with loc := l }, rl4, ?_⟩⟩
          have p4 := PstS.at (σ1 := σ3) (s1 := { s2 with loc := l }) (extT o4) p3
          cases eb : tb { s2 with loc := l } with
          | stuck => simp only [eb] at p4; exact p4
          | exc c fs s' => simp only [eb] at p4; exact p4
          | ok fl s' =>
            cases fl with
            | next => simp only [eb] at p4; exact fun σ' F' H' M' x rl' => ⟨F', M', s', rl', fs3.trans x.fs, pre2.trans x.pre, PstS.at x p4⟩
            | cont => simp only [eb] at p4; exact fun σ' F' H' M' x rl' => ⟨F', M', s', rl', fs3.trans x.fs, pre2.trans x.pre, PstS.at x p4⟩
            | brk => simp only [eb] at p4; exact p4
            | ret r => simp only [eb] at p4; exact p4
      · rintro σ2 H ⟨F2, M2, s2, rl2, _, _, p2⟩
        rw [List.drop_length] at p2
        exact p2 σ2 F2 H M2 Ext.refl rl2
/-! ### x op= e -/
def rA : Operator → R2
  | .Add => fun x y H Q => rI0 (fun i j => .int (i + j)) x y H Q ∨ (∃ i j, x = .str i ∧ y = .str j ∧ i.length + j.length ≤ sizeLine ∧ Q (.str (i ++ j)) H)
  | .Sub => rI0 fun i j => .int (i - j)
  | .Mult => rI CMul fun i j => .int (i * j)
  | _ => fun _ _ _ _ => False
theorem opA (op : Operator) : OpR X (inplaceOp op) (rA op) := by
  cases op with
  | Add => exact iop_add.or iop_add_str
  | Sub => exact iop_sub
  | Mult => exact iop_mul
  | _ => exact fun _ _ _ _ _ _ _ _ _ _ _ _ h => h.elim
theorem valS_at {f : Ps → R SV} {g : SV → Ps → R Fl} {Kt : V → Hp → Prop} (rl : Rl ct.K F H M σ s) (p : PstS ct W D σ F H M s ((f s).bind g))
    (hk : ∀ v a F' H' M' s', ExtE (Own σ s.loc) F H M F' H' M' (Own σ s'.loc) → Rl ct.K F' H' M' σ s' → DnR ct.K F' H' M' H v a → PstS ct W D σ F H M s (g a s') → Kt v H') : tV ct W f σ H Kt := by
  refine ⟨F, M, s, rl, ?_⟩
  cases e : f s with
  | stuck => rw [e] at p; exact p
  | exc c fs s' => rw [e] at p; exact fun cls d F' H' M' x rl q => p cls d σ F' H' M' x.x rl q
  | ok a s' =>
    rw [e] at p
    exact fun v F' H' M' x rl' d => hk v a F' H' M' s' x rl' d p
theorem fzS_at {f : Ps → R SV} {g : SV → Ps → R Fl} {Kt : V → Hp → Prop} (rl : Rl ct.K F H M σ s) (p : PstS ct W D σ F H M s ((f s).bind g))
    (hk : ∀ v a F' H' M' s', ExtE (Own σ s.loc) F H M F' H' M' (Own σ s'.loc) → Rl ct.K F' H' M' σ s' → Dn ct.K F' M' v a.pv → PstS ct W D σ F' H' M' s' (g a s') → Kt v H') : tV ct W f σ H Kt :=
  valS_at rl p fun v a F1 H' M1 s1 ex rl1 d p => by
    obtain ⟨F2, e2, r2, d2⟩ := fz_ext rl ex rl1 d
    exact hk v a F2 H' M1 s1 e2 r2 d2 (p.at e2.x)
theorem setScal {i : Nat} {v : V} {d : PV} (rl : Rl ct.K F H M σ s) (dn : Dn ct.K F M v d) (p : PstS ct W D σ F H M s (.ok .next { s with loc := s.loc.set i (some (.val d)) })) : D.nx (σ.set i (some v)) H := by
  obtain ⟨a, b⟩ := rl.set dn i
  exact p _ F H M (extT b) a
theorem augP_ok {i : Nat} {op : Operator} {v w : V} {dx dy : PV} {r : SV} (rl : Rl ct.K F H M σ s) (hv : DnO ct.K F H M v dx) (hw : DnO ct.K F H M w dy) (e : augP op dx dy = some r) (p : PstS ct W D σ F H M s (.ok .next { s with loc := s.loc.set i (some r) })) : rA op v w H fun z H2 => D.nx (σ.set i (some z)) H2 := by
  unfold augP at e
  split at e
  · cases e; exact .inl ⟨_, _, hv.int, hw.int, setScal rl (.int _) p⟩
  · cases e; exact ⟨_, _, hv.int, hw.int, setScal rl (.int _) p⟩
  · split at e
    · rename_i hc
      cases e; exact ⟨_, _, hv.int, hw.int, hc, setScal rl (.int _) p⟩
    · cases e
  · split at e
    · rename_i hl
      cases e; exact .inr ⟨_, _, hv.str, hw.str, by rw [lim_eq]; exact hl, setScal rl (.str _) p⟩
    · cases e
  · cases e
theorem st_aug {i : Nat} {nm : Str} {op : Operator} {pn : Pos} (hN : X.N.Nodup) (hi : X.N[i]? = some nm) (hx : L2.Loc X.env.scope nm) (ha : Snd ct X W x da) (hf : X.fn nm = true ∨ X.env.scope.names.lookup nm = some .local) : PS X (.AugAssign (.Name nm pn) op x pos) (tEx ct W (sAug i op da)) :=
  PS.imp (ps_aug (ti := rA op) hN hi hx ha.v (opA op) hf) fun D σ H ⟨F, M, s, rl, p⟩ => by
    unfold sAug at p
    split at p
    · rename_i d0 q
      obtain ⟨w, e1, e2⟩ := rl.slot i _ q
      refine ⟨w, e1, ?_⟩
      refine fzS_at rl p fun v a F1 H' M1 s1 ex rl1 d p => ?_
      have e3 := e2.mono ex.x.fs ex.x.pre
      cases ez : augP op d0 a.pv with
      | none => rw [ez] at p; exact p.elim
      | some r =>
        rw [ez] at p
        exact augP_ok rl1 (.inl e3) (.inl d) ez p
    · exact p.elim
/-! ### name[k] = e -/
theorem ixN_len {α β : Type} {xs : List α} {ys : List β} (h : xs.length = ys.length) (k : Int) : ixN xs.length k = ixN ys.length k := by rw [h]
theorem Rl.setRow {k : Nat} {a : Addr} {xs ys : List PV} {ws : List V} (rl : Rl ct.K F H M σ s) (h : s.sto[k]? = some (.row xs)) (ha : M[k]? = some a) (d : Dns ct.K F M ws ys) :
    Ext (Own σ s.loc) F H M F (upd H a (.lst ws)) M (Own σ s.loc) ∧ Rl ct.K F (upd H a (.lst ws)) M σ { s with sto := s.sto.set k (.row ys) } := by
  obtain ⟨f1, vs, f2, f3⟩ : F a = none ∧ ∃ vs, H a = some (.lst vs) ∧ Dns ct.K F M vs xs := rl.sto.ok k _ a h ha
  have hm : a ∈ M := List.mem_of_getElem? ha
  refine ⟨⟨Same.refl _, fun p o h1 h2 _ => by rw [upd_ne fun z => h2 (by rw [z]; exact hm)]; exact h1, fun p o h1 => ?_, fun _ _ h => .inl h, List.prefix_refl _, fun _ h => .inl h, fun _ h => .inl h⟩, ⟨same_mut rl.same f1, rl.len, fun i o e => ?_, rl.inj, ⟨by simpa using rl.sto.len, rl.sto.nd, fun j so b e1 e2 => ?_⟩⟩⟩
  · by_cases z : p = a
    · subst z; exact ⟨_, upd_same⟩
    · exact ⟨o, by rw [upd_ne z]; exact h1⟩
  · have q := rl.slot i o e
    cases o with
    | none => trivial
    | some sv =>
      cases sv with
      | val d => exact q
      | own xs =>
        obtain ⟨q, us, e1, e2, e3, e4, e5⟩ := q
        have ne : q ≠ a := fun z => e5 (by rw [z]; exact hm)
        exact ⟨q, us, e1, e2, by rw [upd_ne ne]; exact e3, e4, e5⟩
  · have e1 : (s.sto.set k (.row ys))[j]? = some so := e1
    by_cases hj : k = j
    · subst hj
      rw [ha] at e2
      cases e2
      have hk : k < s.sto.length := (List.getElem?_eq_some_iff.mp h).1
      rw [List.getElem?_set_self hk] at e1
      cases e1
      exact ⟨f1, ws, upd_same, d⟩
    · rw [List.getElem?_set_ne hj] at e1
      have z := rl.sto.ok j so b e1 e2
      have ne : b ≠ a := fun z => by
        have h1 := (List.getElem?_eq_some_iff.mp ha)
        have h2 := (List.getElem?_eq_some_iff.mp e2)
        obtain ⟨l1, g1⟩ := h1
        obtain ⟨l2, g2⟩ := h2
        exact hj ((List.getElem_inj rl.sto.nd).mp (by rw [g1, g2, z]))
      exact z.mono (Same.refl _) (List.prefix_refl _) z.some.1 (by rw [upd_ne ne])
theorem filled_some {i : Nat} (rl : Rl ct.K F H M σ s) (h : filled i s = true) : ∃ v, σ[i]? = some (some v) := by
  unfold filled at h
  split at h
  · rename_i sv q
    have z := rl.slot i _ q
    cases sv with
    | val d =>
      obtain ⟨w, w1, _⟩ := z
      exact ⟨w, w1⟩
    | own xs =>
      obtain ⟨p, vs, w1, _⟩ := z
      exact ⟨_, w1⟩
  · cases h
theorem st_set {i : Nat} {nm : Str} {pn ps : Pos} (hx : PE X (.Name nm pn) (tVar i)) (hk : Snd ct X W y db) (ha : Snd ct X W x da) (hs : swapsWithSole [.Subscript (.Name nm pn) y ps] x pos.line X.env = pure false) (hw : swappedStores [.Subscript (.Name nm pn) y ps] x X.env = pure none)
    (hsl : ∀ v, assign (.Subscript (.Name nm pn) y ps) X.env v = (do
      let ov ← holding [v] (eval (.Name nm pn) X.env)
      let iv ← holding [v, ov] (eval y X.env)
      standAt ps
      holding [v, ov, iv] (setItem ov iv v)
      release [v, ov, iv] [])) : PS X (.Assign [.Subscript (.Name nm pn) y ps] x pos) (tEx ct W (sSet i db da)) :=
  PS.imp (ps_asg ha.v (pg_sub hx hk.v set_list hsl) hs hw rfl) fun D σ H ⟨F, M, s, rl, p⟩ => by
    by_cases hfl : filled i s = true
    · have p : PstS ct W D σ F H M s (if filled i s then (da.v s).bind fun x s1 => (db.v s1).bind fun y s2 => setP i y.pv x.pv s2 else .stuck) := p
      rw [if_pos hfl] at p
      obtain ⟨v0, hv0⟩ := filled_some rl hfl
      refine fzS_at rl p fun v a F1 H1 M1 s1 ex1 rl1 d1 p1 => ?_
      refine ⟨v0, hv0, ?_⟩
      refine fzS_at rl1 p1 fun w b F2 H2 M2 s2 ex2 rl2 d2 p2 => ?_
      have d1 := d1.mono ex2.x.fs ex2.x.pre
      unfold setP at p2
      split at p2
      · rename_i k hk xs q
        split at p2
        · rename_i j hj
          obtain ⟨pp, vs, e1, e2, e3, e4, e5⟩ := rl2.slot i _ q
          rw [hv0] at e1
          cases e1
          rw [‹b.pv = _›] at d2
          cases d2
          obtain ⟨ex3, rl3⟩ := rl2.setOwn q hv0 (e4.set j d1)
          exact ⟨pp, vs, _, j, rfl, rfl, e3, by rw [e4.length]; exact hj, p2 σ F2 _ M2 ex3.x rl3⟩
        · exact p2.elim
      · rename_i k hk ad q
        split at p2
        · rename_i xs hx
          split at p2
          · rename_i j hj
            obtain ⟨u, e1, e2⟩ := rl2.slot i _ q
            rw [hv0] at e1
            cases e1
            rw [‹b.pv = _›] at d2
            cases d2
            cases e2 with
            | @ref aa _ hm =>
              obtain ⟨f1, vs, f2, f3⟩ : F2 aa = none ∧ ∃ vs, H2 aa = some (.lst vs) ∧ Dns ct.K F2 M2 vs xs := rl2.sto.ok _ _ aa hx hm
              obtain ⟨ex3, rl3⟩ := rl2.setRow hx hm (f3.set j d1)
              exact ⟨aa, vs, _, j, rfl, rfl, f2, by rw [f3.length]; exact hj, p2 σ F2 _ M2 ex3 rl3⟩
          · exact p2.elim
        · exact p2.elim
      · exact p2.elim
    · have p : PstS ct W D σ F H M s (if filled i s then (da.v s).bind fun x s1 => (db.v s1).bind fun y s2 => setP i y.pv x.pv s2 else .stuck) := p
      rw [if_neg hfl] at p
      exact p.elim
/-! ### the row -/
theorem Rl.newRow {ds : List PV} {ws : List V} {q : Addr} (rl : Rl ct.K F H M σ s) (hq : H q = none) (d : Dns ct.K F M ws ds) (i : Nat) :
    Ext (Own σ s.loc) F H M F (upd H q (.lst ws)) (M ++ [q]) (Own (σ.set i (some (.ref q))) (s.loc.set i (some (.val (.ref s.sto.length))))) ∧ Rl ct.K F (upd H q (.lst ws)) (M ++ [q]) (σ.set i (some (.ref q))) { loc := s.loc.set i (some (.val (.ref s.sto.length))), sto := s.sto ++ [.row ds] } := by
  have pre : M <+: M ++ [q] := List.prefix_append _ _
  have rl2 : Rl ct.K F (upd H q (.lst ws)) (M ++ [q]) σ { s with sto := s.sto ++ [.row ds] } := by
    refine ⟨same_mut rl.same (rl.same.free hq), rl.len, fun j o e => ?_, rl.inj, ⟨by rw [List.length_append, List.length_append, rl.sto.len]; rfl, ?_, fun k so a e1 e2 => ?_⟩⟩
    · have z := rl.slot j o e
      cases o with
      | none => trivial
      | some sv =>
        cases sv with
        | val d =>
          obtain ⟨u, u1, u2⟩ := z
          exact ⟨u, u1, u2.mono (Same.refl _) pre⟩
        | own xs =>
          obtain ⟨pp, us, e1, e2, e3, e4, e5⟩ := z
          have ne : pp ≠ q := ne_of_none e3 hq
          exact ⟨pp, us, e1, e2, by rw [upd_ne ne]; exact e3, e4.mono (Same.refl _) pre, fun z => by
            rcases List.mem_append.mp z with z | z
            · exact e5 z
            · exact ne (by simpa using z)⟩
    · rw [List.nodup_append]
      refine ⟨rl.sto.nd, by simp, fun a ha b hb => ?_⟩
      rw [List.mem_singleton] at hb
      subst hb
      intro z
      subst z
      exact rl.notM hq ha
    · have e1 : (s.sto ++ [SO.row ds])[k]? = some so := e1
      by_cases hk : k < s.sto.length
      · rw [List.getElem?_append_left hk] at e1
        rw [List.getElem?_append_left (by rw [rl.sto.len]; exact hk)] at e2
        have z := rl.sto.ok k so a e1 e2
        obtain ⟨z1, o2, z2⟩ := z.some
        exact z.mono (Same.refl _) pre z1 (by rw [upd_ne (ne_of_none z2 hq)])
      · have hk' : k = s.sto.length := by
          have := (List.getElem?_eq_some_iff.mp e1).1
          rw [List.length_append, List.length_singleton] at this
          omega
        subst hk'
        rw [List.getElem?_append_right (Nat.le_refl _), Nat.sub_self] at e1
        rw [← rl.sto.len, List.getElem?_append_right (Nat.le_refl _), Nat.sub_self] at e2
        cases e1
        cases e2
        exact ⟨rl.same.free hq, ws, upd_same, d.mono (Same.refl _) pre⟩
  have dn : Dn ct.K F (M ++ [q]) (.ref q) (.ref s.sto.length) := .ref (by rw [← rl.sto.len, List.getElem?_append_right (Nat.le_refl _), Nat.sub_self]; rfl)
  obtain ⟨a, b⟩ := rl2.set dn i
  refine ⟨⟨Same.refl _, fun p o h1 _ _ => by rw [upd_ne (ne_of_none h1 hq)]; exact h1, fun p o h1 => ⟨o, by rw [upd_ne (ne_of_none h1 hq)]; exact h1⟩, fun _ _ h => .inl h, pre, fun a ha => ?_, fun p h => .inl (b p h)⟩, a⟩
  rcases List.mem_append.mp ha with h | h
  · exact .inl h
  · rw [List.mem_singleton] at h
    subst h
    exact .inr hq
theorem st_row {i : Nat} {nm : Str} {pn pl : Pos} {es : List Expr} {ds : List Den} (hp : PS X (.Assign [.Name nm pn] (.List es pl) pos) (tAsg (tLst (tBsR ct W (Den.bs false ds))) (gName i))) (hl : ds.length ≤ lim) : PS X (.Assign [.Name nm pn] (.List es pl) pos) (tEx ct W (sRow i ds)) :=
  PS.imp hp fun D σ H h => opndsS_rd h fun vs F H M s es rl d le p => ⟨by rw [lim_eq, d.length, le]; exact hl, fun q hq => by
    obtain ⟨a, b⟩ := rl.newRow hq d i
    exact p _ F _ _ a b⟩
/-! ### a, b = x, y -/
theorem DnR.keep {F2 H0 H2 : Hp} {M2 : List Addr} {s0 s2 : Ps} {v : V} {a : SV} {F0 : Hp} {M0 : List Addr} (rl0 : Rl ct.K F0 H0 M0 σ s0) (sh : ∀ p, Own σ s.loc p → Own σ s0.loc p) (d : DnR ct.K F H M H0 v a) (ex : ExtE (Own σ s.loc) F H M F2 H2 M2 (Own σ s2.loc)) : DnR ct.K F2 H2 M2 H0 v a := by
  cases a with
  | val d' => exact Dn.mono ex.x.fs ex.x.pre d
  | own xs =>
    obtain ⟨p, vs, e1, e2, e3, e4, e5, e6⟩ := d
    have no : ¬ Own σ s.loc p := fun z => by
      obtain ⟨⟨vs', q⟩, _⟩ := rl0.own_some (sh p z)
      rw [e6] at q; cases q
    refine ⟨p, vs, e1, ?_, ex.x.keep p _ e3 e5 no, e4.mono ex.x.fs ex.x.pre, fun z => ?_, e6⟩
    · cases q : F2 p with
      | none => rfl
      | some o =>
        rcases ex.x.newF p o q with h | h | h
        · rw [e2] at h; cases h
        · rw [e3] at h; cases h
        · exact (no h).elim
    · rcases ex.x.newM p z with h | h
      · exact e5 h
      · rw [e3] at h; cases h
theorem st_par {i j : Nat} {st : Stmt} (hp : PS X st (tPar i j (tCons (tV ct W da.v) (tCons (tV ct W db.v) tNil)))) : PS X st (tEx ct W (sPar i j da db)) :=
  PS.imp hp fun D σ H ⟨F, M, s, rl, p⟩ => by
    have p : PstS ct W D σ F H M s ((da.v s).bind fun x s1 => (db.v s1).bind fun y s2 => .ok .next { s2 with loc := (s2.loc.set i (some x)).set j (some y) }) := p
    refine valS_at rl p fun v a F1 H1 M1 s1 ex1 rl1 d1 p1 => ?_
    refine ⟨F1, M1, s1, rl1, ?_⟩
    cases e : db.v s1 with
    | stuck => rw [e] at p1; exact p1
    | exc c fs s' => rw [e] at p1; exact fun cls d F' H' M' x rl q => p1 cls d σ F' H' M' (ex1.x.trans x.x) rl q
    | ok b s2 =>
    rw [e] at p1
    have p2 : PstS ct W D σ F H M s (.ok .next { s2 with loc := (s2.loc.set i (some a)).set j (some b) }) := p1
    intro w F2 H2 M2 ex2 rl2 d2
    refine ⟨v, w, rfl, ?_⟩
    have d1' := d1.keep rl ex1.shr ex2
    have ho1 : ∀ p, Own σ s2.loc p → H p ≠ none := fun p z q => by
      obtain ⟨⟨vs', q'⟩, _⟩ := rl.own_some (ex1.shr p (ex2.shr p z))
      rw [q] at q'; cases q'
    obtain ⟨r1, o1⟩ := rl2.setNew d1' ho1 i
    have ho2 : ∀ p, Own (σ.set i (some v)) (s2.loc.set i (some a)) p → H1 p ≠ none := fun p z q => by
      obtain ⟨⟨vs', q'⟩, _⟩ := r1.own_some z
      rcases o1 p z with h | h
      · obtain ⟨⟨vs2, q2⟩, _⟩ := rl1.own_some (ex2.shr p h)
        rw [q] at q2; cases q2
      · -- p is the new list of a
        cases a with
        | val dd =>
          obtain ⟨n, xs, z1, z2⟩ := z
          by_cases hn : i = n
          · subst hn
            by_cases hl : i < s2.loc.length
            · rw [List.getElem?_set_self hl] at z1; cases z1
            · rw [List.getElem?_eq_none (by simpa using hl)] at z1; cases z1
          · rw [List.getElem?_set_ne hn] at z1 z2
            exact ho1 p ⟨n, xs, z1, z2⟩ h
        | own xs0 =>
          obtain ⟨pp, us, rfl, _, a3, _⟩ := d1
          obtain ⟨n, xs, z1, z2⟩ := z
          by_cases hn : i = n
          · subst hn
            by_cases hl : i < s2.loc.length
            · rw [List.getElem?_set_self (by rw [← rl2.len]; exact hl)] at z2
              have : pp = p := V.ref.inj (Option.some.inj (Option.some.inj z2))
              subst this
              rw [q] at a3; cases a3
            · rw [List.getElem?_eq_none (by simpa using hl)] at z1; cases z1
          · rw [List.getElem?_set_ne hn] at z1 z2
            exact ho1 p ⟨n, xs, z1, z2⟩ h
    obtain ⟨r2, o2⟩ := r1.setNew d2 ho2 j
    have ex := ex1.trans ex2
    refine p2 _ F2 H2 M2 ⟨ex.x.fs, ex.x.keep, ex.x.dom, ex.x.newF, ex.x.pre, ex.x.newM, fun q z => ?_⟩ r2
    rcases o2 q z with h | h
    · rcases o1 q h with h | h
      · exact .inl (ex.shr q h)
      · exact .inr h
    · exact .inr (ex1.x.none_back h)
end
end PI

set_option Elab.async false
set_option linter.all false
set_option autoImplicit false
set_option maxRecDepth 100000
set_option maxHeartbeats 4000000
namespace PI
open PySem L2
abbrev Sc := List (Str × NameKind)
/-- what the checker knows of the text: the defs with their numbers of parameters, the constants; the names that must be the built-ins' -/
structure Ck where
  ft : Str → Option Nat
  gl : Str → Bool
  bi : Str → Bool

def okName (x : Str) : Bool := !(x == ("__debug__" : Str)) && !(x == ("__classdict__" : Str))
def isVis (sc : Sc) (x : Str) : Bool := match sc.lookup x with
  | some .local => true
  | some .cell => true
  | some .free => true
  | _ => false
def isLoc (sc : Sc) (x : Str) : Bool := match sc.lookup x with
  | some .local => true
  | some .cell => true
  | _ => false
def isGlb (sc : Sc) (x : Str) : Bool := match sc.lookup x with
  | some .globalImplicit => true
  | _ => false
def ckVar (N : List Str) (sc : Sc) (i : Nat) : Expr → Bool
  | .Name x _ => isVis sc x && decide (N[i]? = some x) && okName x
  | _ => false
def notSlice : Expr → Bool
  | .Slice .. => false
  | _ => true
def notSet : Expr → Bool
  | .Set .. => false
  | _ => true
mutual
def ckT (N : List Str) (sc : Sc) : T → Expr → Bool
  | .var i, x => match x with
    | .Name x _ => isLoc sc x && decide (N[i]? = some x)
    | _ => false
  | .tup ts, x => match x with
    | .Tuple es _ _ => ckTs N sc ts es
    | _ => false
def ckTs (N : List Str) (sc : Sc) : List T → List Expr → Bool
  | [], x => match x with
    | [] => true
    | _ => false
  | t :: ts, x => match x with
    | e :: es => ckT N sc t e && noStar e && ckTs N sc ts es
    | [] => false
end
/-- the block of a comprehension -/
def ckBlk (N : List Str) (sc : Sc) (scope : Scope) (own : List (Str × Nat)) : Bool :=
  (match scope.kind with | .function => true | _ => false) && (scope.names.all fun y => decide (scope.names.lookup y.1 = some y.2)) && (own.all fun p => decide (N[p.2]? = some p.1)) &&
    (scope.names.all fun y => match y.2 with
      | .free => (match sc.lookup y.1 with | some .cell => true | some .free => true | _ => false)
      | .local => decide (y.1 ∈ own.map (·.1)) || decide (y.1 ∉ N)
      | .cell => decide (y.1 ∈ own.map (·.1)) || decide (y.1 ∉ N)
      | _ => true)
mutual
def ck (C : Ck) (N : List Str) (sc : Sc) : E → Expr → Bool
  | .var i, x => ckVar N sc i x
  | .glob g, x => match x with
    | .Name y _ => decide (g = y) && isGlb sc y && C.gl y && okName y
    | _ => false
  | .cst d, x => match x, d with
    | .Constant .none _ _, .non => true
    | .Constant (.bool b) _ _, .bl c => b == c
    | .Constant (.int b) _ _, .int c => b == c
    | .Constant (.str b) _ _, .str c => decide (b = c)
    | _, _ => false
  | .bin op a b, x => match x with
    | .BinOp l o r _ => decide (o = op) && ck C N sc a l && ck C N sc b r
    | _ => false
  | .neg a, x => match x with
    | .UnaryOp .USub l _ => ck C N sc a l
    | _ => false
  | .not a, x => match x with
    | .UnaryOp .Not l _ => ck C N sc a l
    | _ => false
  | .and a b, x => match x with
    | .BoolOp .And [l, r] _ => ck C N sc a l && ck C N sc b r
    | .BoolOp .And (l :: r :: r2 :: rest) _ => ck C N sc a l && ckL C N sc .And b (r :: r2 :: rest)
    | _ => false
  | .or a b, x => match x with
    | .BoolOp .Or [l, r] _ => ck C N sc a l && ck C N sc b r
    | .BoolOp .Or (l :: r :: r2 :: rest) _ => ck C N sc a l && ckL C N sc .Or b (r :: r2 :: rest)
    | _ => false
  | .cmp op a b, x => match x with
    | .Compare l [o] [r] _ => decide (o = op) && ck C N sc a l && ck C N sc b r && notSet r
    | _ => false
  | .chain op op' a b c, x => match x with
    | .Compare l [o, o'] [m, r] _ => decide (o = op) && decide (o' = op') && ck C N sc a l && ck C N sc b m && ck C N sc c r && notSet r
    | _ => false
  | .ite c a b, x => match x with
    | .IfExp t l r _ => ck C N sc c t && ck C N sc a l && ck C N sc b r
    | _ => false
  | .tup es, x => match x with
    | .Tuple xs _ _ => cks C N sc es xs && decide (es.length ≤ lim)
    | _ => false
  | .lst es, x => match x with
    | .List xs _ => cks C N sc es xs && decide (es.length ≤ lim)
    | _ => false
  | .call f es, x => match x with
    | .Call (.Name g _) xs [] _ => decide (g = f) && isGlb sc g && decide (C.ft g = some es.length) && cks C N sc es xs
    | _ => false
  | .prim f es, x => match x with
    | .Call (.Name g _) (y :: ys) [] _ => decide (g = f.name) && isGlb sc g && C.bi g && cks C N sc es (y :: ys)
    | _ => false
  | .isi a t, x => match x with
    | .Call (.Name g _) [y, .Name u _] [] _ => decide (g = "isinstance") && isGlb sc g && C.bi g && decide (u = Str.ofString t) && isGlb sc u && C.bi u && decide (t ∈ isiTys) && ck C N sc a y && noStar y
    | _ => false
  | .app i e, x => match x with
    | .Call (.Attribute o m apos) [y] [] pos => ckVar N sc i o && decide (m = "append") && ck C N sc e y && noStar y && (apos.endLine == pos.line)
    | _ => false
  | .idx a i, x => match x with
    | .Subscript l r _ => ck C N sc a l && ck C N sc i r && notSlice r
    | _ => false
  | .comp own elt tg k src ifs, x => match x with
    | .ListComp e [g] scope _ => decide (g.is_async = 0) && ckBlk N sc scope own && (tsl tg).all (fun j => decide (j ∈ own.map (·.2))) && ckT N scope.names tg g.target && ck C N scope.names elt e && cks C N scope.names ifs g.ifs && decide (ifs.length ≤ 1) && ckI C N sc k src g.iter
    | _ => false
def cks (C : Ck) (N : List Str) (sc : Sc) : List E → List Expr → Bool
  | [], x => match x with
    | [] => true
    | _ => false
  | e :: es, x => match x with
    | y :: ys => ck C N sc e y && noStar y && cks C N sc es ys
    | [] => false
/-- two or more in a row -/
def ckL (C : Ck) (N : List Str) (sc : Sc) (op : BoolOp) : E → List Expr → Bool
  | .and a b, x => match x with
    | [l, r] => decide (op = .And) && ck C N sc a l && ck C N sc b r
    | l :: r :: r2 :: rest => decide (op = .And) && ck C N sc a l && ckL C N sc op b (r :: r2 :: rest)
    | _ => false
  | .or a b, x => match x with
    | [l, r] => decide (op = .Or) && ck C N sc a l && ck C N sc b r
    | l :: r :: r2 :: rest => decide (op = .Or) && ck C N sc a l && ckL C N sc op b (r :: r2 :: rest)
    | _ => false
  | _, _ => false
def ckI (C : Ck) (N : List Str) (sc : Sc) : IK → List E → Expr → Bool
  | k, src, x => match k, src, x with
    | .seq, [e], y => ck C N sc e y && notSet y
    | .rng, [a], .Call (.Name g _) [y] [] _ => decide (g = "range") && isGlb sc g && C.bi g && ck C N sc a y && noStar y
    | .rng, [a, b], .Call (.Name g _) [y, z] [] _ => decide (g = "range") && isGlb sc g && C.bi g && ck C N sc a y && noStar y && ck C N sc b z && noStar z
    | _, _, _ => false
end
end PI

set_option Elab.async false
set_option linter.all false
set_option autoImplicit false
set_option maxRecDepth 100000
set_option maxHeartbeats 4000000
namespace PI
open PySem L2
/-- what holds of the context in which a piece of the text runs -/
structure Cn (ct : Ct) (C : Ck) (G : En) (n : Nat) (X : Cx) (W : WX) (N : List Str) (sc : Sc) : Prop where
  hK : X.K = ct.K
  calm : X.calm = true
  eN : X.N = N
  nd : N.Nodup
  kind : X.env.scope.kind = .function
  loc : ∀ x, sc.lookup x = some .local → X.env.scope.names.lookup x = some .local
  cel : ∀ x, sc.lookup x = some .cell → X.env.scope.names.lookup x = some .cell ∧ X.fn x = true
  fre : ∀ x, sc.lookup x = some .free → X.env.scope.names.lookup x = some .cell ∨ X.env.scope.names.lookup x = some .free
  glb : ∀ x, sc.lookup x = some .globalImplicit → X.env.scope.names.lookup x = some .globalImplicit
  tk : Takes X W
  room : Room n X.A
  fns : ∀ f ar, C.ft f = some ar → ∃ a fd ps, FOk ct X n G.cl f ar a fd ps
  gls : ∀ x, C.gl x = true → ∃ d v u, G.gl x = some d ∧ X.mg x = some u ∧ RelV v u ∧ ∀ F M, Dn ct.K F M v d
  bis : ∀ x, C.bi x = true → X.mg x = none
section
variable {ct : Ct} {C : Ck} {G : En} {n : Nat} {X : Cx} {W : WX} {N : List Str} {sc : Sc}
theorem Cn.vis (c : Cn ct C G n X W N sc) {x : Str} (h : isVis sc x = true) : Vis X.env.scope x := by
  unfold isVis at h
  split at h
  · rename_i q; exact .inl (c.loc x q)
  · rename_i q; exact .inr (.inl (c.cel x q).1)
  · rename_i q
    rcases c.fre x q with z | z
    · exact .inr (.inl z)
    · exact .inr (.inr z)
  · cases h
theorem Cn.isl (c : Cn ct C G n X W N sc) {x : Str} (h : isLoc sc x = true) : L2.Loc X.env.scope x ∧ (X.fn x = true ∨ X.env.scope.names.lookup x = some .local) := by
  unfold isLoc at h
  split at h
  · rename_i q; exact ⟨.inl (c.loc x q), .inr (c.loc x q)⟩
  · rename_i q; exact ⟨.inr (c.cel x q).1, .inl (c.cel x q).2⟩
  · cases h
theorem Cn.gl (c : Cn ct C G n X W N sc) {x : Str} (h : isGlb sc x = true) : Gl X x := by
  unfold isGlb at h
  split at h
  · rename_i q; exact c.glb x q
  · cases h
theorem Cn.var (c : Cn ct C G n X W N sc) {i : Nat} {x : Expr} (h : ckVar N sc i x = true) : PE X x (tVar i) ∧ ∃ nm p, x = .Name nm p := by
  unfold ckVar at h
  split at h
  · simp only [okName, Bool.and_eq_true, Bool.not_eq_true', decide_eq_true_eq] at h
    exact ⟨pe_var (by rw [c.eN]; exact h.1.2) (c.vis h.1.1) h.2.1 h.2.2, _, _, rfl⟩
  · cases h
mutual
theorem Cn.tg (c : Cn ct C G n X W N sc) : ∀ (t : T) (x : Expr), ckT N sc t x = true → PG X x (gT ct t)
  | .var i, x, h => by
    unfold ckT at h
    split at h
    · rw [Bool.and_eq_true, decide_eq_true_eq] at h
      obtain ⟨h1, h2⟩ := c.isl h.1
      exact tg_var (pg_name (by rw [c.eN]; exact c.nd) (by rw [c.eN]; exact h.2) h1 h2)
    · cases h
  | .tup ts, x, h => by
    unfold ckT at h
    split at h
    · obtain ⟨h1, h2, h3⟩ := Cn.tgs c ts _ h
      exact tg_tup c.hK c.calm h1 h2 h3
    · cases h
theorem Cn.tgs (c : Cn ct C G n X W N sc) : ∀ (ts : List T) (es : List Expr), ckTs N sc ts es = true → PGs X es (gTs ct ts) ∧ es.length = ts.length ∧ es.all noStar = true
  | [], x, h => by
    unfold ckTs at h
    split at h
    · exact ⟨tgs_nil, rfl, rfl⟩
    · cases h
  | t :: ts, x, h => by
    unfold ckTs at h
    split at h
    · rename_i e es
      rw [Bool.and_eq_true, Bool.and_eq_true] at h
      obtain ⟨a, b, d⟩ := Cn.tgs c ts es h.2
      exact ⟨tgs_cons (Cn.tg c t e h.1.1) a h.1.2, by rw [List.length_cons, List.length_cons, b], by rw [List.all_cons, h.1.2, d]; rfl⟩
    · cases h
end
theorem lookup_relS_free {sc : Scope} : ∀ {names : List (Str × NameKind)} {x : Str}, names.lookup x = some .free →
    (names.map fun (n, k) => if (k == NameKind.free && sc.kind == .function && sc.names.lookup n == some .cell) then (n, NameKind.cell) else (n, k)).lookup x = some .cell ∨
    (names.map fun (n, k) => if (k == NameKind.free && sc.kind == .function && sc.names.lookup n == some .cell) then (n, NameKind.cell) else (n, k)).lookup x = some .free
  | [], _, h => by simp at h
  | (n, k₀) :: r, x, h => by
    have ih := @lookup_relS_free sc r x
    show List.lookup x ((if (k₀ == NameKind.free && sc.kind == .function && sc.names.lookup n == some .cell) = true then (n, NameKind.cell) else (n, k₀)) :: (r.map _)) = some .cell ∨ List.lookup x ((if (k₀ == NameKind.free && sc.kind == .function && sc.names.lookup n == some .cell) = true then (n, NameKind.cell) else (n, k₀)) :: (r.map _)) = some .free
    cases hx : x == n with
    | true =>
      simp only [List.lookup_cons, hx] at h
      cases h
      by_cases hc : (NameKind.free == NameKind.free && sc.kind == .function && sc.names.lookup n == some .cell) = true
      · rw [if_pos hc]; left; simp only [List.lookup_cons, hx]
      · rw [if_neg hc]; right; simp only [List.lookup_cons, hx]
    | false =>
      simp only [List.lookup_cons, hx] at h
      by_cases hc : (k₀ == NameKind.free && sc.kind == .function && sc.names.lookup n == some .cell) = true
      · rw [if_pos hc]; simp only [List.lookup_cons, hx]; exact ih h
      · rw [if_neg hc]; simp only [List.lookup_cons, hx]; exact ih h
theorem Cn.blkOk (c : Cn ct C G n X W N sc) {scope : Scope} {own : List (Str × Nat)} (h : ckBlk N sc scope own = true) : BlkOk X.N X.env.scope scope own := by
  unfold ckBlk at h
  simp only [Bool.and_eq_true, List.all_eq_true, decide_eq_true_eq] at h
  obtain ⟨⟨⟨h1, h2⟩, h3⟩, h4⟩ := h
  rw [c.eN]
  refine ⟨?_, h2, h3, fun y hy e => ?_, fun y hy e => ?_⟩
  · split at h1
    · assumption
    · cases h1
  · have q := h4 y hy
    simp only [e] at q
    split at q
    · rename_i z; exact .inl (c.cel _ z).1
    · rename_i z; exact c.fre _ z
    · cases q
  · have q := h4 y hy
    rcases e with e | e <;> (simp only [e, Bool.or_eq_true, decide_eq_true_eq] at q; exact q)
theorem Cn.blk (c : Cn ct C G n X W N sc) {scope : Scope} {own : List (Str × Nat)} (h : ckBlk N sc scope own = true) (s : Shared) (H : Hp) (Cc : Addr) (cl : List (Str × Addr)) (fp : List Addr) :
    Cn ct C G n (X.blk s H scope (compEnvC scope cl Cc X.env) fp) W0 N scope.names where
  hK := c.hK
  calm := c.calm
  eN := c.eN
  nd := c.nd
  kind := by
    have := (c.blkOk h).kind
    exact this
  loc := fun x hx => lookup_relS_keep (by decide) hx
  cel := fun x hx => ⟨lookup_relS_keep (by decide) hx, by show (scope.names.lookup x == some .cell) = true; rw [hx]; rfl⟩
  fre := fun x hx => lookup_relS_free hx
  glb := fun x hx => lookup_relS_keep (by decide) hx
  tk := takes0
  room := c.room
  fns := fun f ar hf => by
    obtain ⟨a, fd, ps, k⟩ := c.fns f ar hf
    exact ⟨a, fd, ps, k.mg, k.kp, k.bn, k.ok, k.db⟩
  gls := c.gls
  bis := c.bis
theorem noSet_marks {op : CmpOp} {y : Expr} (h : notSet y = true) : behindInMarks op y = false := by
  cases y <;> first | rfl | cases h
theorem noSet_folded {y : Expr} {env : Env} (h : notSet y = true) : ∀ v, foldedSetIterable y env v = pure v := by
  intro v
  cases y <;> first | rfl | cases h
theorem plainIx_of {y : Expr} (h : notSlice y = true) : PlainIx y := by
  intro o i
  cases y <;> first | rfl | cases h

set_option maxHeartbeats 16000000 in
mutual
theorem ck_ok : ∀ (e : E) {X : Cx} {W : WX} {sc : Sc} (c : Cn ct C G n X W N sc) (x : Expr), ck C N sc e x = true → Snd ct X W x (den G e)
  | .var i, X, W, sc, c, x, h => by
    obtain ⟨a, nm, p, rfl⟩ := c.var h
    exact snd_var c.hK a fun _ => rfl
  | .glob g, X, W, sc, c, x, h => by
    unfold ck at h
    split at h
    · simp only [okName, Bool.and_eq_true, Bool.not_eq_true', decide_eq_true_eq] at h
      obtain ⟨⟨⟨rfl, h2⟩, h3⟩, h4⟩ := h
      obtain ⟨d, v, u, e1, e2, e3, e4⟩ := c.gls _ h3
      exact snd_glob c.hK (c.gl h2) e2 e3 h4.1 e1 e4
    · cases h
  | .cst d, X, W, sc, c, x, h => by
    unfold ck at h
    split at h
    · exact Snd.ofV c.hK (pe_cstV pe_non fun _ _ => .non) fun _ => rfl
    · cases beq_iff_eq.mp h
      exact Snd.ofV c.hK (pe_cstV pe_bl fun _ _ => .bl _) fun _ => rfl
    · cases beq_iff_eq.mp h
      exact Snd.ofV c.hK (pe_cstV pe_int fun _ _ => .int _) fun _ => rfl
    · cases of_decide_eq_true h
      exact Snd.ofV c.hK (pe_cstV pe_str fun _ _ => .str _) fun _ => rfl
    · cases h
  | .bin op a b, X, W, sc, c, x, h => by
    unfold ck at h
    split at h
    · simp only [Bool.and_eq_true, decide_eq_true_eq] at h
      obtain ⟨⟨rfl, h2⟩, h3⟩ := h
      exact snd_bin c.hK (ck_ok a c _ h2) (ck_ok b c _ h3)
    · cases h
  | .neg a, X, W, sc, c, x, h => by
    unfold ck at h
    split at h
    · exact snd_neg c.hK (ck_ok a c _ h)
    · cases h
  | .not a, X, W, sc, c, x, h => by
    unfold ck at h
    split at h
    · exact snd_not c.hK (ck_ok a c _ h)
    · cases h
  | .and a b, X, W, sc, c, x, h => by
    unfold ck at h
    split at h
    · rw [Bool.and_eq_true] at h
      exact (sndL_and (ck_ok a c _ h.1) (sndL_one (ck_ok b c _ h.2))).snd rfl
    · rw [Bool.and_eq_true] at h
      exact (sndL_and (ck_ok a c _ h.1) (ckL_ok .And b c _ _ h.2)).snd rfl
    · cases h
  | .or a b, X, W, sc, c, x, h => by
    unfold ck at h
    split at h
    · rw [Bool.and_eq_true] at h
      exact (sndL_or (ck_ok a c _ h.1) (sndL_one (ck_ok b c _ h.2))).snd rfl
    · rw [Bool.and_eq_true] at h
      exact (sndL_or (ck_ok a c _ h.1) (ckL_ok .Or b c _ _ h.2)).snd rfl
    · cases h
  | .cmp op a b, X, W, sc, c, x, h => by
    unfold ck at h
    split at h
    · simp only [Bool.and_eq_true, decide_eq_true_eq] at h
      obtain ⟨⟨⟨rfl, h2⟩, h3⟩, h4⟩ := h
      exact snd_cmp c.hK c.room.units (ck_ok a c _ h2) (ck_ok b c _ h3) (noSet_marks h4)
    · cases h
  | .chain op op' a b d, X, W, sc, c, x, h => by
    unfold ck at h
    split at h
    · simp only [Bool.and_eq_true, decide_eq_true_eq] at h
      obtain ⟨⟨⟨⟨⟨rfl, rfl⟩, h2⟩, h3⟩, h4⟩, h5⟩ := h
      exact snd_chain c.hK c.room.units (ck_ok a c _ h2) (ck_ok b c _ h3) (ck_ok d c _ h4) (noSet_marks h5)
    · cases h
  | .ite d a b, X, W, sc, c, x, h => by
    unfold ck at h
    split at h
    · simp only [Bool.and_eq_true] at h
      exact snd_ite (ck_ok d c _ h.1.1) (ck_ok a c _ h.1.2) (ck_ok b c _ h.2)
    · cases h
  | .tup es, X, W, sc, c, x, h => by
    unfold ck at h
    split at h
    · simp only [Bool.and_eq_true, decide_eq_true_eq] at h
      obtain ⟨a, _, l⟩ := cks_ok es c _ false h.1
      exact snd_tup c.hK a (by rw [l]; exact h.2)
    · cases h
  | .lst es, X, W, sc, c, x, h => by
    unfold ck at h
    split at h
    · simp only [Bool.and_eq_true, decide_eq_true_eq] at h
      obtain ⟨a, _, l⟩ := cks_ok es c _ false h.1
      exact snd_lst c.hK a (by rw [l]; exact h.2)
    · cases h
  | .call f es, X, W, sc, c, x, h => by
    unfold ck at h
    split at h
    · rename_i g p xs pos
      simp only [Bool.and_eq_true, decide_eq_true_eq] at h
      obtain ⟨⟨⟨rfl, h2⟩, h3⟩, h4⟩ := h
      obtain ⟨a, fd, ps, k⟩ := c.fns _ _ h3
      obtain ⟨pa, st, l⟩ := cks_ok es c _ false h4
      cases xs with
      | nil =>
        cases es with
        | nil => exact snd_call0 c.hK c.tk c.room k (c.gl h2)
        | cons e es => unfold cks at h4; cases h4
      | cons y ys => exact snd_call c.hK c.tk c.room k (c.gl h2) pa st l
    · cases h
  | .prim f es, X, W, sc, c, x, h => by
    unfold ck at h
    split at h
    · simp only [Bool.and_eq_true, decide_eq_true_eq] at h
      obtain ⟨⟨⟨rfl, h2⟩, h3⟩, h4⟩ := h
      obtain ⟨pa, st, l⟩ := cks_ok es c _ true h4
      exact snd_prim c.hK c.calm (c.gl h2) (c.bis _ h3) pa st
    · cases h
  | .isi a t, X, W, sc, c, x, h => by
    unfold ck at h
    split at h
    · simp only [Bool.and_eq_true, decide_eq_true_eq] at h
      obtain ⟨⟨⟨⟨⟨⟨⟨⟨rfl, h2⟩, h3⟩, rfl⟩, h5⟩, h6⟩, h7⟩, h8⟩, h9⟩ := h
      exact snd_isi c.hK h7 (c.gl h2) (c.bis _ h3) (c.gl h5) (c.bis _ h6) (ck_ok a c _ h8) h9
    · cases h
  | .app i e, X, W, sc, c, x, h => by
    unfold ck at h
    split at h
    · simp only [Bool.and_eq_true, decide_eq_true_eq] at h
      obtain ⟨⟨⟨⟨h1, rfl⟩, h3⟩, h4⟩, h5⟩ := h
      obtain ⟨a, nm, p, rfl⟩ := c.var h1
      exact snd_app c.hK a (ck_ok e c _ h3) h4 h5
    · cases h
  | .idx a i, X, W, sc, c, x, h => by
    unfold ck at h
    split at h
    · simp only [Bool.and_eq_true] at h
      exact snd_idx c.hK (ck_ok a c _ h.1.1) (ck_ok i c _ h.1.2) (plainIx_of h.2)
    · cases h
  | .comp own elt tg k src ifs, X, W, sc, c, x, h => by
    unfold ck at h
    split at h
    · rename_i e g scope pos
      simp only [Bool.and_eq_true, decide_eq_true_eq, List.all_eq_true] at h
      obtain ⟨⟨⟨⟨⟨⟨⟨h1, h2⟩, h3⟩, h4⟩, h5⟩, h6⟩, h7⟩, h8⟩ := h
      obtain ⟨t0, it0, if0, as0⟩ := g
      have h1 : as0 = 0 := h1
      subst h1
      obtain ⟨hi, hs⟩ := ckI_ok k src c t0 _ h8
      refine snd_comp c.hK c.calm (by rw [c.eN]; exact c.nd) ⟨hi, c.blkOk h2, fun s H Cc cl fp => (c.blk h2 s H Cc cl fp).tg tg _ h4, fun s H Cc cl fp => ?_, fun s H Cc cl fp => (ck_ok elt (c.blk h2 s H Cc cl fp) _ h5).v, hs, h3⟩
      exact ckF_ok ifs (c.blk h2 s H Cc cl fp) _ h6 h7
    · cases h
theorem cks_ok : ∀ (es : List E) {X : Cx} {W : WX} {sc : Sc} (c : Cn ct C G n X W N sc) (xs : List Expr) (b : Bool), cks C N sc es xs = true → PA X xs (tBsR ct W (Den.bs b (dens G es))) ∧ xs.all noStar = true ∧ (dens G es).length = es.length
  | [], X, W, sc, c, x, b, h => by
    unfold cks at h
    split at h
    · exact ⟨pa_nilB, rfl, rfl⟩
    · cases h
  | e :: es, X, W, sc, c, x, b, h => by
    unfold cks at h
    split at h
    · rename_i y ys
      rw [Bool.and_eq_true, Bool.and_eq_true] at h
      obtain ⟨a1, a2, a3⟩ := cks_ok es c ys b h.2
      exact ⟨pa_consB (ck_ok e c y h.1.1) a1 h.1.2, by rw [List.all_cons, h.1.2, a2]; rfl, by show (dens G es).length + 1 = es.length + 1; rw [a3]⟩
    · cases h
theorem ckL_ok (op : BoolOp) : ∀ (e : E) {X : Cx} {W : WX} {sc : Sc} (c : Cn ct C G n X W N sc) (xs : List Expr) (pos : Pos), ckL C N sc op e xs = true → SndL ct X W op xs pos (den G e)
  | .and a b, X, W, sc, c, x, pos, h => by
    unfold ckL at h
    split at h
    · simp only [Bool.and_eq_true, decide_eq_true_eq] at h
      obtain ⟨⟨rfl, h2⟩, h3⟩ := h
      exact sndL_and (ck_ok a c _ h2) (sndL_one (ck_ok b c _ h3))
    · simp only [Bool.and_eq_true, decide_eq_true_eq] at h
      obtain ⟨⟨rfl, h2⟩, h3⟩ := h
      exact sndL_and (ck_ok a c _ h2) (ckL_ok .And b c _ _ h3)
    · cases h
  | .or a b, X, W, sc, c, x, pos, h => by
    unfold ckL at h
    split at h
    · simp only [Bool.and_eq_true, decide_eq_true_eq] at h
      obtain ⟨⟨rfl, h2⟩, h3⟩ := h
      exact sndL_or (ck_ok a c _ h2) (sndL_one (ck_ok b c _ h3))
    · simp only [Bool.and_eq_true, decide_eq_true_eq] at h
      obtain ⟨⟨rfl, h2⟩, h3⟩ := h
      exact sndL_or (ck_ok a c _ h2) (ckL_ok .Or b c _ _ h3)
    · cases h
  | .var _, X, W, sc, c, x, pos, h => by unfold ckL at h; cases h
  | .glob _, X, W, sc, c, x, pos, h => by unfold ckL at h; cases h
  | .cst _, X, W, sc, c, x, pos, h => by unfold ckL at h; cases h
  | .bin _ _ _, X, W, sc, c, x, pos, h => by unfold ckL at h; cases h
  | .neg _, X, W, sc, c, x, pos, h => by unfold ckL at h; cases h
  | .not _, X, W, sc, c, x, pos, h => by unfold ckL at h; cases h
  | .cmp _ _ _, X, W, sc, c, x, pos, h => by unfold ckL at h; cases h
  | .chain _ _ _ _ _, X, W, sc, c, x, pos, h => by unfold ckL at h; cases h
  | .ite _ _ _, X, W, sc, c, x, pos, h => by unfold ckL at h; cases h
  | .tup _, X, W, sc, c, x, pos, h => by unfold ckL at h; cases h
  | .lst _, X, W, sc, c, x, pos, h => by unfold ckL at h; cases h
  | .call _ _, X, W, sc, c, x, pos, h => by unfold ckL at h; cases h
  | .prim _ _, X, W, sc, c, x, pos, h => by unfold ckL at h; cases h
  | .isi _ _, X, W, sc, c, x, pos, h => by unfold ckL at h; cases h
  | .app _ _, X, W, sc, c, x, pos, h => by unfold ckL at h; cases h
  | .idx _ _, X, W, sc, c, x, pos, h => by unfold ckL at h; cases h
  | .comp _ _ _ _ _ _, X, W, sc, c, x, pos, h => by unfold ckL at h; cases h
theorem ckF_ok : ∀ (ifs : List E) {X : Cx} {W : WX} {sc : Sc} (c : Cn ct C G n X W N sc) (xs : List Expr), cks C N sc ifs xs = true → ifs.length ≤ 1 → PTs X xs (tTs ct W (tstsR (dens G ifs)))
  | [], X, W, sc, c, xs, h, _ => by
    unfold cks at h
    split at h
    · exact pts_nilR
    · cases h
  | [e], X, W, sc, c, xs, h, _ => by
    unfold cks at h
    split at h
    · rename_i y ys
      rw [Bool.and_eq_true, Bool.and_eq_true] at h
      have h62 := h.2
      unfold cks at h62
      split at h62
      · exact pts_oneR (ck_ok e c _ h.1.1).t
      · cases h62
    · cases h
  | _ :: _ :: _, X, W, sc, c, xs, h, hl => by simp at hl
theorem ckI_ok : ∀ (k : IK) (src : List E) {X : Cx} {W : WX} {sc : Sc} (c : Cn ct C G n X W N sc) (tg x : Expr), ckI C N sc k src x = true → L2.PI X tg x (tIt ct W (itR k (dens G src))) ∧ ∀ v, foldedSetIterable x X.env v = pure v
  | .seq, [e], X, W, sc, c, tg, x, h => by
    have h : (ck C N sc e x && notSet x) = true := by unfold ckI at h; exact h
    rw [Bool.and_eq_true] at h
    exact ⟨it_seq c.hK (ck_ok e c _ h.1), noSet_folded h.2⟩
  | .rng, [a], X, W, sc, c, tg, x, h => by
    unfold ckI at h
    split at h
    · rename_i q _; cases q
    · rename_i e g p y pos q1 q2
      cases q2
      simp only [Bool.and_eq_true, decide_eq_true_eq] at h
      obtain ⟨⟨⟨⟨rfl, h2⟩, h3⟩, h4⟩, h5⟩ := h
      exact ⟨it_rng1 (c.gl h2) (c.bis _ h3) (ck_ok a c _ h4) h5, fun _ => rfl⟩
    · rename_i q1 q2; cases q2
    · cases h
  | .rng, [a, b], X, W, sc, c, tg, x, h => by
    unfold ckI at h
    split at h
    · rename_i q _; cases q
    · rename_i q1 q2; cases q2
    · rename_i e e2 g p y z pos q1 q2
      cases q2
      simp only [Bool.and_eq_true, decide_eq_true_eq] at h
      obtain ⟨⟨⟨⟨⟨⟨rfl, h2⟩, h3⟩, h4⟩, h5⟩, h6⟩, h7⟩ := h
      exact ⟨it_rng2 (c.gl h2) (c.bis _ h3) (ck_ok a c _ h4) (ck_ok b c _ h6) h5 h7, fun _ => rfl⟩
    · cases h
  | .seq, [], X, W, sc, c, tg, x, h => by unfold ckI at h; cases h
  | .seq, _ :: _ :: _, X, W, sc, c, tg, x, h => by unfold ckI at h; cases h
  | .rng, [], X, W, sc, c, tg, x, h => by unfold ckI at h; cases h
  | .rng, _ :: _ :: _ :: _, X, W, sc, c, tg, x, h => by unfold ckI at h; cases h
  | .enm, _, X, W, sc, c, tg, x, h => by unfold ckI at h; cases h
  | .zp, _, X, W, sc, c, tg, x, h => by unfold ckI at h; cases h
end
end
end PI

set_option Elab.async false
set_option linter.all false
set_option autoImplicit false
set_option maxRecDepth 100000
set_option maxHeartbeats 4000000
namespace PI
open PySem L2
def notComp : Expr → Bool
  | .ListComp .. => false
  | .SetComp .. => false
  | .DictComp .. => false
  | _ => true
def notTuple : Expr → Bool
  | .Tuple .. => false
  | _ => true
def isCall : Expr → Bool
  | .Call .. => true
  | _ => false
def swapB (sc : Sc) (y : Str) (py : Pos) (scope : Scope) (pos : Pos) : Bool :=
  (match sc.lookup y with | some .local => true | _ => false) && py.line == pos.line && !(scope.names.any fun (n, k) => n == y && (k == .local || k == .cell))
def isComp : Expr → Option Scope
  | .ListComp _ _ s _ => some s
  | _ => none
def asgOk : Expr → Bool
  | .ListComp .. => true
  | v => notComp v
mutual
def ckS (C : Ck) (N : List Str) (sc : Sc) : S → Stmt → Bool
  | .expr e, x => match x with
    | .Expr v _ => ck C N sc e v && isCall v
    | _ => false
  | .asg t e, x => match x with
    | .Assign [y] v _ => ck C N sc e v && ckT N sc t y && (match t with
      | .var _ => asgOk v
      | .tup _ => notComp v && notTuple v)
    | _ => false
  | .newRow i es, x => match x with
    | .Assign [y] v _ => (match v with
      | .List xs _ => cks C N sc es xs && decide (es.length ≤ lim) && ckT N sc (.var i) y
      | _ => false)
    | _ => false
  | .par i j a b, x => match x with
    | .Assign [.Tuple [.Name x px, .Name y py] kt pt] (.Tuple [va, vb] k2 pt2) _ =>
      (match sc.lookup x with | some .local => true | _ => false) && (match sc.lookup y with | some .local => true | _ => false) && decide (N[i]? = some x) && decide (N[j]? = some y) && decide (i ≠ j) && decide (x ≠ y) && px.line == py.line
        && ck C N sc a va && noStar va && ck C N sc b vb && noStar vb && !(foldedForSure 8 va && foldedForSure 8 vb) && !(constantsAlone 8 va && constantsAlone 8 vb)
    | _ => false
  | .setIdx i k e, x => match x with
    | .Assign [.Subscript o kx _] v _ => ckVar N sc i o && ck C N sc k kx && ck C N sc e v && notSlice kx && notComp v && notTuple v
    | _ => false
  | .aug i op e, x => match x with
    | .AugAssign (.Name y _) o v _ => decide (o = op) && isLoc sc y && decide (N[i]? = some y) && ck C N sc e v
    | _ => false
  | .if_ c a b, x => match x with
    | .If t l r _ => ck C N sc c t && ckSs C N sc a l && ckSs C N sc b r
    | _ => false
  | .for_ t k src body, x => match x with
    | .For y it b [] _ => ckT N sc t y && ckI C N sc k src it && ckSs C N sc body b
    | _ => false
  | .ret e, x => match x with
    | .Return (some v) _ => ck C N sc e v
    | _ => false
  | .never, _ => true
  | .pass, x => match x with
    | .Pass _ => true
    | _ => false
def ckSs (C : Ck) (N : List Str) (sc : Sc) : List S → List Stmt → Bool
  | [], x => match x with
    | [] => true
    | _ => false
  | s :: ss, x => match x with
    | y :: ys => ckS C N sc s y && ckSs C N sc ss ys
    | [] => false
end
section
variable {ct : Ct} {C : Ck} {G : En} {n : Nat} {X : Cx} {W : WX} {N : List Str} {sc : Sc}
theorem noComp_sw {v : Expr} {t : Option Expr} {l : Nat} {env : Env} (h : notComp v = true) : swapsWith v t l env = pure false := by
  cases v <;> first | rfl | cases h
theorem noComp_sole {v t : Expr} {l : Nat} {env : Env} (h : notComp v = true) : swapsWithSole [t] v l env = pure false := noComp_sw h
theorem asgOk_or {v : Expr} (h : asgOk v = true) : notComp v = true ∨ ∃ elt gs scope pos, v = .ListComp elt gs scope pos := by
  cases v with
  | ListComp elt gs scope pos => exact .inr ⟨_, _, _, _, rfl⟩
  | _ => exact .inl h
theorem call_sw {v : Expr} {l : Nat} {env : Env} (h : isCall v = true) : swapsWith v none l env = pure false := by
  cases v <;> first | rfl | cases h
theorem noTuple_st {t v : Expr} {env : Env} (h : notTuple v = true) : swappedStores [t] v env = pure none := by
  cases v <;> first | (cases h; done) | (unfold swappedStores; cases t <;> rfl)
theorem Cn.kindB (c : Cn ct C G n X W N sc) : X.env.blockKind = .function := by
  unfold Env.blockKind; rw [c.kind]; rfl
theorem Cn.sw (c : Cn ct C G n X W N sc) {elt : Expr} {gs : List Comprehension} {scope : Scope} {pos py : Pos} {y : Str} {l : Nat} (hy : isLoc sc y = true) : swapsWith (.ListComp elt gs scope pos) (some (.Name y py)) l X.env = pure (swapB sc y py scope pos) := by
  unfold swapsWith swapB
  unfold isLoc at hy
  split at hy
  · rename_i q
    have k : X.env.kindOf y = some .local := c.loc y q
    simp only [c.kindB, k, q, Expr.pos]
    rfl
  · rename_i q
    have k : X.env.kindOf y = some .cell := (c.cel y q).1
    simp only [c.kindB, k, q, Expr.pos]
    rfl
  · cases hy
theorem subs_assign {o i : Expr} {pos : Pos} {env : Env} (h : notSlice i = true) : ∀ v, assign (.Subscript o i pos) env v = (do
      let ov ← holding [v] (eval o env)
      let iv ← holding [v, ov] (eval i env)
      standAt pos
      holding [v, ov, iv] (setItem ov iv v)
      release [v, ov, iv] []) := by
  intro v
  cases i <;> first | rfl | cases h
theorem Cn.swst (c : Cn ct C G n X W N sc) {x y : Str} {px py pt pt2 : Pos} {kt k2 : Nat} {va vb : Expr} (h1 : sc.lookup x = some .local) (h2 : sc.lookup y = some .local) (hxy : x ≠ y) (hl : (px.line == py.line) = true) (s1 : noStar va = true) (s2 : noStar vb = true)
    (f : (foldedForSure 8 va && foldedForSure 8 vb) = false) (g : (constantsAlone 8 va && constantsAlone 8 vb) = false) : swappedStores [.Tuple [.Name x px, .Name y py] kt pt] (.Tuple [va, vb] k2 pt2) X.env = pure (some [x, y]) := by
  have k1 : X.env.kindOf x = some .local := c.loc x h1
  have k2 : X.env.kindOf y = some .local := c.loc y h2
  have hl' : py.line = px.line := (beq_iff_eq.mp hl).symm
  have ne : (x == y) = false := beq_eq_false_iff_ne.mpr hxy
  have ne' : (y == x) = false := beq_eq_false_iff_ne.mpr fun z => hxy z.symm
  have nm : List.filterMap (fun
    | Expr.Name id pos => if X.env.kindOf id == some .local && pos.line == px.line then some id else none
    | _ => none) [Expr.Name x px, Expr.Name y py] = [x, y] := by
    simp [List.filterMap, k1, k2, hl']
  have an : (([va, vb] : List Expr).any fun | .Starred .. => true | _ => false) = false := by
    clear f g nm ne ne' hl hl'
    cases va <;> first | (cases s1; done) | (cases vb <;> first | (cases s2; done) | rfl)
  have f' : ([va, vb] : List Expr).all (foldedForSure 8) = false := by simpa [List.all_cons] using f
  have g' : ([va, vb] : List Expr).all (constantsAlone 8) = false := by simpa [List.all_cons] using g
  have ed : ([x, y] : List Str).eraseDups.length = 2 := by
    simp [List.eraseDups_cons, ne, ne', hxy, fun z : y = x => hxy z.symm]
  show (do
    if !(([Expr.Name x px, Expr.Name y py] : List Expr).length == 2 || ([Expr.Name x px, Expr.Name y py] : List Expr).length == 3) || ([va, vb] : List Expr).length != ([Expr.Name x px, Expr.Name y py] : List Expr).length || X.env.blockKind != .function then return none
    if ([va, vb] : List Expr).any fun | .Starred .. => true | _ => false then return none
    let names := ([Expr.Name x px, Expr.Name y py] : List Expr).filterMap fun
      | .Name id pos => if X.env.kindOf id == some .local && pos.line == px.line then some id else none
      | _ => none
    if names.length != ([Expr.Name x px, Expr.Name y py] : List Expr).length || names.eraseDups.length != names.length then return none
    if ([va, vb] : List Expr).all (foldedForSure 8) then return none
    if ([va, vb] : List Expr).all (constantsAlone 8) then unsupported "assign.tuple-of-constant-expressions:order-of-the-stores"
    return some names : Sem (Option (List Str))) = pure (some [x, y])
  rw [nm, an, f', g', c.kindB]
  simp only [ed]
  rfl
end
end PI

set_option Elab.async false
set_option linter.all false
set_option autoImplicit false
set_option maxRecDepth 100000
set_option maxHeartbeats 4000000
namespace PI
open PySem L2
section
variable {ct : Ct} {C : Ck} {G : En} {n : Nat} {X : Cx} {W : WX} {N : List Str} {sc : Sc}
theorem Cn.asgT (c : Cn ct C G n X W N sc) {i : Nat} {y : Expr} (h : ckT N sc (.var i) y = true) : ∃ nm p, y = .Name nm p ∧ isLoc sc nm = true ∧ N[i]? = some nm := by
  unfold ckT at h
  split at h
  · rw [Bool.and_eq_true, decide_eq_true_eq] at h
    exact ⟨_, _, rfl, h.1, h.2⟩
  · cases h
theorem comp_parts (c : Cn ct C G n X W N sc) {own : List (Str × Nat)} {elt : E} {tg : T} {k : IK} {src ifs : List E} {e : Expr} {g : Comprehension} {scope : Scope} {pos : Pos} (h : ck C N sc (.comp own elt tg k src ifs) (.ListComp e [g] scope pos) = true) :
    g.is_async = 0 ∧ CompP ct X W e g.target g.iter g.ifs scope own (den G elt) tg k (dens G src) (dens G ifs) := by
  unfold ck at h
  simp only [Bool.and_eq_true, decide_eq_true_eq, List.all_eq_true] at h
  obtain ⟨⟨⟨⟨⟨⟨⟨h1, h2⟩, h3⟩, h4⟩, h5⟩, h6⟩, h7⟩, h8⟩ := h
  obtain ⟨hi, hs⟩ := ckI_ok k src c g.target _ h8
  exact ⟨h1, hi, c.blkOk h2, fun s H Cc cl fp => (c.blk h2 s H Cc cl fp).tg tg _ h4, fun s H Cc cl fp => ckF_ok ifs (c.blk h2 s H Cc cl fp) _ h6 h7, fun s H Cc cl fp => (ck_ok elt (c.blk h2 s H Cc cl fp) _ h5).v, hs, h3⟩
theorem ck_comp {e : E} {elt : Expr} {gs : List Comprehension} {scope : Scope} {pos : Pos} (h : ck C N sc e (.ListComp elt gs scope pos) = true) : ∃ own e' tg k src ifs g, e = .comp own e' tg k src ifs ∧ gs = [g] := by
  cases e with
  | comp own elt tg k src ifs =>
    unfold ck at h
    split at h
    · rename_i q
      cases q
      exact ⟨_, _, _, _, _, _, _, rfl, rfl⟩
    · cases h
  | and a b => unfold ck at h; cases h
  | or a b => unfold ck at h; cases h
  | cst d => unfold ck at h; cases d <;> cases h
  | _ => unfold ck at h; cases h
theorem vr_none {e : E} {i : Nat} (h : (den G e).vr = some i) : e = .var i := by
  cases e with
  | var j =>
    have : some j = some i := h
    cases this; rfl
  | _ => exact absurd h (by intro z; cases z)
set_option maxHeartbeats 16000000 in
mutual
theorem ckS_ok (c : Cn ct C G n X W N sc) (po : PassesOwn (model X.prog X.w) X.A X.env X.xe) : ∀ (s : S) (x : Stmt), ckS C N sc s x = true → PS X x (tEx ct W (dst G s))
  | .expr e, x, h => by
    unfold ckS at h
    split at h
    · rw [Bool.and_eq_true] at h
      exact st_expr (ck_ok e c _ h.1) (call_sw h.2)
    · cases h
  | .asg t e, x, h => by
    unfold ckS at h
    split at h
    · rename_i y v pos
      rw [Bool.and_eq_true, Bool.and_eq_true] at h
      obtain ⟨⟨h1, h2⟩, h3⟩ := h
      cases t with
      | var i =>
        obtain ⟨nm, p, rfl, hl, hn⟩ := c.asgT h2
        obtain ⟨l1, l2⟩ := c.isl hl
        have hN : X.N.Nodup := by rw [c.eN]; exact c.nd
        have hi : X.N[i]? = some nm := by rw [c.eN]; exact hn
        have h3 : asgOk v = true := h3
        rcases asgOk_or h3 with hv | ⟨elt, gs, scope, cpos, rfl⟩
        · exact st_asgV (ps_set hN hi l1 (ck_ok e c _ h1).v (noComp_sw hv) l2) fun _ _ _ q => q
        · obtain ⟨own, e', tg, k, src, ifs, g, rfl, rfl⟩ := ck_comp h1
          obtain ⟨h0, cp⟩ := comp_parts c h1
          have sw := c.sw (elt := elt) (gs := [g]) (scope := scope) (pos := cpos) (py := p) (y := nm) (l := pos.line) hl
          obtain ⟨t0, it0, if0, as0⟩ := g
          have h0 : as0 = 0 := h0
          subst h0
          by_cases sb : swapB sc nm p scope cpos = true
          · have hloc : X.env.scope.names.lookup nm = some .local := by
              unfold swapB at sb
              rw [Bool.and_eq_true, Bool.and_eq_true] at sb
              have := sb.1.1
              split at this
              · rename_i q; exact c.loc nm q
              · cases this
            rw [sb] at sw
            exact st_asgV (ps_setLc c.calm hN hi hloc sw cp.hi cp.ok cp.hg cp.ht cp.he cp.hs) fun σ H Q q => comp_rd cp.ts (by
              obtain ⟨F, M, s, rl, p⟩ := q
              refine ⟨F, M, s, rl, ?_⟩
              show Pst ct W (DrV ct.K) σ F H M s Q ((itR k (dens G src) s).bind fun its s1 => compR (own.map (·.2)) (den G e') tg (dens G ifs) its s1)
              rw [← dComp_eq]
              exact p)
          · have sb : swapB sc nm p scope cpos = false := by simpa using sb
            rw [sb] at sw
            exact st_asgV (ps_set hN hi l1 (ck_ok _ c _ h1).v sw l2) fun _ _ _ q => q
      | tup ts =>
        rw [Bool.and_eq_true] at h3
        have hy : noStar y = true := by
          unfold ckT at h2
          split at h2
          · rfl
          · cases h2
        exact st_asgT (ck_ok e c _ h1) (c.tg (.tup ts) y h2) (noComp_sole h3.1) (noTuple_st h3.2) (by rw [assignEach_cons [] X.env hy]; rfl)
    · cases h
  | .newRow i es, x, h => by
    unfold ckS at h
    split at h
    · split at h
      · simp only [Bool.and_eq_true, decide_eq_true_eq] at h
        obtain ⟨⟨h1, h2⟩, h3⟩ := h
        obtain ⟨nm, p, rfl, hl, hn⟩ := c.asgT h3
        obtain ⟨l1, l2⟩ := c.isl hl
        obtain ⟨pa, st, le⟩ := cks_ok es c _ false h1
        exact st_row (ps_set (by rw [c.eN]; exact c.nd) (by rw [c.eN]; exact hn) l1 (pe_lst pa) rfl l2) (by rw [le]; exact h2)
      · cases h
    · cases h
  | .par i j a b, x, h => by
    unfold ckS at h
    split at h
    · rename_i x px y py kt pt va vb k2 pt2 pos
      simp only [Bool.and_eq_true, decide_eq_true_eq, Bool.not_eq_true'] at h
      obtain ⟨⟨⟨⟨⟨⟨⟨⟨⟨⟨⟨⟨h1, h2⟩, h3⟩, h4⟩, h5⟩, h6⟩, h7⟩, h8⟩, h9⟩, h10⟩, h11⟩, h12⟩, h13⟩ := h
      have e1 : sc.lookup x = some .local := by
        split at h1
        · assumption
        · cases h1
      have e2 : sc.lookup y = some .local := by
        split at h2
        · assumption
        · cases h2
      exact st_par (ps_par c.calm (by rw [c.eN]; exact c.nd) (by rw [c.eN]; exact h3) (by rw [c.eN]; exact h4) h5 (c.loc _ e1) (c.loc _ e2) (pa_cons (ck_ok a c _ h8).v (pa_cons (ck_ok b c _ h10).v pa_nil (starEach_cons _ X.env h11)) (starEach_cons _ X.env h9)) (c.swst e1 e2 h6 h7 h9 h11 h12 h13) rfl)
    · cases h
  | .setIdx i k e, x, h => by
    unfold ckS at h
    split at h
    · simp only [Bool.and_eq_true] at h
      obtain ⟨⟨⟨⟨⟨h1, h2⟩, h3⟩, h4⟩, h5⟩, h6⟩ := h
      obtain ⟨a, nm, p, rfl⟩ := c.var h1
      exact st_set a (ck_ok k c _ h2) (ck_ok e c _ h3) (noComp_sole h5) (noTuple_st h6) (subs_assign h4)
    · cases h
  | .aug i op e, x, h => by
    unfold ckS at h
    split at h
    · simp only [Bool.and_eq_true, decide_eq_true_eq] at h
      obtain ⟨⟨⟨rfl, h2⟩, h3⟩, h4⟩ := h
      obtain ⟨l1, l2⟩ := c.isl h2
      exact st_aug (by rw [c.eN]; exact c.nd) (by rw [c.eN]; exact h3) l1 (ck_ok e c _ h4) l2
    · cases h
  | .if_ d a b, x, h => by
    unfold ckS at h
    split at h
    · simp only [Bool.and_eq_true] at h
      exact st_if (ck_ok d c _ h.1.1) (ckSs_ok c po a _ h.1.2) (ckSs_ok c po b _ h.2)
    · cases h
  | .for_ t k src body, x, h => by
    unfold ckS at h
    split at h
    · simp only [Bool.and_eq_true] at h
      obtain ⟨hi, hs⟩ := ckI_ok k src c _ _ h.1.2
      exact st_for po c.calm hi (c.tg t _ h.1.1) (ckSs_ok c po body _ h.2) hs
    · cases h
  | .ret e, x, h => by
    unfold ckS at h
    split at h
    · refine st_ret (ck_ok e c _ h) fun i hi => ?_
      cases vr_none hi
      exact (c.var (by unfold ck at h; exact h)).1
    · cases h
  | .never, x, h => st_never
  | .pass, x, h => by
    unfold ckS at h
    split at h
    · exact st_pass
    · cases h
theorem ckSs_ok (c : Cn ct C G n X W N sc) (po : PassesOwn (model X.prog X.w) X.A X.env X.xe) : ∀ (ss : List S) (xs : List Stmt), ckSs C N sc ss xs = true → PSs X xs (tEx ct W (dsts G ss))
  | [], x, h => by
    unfold ckSs at h
    split at h
    · exact sts_nil
    · cases h
  | s :: ss, x, h => by
    unfold ckSs at h
    split at h
    · rw [Bool.and_eq_true] at h
      exact sts_cons (ckS_ok c po s _ h.1) (ckSs_ok c po ss _ h.2)
    · cases h
end

/-! ### defs -/
/-- a def of the text, checked: the name in the module, its qualified name, its statement; its names by slot; its pure form -/
structure DefC where
  nm : Str
  st : Stmt
  N : List Str
  ps : List Str
  fn : Fn
def noDup : List Str → Bool
  | [] => true
  | x :: xs => !xs.contains x && noDup xs
theorem noDup_ok : ∀ {l : List Str}, noDup l = true → l.Nodup
  | [], _ => List.nodup_nil
  | x :: xs, h => by
    unfold noDup at h
    rw [Bool.and_eq_true, Bool.not_eq_true'] at h
    exact List.nodup_cons.mpr ⟨fun z => by rw [List.contains_iff_mem.mpr z] at h; exact absurd h.1 (by decide), noDup_ok h.2⟩
def ckScope (N ps : List Str) (sc : Scope) : Bool :=
  (match sc.kind with | .function => true | _ => false) && !sc.isCoroutine && !sc.isGenerator && noDup N && decide (N.take ps.length = ps) && (ps.all fun x => isLoc sc.names x) && (sc.names.all fun y => match y.2 with | .free => false | _ => true) && (sc.names.all fun y => decide (sc.names.lookup y.1 = some y.2))
theorem ckScope_ok {N ps : List Str} {sc : Scope} (h : ckScope N ps sc = true) : FnScope N ps sc := by
  unfold ckScope at h
  simp only [Bool.and_eq_true, decide_eq_true_eq, Bool.not_eq_true', List.all_eq_true] at h
  obtain ⟨⟨⟨⟨⟨⟨⟨h1, h2⟩, h3⟩, h4⟩, h5⟩, h6⟩, h7⟩, h8⟩ := h
  refine ⟨?_, h2, h3, noDup_ok h4, h5, fun x hx => ?_, fun y hy z => ?_⟩
  · split at h1
    · assumption
    · cases h1
  · have q := h6 x hx
    unfold isLoc at q
    split at q
    · exact .inl (by assumption)
    · exact .inr (by assumption)
    · cases q
  · have q := h7 y hy
    rw [z] at q
    cases q
def plainArgs (a : Arguments) (ps : List Str) : Bool := a.posonlyargs.isEmpty && decide (a.args.map (·.arg) = ps) && a.vararg.isNone && a.kwonlyargs.isEmpty && a.kw_defaults.isEmpty && a.kwarg.isNone && a.defaults.isEmpty
def ckDef (C : Ck) (d : DefC) : Bool := ckScope d.N d.ps (defScope d.st) && ckSs C d.N (defScope d.st).names d.fn.body (defBody d.st) && decide (d.fn.ps = d.ps.length) && decide (d.fn.n = d.N.length) && decide (d.ps.length ≤ d.N.length)
end
end PI

set_option Elab.async false
set_option linter.all false
set_option autoImplicit false
set_option maxRecDepth 100000
set_option maxHeartbeats 4000000
namespace PI
open PySem L2
def fsOf (defs : List DefC) (f : Str) : Option Fn := (defs.find? fun d => decide (d.nm = f)).map (·.fn)
def glOf (gs : List (Str × PV)) (x : Str) : Option PV := gs.lookup x
def ckOf (defs : List DefC) (gs : List (Str × PV)) (bi : List Str) : Ck where
  ft := fun f => if f == ("__debug__" : Str) then none else (fsOf defs f).map (·.ps)
  gl := fun x => (glOf gs x).isSome
  bi := fun x => bi.contains x
/-- where a def stands -/
def HeadF (K : PySem.W.Frag) (mg : Str → Option Value) (d : DefC) : Prop := ∃ f fd, Fun K d.nm d.nm d.st f fd ∧ mg d.nm = some (.ref f) ∧ Binds K fd d.ps []
def HeadG (K : PySem.W.Frag) (mg : Str → Option Value) (x : Str) (d : PV) : Prop := ∃ v u, mg x = some u ∧ RelV v u ∧ ∀ F M, Dn K F M v d
section
variable {ct : Ct} {P : Program} {w : World} {mg : Str → Option Value} {base : Heap}
theorem rl_start {F H : Hp} {M : List Addr} {st : Sto} {vs : List V} {ds : List PV} {N : List Str} {m : Nat} (sm : Same F H) (so : Stos ct.K F H M st) (d : Dns ct.K F M vs ds) (hm : m = N.length - vs.length) :
    Rl ct.K F H M (L2.start N vs) ⟨ds.map (fun d => some (.val d)) ++ List.replicate m none, st⟩ := by
  have hl := d.length
  have key : ∀ (i : Nat) (o : Option SV), (ds.map (fun d => some (SV.val d)) ++ List.replicate m none)[i]? = some o → o = none ∨ ∃ dd, o = some (.val dd) ∧ ds[i]? = some dd := fun i o e => by
    by_cases hi : i < ds.length
    · rw [List.getElem?_append_left (by simpa using hi), List.getElem?_map] at e
      have : ds[i]? = some ds[i] := by simp [hi]
      rw [this] at e
      cases e
      exact .inr ⟨_, rfl, by simp [hi]⟩
    · rw [List.getElem?_append_right (by simpa using hi), List.getElem?_replicate] at e
      split at e
      · cases e; exact .inl rfl
      · cases e
  refine ⟨sm, ?_, fun i o e => ?_, fun i j xs ys p a1 _ _ _ => ?_, so⟩
  · unfold L2.start
    simp only [List.length_append, List.length_map, List.length_replicate]
    omega
  · rcases key i o e with rfl | ⟨dd, rfl, h⟩
    · trivial
    · obtain ⟨v, h1, h2⟩ := d.get h
      refine ⟨v, ?_, h2⟩
      have hi : i < vs.length := (List.getElem?_eq_some_iff.mp h1).1
      unfold L2.start
      rw [List.getElem?_append_left (by simpa using hi), List.getElem?_map, h1]
      rfl
  · rcases key i _ a1 with h | ⟨dd, h, _⟩
    · cases h
    · cases h
theorem own_start {ds : List PV} {σ : L2.St} {m : Nat} (p : Addr) : ¬ Own σ (ds.map (fun d => some (SV.val d)) ++ List.replicate m none) p := fun ⟨i, xs, h1, _⟩ => by
  by_cases hi : i < ds.length
  · rw [List.getElem?_append_left (by simpa using hi), List.getElem?_map] at h1
    have : ds[i]? = some ds[i] := by simp [hi]
    rw [this] at h1
    cases h1
  · rw [List.getElem?_append_right (by simpa using hi), List.getElem?_replicate] at h1
    split at h1 <;> cases h1
theorem Ext.o0 {O O' : Addr → Prop} {F H F' H' : Hp} {M M' : List Addr} (e : Ext O F H M F' H' M' O') (h : ∀ p, ¬ O p) : Ext O0 F H M F' H' M' O0 :=
  ⟨e.fs, fun p o h1 h2 _ => e.keep p o h1 h2 (h p), e.dom, fun p o q => (e.newF p o q).imp_right fun z => z.imp_right fun z => h p z, e.pre, e.newM, fun _ z => z.elim⟩
theorem find_mem {defs : List DefC} {f : Str} {d : DefC} (h : defs.find? (fun d => decide (d.nm = f)) = some d) : d ∈ defs ∧ d.nm = f := ⟨List.mem_of_find?_eq_some h, of_decide_eq_true (List.find?_some (p := fun d : DefC => decide (d.nm = f)) h)⟩
abbrev FnsAt (ct : Ct) (P : Program) (w : World) (mg : Str → Option Value) (base : Heap) (defs : List DefC) (gs : List (Str × PV)) (bi : List Str) (n : Nat) : Prop :=
  ∀ (f : Str) (ar : Nat), (ckOf defs gs bi).ft f = some ar → ∃ a fd ps, mg f = some (.ref a) ∧ PySem.W.keepIn ct.K (.ref a) = true ∧ Binds ct.K fd ps [] ∧ FnOk P w ct.K mg base (L2.CX P w) n a fd ps (spF ct (callP (fsOf defs) (glOf gs) n) f ar) ∧ (f == ("__debug__" : Str)) = false
theorem fn_step {defs : List DefC} {gs : List (Str × PV)} {bi : List Str} (hck : defs.all (ckDef (ckOf defs gs bi)) = true) (hg : ∀ p ∈ gs, HeadG ct.K mg p.1 p.2) (hb : ∀ x ∈ bi, mg x = none) {n : Nat} (ih : FnsAt ct P w mg base defs gs bi n)
    {f : Str} {d : DefC} {a : Addr} {fd : FuncData} (h3 : defs.find? (fun d => decide (d.nm = f)) = some d) (F : Fun ct.K d.nm d.nm d.st a fd) : FnOk P w ct.K mg base (L2.CX P w) (n + 1) a fd d.ps (spF ct (callP (fsOf defs) (glOf gs) (n + 1)) f d.ps.length) := by
  obtain ⟨hm, rfl⟩ := find_mem h3
  have h1 : fsOf defs d.nm = some d.fn := by unfold fsOf; rw [h3]; rfl
  have hcd := List.all_eq_true.mp hck d hm
  unfold ckDef at hcd
  simp only [Bool.and_eq_true, decide_eq_true_eq] at hcd
  obtain ⟨⟨⟨⟨c1, c2⟩, c3⟩, c4⟩, c5⟩ := hcd
  have S := ckScope_ok c1
  refine F.okX S (fun vs H Q E ⟨_, _, _, ds, _, _, dn, hl, _⟩ => by rw [dn.length, hl]) fun cdv A outer s H vs Q E hr ⟨F0, M0, st, ds, sm, so, dn, hl, k⟩ => ?_
  have cn : Cn ct (ckOf defs gs bi) ⟨callP (fsOf defs) (glOf gs) n, glOf gs⟩ n (cxOf (L2.CX P w) P w ct.K mg base d.N d.nm (defScope d.st) a cdv A outer s H E) (fun cls dd _ H => E cls dd H) d.N (defScope d.st).names := by
    refine ⟨rfl, rfl, rfl, S.nd, S.kind, fun _ h => h, fun _ h => ⟨h, rfl⟩, fun x h => (S.nofree _ (PySem.mem_of_lookup h) rfl).elim, fun _ h => h, takes_of rfl rfl rfl rfl, hr, fun g ar' hg' => ?_, fun x hx => ?_, fun x hx => hb x (List.contains_iff_mem.mp hx)⟩
    · obtain ⟨a', fd', ps', z1, z2, z3, z4, z5⟩ := ih g ar' hg'
      exact ⟨a', fd', ps', z1, z2, z3, z4, z5⟩
    · have hx : (glOf gs x).isSome = true := hx
      obtain ⟨dd, hdd⟩ := Option.isSome_iff_exists.mp hx
      obtain ⟨v, u, z1, z2, z3⟩ := hg (x, dd) (PySem.mem_of_lookup hdd)
      exact ⟨dd, v, u, hdd, z1, z2, z3⟩
  refine ⟨_, ckSs_ok cn (passes_of rfl) d.fn.body _ c2, ?_⟩
  have hvl : vs.length = d.ps.length := by rw [dn.length, hl]
  have rl := rl_start (N := d.N) (m := d.fn.n - d.fn.ps) sm so dn (by rw [c3, c4, hvl])
  refine ⟨F0, M0, _, rl, ?_⟩
  have e : callP (fsOf defs) (glOf gs) (n + 1) d.nm ds st = runFn ⟨callP (fsOf defs) (glOf gs) n, glOf gs⟩ d.fn ds st := by
    show (match fsOf defs d.nm with
      | some fn => runFn ⟨callP (fsOf defs) (glOf gs) n, glOf gs⟩ fn ds st
      | none => .stuck) = _
    rw [h1]
  rw [e] at k
  unfold runFn at k
  rw [if_pos (by rw [hl, c3])] at k
  generalize hS : (⟨ds.map (fun d => some (SV.val d)) ++ List.replicate (d.fn.n - d.fn.ps) none, st⟩ : Ps) = S0 at *
  have hO : ∀ p, ¬ Own (L2.start d.N vs) S0.loc p := fun p => by rw [← hS]; exact own_start p
  cases er : dsts ⟨callP (fsOf defs) (glOf gs) n, glOf gs⟩ d.fn.body S0 with
  | stuck => rw [er] at k; exact k
  | exc c fs s' =>
    rw [er] at k
    exact fun cls dd σ' F' H' M' x rl' q => k cls dd F' H' M' (x.o0 hO) rl'.same rl'.sto q
  | ok fl s' =>
    cases fl with
    | next =>
      rw [er] at k
      exact fun σ' F' H' M' x rl' => k .non F' H' M' (x.o0 hO) rl'.same rl'.sto .non
    | brk => rw [er] at k; exact k.elim
    | cont => rw [er] at k; exact k.elim
    | ret r =>
      rw [er] at k
      refine fun v F' H' M' x sm' so' dt => k v F' H' M' (x.o0 hO) sm' so' ?_
      cases r with
      | val d' => exact dt
      | own xs =>
        obtain ⟨q, us, a1, a2, a3, a4, a5, a6⟩ := dt
        exact ⟨q, us, a1, a2, a3, a4, a5, a6.resolve_right (hO q)⟩
theorem all_fns {defs : List DefC} {gs : List (Str × PV)} {bi : List Str} (hck : defs.all (ckDef (ckOf defs gs bi)) = true) (hd : ∀ d ∈ defs, HeadF ct.K mg d) (hg : ∀ p ∈ gs, HeadG ct.K mg p.1 p.2) (hb : ∀ x ∈ bi, mg x = none) :
    ∀ n : Nat, FnsAt ct P w mg base defs gs bi n := by
  intro n
  induction n with
  | zero =>
    intro f ar hf
    have hf : (if f == ("__debug__" : Str) then none else (fsOf defs f).map (·.ps)) = some ar := hf
    by_cases hdb : (f == ("__debug__" : Str)) = true
    · rw [if_pos hdb] at hf; cases hf
    · rw [if_neg hdb] at hf
      obtain ⟨fn, h1, h2⟩ := Option.map_eq_some_iff.mp hf
      obtain ⟨d, h3, h4⟩ := Option.map_eq_some_iff.mp h1
      obtain ⟨hm, rfl⟩ := find_mem h3
      obtain ⟨a, fd, F, e1, e2⟩ := hd d hm
      refine ⟨a, fd, d.ps, e1, F.kp, e2, ⟨fun vs H Q E ⟨_, _, _, _, _, _, _, _, z⟩ => z.elim, fun _ _ _ _ _ _ _ _ _ _ _ _ _ ⟨_, _, _, _, _, _, _, _, z⟩ => z.elim⟩, by simpa using hdb⟩
  | succ n ih =>
    intro f ar hf
    have hf : (if f == ("__debug__" : Str) then none else (fsOf defs f).map (·.ps)) = some ar := hf
    by_cases hdb : (f == ("__debug__" : Str)) = true
    · rw [if_pos hdb] at hf; cases hf
    · rw [if_neg hdb] at hf
      obtain ⟨fn, h1, h2⟩ := Option.map_eq_some_iff.mp hf
      obtain ⟨d, h3, h4⟩ := Option.map_eq_some_iff.mp h1
      obtain ⟨hm, hnm⟩ := find_mem h3
      obtain ⟨a, fd, F, e1, e2⟩ := hd d hm
      have hcd := List.all_eq_true.mp hck d hm
      unfold ckDef at hcd
      simp only [Bool.and_eq_true, decide_eq_true_eq] at hcd
      have har : ar = d.ps.length := by rw [← h2, ← h4]; exact hcd.1.1.2
      rw [har]
      exact ⟨a, fd, d.ps, by rw [← hnm]; exact e1, F.kp, e2, fn_step hck hg hb ih h3 F, by simpa using hdb⟩
/-- the law: what the pure form computes of every script -/
theorem walk_law {l : PySem.W.OpenLaw} {q : Program} {loose : List Str} {XP : (Str → Option Value) → Heap → Prop} {YP : World → Heap → Prop} {d : DefRec} {K : Params → PySem.W.Frag} {k : Nat} {x : Str} {defs : List DefC} {gs : List (Str × PV)} {bi : List Str} {dl : DefC}
    (hn : l.most = some 63) (hdf : d.params.defaults = []) (hr : Room (k + 1) callerA) (hY : ∀ (w : World) (h : Heap), YP w h → (K w.params).In h)
    (hck : defs.all (ckDef (ckOf defs gs bi)) = true) (hfind : defs.find? (fun e => decide (e.nm = d.name)) = some dl) (hps : dl.ps = [x])
    (hbl : ∀ (kV doc pm : Value) (an : Option Addr) (cdv ct u : Value), bindArgs (PySem.W.fnOf dl.nm dl.nm (defArgs dl.st) (defBody dl.st) (defScope dl.st) .none kV doc pm an cdv ct) ⟨[u], []⟩ = Pure.pure [(x, u)])
    (HF : ∀ (w : World) (mg : Str → Option Value) (h : Heap), (K w.params).In h → h.Ns mainGlobals mg → (∀ e ∈ defs, HeadF (K w.params) mg e) ∧ (∀ p ∈ gs, HeadG (K w.params) mg p.1 p.2) ∧ ∀ x ∈ bi, mg x = none)
    (pure : ∀ ns : List Int, ns.length ≤ 63 → (∀ z ∈ ns, Builtin.Int.intBits z ≤ 1048576) → ∃ st, callP (fsOf defs) (glOf gs) (k + 1) d.name [.scr ns] [] = .ok (.val (.bl true)) st) :
    PySem.W.WalkO q loose XP YP l.row.toRowW d [] (fun f vs => PySem.call f vs) := by
  refine L2.walk_ofB (n := 63) (k := k + 1) (x := x) (CX := fun w => L2.CX l.prog w) (sp := fun w => spF ⟨K w.params, fun _ _ _ _ _ _ _ => False⟩ (callP (fsOf defs) (glOf gs) (k + 1)) d.name dl.ps.length) hn (by rw [sizeLine_eq]; decide) hdf hr hY (fun w mg fa h KX G hmg => ?_) (fun w H a ns hl hz _ hS => ?_) fun w H s e s' z => ?_
  · obtain ⟨h1, h2, h3⟩ := HF w mg h KX G
    obtain ⟨hm, hnm⟩ := find_mem hfind
    obtain ⟨a, fd, F, e1, e2⟩ := h1 dl hm
    rw [hnm, hmg] at e1
    have e1 : fa = a := by
      have := Option.some.inj e1
      injection this
    subst e1
    refine ⟨fd, fun s u => ?_, fun base _ _ => ?_⟩
    · obtain ⟨oc, od, kV, doc, pm, an, cdv, ct, osl, rfl, _⟩ := F.ex
      exact .of_eq (hbl kV doc pm an cdv ct u)
    · rw [← hps]
      exact fn_step (ct := ⟨K w.params, fun _ _ _ _ _ _ _ => False⟩) hck h2 h3 (all_fns hck h1 h2 h3 k) hfind F
  · obtain ⟨st, e⟩ := pure ns hl hz
    refine ⟨H, [], [], [.scr ns], Same.refl _, ⟨rfl, List.nodup_nil, fun k so a e => by simp at e⟩, .cons (.scr hS) .nil, by rw [hps]; rfl, ?_⟩
    rw [e]
    intro v F' H' M' _ _ _ dr
    cases dr
    rfl
  · obtain ⟨_, _, _, _, _, _, _, _, _, _, _, _, z⟩ := z
    exact z
end
end PI

set_option Elab.async false
set_option linter.all false
set_option autoImplicit false
set_option maxRecDepth 100000
namespace PI
open PySem L2
/-- a constant of the module, as the written part has it -/
inductive DnK (K : PySem.W.Frag) : Value → PV → Prop
  | non : DnK K .none .non
  | bl (b : Bool) : DnK K (.bool b) (.bl b)
  | int (i : Int) (t : Tok) : DnK K (.int i t) (.int i)
  | str (x : Str) (t : Tok) : DnK K (.str x t) (.str x)
def HeadGK (K : PySem.W.Frag) (x : Str) (d : PV) : Prop := ∃ u, PySem.W.nsIn K mainGlobals x = some (some u) ∧ ∃ v, RelV v u ∧ ∀ F M, Dn K F M v d
theorem HeadGK.to {K : PySem.W.Frag} {x : Str} {d : PV} {h : Heap} {mg : Str → Option Value} (g : HeadGK K x d) (X : K.In h) (G : h.Ns mainGlobals mg) : HeadG K mg x d := by
  obtain ⟨u, e, v, r, k⟩ := g
  exact ⟨v, u, PySem.W.mg_of X G e, r, k⟩
theorem hg_int {K : PySem.W.Frag} {x : Str} {i : Int} {t : Tok} (h : PySem.W.nsIn K mainGlobals x = some (some (.int i t))) : HeadGK K x (.int i) := ⟨_, h, .int i, ⟨t, rfl⟩, fun _ _ => .int i⟩
theorem hg_str {K : PySem.W.Frag} {x s : Str} {t : Tok} (h : PySem.W.nsIn K mainGlobals x = some (some (.str s t))) : HeadGK K x (.str s) := ⟨_, h, .str s, ⟨t, rfl⟩, fun _ _ => .str s⟩
/-- a written tuple of ints and texts -/
def flatP : List Value → Option (List PV)
  | [] => some []
  | .int i _ :: r => (flatP r).map (.int i :: ·)
  | .str x _ :: r => (flatP r).map (.str x :: ·)
  | _ => none
theorem flatP_ok {K : PySem.W.Frag} {F : Hp} {M : List Addr} : ∀ {us : List Value} {ds : List PV}, flatP us = some ds → ∃ vs, Vals vs us ∧ Dns K F M vs ds
  | [], ds, h => by cases h; exact ⟨[], .nil, .nil⟩
  | .int i t :: r, ds, h => by
    have h : (flatP r).map (.int i :: ·) = some ds := h
    obtain ⟨ds', h1, rfl⟩ := Option.map_eq_some_iff.mp h
    obtain ⟨vs, a, b⟩ := flatP_ok (K := K) (F := F) (M := M) h1
    exact ⟨.int i :: vs, .cons ⟨t, rfl⟩ a, .cons (.int i) b⟩
  | .str i t :: r, ds, h => by
    have h : (flatP r).map (.str i :: ·) = some ds := h
    obtain ⟨ds', h1, rfl⟩ := Option.map_eq_some_iff.mp h
    obtain ⟨vs, a, b⟩ := flatP_ok (K := K) (F := F) (M := M) h1
    exact ⟨.str i :: vs, .cons ⟨t, rfl⟩ a, .cons (.str i) b⟩
theorem hg_tup {K : PySem.W.Frag} {x : Str} {a : Addr} {dd : Option Addr} {us : List Value} {n : Nat} {sl : Array (Option Value)} {ds : List PV} (h : PySem.W.nsIn K mainGlobals x = some (some (.ref a))) (h1 : K.lookup a = some ⟨.type "tuple", dd, .seq us.toArray n, sl⟩) (h2 : flatP us = some ds) (h3 : us.length ≤ sizeLine) : HeadGK K x (.tup ds) := by
  refine ⟨_, h, .ref a, rfl, fun F M => ?_⟩
  obtain ⟨vs, b1, b2⟩ := flatP_ok (K := K) (F := F) (M := M) h2
  exact .tup (.inr ⟨_, us.toArray, n, h1, rfl, rfl, by simpa using h3, by simpa using b1⟩) b2
end PI

set_option linter.all false
set_option autoImplicit false
set_option maxRecDepth 100000
set_option maxHeartbeats 4000000
/-! The pure side: rules to run a def. -/
namespace PI
open PySem
theorem bind_ok {α β : Type} (a : α) (s : Ps) (f : α → Ps → R β) : (R.ok a s).bind f = f a s := (rfl)
inductive Wp {α : Type} : R α → (α → Ps → Prop) → Prop
  | ok {a : α} {s : Ps} {Q : α → Ps → Prop} (h : Q a s) : Wp (.ok a s) Q
inductive WpC : C → (SV → Sto → Prop) → Prop
  | ok {a : SV} {s : Sto} {Q : SV → Sto → Prop} (h : Q a s) : WpC (.ok a s) Q
theorem wp_congr {α : Type} {r r' : R α} {Q : α → Ps → Prop} (h : r = r') : Wp r Q = Wp r' Q := by rw [h]
theorem wpC_congr {r r' : C} {Q : SV → Sto → Prop} (h : r = r') : WpC r Q = WpC r' Q := by rw [h]
theorem bind_congr' {α β : Type} {r r' : R α} {f : α → Ps → R β} (h : r = r') : r.bind f = r'.bind f := by rw [h]
theorem Wp.get {α : Type} {r : R α} {Q : α → Ps → Prop} (h : Wp r Q) : ∃ a s, r = .ok a s ∧ Q a s := by
  cases h with
  | ok h => exact ⟨_, _, rfl, h⟩
theorem WpC.get {r : C} {Q : SV → Sto → Prop} (h : WpC r Q) : ∃ a s, r = .ok a s ∧ Q a s := by
  cases h with
  | ok h => exact ⟨_, _, rfl, h⟩
theorem WpC.eq {r : C} {x : SV} {y : Sto} (h : WpC r fun v s => v = x ∧ s = y) : r = .ok x y := by
  obtain ⟨a, s, e, rfl, rfl⟩ := h.get
  exact e
theorem wp_ok {α : Type} (a : α) (s : Ps) (Q : α → Ps → Prop) : Wp (.ok a s) Q = Q a s := propext ⟨fun h => by cases h; assumption, .ok⟩
theorem wp_bind {α β : Type} (r : R α) (f : α → Ps → R β) (Q : β → Ps → Prop) : Wp (r.bind f) Q = Wp r fun a s => Wp (f a s) Q := by
  cases r with
  | ok a s => rw [wp_ok]; rfl
  | exc c fs s => exact propext ⟨fun h => (by cases h), fun h => (by cases h)⟩
  | stuck => exact propext ⟨fun h => (by cases h), fun h => (by cases h)⟩
theorem Wp.mono {α : Type} {r : R α} {Q Q' : α → Ps → Prop} (h : Wp r Q) (k : ∀ a s, Q a s → Q' a s) : Wp r Q' := by
  cases h with
  | ok h => exact .ok (k _ _ h)
theorem WpC.mono {r : C} {Q Q' : SV → Sto → Prop} (h : WpC r Q) (k : ∀ a s, Q a s → Q' a s) : WpC r Q' := by
  cases h with
  | ok h => exact .ok (k _ _ h)
theorem wpC_ok (a : SV) (s : Sto) (Q : SV → Sto → Prop) : WpC (.ok a s) Q = Q a s := propext ⟨fun h => by cases h; assumption, .ok⟩
theorem lift_some {α : Type} (a : α) (s : Ps) : liftO (some a) s = .ok a s := (rfl)
theorem seq_next {a b : DS} {s s1 : Ps} (h : a s = .ok .next s1) : sSeq a b s = b s1 := by unfold sSeq; rw [h]
/-! ### one step of each kind -/
def ev (G : En) (e : E) (s : Ps) : R SV := (den G e).v s
def et (G : En) (e : E) (s : Ps) : R Bool := (den G e).t s
def eb (G : En) (e : E) (s : Ps) : R BV := (den G e).b true s
def ebs (G : En) (b : Bool) (es : List E) (s : Ps) : R (List BV) := Den.bs b (dens G es) s
def der1 {α : Type} (s : Ps) (x : BV) (f : PV → R α) : R α := match deref s x with
  | some dx => f dx
  | none => .stuck
def der2 {α : Type} (s : Ps) (x y : BV) (f : PV → PV → R α) : R α := match deref s x, deref s y with
  | some dx, some dy => f dx dy
  | _, _ => .stuck
def ders {α : Type} (s : Ps) (xs : List BV) (f : List PV → R α) : R α := match derefs s xs with
  | some ds => f ds
  | none => .stuck
theorem der1_congr {α : Type} {s s' : Ps} {x x' : BV} {f : PV → R α} (h : s = s') (h' : x = x') : der1 s x f = der1 s' x' f := by rw [h, h']
theorem der2_congr {α : Type} {s s' : Ps} {x x' y y' : BV} {f : PV → PV → R α} (h : s = s') (h' : x = x') (h2 : y = y') : der2 s x y f = der2 s' x' y' f := by rw [h, h', h2]
theorem ders_congr {α : Type} {s s' : Ps} {x x' : List BV} {f : List PV → R α} (h : s = s') (h' : x = x') : ders s x f = ders s' x' f := by rw [h, h']
theorem der1_v {α : Type} (s : Ps) (d : PV) (f : PV → R α) : der1 s (.v d) f = f d := (rfl)
theorem der2_v {α : Type} (s : Ps) (d d' : PV) (f : PV → PV → R α) : der2 s (.v d) (.v d') f = f d d' := (rfl)
theorem der1_s {α : Type} (s : Ps) (i : Nat) (f : PV → R α) : der1 s (.s i) f = match s.loc[i]? with
    | some (some (.own xs)) => f (.lst xs)
    | some (some (.val d)) => f d
    | _ => .stuck := by
  unfold der1
  show (match (match s.loc[i]? with
    | some (some (.own xs)) => some (PV.lst xs)
    | some (some (.val d)) => some d
    | _ => none) with
    | some dx => f dx
    | none => .stuck) = _
  cases s.loc[i]? with
  | none => rfl
  | some o => cases o with
    | none => rfl
    | some x => cases x <;> rfl
theorem der2_vs {α : Type} (s : Ps) (d : PV) (i : Nat) (f : PV → PV → R α) : der2 s (.v d) (.s i) f = der1 s (.s i) (f d) := by
  unfold der2 der1
  show (match some d, deref s (.s i) with
    | some dx, some dy => f dx dy
    | _, _ => .stuck) = _
  cases deref s (.s i) <;> rfl
theorem der2_sv {α : Type} (s : Ps) (d : PV) (i : Nat) (f : PV → PV → R α) : der2 s (.s i) (.v d) f = der1 s (.s i) (fun x => f x d) := by
  unfold der2 der1
  show (match deref s (.s i), some d with
    | some dx, some dy => f dx dy
    | _, _ => .stuck) = _
  cases deref s (.s i) <;> rfl
theorem der2_ss {α : Type} (s : Ps) (j : Nat) (i : Nat) (f : PV → PV → R α) : der2 s (.s i) (.s j) f = der1 s (.s i) (fun x => der1 s (.s j) fun y => f x y) := by
  unfold der2 der1
  cases deref s (.s i) <;> cases deref s (.s j) <;> rfl
theorem ders_nil {α : Type} (s : Ps) (f : List PV → R α) : ders s [] f = f [] := (rfl)
theorem ders_v {α : Type} (s : Ps) (d : PV) (xs : List BV) (f : List PV → R α) : ders s (.v d :: xs) f = ders s xs fun ds => f (d :: ds) := by
  unfold ders
  show (match (match some d, derefs s xs with
    | some d, some ds => some (d :: ds)
    | _, _ => none) with
    | some ds => f ds
    | none => .stuck) = _
  cases derefs s xs <;> rfl
theorem ders_s {α : Type} (s : Ps) (i : Nat) (xs : List BV) (f : List PV → R α) : ders s (.s i :: xs) f = der1 s (.s i) fun d => ders s xs fun ds => f (d :: ds) := by
  unfold ders der1
  show (match (match deref s (.s i), derefs s xs with
    | some d, some ds => some (d :: ds)
    | _, _ => none) with
    | some ds => f ds
    | none => .stuck) = _
  cases deref s (.s i) <;> cases derefs s xs <;> rfl
theorem ebs_nil (G : En) (b : Bool) (s : Ps) : ebs G b [] s = .ok [] s := (rfl)
theorem ebs_t (G : En) (e : E) (es : List E) (s : Ps) : ebs G true (e :: es) s = (eb G e s).bind fun x s1 => (ebs G true es s1).bind fun xs s2 => .ok (x :: xs) s2 := (rfl)
theorem ebs_f (G : En) (e : E) (es : List E) (s : Ps) : ebs G false (e :: es) s = (ev G e s).bind fun x s1 => (ebs G false es s1).bind fun xs s2 => .ok (.v x.pv :: xs) s2 := by
  show ((den G e).b false s).bind _ = _
  have : (den G e).b false s = ((den G e).v s).bind fun x s1 => .ok (.v x.pv) s1 := (rfl)
  rw [this]
  unfold ev
  cases (den G e).v s <;> rfl
variable (G : En) (s : Ps)
theorem eb_glob (x : Str) : eb G (.glob x) s = (ev G (.glob x) s).bind fun x s1 => .ok (.v x.pv) s1 := (rfl)
theorem eb_cst (d : PV) : eb G (.cst d) s = (ev G (.cst d) s).bind fun x s1 => .ok (.v x.pv) s1 := (rfl)
theorem eb_bin (op : Operator) (a b : E) : eb G (.bin op a b) s = (ev G (.bin op a b) s).bind fun x s1 => .ok (.v x.pv) s1 := (rfl)
theorem eb_neg (a : E) : eb G (.neg a) s = (ev G (.neg a) s).bind fun x s1 => .ok (.v x.pv) s1 := (rfl)
theorem eb_not (a : E) : eb G (.not a) s = (ev G (.not a) s).bind fun x s1 => .ok (.v x.pv) s1 := (rfl)
theorem eb_and (a b : E) : eb G (.and a b) s = (ev G (.and a b) s).bind fun x s1 => .ok (.v x.pv) s1 := (rfl)
theorem eb_or (a b : E) : eb G (.or a b) s = (ev G (.or a b) s).bind fun x s1 => .ok (.v x.pv) s1 := (rfl)
theorem eb_cmp (op : CmpOp) (a b : E) : eb G (.cmp op a b) s = (ev G (.cmp op a b) s).bind fun x s1 => .ok (.v x.pv) s1 := (rfl)
theorem eb_chain (op op' : CmpOp) (a b c : E) : eb G (.chain op op' a b c) s = (ev G (.chain op op' a b c) s).bind fun x s1 => .ok (.v x.pv) s1 := (rfl)
theorem eb_ite (c a b : E) : eb G (.ite c a b) s = (ev G (.ite c a b) s).bind fun x s1 => .ok (.v x.pv) s1 := (rfl)
theorem eb_tup (es : List E) : eb G (.tup es) s = (ev G (.tup es) s).bind fun x s1 => .ok (.v x.pv) s1 := (rfl)
theorem eb_lst (es : List E) : eb G (.lst es) s = (ev G (.lst es) s).bind fun x s1 => .ok (.v x.pv) s1 := (rfl)
theorem eb_call (f : Str) (es : List E) : eb G (.call f es) s = (ev G (.call f es) s).bind fun x s1 => .ok (.v x.pv) s1 := (rfl)
theorem eb_prim (f : Pm) (es : List E) : eb G (.prim f es) s = (ev G (.prim f es) s).bind fun x s1 => .ok (.v x.pv) s1 := (rfl)
theorem eb_isi (a : E) (t : String) : eb G (.isi a t) s = (ev G (.isi a t) s).bind fun x s1 => .ok (.v x.pv) s1 := (rfl)
theorem eb_app (i : Nat) (e : E) : eb G (.app i e) s = (ev G (.app i e) s).bind fun x s1 => .ok (.v x.pv) s1 := (rfl)
theorem eb_idx (a i : E) : eb G (.idx a i) s = (ev G (.idx a i) s).bind fun x s1 => .ok (.v x.pv) s1 := (rfl)
theorem eb_comp (own : List (Str × Nat)) (elt : E) (tg : T) (k : IK) (src ifs : List E) : eb G (.comp own elt tg k src ifs) s = (ev G (.comp own elt tg k src ifs) s).bind fun x s1 => .ok (.v x.pv) s1 := (rfl)
theorem et_glob (x : Str) : et G (.glob x) s = (ev G (.glob x) s).bind fun x s1 => liftO (truP x.pv) s1 := (rfl)
theorem et_cst (d : PV) : et G (.cst d) s = (ev G (.cst d) s).bind fun x s1 => liftO (truP x.pv) s1 := (rfl)
theorem et_bin (op : Operator) (a b : E) : et G (.bin op a b) s = (ev G (.bin op a b) s).bind fun x s1 => liftO (truP x.pv) s1 := (rfl)
theorem et_neg (a : E) : et G (.neg a) s = (ev G (.neg a) s).bind fun x s1 => liftO (truP x.pv) s1 := (rfl)
theorem et_tup (es : List E) : et G (.tup es) s = (ev G (.tup es) s).bind fun x s1 => liftO (truP x.pv) s1 := (rfl)
theorem et_lst (es : List E) : et G (.lst es) s = (ev G (.lst es) s).bind fun x s1 => liftO (truP x.pv) s1 := (rfl)
theorem et_call (f : Str) (es : List E) : et G (.call f es) s = (ev G (.call f es) s).bind fun x s1 => liftO (truP x.pv) s1 := (rfl)
theorem et_prim (f : Pm) (es : List E) : et G (.prim f es) s = (ev G (.prim f es) s).bind fun x s1 => liftO (truP x.pv) s1 := (rfl)
theorem et_isi (a : E) (t : String) : et G (.isi a t) s = (ev G (.isi a t) s).bind fun x s1 => liftO (truP x.pv) s1 := (rfl)
theorem et_app (i : Nat) (e : E) : et G (.app i e) s = (ev G (.app i e) s).bind fun x s1 => liftO (truP x.pv) s1 := (rfl)
theorem et_idx (a i : E) : et G (.idx a i) s = (ev G (.idx a i) s).bind fun x s1 => liftO (truP x.pv) s1 := (rfl)
theorem et_comp (own : List (Str × Nat)) (elt : E) (tg : T) (k : IK) (src ifs : List E) : et G (.comp own elt tg k src ifs) s = (ev G (.comp own elt tg k src ifs) s).bind fun x s1 => liftO (truP x.pv) s1 := (rfl)
theorem eb_var (i : Nat) : eb G (.var i) s = match s.loc[i]? with
    | some (some (.val d)) => .ok (.v d) s
    | some (some (.own _)) => .ok (.s i) s
    | _ => .stuck := (rfl)
theorem ev_var (i : Nat) : ev G (.var i) s = match s.loc[i]? with
    | some (some (.val d)) => .ok (.val d) s
    | some (some (.own xs)) => .ok (.val (.lst xs)) { s with loc := s.loc.set i (some (.val (.lst xs))) }
    | _ => .stuck := (rfl)
theorem et_var (i : Nat) : et G (.var i) s = match s.loc[i]? with
    | some (some (.val d)) => liftO (truP d) s
    | some (some (.own xs)) => liftO (truP (.lst xs)) s
    | _ => .stuck := (rfl)
theorem ev_glob (x : Str) : ev G (.glob x) s = liftO ((G.gl x).map .val) s := (rfl)
theorem ev_cst (d : PV) : ev G (.cst d) s = .ok (.val d) s := (rfl)
theorem ev_bin (op : Operator) (a b : E) : ev G (.bin op a b) s = (eb G a s).bind fun x s1 => (eb G b s1).bind fun y s2 => der2 s2 x y fun dx dy => liftO (binP op dx dy) s2 := (rfl)
def negP (d : PV) (s : Ps) : R SV := match d with
    | .int i => .ok (.val (.int (-i))) s
    | _ => .stuck
theorem negP_int (i : Int) (s : Ps) : negP (.int i) s = .ok (.val (.int (-i))) s := (rfl)
theorem ev_neg (a : E) : ev G (.neg a) s = (eb G a s).bind fun x s1 => der1 s1 x fun d => negP d s1 := (rfl)
theorem ev_not (a : E) : ev G (.not a) s = (eb G a s).bind fun x s1 => der1 s1 x fun d => liftO ((truP d).map fun b => .val (.bl (!b))) s1 := (rfl)
theorem et_not (a : E) : et G (.not a) s = (et G a s).bind fun b s1 => .ok (!b) s1 := (rfl)
def andK (G : En) (b : E) (x : SV) (s1 : Ps) : R SV := match x with
    | .val (.bl true) => ev G b s1
    | .val (.bl false) => .ok (.val (.bl false)) s1
    | _ => .stuck
def orK (G : En) (b : E) (x : SV) (s1 : Ps) : R SV := match x with
    | .val (.bl true) => .ok (.val (.bl true)) s1
    | .val (.bl false) => ev G b s1
    | _ => .stuck
theorem andK_t (b : E) : andK G b (.val (.bl true)) s = ev G b s := (rfl)
theorem andK_f (b : E) : andK G b (.val (.bl false)) s = .ok (.val (.bl false)) s := (rfl)
theorem orK_t (b : E) : orK G b (.val (.bl true)) s = .ok (.val (.bl true)) s := (rfl)
theorem orK_f (b : E) : orK G b (.val (.bl false)) s = ev G b s := (rfl)
theorem andK_b (b : E) (c : Bool) : andK G b (.val (.bl c)) s = bif c then ev G b s else .ok (.val (.bl false)) s := by cases c <;> rfl
theorem orK_b (b : E) (c : Bool) : orK G b (.val (.bl c)) s = bif c then .ok (.val (.bl true)) s else ev G b s := by cases c <;> rfl
theorem ev_and (a b : E) : ev G (.and a b) s = (ev G a s).bind fun x s1 => andK G b x s1 := (rfl)
theorem ev_or (a b : E) : ev G (.or a b) s = (ev G a s).bind fun x s1 => orK G b x s1 := (rfl)
theorem et_and (a b : E) : et G (.and a b) s = (et G a s).bind fun x s1 => bif x then et G b s1 else .ok false s1 := by
  show ((den G a).t s).bind _ = _
  unfold et
  cases (den G a).t s with
  | ok x s1 => cases x <;> rfl
  | _ => rfl
theorem et_or (a b : E) : et G (.or a b) s = (et G a s).bind fun x s1 => bif x then .ok true s1 else et G b s1 := by
  show ((den G a).t s).bind _ = _
  unfold et
  cases (den G a).t s with
  | ok x s1 => cases x <;> rfl
  | _ => rfl
theorem ev_cmp (op : CmpOp) (a b : E) : ev G (.cmp op a b) s = (eb G a s).bind fun x s1 => (eb G b s1).bind fun y s2 => der2 s2 x y fun dx dy => liftO ((cmpP op dx dy).map fun b => .val (.bl b)) s2 := (rfl)
theorem et_cmp (op : CmpOp) (a b : E) : et G (.cmp op a b) s = (eb G a s).bind fun x s1 => (eb G b s1).bind fun y s2 => der2 s2 x y fun dx dy => liftO (cmpP op dx dy) s2 := (rfl)
def chnK (G : En) (op' : CmpOp) (y : BV) (c : E) (s2 : Ps) (o : Option Bool) : R Bool := match o with
      | some true => (eb G c s2).bind fun z s3 => der2 s3 y z fun dy dz => liftO (cmpP op' dy dz) s3
      | some false => .ok false s2
      | none => .stuck
theorem chnK_b (op' : CmpOp) (y : BV) (c : E) (b : Bool) : chnK G op' y c s (some b) = bif b then (eb G c s).bind fun z s3 => der2 s3 y z fun dy dz => liftO (cmpP op' dy dz) s3 else .ok false s := by cases b <;> rfl
theorem et_chain (op op' : CmpOp) (a b c : E) : et G (.chain op op' a b c) s = (eb G a s).bind fun x s1 => (eb G b s1).bind fun y s2 => der2 s2 x y fun dx dy => chnK G op' y c s2 (cmpP op dx dy) := (rfl)
theorem ev_chain (op op' : CmpOp) (a b c : E) : ev G (.chain op op' a b c) s = (et G (.chain op op' a b c) s).bind fun b s1 => .ok (.val (.bl b)) s1 := (rfl)
theorem ev_ite (c a b : E) : ev G (.ite c a b) s = (et G c s).bind fun k s1 => bif k then ev G a s1 else ev G b s1 := by
  show ((den G c).t s).bind _ = _
  unfold et
  cases (den G c).t s with
  | ok x s1 => cases x <;> rfl
  | _ => rfl
theorem et_ite (c a b : E) : et G (.ite c a b) s = (et G c s).bind fun k s1 => bif k then et G a s1 else et G b s1 := by
  show ((den G c).t s).bind _ = _
  unfold et
  cases (den G c).t s with
  | ok x s1 => cases x <;> rfl
  | _ => rfl
theorem ev_tup (es : List E) : ev G (.tup es) s = (ebs G false es s).bind fun xs s1 => ders s1 xs fun ds => .ok (.val (.tup ds)) s1 := (rfl)
theorem ev_lst (es : List E) : ev G (.lst es) s = (ebs G false es s).bind fun xs s1 => ders s1 xs fun ds => .ok (.own ds) s1 := (rfl)
def calP (r : C) (s : Ps) : R SV := match r with
      | .ok v st => .ok v { s with sto := st }
      | .exc c fs st => .exc c fs { s with sto := st }
      | .stuck => .stuck
theorem wp_cal (r : C) (s : Ps) (Q : SV → Ps → Prop) : Wp (calP r s) Q = WpC r fun v st => Q v { s with sto := st } := by
  cases r with
  | ok v st => rw [wpC_ok]; exact wp_ok _ _ _
  | exc _ _ _ => exact propext ⟨fun h => (by cases h), fun h => (by cases h)⟩
  | stuck => exact propext ⟨fun h => (by cases h), fun h => (by cases h)⟩
theorem cal_ok (v : SV) (st : Sto) (s : Ps) : calP (.ok v st) s = .ok v { s with sto := st } := (rfl)
theorem ev_call (f : Str) (es : List E) : ev G (.call f es) s = (ebs G false es s).bind fun xs s1 => ders s1 xs fun ds => calP (G.cl f ds s1.sto) s1 := (rfl)
theorem ev_prim (f : Pm) (es : List E) : ev G (.prim f es) s = (ebs G true es s).bind fun xs s1 => ders s1 xs fun ds => liftO (primP f ds) s1 := (rfl)
theorem ev_isi (a : E) (t : String) : ev G (.isi a t) s = (eb G a s).bind fun x s1 => der1 s1 x fun d => liftO ((isiP t d).map fun b => .val (.bl b)) s1 := (rfl)
theorem ev_app (i : Nat) (e : E) : ev G (.app i e) s = if isOwn i s then (ev G e s).bind (appP i) else .stuck := (rfl)
theorem ev_idx (a i : E) : ev G (.idx a i) s = (eb G a s).bind fun x s1 => (eb G i s1).bind fun y s2 => der2 s2 x y fun dx dy => liftO ((idxP s2.sto dx dy).map .val) s2 := (rfl)
def cmpK (G : En) (own : List Nat) (elt : E) (tg : T) (ifs : List E) (o : Option (List PV)) (s1 : Ps) : R SV := match o with
      | some its => compR own (den G elt) tg (dens G ifs) its s1
      | none => .stuck
theorem cmpK_some (own : List Nat) (elt : E) (tg : T) (ifs : List E) (its : List PV) : cmpK G own elt tg ifs (some its) s = compR own (den G elt) tg (dens G ifs) its s := (rfl)
theorem ev_comp (own : List (Str × Nat)) (elt : E) (tg : T) (k : IK) (src ifs : List E) : ev G (.comp own elt tg k src ifs) s = (ebs G false src s).bind fun xs s1 => ders s1 xs fun ds => cmpK G (own.map (·.2)) elt tg ifs (itemsP k ds) s1 := (rfl)
theorem compBody_0 (own : List Nat) (elt : E) (tg : T) (x : PV) : compBody own (den G elt) tg (dens G []) x s = match asgT tg x s.loc with
  | some l => (ev G elt { s with loc := l }).bind fun y s4 => .ok (some y.pv) { s4 with loc := wipeL s4.loc own }
  | none => .stuck := (rfl)
theorem compBody_1 (own : List Nat) (elt c : E) (tg : T) (x : PV) : compBody own (den G elt) tg (dens G [c]) x s = match asgT tg x s.loc with
  | some l => (et G c { s with loc := l }).bind fun b s3 =>
    bif b then (ev G elt s3).bind fun y s4 => .ok (some y.pv) { s4 with loc := wipeL s4.loc own }
    else .ok none { s3 with loc := wipeL s3.loc own }
  | none => .stuck := by
  show (match asgT tg x s.loc with
    | some l => (tstsR [den G c] { s with loc := l }).bind _
    | none => .stuck) = _
  cases asgT tg x s.loc with
  | none => rfl
  | some l =>
    show ((den G c).t { s with loc := l }).bind _ = ((den G c).t { s with loc := l }).bind _
    cases (den G c).t { s with loc := l } with
    | ok b s3 => cases b <;> rfl
    | _ => rfl
theorem dst_expr (e : E) : dst G (.expr e) s = (ev G e s).bind fun _ s1 => .ok .next s1 := (rfl)
theorem dst_asg (t : T) (e : E) : dst G (.asg t e) s = (ev G e s).bind fun x s1 => asgS t x s1 := (rfl)
theorem asg_var (i : Nat) (x : SV) : asgS (.var i) x s = .ok .next { s with loc := s.loc.set i (some x) } := (rfl)
theorem dst_row (i : Nat) (es : List E) : dst G (.newRow i es) s = (ebs G false es s).bind fun xs s => ders s xs fun ds => .ok .next { loc := s.loc.set i (some (.val (.ref s.sto.length))), sto := s.sto ++ [.row ds] } := (rfl)
theorem dst_par (i j : Nat) (a b : E) : dst G (.par i j a b) s = (ev G a s).bind fun x s1 => (ev G b s1).bind fun y s2 => .ok .next { s2 with loc := (s2.loc.set i (some x)).set j (some y) } := (rfl)
theorem dst_set (i : Nat) (k e : E) : dst G (.setIdx i k e) s = if filled i s then (ev G e s).bind fun x s1 => (ev G k s1).bind fun y s2 => setP i y.pv x.pv s2 else .stuck := (rfl)
def augK (i : Nat) (o : Option SV) (s1 : Ps) : R Fl := match o with
    | some z => .ok .next { s1 with loc := s1.loc.set i (some z) }
    | none => .stuck
theorem augK_some (i : Nat) (z : SV) : augK i (some z) s = .ok .next { s with loc := s.loc.set i (some z) } := (rfl)
theorem dst_aug (i : Nat) (op : Operator) (e : E) : dst G (.aug i op e) s = match s.loc[i]? with
  | some (some (.val x)) => (ev G e s).bind fun y s1 => augK i (augP op x y.pv) s1
  | _ => .stuck := (rfl)
theorem dst_if (c : E) (a b : List S) : dst G (.if_ c a b) s = (et G c s).bind fun k s1 => bif k then dsts G a s1 else dsts G b s1 := by
  show ((den G c).t s).bind _ = _
  unfold et
  cases (den G c).t s with
  | ok x s1 => cases x <;> rfl
  | _ => rfl
def forK (t : T) (body : DS) (o : Option (List PV)) (s : Ps) : R Fl := match o with
  | some its => forLoop (forBody t body) its s
  | none => .stuck
theorem forK_some (t : T) (body : DS) (its : List PV) : forK t body (some its) s = forLoop (forBody t body) its s := (rfl)
theorem dst_for (t : T) (k : IK) (src : List E) (body : List S) : dst G (.for_ t k src body) s = (ebs G false src s).bind fun xs s1 => ders s1 xs fun ds => forK t (dsts G body) (itemsP k ds) s1 := (rfl)
theorem dst_ret_var (i : Nat) : dst G (.ret (.var i)) s = match s.loc[i]? with
    | some (some (.val d)) => .ok (.ret (.val d)) s
    | some (some (.own xs)) => .ok (.ret (.own xs)) s
    | _ => .stuck := by
  show (match (some i).bind (fun i => s.loc[i]?) with
    | some (some (.own xs)) => R.ok (Fl.ret (.own xs)) s
    | _ => (ev G (.var i) s).bind fun x s1 => R.ok (Fl.ret x) s1) = _
  rw [Option.bind_some, ev_var]
  cases e : s.loc[i]? with
  | none => rfl
  | some o => cases o with
    | none => rfl
    | some x => cases x <;> rfl
theorem dst_ret_glob (x : Str) : dst G (.ret (.glob x)) s = (ev G (.glob x) s).bind fun x s1 => .ok (.ret x) s1 := (rfl)
theorem dst_ret_cst (d : PV) : dst G (.ret (.cst d)) s = (ev G (.cst d) s).bind fun x s1 => .ok (.ret x) s1 := (rfl)
theorem dst_ret_bin (op : Operator) (a b : E) : dst G (.ret (.bin op a b)) s = (ev G (.bin op a b) s).bind fun x s1 => .ok (.ret x) s1 := (rfl)
theorem dst_ret_neg (a : E) : dst G (.ret (.neg a)) s = (ev G (.neg a) s).bind fun x s1 => .ok (.ret x) s1 := (rfl)
theorem dst_ret_not (a : E) : dst G (.ret (.not a)) s = (ev G (.not a) s).bind fun x s1 => .ok (.ret x) s1 := (rfl)
theorem dst_ret_and (a b : E) : dst G (.ret (.and a b)) s = (ev G (.and a b) s).bind fun x s1 => .ok (.ret x) s1 := (rfl)
theorem dst_ret_or (a b : E) : dst G (.ret (.or a b)) s = (ev G (.or a b) s).bind fun x s1 => .ok (.ret x) s1 := (rfl)
theorem dst_ret_cmp (op : CmpOp) (a b : E) : dst G (.ret (.cmp op a b)) s = (ev G (.cmp op a b) s).bind fun x s1 => .ok (.ret x) s1 := (rfl)
theorem dst_ret_chain (op op' : CmpOp) (a b c : E) : dst G (.ret (.chain op op' a b c)) s = (ev G (.chain op op' a b c) s).bind fun x s1 => .ok (.ret x) s1 := (rfl)
theorem dst_ret_ite (c a b : E) : dst G (.ret (.ite c a b)) s = (ev G (.ite c a b) s).bind fun x s1 => .ok (.ret x) s1 := (rfl)
theorem dst_ret_tup (es : List E) : dst G (.ret (.tup es)) s = (ev G (.tup es) s).bind fun x s1 => .ok (.ret x) s1 := (rfl)
theorem dst_ret_lst (es : List E) : dst G (.ret (.lst es)) s = (ev G (.lst es) s).bind fun x s1 => .ok (.ret x) s1 := (rfl)
theorem dst_ret_call (f : Str) (es : List E) : dst G (.ret (.call f es)) s = (ev G (.call f es) s).bind fun x s1 => .ok (.ret x) s1 := (rfl)
theorem dst_ret_prim (f : Pm) (es : List E) : dst G (.ret (.prim f es)) s = (ev G (.prim f es) s).bind fun x s1 => .ok (.ret x) s1 := (rfl)
theorem dst_ret_isi (a : E) (t : String) : dst G (.ret (.isi a t)) s = (ev G (.isi a t) s).bind fun x s1 => .ok (.ret x) s1 := (rfl)
theorem dst_ret_idx (a i : E) : dst G (.ret (.idx a i)) s = (ev G (.idx a i) s).bind fun x s1 => .ok (.ret x) s1 := (rfl)
theorem dst_ret_comp (own : List (Str × Nat)) (elt : E) (tg : T) (k : IK) (src ifs : List E) : dst G (.ret (.comp own elt tg k src ifs)) s = (ev G (.comp own elt tg k src ifs) s).bind fun x s1 => .ok (.ret x) s1 := (rfl)
theorem cond_d {α : Type} (p : Prop) [Decidable p] (a b : α) : (bif decide p then a else b) = if p then a else b := by by_cases h : p <;> simp [h]
/-- a row of statements -/
def fin (Q : Fl → Ps → Prop) (k : Ps → Prop) (fl : Fl) (s : Ps) : Prop := match fl with
  | .next => k s
  | fl => Q fl s
theorem fin_congr {Q : Fl → Ps → Prop} {k : Ps → Prop} {fl fl' : Fl} {s s' : Ps} (h : fl = fl') (h' : s = s') : fin Q k fl s = fin Q k fl' s' := by rw [h, h']
theorem wp_cons (G : En) (x : S) (xs : List S) (s : Ps) (Q : Fl → Ps → Prop) (h : Wp (dst G x s) (fin Q fun s => Wp (dsts G xs s) Q)) : Wp (dsts G (x :: xs) s) Q := by
  show Wp (sSeq (dst G x) (dsts G xs) s) Q
  unfold sSeq
  obtain ⟨fl, s1, e, q⟩ := h.get
  rw [e]
  cases fl with
  | next => exact q
  | _ => exact .ok q
theorem wp_nil (G : En) (s : Ps) (Q : Fl → Ps → Prop) (h : Q .next s) : Wp (dsts G [] s) Q := .ok h
theorem fin_next (Q : Fl → Ps → Prop) (k : Ps → Prop) (s : Ps) : fin Q k .next s = k s := (rfl)
theorem fin_ret (Q : Fl → Ps → Prop) (k : Ps → Prop) (v : SV) (s : Ps) : fin Q k (.ret v) s = Q (.ret v) s := (rfl)
def retQ (Q : SV → Sto → Prop) (fl : Fl) (s : Ps) : Prop := match fl with
  | .next => Q (.val .non) s.sto
  | .ret v => Q v s.sto
  | _ => False
theorem retQ_next (Q : SV → Sto → Prop) (s : Ps) : retQ Q .next s = Q (.val .non) s.sto := (rfl)
theorem retQ_ret (Q : SV → Sto → Prop) (v : SV) (s : Ps) : retQ Q (.ret v) s = Q v s.sto := (rfl)
theorem wp_next {G : En} {x : S} {xs : List S} {s s1 : Ps} {Q : Fl → Ps → Prop} (e : dst G x s = .ok .next s1) (k : Wp (dsts G xs s1) Q) : Wp (dsts G (x :: xs) s) Q := wp_cons G x xs s Q (by rw [e]; exact .ok k)
theorem wp_ret {G : En} {x : S} {xs : List S} {s s1 : Ps} {v : SV} {Q : Fl → Ps → Prop} (e : dst G x s = .ok (.ret v) s1) (k : Q (.ret v) s1) : Wp (dsts G (x :: xs) s) Q := wp_cons G x xs s Q (by rw [e]; exact .ok k)
theorem wp_if {G : En} {c : E} {A B xs : List S} {s s1 : Ps} {b : Bool} {Q : Fl → Ps → Prop} (e : et G c s = .ok b s1) (k : Wp (dsts G (bif b then A else B) s1) (fin Q fun s => Wp (dsts G xs s) Q)) : Wp (dsts G (.if_ c A B :: xs) s) Q := by
  refine wp_cons G _ xs s Q ?_
  rw [dst_if, e, bind_ok]
  cases b <;> exact k
/-- a def -/
theorem wp_fn {fs : Str → Option Fn} {gl : Str → Option PV} {n : Nat} {f : Str} {fn : Fn} {ds : List PV} {st : Sto} {Q : SV → Sto → Prop} (h : fs f = some fn) (hl : ds.length = fn.ps)
    (k : Wp (dsts ⟨callP fs gl n, gl⟩ fn.body ⟨ds.map (fun d => some (.val d)) ++ List.replicate (fn.n - fn.ps) none, st⟩) (retQ Q)) : WpC (callP fs gl (n + 1) f ds st) Q := by
  show WpC (match fs f with
    | some fn => runFn ⟨callP fs gl n, gl⟩ fn ds st
    | none => .stuck) Q
  rw [h]
  show WpC (runFn ⟨callP fs gl n, gl⟩ fn ds st) Q
  unfold runFn
  rw [if_pos hl]
  obtain ⟨fl, s, e, q⟩ := k.get
  rw [e]
  cases fl with
  | next => exact .ok q
  | ret v => exact .ok q
  | brk => exact q.elim
  | cont => exact q.elim
theorem wp_nilF {G : En} {xs : List S} {s : Ps} {Q : Fl → Ps → Prop} (h : Wp (dsts G xs s) Q) : Wp (dsts G [] s) (fin Q fun s => Wp (dsts G xs s) Q) := .ok h
/-- where a def stands in the row of defs -/
def isAt (defs : List DefC) (f : Str) (i : Nat) : Bool := match defs, i with
  | d :: _, 0 => decide (d.nm = f)
  | d :: ds, i + 1 => !decide (d.nm = f) && isAt ds f i
  | [], _ => false
theorem fs_at {f : Str} : ∀ {defs : List DefC} {i : Nat} {d : DefC}, isAt defs f i = true → defs[i]? = some d → fsOf defs f = some d.fn
  | e :: ds, 0, d, h, g => by
    have h : decide (e.nm = f) = true := h
    have g : some e = some d := by simpa using g
    cases g
    unfold fsOf
    rw [List.find?_cons_of_pos (by exact h)]
    rfl
  | e :: ds, i + 1, d, h, g => by
    have h : (!decide (e.nm = f) && isAt ds f i) = true := h
    rw [Bool.and_eq_true] at h
    have ih := fs_at (defs := ds) h.2 (by simpa using g)
    unfold fsOf at ih ⊢
    rw [List.find?_cons_of_neg (by simpa using h.1)]
    exact ih
/-- loops -/
def forQ (Q : Fl → Ps → Prop) (I : Ps → Prop) (fl : Fl) (s : Ps) : Prop := match fl with
  | .next => I s
  | .cont => I s
  | .brk => Q .next s
  | .ret v => Q (.ret v) s
theorem forQ_congr {Q : Fl → Ps → Prop} {k : Ps → Prop} {fl fl' : Fl} {s s' : Ps} (h : fl = fl') (h' : s = s') : forQ Q k fl s = forQ Q k fl' s' := by rw [h, h']
theorem forQ_next (Q : Fl → Ps → Prop) (I : Ps → Prop) (s : Ps) : forQ Q I .next s = I s := (rfl)
theorem forQ_ret (Q : Fl → Ps → Prop) (I : Ps → Prop) (v : SV) (s : Ps) : forQ Q I (.ret v) s = Q (.ret v) s := (rfl)
theorem wp_loop_cons {body : PV → DS} {x : PV} {xs : List PV} {s : Ps} {Q : Fl → Ps → Prop} (h : Wp (body x s) (forQ Q fun s => Wp (forLoop body xs s) Q)) : Wp (forLoop body (x :: xs) s) Q := by
  show Wp (match body x s with
    | .ok .next s1 => forLoop body xs s1
    | .ok .cont s1 => forLoop body xs s1
    | .ok .brk s1 => .ok .next s1
    | .ok (.ret v) s1 => .ok (.ret v) s1
    | .exc c fs s1 => .exc c fs s1
    | .stuck => .stuck) Q
  obtain ⟨fl, s1, e, q⟩ := h.get
  rw [e]
  cases fl with
  | next => exact q
  | cont => exact q
  | brk => exact .ok q
  | ret v => exact .ok q
theorem wp_loop_nil {body : PV → DS} {s : Ps} {Q : Fl → Ps → Prop} (h : Q .next s) : Wp (forLoop body [] s) Q := .ok h
theorem wp_rng {body : PV → DS} {Q : Fl → Ps → Prop} (I : Int → Ps → Prop) (a : Int) : ∀ (n : Nat) (a0 : Int) (s : Ps), a ≤ a0 → I a0 s → (∀ k s, a ≤ k → k < a0 + n → I k s → Wp (body (.int k) s) (forQ Q (I (k + 1)))) → (∀ s, I (a0 + n) s → Q .next s) → Wp (forLoop body (intsFrom a0 n) s) Q
  | 0, a0, s, _, h0, _, hq => wp_loop_nil (hq s (by simpa using h0))
  | n + 1, a0, s, ha, h0, st, hq => by
    refine wp_loop_cons ((st a0 s ha (by omega) h0).mono fun fl s1 q => ?_)
    have e : a0 + 1 + (n : Int) = a0 + ((n + 1 : Nat) : Int) := by omega
    have go : ∀ s1, I (a0 + 1) s1 → Wp (forLoop body (intsFrom (a0 + 1) n) s1) Q := fun s1 i => wp_rng I a n (a0 + 1) s1 (by omega) i (fun k s h1 h2 => st k s h1 (by omega)) (fun s i => hq s (by rw [← e]; exact i))
    cases fl with
    | next => exact go s1 q
    | cont => exact go s1 q
    | brk => exact q
    | ret v => exact q
/-- a comprehension over a range, as a list of what is kept -/
theorem comp_rng {body : PV → Ps → R (Option PV)} {s : Ps} (f : Int → Option PV) (a : Int) : ∀ (n : Nat) (a0 : Int) (acc : List PV), a ≤ a0 → acc.length + n ≤ lim → (∀ k, a ≤ k → k < a0 + n → body (.int k) s = .ok (f k) s) → compLoop body (intsFrom a0 n) acc s = .ok (acc ++ ((List.range n).filterMap fun (j : Nat) => f (a0 + (j : Int)))) s
  | 0, a0, acc, _, _, _ => by simp [intsFrom, compLoop]
  | n + 1, a0, acc, ha, hl, hb => by
    show (body (.int a0) s).bind _ = _
    rw [hb a0 ha (by omega), bind_ok]
    have ih := fun acc (h : acc.length + n ≤ lim) => comp_rng (body := body) (s := s) f a n (a0 + 1) acc (by omega) h fun k h1 h2 => hb k h1 (by omega)
    have e : ((List.range (n + 1)).filterMap fun (j : Nat) => f (a0 + (j : Int))) = (f a0).toList ++ (List.range n).filterMap fun (j : Nat) => f (a0 + 1 + (j : Int)) := by
      rw [List.range_succ_eq_map, List.filterMap_cons, List.filterMap_map]
      have h1 : (fun j : Nat => f (a0 + 1 + (j : Int))) = (fun j : Nat => f (a0 + (j : Int))) ∘ Nat.succ := by
        funext j; show _ = f (a0 + ((j + 1 : Nat) : Int)); congr 1; omega
      rw [h1]
      cases hf : f (a0 + ((0 : Nat) : Int)) with
      | none => simp at hf; simp [hf]
      | some y => simp at hf; simp [hf]
    rw [e]
    cases hf : f a0 with
    | none => simpa [hf] using ih acc (by omega)
    | some y =>
      show (if acc.length < lim then compLoop body (intsFrom (a0 + 1) n) (acc ++ [y]) s else R.stuck) = _
      rw [if_pos (by omega), ih _ (by simp; omega)]
      simp
theorem wp_seqI {body : PV → DS} {Q : Fl → Ps → Prop} {I : Ps → Prop} : ∀ (xs : List PV) (s : Ps), I s → (∀ x ∈ xs, ∀ s, I s → Wp (body x s) (forQ Q I)) → (∀ s, I s → Q .next s) → Wp (forLoop body xs s) Q
  | [], s, h, _, q => wp_loop_nil (q s h)
  | x :: xs, s, h, b, q => wp_loop_cons ((b x (by simp) s h).mono fun fl s1 z => by
      have go : ∀ s1, I s1 → Wp (forLoop body xs s1) Q := fun s1 i => wp_seqI xs s1 i (fun y hy => b y (by simp [hy])) q
      cases fl with
      | next => exact go s1 z
      | cont => exact go s1 z
      | brk => exact z
      | ret v => exact z)
theorem wp_for {G : En} {t : T} {k : IK} {src : List E} {body xs : List S} {s s1 : Ps} {ds its : List PV} {Q : Fl → Ps → Prop} (e : (ebs G false src s).bind (fun ys s1 => ders s1 ys fun ds => .ok ds s1) = .ok ds s1) (hi : itemsP k ds = some its)
    (h : Wp (forLoop (forBody t (dsts G body)) its s1) (fin Q fun s => Wp (dsts G xs s) Q)) : Wp (dsts G (.for_ t k src body :: xs) s) Q := by
  refine wp_cons G _ xs s Q ?_
  rw [dst_for]
  cases eb : ebs G false src s with
  | exc c fs s' => rw [eb] at e; cases e
  | stuck => rw [eb] at e; cases e
  | ok ys s' =>
    rw [eb] at e
    rw [bind_ok] at e ⊢
    unfold ders at e ⊢
    cases ed : derefs s' ys with
    | none => rw [ed] at e; cases e
    | some ds' =>
      rw [ed] at e
      injection e with e1 e2
      subst e1 e2
      show Wp (forK t (dsts G body) (itemsP k ds') s') _
      rw [hi]
      exact h
theorem shal_ints : ∀ (n : Nat) (xs : List Int), shalAll n (xs.map PV.int) = true
  | _, [] => rfl
  | n, x :: xs => by
    show (true && shalAll n (xs.map PV.int)) = true
    rw [shal_ints n xs]; rfl
theorem compR_rng {own : List Nat} {elt : Den} {tg : T} {ifs : List Den} {n : Nat} {s : Ps} (f : Int → Option PV) (hn : n ≤ lim) (hb : ∀ k : Int, 0 ≤ k → k < n → compBody own elt tg ifs (.int k) { s with loc := wipeL s.loc own } = .ok (f k) { s with loc := wipeL s.loc own }) :
    compR own elt tg ifs (intsFrom 0 n) s = .ok (.own ((List.range n).filterMap fun (j : Nat) => f (j : Int))) { s with loc := backL s.loc (wipeL s.loc own) own } := by
  unfold compR
  rw [comp_rng f 0 n 0 [] (by omega) (by simpa using hn) fun k h1 h2 => hb k h1 (by omega)]
  simp
theorem at_zero {α : Type} (a : α) (xs : List α) : L2.atI (a :: xs) 0 = some a := by
  unfold L2.atI L2.ixN
  rw [if_pos (by omega), if_pos (by simp)]
  rfl
theorem cmp_ne_non : cmpP .NotEq .non .non = some false := (rfl)
theorem cmp_ne_nil : cmpP .NotEq (.lst []) (.lst []) = some false := (rfl)
theorem shal_all : ∀ (n : Nat) (xs : List PV), (∀ x ∈ xs, ∃ i, x = .int i) → shalAll n xs = true
  | _, [], _ => rfl
  | n, x :: xs, h => by
    obtain ⟨i, rfl⟩ := h x (by simp)
    show (true && shalAll n xs) = true
    rw [shal_all n xs fun y hy => h y (by simp [hy])]; rfl
theorem cmp_ne_cons (x : PV) (xs : List PV) (h : ∀ y ∈ x :: xs, ∃ i, y = .int i) : cmpP .NotEq (.lst (x :: xs)) (.lst []) = some true := by
  show (if shalAll 59 (x :: xs) && true then some (!false) else none) = _
  rw [shal_all 59 _ h]; rfl
/-- the places kept, least first -/
theorem keep_head {p : Int → Prop} [DecidablePred p] : ∀ (n : Nat) (r : Int), 0 ≤ r → r < n → p r → (∀ j, 0 ≤ j → j < r → ¬ p j) → ∃ rest, ((List.range n).filterMap fun (j : Nat) => if p (j : Int) then some (PV.int (j : Int)) else none) = .int r :: rest := by
  intro n r h0 h1 hp hn
  obtain ⟨k, rfl⟩ : ∃ k : Nat, r = k := ⟨r.toNat, by omega⟩
  obtain ⟨m, rfl⟩ : ∃ m : Nat, n = k + (m + 1) := ⟨n - k - 1, by omega⟩
  rw [List.range_eq_range', ← List.range'_append_1, List.filterMap_append]
  have e1 : (List.range' 0 k).filterMap (fun (j : Nat) => if p (j : Int) then some (PV.int (j : Int)) else none) = [] := by
    rw [List.filterMap_eq_nil_iff]
    intro j hj
    have := List.mem_range'_1.mp hj
    rw [if_neg (hn j (by omega) (by omega))]
  rw [e1, List.range'_succ, List.filterMap_cons, show 0 + k = k by omega]
  simp only [hp, if_true, List.nil_append]
  exact ⟨_, rfl⟩
theorem keep_nil {p : Int → Prop} [DecidablePred p] (n : Nat) (hn : ∀ j : Int, 0 ≤ j → j < n → ¬ p j) : ((List.range n).filterMap fun (j : Nat) => if p (j : Int) then some (PV.int (j : Int)) else none) = [] := by
  rw [List.filterMap_eq_nil_iff]
  intro j hj
  have := List.mem_range.mp hj
  rw [if_neg (hn j (by omega) (by omega))]
theorem keep_int {p : Int → Prop} [DecidablePred p] (n : Nat) : ∀ x ∈ ((List.range n).filterMap fun (j : Nat) => if p (j : Int) then some (PV.int (j : Int)) else none), ∃ i, x = .int i := by
  intro x hx
  obtain ⟨j, _, e⟩ := List.mem_filterMap.mp hx
  by_cases h : p (j : Int)
  · rw [if_pos h] at e; exact ⟨_, (Option.some.inj e).symm⟩
  · rw [if_neg h] at e; cases e
theorem unInts_app : ∀ (xs ys : List PV) (a b : List Int), unInts xs = some a → unInts ys = some b → unInts (xs ++ ys) = some (a ++ b)
  | [], ys, a, b, h1, h2 => by cases h1; exact h2
  | .int i :: xs, ys, a, b, h1, h2 => by
    have h1 : (unInts xs).map (i :: ·) = some a := h1
    obtain ⟨c, h3, rfl⟩ := Option.map_eq_some_iff.mp h1
    show (unInts (xs ++ ys)).map (i :: ·) = _
    rw [unInts_app xs ys c b h3 h2]; rfl
theorem log2_small {b : Int} (h0 : 0 < b) (h1 : b < 18446744073709551616) : b.natAbs.log2 < 9000 := by
  have h2 : b.natAbs ≠ 0 := by omega
  have h3 : b.natAbs < 2 ^ 64 := by omega
  have h4 := (Nat.log2_lt h2).mpr h3
  exact Nat.lt_trans h4 (by decide)
theorem bin_add (a b : Int) : binP .Add (.int a) (.int b) = some (.val (.int (a + b))) := (rfl)
theorem bin_sub (a b : Int) : binP .Sub (.int a) (.int b) = some (.val (.int (a - b))) := (rfl)
theorem bin_mul (a b : Int) (h : (-18446744073709551616 < a ∧ a < 18446744073709551616) ∨ (-18446744073709551616 < b ∧ b < 18446744073709551616)) : binP .Mult (.int a) (.int b) = some (.val (.int (a * b))) := if_pos h
theorem bin_fdiv (a b : Int) (h : 0 < b ∧ b < 18446744073709551616) : binP .FloorDiv (.int a) (.int b) = some (.val (.int (a / b))) := if_pos ⟨h.1, log2_small h.1 h.2⟩
theorem bin_mod (a b : Int) (h : 0 < b) : binP .Mod (.int a) (.int b) = some (.val (.int (a % b))) := if_pos h
theorem bin_pow (a b : Int) (h : 0 ≤ b ∧ b ≤ 1000000 ∧ a.natAbs < 18446744073709551616) : binP .Pow (.int a) (.int b) = some (.val (.int (a ^ b.toNat))) := if_pos h
theorem aug_add (a b : Int) : augP .Add (.int a) (.int b) = some (.val (.int (a + b))) := (rfl)
theorem aug_sub (a b : Int) : augP .Sub (.int a) (.int b) = some (.val (.int (a - b))) := (rfl)
theorem cmp_lt (a b : Int) : cmpP .Lt (.int a) (.int b) = some (decide (a < b)) := (rfl)
theorem cmp_le (a b : Int) : cmpP .LtE (.int a) (.int b) = some (decide (a ≤ b)) := (rfl)
theorem cmp_gt (a b : Int) : cmpP .Gt (.int a) (.int b) = some (decide (b < a)) := (rfl)
theorem cmp_ge (a b : Int) : cmpP .GtE (.int a) (.int b) = some (decide (b ≤ a)) := (rfl)
theorem cmp_eq (a b : Int) : cmpP .Eq (.int a) (.int b) = some (a == b) := by unfold cmpP eqv; rfl
theorem cmp_ne (a b : Int) : cmpP .NotEq (.int a) (.int b) = some (!(a == b)) := by unfold cmpP eqv; rfl
theorem rng1 (n : Int) (h : n < 4611686018427387904) (h' : 0 ≤ n) : rngP [.int n] = some (intsFrom 0 n.toNat) := if_pos ⟨by omega, h⟩
theorem isi_int (v : Int) : isiP "int" (.int v) = some true := (rfl)
theorem isi_bool (v : Int) : isiP "bool" (.int v) = some false := (rfl)
theorem isi_str_int (v : Str) : isiP "int" (.str v) = some false := (rfl)
theorem isi_str (v : Str) : isiP "str" (.str v) = some true := (rfl)
theorem isi_tup (v : List PV) : isiP "tuple" (.tup v) = some true := (rfl)
theorem isi_lst (v : List PV) : isiP "list" (.lst v) = some true := (rfl)
theorem prim_len_l (xs : List PV) : primP .len [.lst xs] = some (.val (.int xs.length)) := (rfl)
theorem prim_len_t (xs : List PV) : primP .len [.tup xs] = some (.val (.int xs.length)) := (rfl)
theorem prim_len_n (ns : List Int) : primP .len [.scr ns] = some (.val (.int ns.length)) := (rfl)
theorem prim_int (i : Int) : primP .int [.int i] = some (.val (.int i)) := (rfl)
theorem prim_max (i j : Int) : primP .max2 [.int i, .int j] = some (.val (.int (if j > i then j else i))) := (rfl)
theorem prim_min (i j : Int) : primP .min2 [.int i, .int j] = some (.val (.int (if j < i then j else i))) := (rfl)
theorem prim_sum (xs : List PV) : primP .sum [.lst xs] = (unInts xs).map fun ns => .val (.int ns.sum) := (rfl)
theorem idx_l (st : Sto) (xs : List PV) (i : Int) : idxP st (.lst xs) (.int i) = L2.atI xs i := (rfl)
theorem idx_t (st : Sto) (xs : List PV) (i : Int) : idxP st (.tup xs) (.int i) = L2.atI xs i := (rfl)
theorem idx_n (st : Sto) (ns : List Int) (i : Int) : idxP st (.scr ns) (.int i) = (L2.atI ns i).map .int := (rfl)
def rowAt (o : Option SO) (i : Int) : Option PV := match o with
  | some (.row xs) => atP xs i
  | _ => none
theorem rowAt_some (xs : List PV) (i : Int) : rowAt (some (.row xs)) i = L2.atI xs i := (rfl)
theorem idx_r (st : Sto) (k : Nat) (i : Int) : idxP st (.ref k) (.int i) = rowAt st[k]? i := (rfl)
theorem pv_val (d : PV) : SV.pv (.val d) = d := (rfl)
theorem pv_own (d : List PV) : SV.pv (.own d) = .lst d := (rfl)
theorem tru_bl (b : Bool) : truP (.bl b) = some b := (rfl)
theorem tru_int (b : Int) : truP (.int b) = some (b != 0) := (rfl)
theorem tru_lst (b : List PV) : truP (.lst b) = some (!b.isEmpty) := (rfl)
theorem tru_tup (b : List PV) : truP (.tup b) = some (!b.isEmpty) := (rfl)
theorem tru_non : truP .non = some false := (rfl)
/-- an if whose test is a bool -/
theorem ite_decide {α : Type} (p : Prop) [Decidable p] (a b : α) : (if decide p = true then a else b) = if p then a else b := by simp
end PI

set_option linter.all false
set_option autoImplicit false
set_option maxRecDepth 100000
set_option maxHeartbeats 4000000
namespace PI
open PySem
theorem at_row0 {α : Type} (a b c d : α) : L2.atI [a, b, c, d] 0 = some a := (rfl)
theorem at_row1 {α : Type} (a b c d : α) : L2.atI [a, b, c, d] 1 = some b := (rfl)
theorem at_row2 {α : Type} (a b c d : α) : L2.atI [a, b, c, d] 2 = some c := (rfl)
theorem at_row3 {α : Type} (a b c d : α) : L2.atI [a, b, c, d] 3 = some d := (rfl)
theorem ix_row1 : L2.ixN 4 1 = some 1 := (rfl)
theorem ix_row2 : L2.ixN 4 2 = some 2 := (rfl)
theorem ix_row3 : L2.ixN 4 3 = some 3 := (rfl)
theorem ix_row0 : L2.ixN 4 0 = some 0 := (rfl)
theorem at_pos {α : Type} (xs : List α) (i : Int) (h : 0 ≤ i ∧ i < xs.length) : L2.atI xs i = xs[i.toNat]? := by
  unfold L2.atI L2.ixN
  rw [if_pos h.1, if_pos h.2]
  rfl
theorem at_last {α : Type} (xs : List α) (h : xs ≠ []) : L2.atI xs (-1) = xs.getLast? := by
  have hl : 0 < xs.length := List.length_pos_iff.mpr h
  unfold L2.atI L2.ixN
  rw [if_neg (by omega), if_pos (by omega)]
  show xs[(-1 + (xs.length : Int)).toNat]? = _
  rw [List.getLast?_eq_getElem?]
  congr 1
  omega
/-- the def that takes the script's next number -/
def tkBody : List S := [
    (.if_ (.cmp .Gt (.idx (.var 0) (.cst (.int 3))) (.cst (.int 0))) [(.asg (.var 3) (.bin .Mod (.prim .int [(.idx (.var 0) (.cst (.int 3)))]) (.var 1))), (.setIdx 0 (.cst (.int 3)) (.bin .FloorDiv (.idx (.var 0) (.cst (.int 3))) (.var 1))), (.ret (.var 3))] []),
    (.setIdx 0 (.cst (.int 1)) (.bin .Add (.idx (.var 0) (.cst (.int 1))) (.cst (.int 1)))),
    (.if_ (.cmp .Gt (.idx (.var 0) (.cst (.int 1))) (.prim .len [(.idx (.var 0) (.cst (.int 0)))])) [(.setIdx 0 (.cst (.int 2)) (.bin .Mod (.prim .int [(.bin .Add (.bin .Mult (.idx (.var 0) (.cst (.int 2))) (.cst (.int 48271))) (.cst (.int 11)))]) (.cst (.int 2147483647)))), (.ret (.bin .Mod (.prim .int [(.bin .FloorDiv (.idx (.var 0) (.cst (.int 2))) (.cst (.int 7)))]) (.var 1)))] []),
    (.asg (.var 2) (.idx (.idx (.var 0) (.cst (.int 0))) (.bin .Sub (.idx (.var 0) (.cst (.int 1))) (.cst (.int 1))))),
    (.setIdx 0 (.cst (.int 2)) (.bin .Mod (.prim .int [(.bin .Add (.bin .Add (.bin .Mult (.idx (.var 0) (.cst (.int 2))) (.cst (.int 48271))) (.var 2)) (.cst (.int 11)))]) (.cst (.int 2147483647)))),
    (.setIdx 0 (.cst (.int 3)) (.ite (.cmp .GtE (.var 2) (.bin .Pow (.cst (.int 10)) (.cst (.int 18)))) (.bin .FloorDiv (.var 2) (.var 1)) (.cst (.int 0)))),
    (.ret (.bin .Mod (.prim .int [(.var 2)]) (.var 1)))]
/-- the row of a script -/
def rowP (ns : List Int) (i s t : Int) : SO := .row [.scr ns, .int i, .int s, .int t]
def IsRow (ns : List Int) (o : SO) : Prop := ∃ i s t : Int, o = rowP ns i s t ∧ 0 ≤ i
theorem sto_set {st : Sto} {k : Nat} {o o' : SO} (h : st[k]? = some o) : (st.set k o')[k]? = some o' := by
  obtain ⟨hk, _⟩ := List.getElem?_eq_some_iff.mp h
  simp [hk]
theorem taken_ok {fs : Str → Option Fn} {gl : Str → Option PV} (hf : fs "_law_taken" = some ⟨2, 4, tkBody⟩) {n : Nat} {ns : List Int} {st : Sto} {k : Nat} {o : SO} (h : st[k]? = some o) (ho : IsRow ns o) {m : Int} (hm : 0 < m) (hm' : m < 18446744073709551616)
    {Q : SV → Sto → Prop} (q : ∀ (r : Int) (o' : SO), 0 ≤ r → r < m → IsRow ns o' → Q (.val (.int r)) (st.set k o')) : WpC (callP fs gl (n + 1) "_law_taken" [.ref k, .int m] st) Q := by
  obtain ⟨i, s, t, rfl, hi⟩ := ho
  refine wp_fn hf rfl ?_
  show Wp (dsts _ tkBody ⟨[some (.val (.ref k)), some (.val (.int m)), none, none], st⟩) _
  unfold tkBody
  unfold rowP at h
  obtain ⟨hk, _⟩ := List.getElem?_eq_some_iff.mp h
  by_cases h1 : 0 < t
  · apply wp_if (b := true); focus (simp (disch := omega) only [↓eb_glob, ↓eb_cst, ↓eb_bin, ↓eb_neg, ↓eb_not, ↓eb_and, ↓eb_or, ↓eb_cmp, ↓eb_chain, ↓eb_ite, ↓eb_tup, ↓eb_lst, ↓eb_call, ↓eb_prim, ↓eb_isi, ↓eb_app, ↓eb_idx, ↓eb_comp, ↓et_glob, ↓et_cst, ↓et_bin, ↓et_neg, ↓et_tup, ↓et_lst, ↓et_call, ↓et_prim, ↓et_isi, ↓et_app, ↓et_idx, ↓et_comp, ↓eb_var, ↓ev_var, ↓et_var, ↓ev_glob, ↓ev_cst, ↓ev_bin, ↓ev_neg, ↓ev_not, ↓et_not, ↓ev_and, ↓ev_or, ↓et_and, ↓et_or, ↓ev_cmp, ↓et_cmp, ↓et_chain, ↓ev_chain, ↓ev_ite, ↓et_ite, ↓ev_tup, ↓ev_lst, ↓ev_call, ↓ev_prim, ↓ev_isi, ↓ev_app, ↓ev_idx, ↓ev_comp, ↓ebs_nil, ↓ebs_t, ↓ebs_f, ↓der1_v, ↓der2_v, ↓der1_s, ↓der2_vs, ↓der2_sv, ↓der2_ss, ↓ders_nil, ↓ders_v, ↓ders_s, ↓andK_t, ↓andK_f, ↓orK_t, ↓orK_f, ↓andK_b, ↓orK_b, chnK_b, wp_cal, ↓cal_ok, ↓cmpK_some, ↓dst_expr, ↓dst_asg, ↓asg_var, ↓dst_row, ↓dst_par, ↓dst_set, ↓augK_some, ↓dst_aug, ↓dst_if, ↓forK_some, ↓dst_for, ↓dst_ret_var, ↓dst_ret_glob, ↓dst_ret_cst, ↓dst_ret_bin, ↓dst_ret_neg, ↓dst_ret_not, ↓dst_ret_and, ↓dst_ret_or, ↓dst_ret_cmp, ↓dst_ret_chain, ↓dst_ret_ite, ↓dst_ret_tup, ↓dst_ret_lst, ↓dst_ret_call, ↓dst_ret_prim, ↓dst_ret_isi, ↓dst_ret_idx, ↓dst_ret_comp, negP_int, cond_d, appP, isOwn, ↓bind_ok, wp_bind, ↓wp_ok, wpC_ok, ↓lift_some, setP, filled, forBody, asgT, asgTs, itemsP, seqP, rng1, bin_add, bin_sub, bin_mul, bin_fdiv, bin_mod, bin_pow, aug_add, aug_sub, cmp_lt, cmp_le, cmp_gt, cmp_ge, cmp_eq, cmp_ne, isi_int, isi_bool, isi_str_int, isi_str, isi_tup, isi_lst, prim_len_l, prim_len_t, prim_len_n, prim_int, prim_max, prim_min, prim_sum, idx_l, idx_t, idx_n, idx_r, rowAt_some, pv_val, pv_own, tru_bl, tru_int, tru_lst, tru_tup, tru_non, decide_true, decide_false, List.getElem?_cons_zero, List.getElem?_cons_succ, List.set_cons_zero, List.set_cons_succ, Option.map_some, Option.bind_some, Option.bind_none, ↓fin_next, ↓fin_ret, forQ_next, forQ_ret, retQ_next, retQ_ret, ite_decide, Bool.not_true, Bool.not_false, if_true, if_false, Bool.true_or, Bool.or_true, Bool.and_true, Bool.true_and, Bool.false_eq_true, reduceCtorEq, ↓reduceIte, ↓cond_true, ↓cond_false, List.length_nil, List.length_cons, Nat.zero_add, Nat.reduceAdd, Int.reduceNeg, Int.reduceToNat, Int.reducePow, List.map_cons, List.map_nil, wipeL, backL, Option.getD_some, cmp_ne_non, at_zero, compBody_0, compBody_1, List.set_set, List.getElem?_set_self, at_row0, at_row1, at_row2, at_row3, ix_row0, ix_row1, ix_row2, ix_row3, h, h1]; with_reducible exact rfl)
    apply wp_next; focus (simp (disch := omega) only [↓eb_glob, ↓eb_cst, ↓eb_bin, ↓eb_neg, ↓eb_not, ↓eb_and, ↓eb_or, ↓eb_cmp, ↓eb_chain, ↓eb_ite, ↓eb_tup, ↓eb_lst, ↓eb_call, ↓eb_prim, ↓eb_isi, ↓eb_app, ↓eb_idx, ↓eb_comp, ↓et_glob, ↓et_cst, ↓et_bin, ↓et_neg, ↓et_tup, ↓et_lst, ↓et_call, ↓et_prim, ↓et_isi, ↓et_app, ↓et_idx, ↓et_comp, ↓eb_var, ↓ev_var, ↓et_var, ↓ev_glob, ↓ev_cst, ↓ev_bin, ↓ev_neg, ↓ev_not, ↓et_not, ↓ev_and, ↓ev_or, ↓et_and, ↓et_or, ↓ev_cmp, ↓et_cmp, ↓et_chain, ↓ev_chain, ↓ev_ite, ↓et_ite, ↓ev_tup, ↓ev_lst, ↓ev_call, ↓ev_prim, ↓ev_isi, ↓ev_app, ↓ev_idx, ↓ev_comp, ↓ebs_nil, ↓ebs_t, ↓ebs_f, ↓der1_v, ↓der2_v, ↓der1_s, ↓der2_vs, ↓der2_sv, ↓der2_ss, ↓ders_nil, ↓ders_v, ↓ders_s, ↓andK_t, ↓andK_f, ↓orK_t, ↓orK_f, ↓andK_b, ↓orK_b, chnK_b, wp_cal, ↓cal_ok, ↓cmpK_some, ↓dst_expr, ↓dst_asg, ↓asg_var, ↓dst_row, ↓dst_par, ↓dst_set, ↓augK_some, ↓dst_aug, ↓dst_if, ↓forK_some, ↓dst_for, ↓dst_ret_var, ↓dst_ret_glob, ↓dst_ret_cst, ↓dst_ret_bin, ↓dst_ret_neg, ↓dst_ret_not, ↓dst_ret_and, ↓dst_ret_or, ↓dst_ret_cmp, ↓dst_ret_chain, ↓dst_ret_ite, ↓dst_ret_tup, ↓dst_ret_lst, ↓dst_ret_call, ↓dst_ret_prim, ↓dst_ret_isi, ↓dst_ret_idx, ↓dst_ret_comp, negP_int, cond_d, appP, isOwn, ↓bind_ok, wp_bind, ↓wp_ok, wpC_ok, ↓lift_some, setP, filled, forBody, asgT, asgTs, itemsP, seqP, rng1, bin_add, bin_sub, bin_mul, bin_fdiv, bin_mod, bin_pow, aug_add, aug_sub, cmp_lt, cmp_le, cmp_gt, cmp_ge, cmp_eq, cmp_ne, isi_int, isi_bool, isi_str_int, isi_str, isi_tup, isi_lst, prim_len_l, prim_len_t, prim_len_n, prim_int, prim_max, prim_min, prim_sum, idx_l, idx_t, idx_n, idx_r, rowAt_some, pv_val, pv_own, tru_bl, tru_int, tru_lst, tru_tup, tru_non, decide_true, decide_false, List.getElem?_cons_zero, List.getElem?_cons_succ, List.set_cons_zero, List.set_cons_succ, Option.map_some, Option.bind_some, Option.bind_none, ↓fin_next, ↓fin_ret, forQ_next, forQ_ret, retQ_next, retQ_ret, ite_decide, Bool.not_true, Bool.not_false, if_true, if_false, Bool.true_or, Bool.or_true, Bool.and_true, Bool.true_and, Bool.false_eq_true, reduceCtorEq, ↓reduceIte, ↓cond_true, ↓cond_false, List.length_nil, List.length_cons, Nat.zero_add, Nat.reduceAdd, Int.reduceNeg, Int.reduceToNat, Int.reducePow, List.map_cons, List.map_nil, wipeL, backL, Option.getD_some, cmp_ne_non, at_zero, compBody_0, compBody_1, List.set_set, List.getElem?_set_self, at_row0, at_row1, at_row2, at_row3, ix_row0, ix_row1, ix_row2, ix_row3, h]; with_reducible exact rfl)
    apply wp_next; focus (simp (disch := omega) only [↓eb_glob, ↓eb_cst, ↓eb_bin, ↓eb_neg, ↓eb_not, ↓eb_and, ↓eb_or, ↓eb_cmp, ↓eb_chain, ↓eb_ite, ↓eb_tup, ↓eb_lst, ↓eb_call, ↓eb_prim, ↓eb_isi, ↓eb_app, ↓eb_idx, ↓eb_comp, ↓et_glob, ↓et_cst, ↓et_bin, ↓et_neg, ↓et_tup, ↓et_lst, ↓et_call, ↓et_prim, ↓et_isi, ↓et_app, ↓et_idx, ↓et_comp, ↓eb_var, ↓ev_var, ↓et_var, ↓ev_glob, ↓ev_cst, ↓ev_bin, ↓ev_neg, ↓ev_not, ↓et_not, ↓ev_and, ↓ev_or, ↓et_and, ↓et_or, ↓ev_cmp, ↓et_cmp, ↓et_chain, ↓ev_chain, ↓ev_ite, ↓et_ite, ↓ev_tup, ↓ev_lst, ↓ev_call, ↓ev_prim, ↓ev_isi, ↓ev_app, ↓ev_idx, ↓ev_comp, ↓ebs_nil, ↓ebs_t, ↓ebs_f, ↓der1_v, ↓der2_v, ↓der1_s, ↓der2_vs, ↓der2_sv, ↓der2_ss, ↓ders_nil, ↓ders_v, ↓ders_s, ↓andK_t, ↓andK_f, ↓orK_t, ↓orK_f, ↓andK_b, ↓orK_b, chnK_b, wp_cal, ↓cal_ok, ↓cmpK_some, ↓dst_expr, ↓dst_asg, ↓asg_var, ↓dst_row, ↓dst_par, ↓dst_set, ↓augK_some, ↓dst_aug, ↓dst_if, ↓forK_some, ↓dst_for, ↓dst_ret_var, ↓dst_ret_glob, ↓dst_ret_cst, ↓dst_ret_bin, ↓dst_ret_neg, ↓dst_ret_not, ↓dst_ret_and, ↓dst_ret_or, ↓dst_ret_cmp, ↓dst_ret_chain, ↓dst_ret_ite, ↓dst_ret_tup, ↓dst_ret_lst, ↓dst_ret_call, ↓dst_ret_prim, ↓dst_ret_isi, ↓dst_ret_idx, ↓dst_ret_comp, negP_int, cond_d, appP, isOwn, ↓bind_ok, wp_bind, ↓wp_ok, wpC_ok, ↓lift_some, setP, filled, forBody, asgT, asgTs, itemsP, seqP, rng1, bin_add, bin_sub, bin_mul, bin_fdiv, bin_mod, bin_pow, aug_add, aug_sub, cmp_lt, cmp_le, cmp_gt, cmp_ge, cmp_eq, cmp_ne, isi_int, isi_bool, isi_str_int, isi_str, isi_tup, isi_lst, prim_len_l, prim_len_t, prim_len_n, prim_int, prim_max, prim_min, prim_sum, idx_l, idx_t, idx_n, idx_r, rowAt_some, pv_val, pv_own, tru_bl, tru_int, tru_lst, tru_tup, tru_non, decide_true, decide_false, List.getElem?_cons_zero, List.getElem?_cons_succ, List.set_cons_zero, List.set_cons_succ, Option.map_some, Option.bind_some, Option.bind_none, ↓fin_next, ↓fin_ret, forQ_next, forQ_ret, retQ_next, retQ_ret, ite_decide, Bool.not_true, Bool.not_false, if_true, if_false, Bool.true_or, Bool.or_true, Bool.and_true, Bool.true_and, Bool.false_eq_true, reduceCtorEq, ↓reduceIte, ↓cond_true, ↓cond_false, List.length_nil, List.length_cons, Nat.zero_add, Nat.reduceAdd, Int.reduceNeg, Int.reduceToNat, Int.reducePow, List.map_cons, List.map_nil, wipeL, backL, Option.getD_some, cmp_ne_non, at_zero, compBody_0, compBody_1, List.set_set, List.getElem?_set_self, at_row0, at_row1, at_row2, at_row3, ix_row0, ix_row1, ix_row2, ix_row3, h]; with_reducible exact rfl)
    apply wp_ret; focus (simp (disch := omega) only [↓eb_glob, ↓eb_cst, ↓eb_bin, ↓eb_neg, ↓eb_not, ↓eb_and, ↓eb_or, ↓eb_cmp, ↓eb_chain, ↓eb_ite, ↓eb_tup, ↓eb_lst, ↓eb_call, ↓eb_prim, ↓eb_isi, ↓eb_app, ↓eb_idx, ↓eb_comp, ↓et_glob, ↓et_cst, ↓et_bin, ↓et_neg, ↓et_tup, ↓et_lst, ↓et_call, ↓et_prim, ↓et_isi, ↓et_app, ↓et_idx, ↓et_comp, ↓eb_var, ↓ev_var, ↓et_var, ↓ev_glob, ↓ev_cst, ↓ev_bin, ↓ev_neg, ↓ev_not, ↓et_not, ↓ev_and, ↓ev_or, ↓et_and, ↓et_or, ↓ev_cmp, ↓et_cmp, ↓et_chain, ↓ev_chain, ↓ev_ite, ↓et_ite, ↓ev_tup, ↓ev_lst, ↓ev_call, ↓ev_prim, ↓ev_isi, ↓ev_app, ↓ev_idx, ↓ev_comp, ↓ebs_nil, ↓ebs_t, ↓ebs_f, ↓der1_v, ↓der2_v, ↓der1_s, ↓der2_vs, ↓der2_sv, ↓der2_ss, ↓ders_nil, ↓ders_v, ↓ders_s, ↓andK_t, ↓andK_f, ↓orK_t, ↓orK_f, ↓andK_b, ↓orK_b, chnK_b, wp_cal, ↓cal_ok, ↓cmpK_some, ↓dst_expr, ↓dst_asg, ↓asg_var, ↓dst_row, ↓dst_par, ↓dst_set, ↓augK_some, ↓dst_aug, ↓dst_if, ↓forK_some, ↓dst_for, ↓dst_ret_var, ↓dst_ret_glob, ↓dst_ret_cst, ↓dst_ret_bin, ↓dst_ret_neg, ↓dst_ret_not, ↓dst_ret_and, ↓dst_ret_or, ↓dst_ret_cmp, ↓dst_ret_chain, ↓dst_ret_ite, ↓dst_ret_tup, ↓dst_ret_lst, ↓dst_ret_call, ↓dst_ret_prim, ↓dst_ret_isi, ↓dst_ret_idx, ↓dst_ret_comp, negP_int, cond_d, appP, isOwn, ↓bind_ok, wp_bind, ↓wp_ok, wpC_ok, ↓lift_some, setP, filled, forBody, asgT, asgTs, itemsP, seqP, rng1, bin_add, bin_sub, bin_mul, bin_fdiv, bin_mod, bin_pow, aug_add, aug_sub, cmp_lt, cmp_le, cmp_gt, cmp_ge, cmp_eq, cmp_ne, isi_int, isi_bool, isi_str_int, isi_str, isi_tup, isi_lst, prim_len_l, prim_len_t, prim_len_n, prim_int, prim_max, prim_min, prim_sum, idx_l, idx_t, idx_n, idx_r, rowAt_some, pv_val, pv_own, tru_bl, tru_int, tru_lst, tru_tup, tru_non, decide_true, decide_false, List.getElem?_cons_zero, List.getElem?_cons_succ, List.set_cons_zero, List.set_cons_succ, Option.map_some, Option.bind_some, Option.bind_none, ↓fin_next, ↓fin_ret, forQ_next, forQ_ret, retQ_next, retQ_ret, ite_decide, Bool.not_true, Bool.not_false, if_true, if_false, Bool.true_or, Bool.or_true, Bool.and_true, Bool.true_and, Bool.false_eq_true, reduceCtorEq, ↓reduceIte, ↓cond_true, ↓cond_false, List.length_nil, List.length_cons, Nat.zero_add, Nat.reduceAdd, Int.reduceNeg, Int.reduceToNat, Int.reducePow, List.map_cons, List.map_nil, wipeL, backL, Option.getD_some, cmp_ne_non, at_zero, compBody_0, compBody_1, List.set_set, List.getElem?_set_self, at_row0, at_row1, at_row2, at_row3, ix_row0, ix_row1, ix_row2, ix_row3, h]; with_reducible exact rfl)
    exact q _ _ (Int.emod_nonneg _ (by omega)) (Int.emod_lt_of_pos _ hm) ⟨i, s, t / m, rfl, hi⟩
  apply wp_if (b := false); focus (simp (disch := omega) only [↓eb_glob, ↓eb_cst, ↓eb_bin, ↓eb_neg, ↓eb_not, ↓eb_and, ↓eb_or, ↓eb_cmp, ↓eb_chain, ↓eb_ite, ↓eb_tup, ↓eb_lst, ↓eb_call, ↓eb_prim, ↓eb_isi, ↓eb_app, ↓eb_idx, ↓eb_comp, ↓et_glob, ↓et_cst, ↓et_bin, ↓et_neg, ↓et_tup, ↓et_lst, ↓et_call, ↓et_prim, ↓et_isi, ↓et_app, ↓et_idx, ↓et_comp, ↓eb_var, ↓ev_var, ↓et_var, ↓ev_glob, ↓ev_cst, ↓ev_bin, ↓ev_neg, ↓ev_not, ↓et_not, ↓ev_and, ↓ev_or, ↓et_and, ↓et_or, ↓ev_cmp, ↓et_cmp, ↓et_chain, ↓ev_chain, ↓ev_ite, ↓et_ite, ↓ev_tup, ↓ev_lst, ↓ev_call, ↓ev_prim, ↓ev_isi, ↓ev_app, ↓ev_idx, ↓ev_comp, ↓ebs_nil, ↓ebs_t, ↓ebs_f, ↓der1_v, ↓der2_v, ↓der1_s, ↓der2_vs, ↓der2_sv, ↓der2_ss, ↓ders_nil, ↓ders_v, ↓ders_s, ↓andK_t, ↓andK_f, ↓orK_t, ↓orK_f, ↓andK_b, ↓orK_b, chnK_b, wp_cal, ↓cal_ok, ↓cmpK_some, ↓dst_expr, ↓dst_asg, ↓asg_var, ↓dst_row, ↓dst_par, ↓dst_set, ↓augK_some, ↓dst_aug, ↓dst_if, ↓forK_some, ↓dst_for, ↓dst_ret_var, ↓dst_ret_glob, ↓dst_ret_cst, ↓dst_ret_bin, ↓dst_ret_neg, ↓dst_ret_not, ↓dst_ret_and, ↓dst_ret_or, ↓dst_ret_cmp, ↓dst_ret_chain, ↓dst_ret_ite, ↓dst_ret_tup, ↓dst_ret_lst, ↓dst_ret_call, ↓dst_ret_prim, ↓dst_ret_isi, ↓dst_ret_idx, ↓dst_ret_comp, negP_int, cond_d, appP, isOwn, ↓bind_ok, wp_bind, ↓wp_ok, wpC_ok, ↓lift_some, setP, filled, forBody, asgT, asgTs, itemsP, seqP, rng1, bin_add, bin_sub, bin_mul, bin_fdiv, bin_mod, bin_pow, aug_add, aug_sub, cmp_lt, cmp_le, cmp_gt, cmp_ge, cmp_eq, cmp_ne, isi_int, isi_bool, isi_str_int, isi_str, isi_tup, isi_lst, prim_len_l, prim_len_t, prim_len_n, prim_int, prim_max, prim_min, prim_sum, idx_l, idx_t, idx_n, idx_r, rowAt_some, pv_val, pv_own, tru_bl, tru_int, tru_lst, tru_tup, tru_non, decide_true, decide_false, List.getElem?_cons_zero, List.getElem?_cons_succ, List.set_cons_zero, List.set_cons_succ, Option.map_some, Option.bind_some, Option.bind_none, ↓fin_next, ↓fin_ret, forQ_next, forQ_ret, retQ_next, retQ_ret, ite_decide, Bool.not_true, Bool.not_false, if_true, if_false, Bool.true_or, Bool.or_true, Bool.and_true, Bool.true_and, Bool.false_eq_true, reduceCtorEq, ↓reduceIte, ↓cond_true, ↓cond_false, List.length_nil, List.length_cons, Nat.zero_add, Nat.reduceAdd, Int.reduceNeg, Int.reduceToNat, Int.reducePow, List.map_cons, List.map_nil, wipeL, backL, Option.getD_some, cmp_ne_non, at_zero, compBody_0, compBody_1, List.set_set, List.getElem?_set_self, at_row0, at_row1, at_row2, at_row3, ix_row0, ix_row1, ix_row2, ix_row3, h, h1]; with_reducible exact rfl)
  refine wp_nil _ _ _ ?_
  apply wp_next; focus (simp (disch := omega) only [↓eb_glob, ↓eb_cst, ↓eb_bin, ↓eb_neg, ↓eb_not, ↓eb_and, ↓eb_or, ↓eb_cmp, ↓eb_chain, ↓eb_ite, ↓eb_tup, ↓eb_lst, ↓eb_call, ↓eb_prim, ↓eb_isi, ↓eb_app, ↓eb_idx, ↓eb_comp, ↓et_glob, ↓et_cst, ↓et_bin, ↓et_neg, ↓et_tup, ↓et_lst, ↓et_call, ↓et_prim, ↓et_isi, ↓et_app, ↓et_idx, ↓et_comp, ↓eb_var, ↓ev_var, ↓et_var, ↓ev_glob, ↓ev_cst, ↓ev_bin, ↓ev_neg, ↓ev_not, ↓et_not, ↓ev_and, ↓ev_or, ↓et_and, ↓et_or, ↓ev_cmp, ↓et_cmp, ↓et_chain, ↓ev_chain, ↓ev_ite, ↓et_ite, ↓ev_tup, ↓ev_lst, ↓ev_call, ↓ev_prim, ↓ev_isi, ↓ev_app, ↓ev_idx, ↓ev_comp, ↓ebs_nil, ↓ebs_t, ↓ebs_f, ↓der1_v, ↓der2_v, ↓der1_s, ↓der2_vs, ↓der2_sv, ↓der2_ss, ↓ders_nil, ↓ders_v, ↓ders_s, ↓andK_t, ↓andK_f, ↓orK_t, ↓orK_f, ↓andK_b, ↓orK_b, chnK_b, wp_cal, ↓cal_ok, ↓cmpK_some, ↓dst_expr, ↓dst_asg, ↓asg_var, ↓dst_row, ↓dst_par, ↓dst_set, ↓augK_some, ↓dst_aug, ↓dst_if, ↓forK_some, ↓dst_for, ↓dst_ret_var, ↓dst_ret_glob, ↓dst_ret_cst, ↓dst_ret_bin, ↓dst_ret_neg, ↓dst_ret_not, ↓dst_ret_and, ↓dst_ret_or, ↓dst_ret_cmp, ↓dst_ret_chain, ↓dst_ret_ite, ↓dst_ret_tup, ↓dst_ret_lst, ↓dst_ret_call, ↓dst_ret_prim, ↓dst_ret_isi, ↓dst_ret_idx, ↓dst_ret_comp, negP_int, cond_d, appP, isOwn, ↓bind_ok, wp_bind, ↓wp_ok, wpC_ok, ↓lift_some, setP, filled, forBody, asgT, asgTs, itemsP, seqP, rng1, bin_add, bin_sub, bin_mul, bin_fdiv, bin_mod, bin_pow, aug_add, aug_sub, cmp_lt, cmp_le, cmp_gt, cmp_ge, cmp_eq, cmp_ne, isi_int, isi_bool, isi_str_int, isi_str, isi_tup, isi_lst, prim_len_l, prim_len_t, prim_len_n, prim_int, prim_max, prim_min, prim_sum, idx_l, idx_t, idx_n, idx_r, rowAt_some, pv_val, pv_own, tru_bl, tru_int, tru_lst, tru_tup, tru_non, decide_true, decide_false, List.getElem?_cons_zero, List.getElem?_cons_succ, List.set_cons_zero, List.set_cons_succ, Option.map_some, Option.bind_some, Option.bind_none, ↓fin_next, ↓fin_ret, forQ_next, forQ_ret, retQ_next, retQ_ret, ite_decide, Bool.not_true, Bool.not_false, if_true, if_false, Bool.true_or, Bool.or_true, Bool.and_true, Bool.true_and, Bool.false_eq_true, reduceCtorEq, ↓reduceIte, ↓cond_true, ↓cond_false, List.length_nil, List.length_cons, Nat.zero_add, Nat.reduceAdd, Int.reduceNeg, Int.reduceToNat, Int.reducePow, List.map_cons, List.map_nil, wipeL, backL, Option.getD_some, cmp_ne_non, at_zero, compBody_0, compBody_1, List.set_set, List.getElem?_set_self, at_row0, at_row1, at_row2, at_row3, ix_row0, ix_row1, ix_row2, ix_row3, h]; with_reducible exact rfl)
  by_cases h2 : (ns.length : Int) < i + 1
  · apply wp_if (b := true); focus (simp (disch := omega) only [↓eb_glob, ↓eb_cst, ↓eb_bin, ↓eb_neg, ↓eb_not, ↓eb_and, ↓eb_or, ↓eb_cmp, ↓eb_chain, ↓eb_ite, ↓eb_tup, ↓eb_lst, ↓eb_call, ↓eb_prim, ↓eb_isi, ↓eb_app, ↓eb_idx, ↓eb_comp, ↓et_glob, ↓et_cst, ↓et_bin, ↓et_neg, ↓et_tup, ↓et_lst, ↓et_call, ↓et_prim, ↓et_isi, ↓et_app, ↓et_idx, ↓et_comp, ↓eb_var, ↓ev_var, ↓et_var, ↓ev_glob, ↓ev_cst, ↓ev_bin, ↓ev_neg, ↓ev_not, ↓et_not, ↓ev_and, ↓ev_or, ↓et_and, ↓et_or, ↓ev_cmp, ↓et_cmp, ↓et_chain, ↓ev_chain, ↓ev_ite, ↓et_ite, ↓ev_tup, ↓ev_lst, ↓ev_call, ↓ev_prim, ↓ev_isi, ↓ev_app, ↓ev_idx, ↓ev_comp, ↓ebs_nil, ↓ebs_t, ↓ebs_f, ↓der1_v, ↓der2_v, ↓der1_s, ↓der2_vs, ↓der2_sv, ↓der2_ss, ↓ders_nil, ↓ders_v, ↓ders_s, ↓andK_t, ↓andK_f, ↓orK_t, ↓orK_f, ↓andK_b, ↓orK_b, chnK_b, wp_cal, ↓cal_ok, ↓cmpK_some, ↓dst_expr, ↓dst_asg, ↓asg_var, ↓dst_row, ↓dst_par, ↓dst_set, ↓augK_some, ↓dst_aug, ↓dst_if, ↓forK_some, ↓dst_for, ↓dst_ret_var, ↓dst_ret_glob, ↓dst_ret_cst, ↓dst_ret_bin, ↓dst_ret_neg, ↓dst_ret_not, ↓dst_ret_and, ↓dst_ret_or, ↓dst_ret_cmp, ↓dst_ret_chain, ↓dst_ret_ite, ↓dst_ret_tup, ↓dst_ret_lst, ↓dst_ret_call, ↓dst_ret_prim, ↓dst_ret_isi, ↓dst_ret_idx, ↓dst_ret_comp, negP_int, cond_d, appP, isOwn, ↓bind_ok, wp_bind, ↓wp_ok, wpC_ok, ↓lift_some, setP, filled, forBody, asgT, asgTs, itemsP, seqP, rng1, bin_add, bin_sub, bin_mul, bin_fdiv, bin_mod, bin_pow, aug_add, aug_sub, cmp_lt, cmp_le, cmp_gt, cmp_ge, cmp_eq, cmp_ne, isi_int, isi_bool, isi_str_int, isi_str, isi_tup, isi_lst, prim_len_l, prim_len_t, prim_len_n, prim_int, prim_max, prim_min, prim_sum, idx_l, idx_t, idx_n, idx_r, rowAt_some, pv_val, pv_own, tru_bl, tru_int, tru_lst, tru_tup, tru_non, decide_true, decide_false, List.getElem?_cons_zero, List.getElem?_cons_succ, List.set_cons_zero, List.set_cons_succ, Option.map_some, Option.bind_some, Option.bind_none, ↓fin_next, ↓fin_ret, forQ_next, forQ_ret, retQ_next, retQ_ret, ite_decide, Bool.not_true, Bool.not_false, if_true, if_false, Bool.true_or, Bool.or_true, Bool.and_true, Bool.true_and, Bool.false_eq_true, reduceCtorEq, ↓reduceIte, ↓cond_true, ↓cond_false, List.length_nil, List.length_cons, Nat.zero_add, Nat.reduceAdd, Int.reduceNeg, Int.reduceToNat, Int.reducePow, List.map_cons, List.map_nil, wipeL, backL, Option.getD_some, cmp_ne_non, at_zero, compBody_0, compBody_1, List.set_set, List.getElem?_set_self, at_row0, at_row1, at_row2, at_row3, ix_row0, ix_row1, ix_row2, ix_row3, h, h2]; with_reducible exact rfl)
    apply wp_next; focus (simp (disch := omega) only [↓eb_glob, ↓eb_cst, ↓eb_bin, ↓eb_neg, ↓eb_not, ↓eb_and, ↓eb_or, ↓eb_cmp, ↓eb_chain, ↓eb_ite, ↓eb_tup, ↓eb_lst, ↓eb_call, ↓eb_prim, ↓eb_isi, ↓eb_app, ↓eb_idx, ↓eb_comp, ↓et_glob, ↓et_cst, ↓et_bin, ↓et_neg, ↓et_tup, ↓et_lst, ↓et_call, ↓et_prim, ↓et_isi, ↓et_app, ↓et_idx, ↓et_comp, ↓eb_var, ↓ev_var, ↓et_var, ↓ev_glob, ↓ev_cst, ↓ev_bin, ↓ev_neg, ↓ev_not, ↓et_not, ↓ev_and, ↓ev_or, ↓et_and, ↓et_or, ↓ev_cmp, ↓et_cmp, ↓et_chain, ↓ev_chain, ↓ev_ite, ↓et_ite, ↓ev_tup, ↓ev_lst, ↓ev_call, ↓ev_prim, ↓ev_isi, ↓ev_app, ↓ev_idx, ↓ev_comp, ↓ebs_nil, ↓ebs_t, ↓ebs_f, ↓der1_v, ↓der2_v, ↓der1_s, ↓der2_vs, ↓der2_sv, ↓der2_ss, ↓ders_nil, ↓ders_v, ↓ders_s, ↓andK_t, ↓andK_f, ↓orK_t, ↓orK_f, ↓andK_b, ↓orK_b, chnK_b, wp_cal, ↓cal_ok, ↓cmpK_some, ↓dst_expr, ↓dst_asg, ↓asg_var, ↓dst_row, ↓dst_par, ↓dst_set, ↓augK_some, ↓dst_aug, ↓dst_if, ↓forK_some, ↓dst_for, ↓dst_ret_var, ↓dst_ret_glob, ↓dst_ret_cst, ↓dst_ret_bin, ↓dst_ret_neg, ↓dst_ret_not, ↓dst_ret_and, ↓dst_ret_or, ↓dst_ret_cmp, ↓dst_ret_chain, ↓dst_ret_ite, ↓dst_ret_tup, ↓dst_ret_lst, ↓dst_ret_call, ↓dst_ret_prim, ↓dst_ret_isi, ↓dst_ret_idx, ↓dst_ret_comp, negP_int, cond_d, appP, isOwn, ↓bind_ok, wp_bind, ↓wp_ok, wpC_ok, ↓lift_some, setP, filled, forBody, asgT, asgTs, itemsP, seqP, rng1, bin_add, bin_sub, bin_mul, bin_fdiv, bin_mod, bin_pow, aug_add, aug_sub, cmp_lt, cmp_le, cmp_gt, cmp_ge, cmp_eq, cmp_ne, isi_int, isi_bool, isi_str_int, isi_str, isi_tup, isi_lst, prim_len_l, prim_len_t, prim_len_n, prim_int, prim_max, prim_min, prim_sum, idx_l, idx_t, idx_n, idx_r, rowAt_some, pv_val, pv_own, tru_bl, tru_int, tru_lst, tru_tup, tru_non, decide_true, decide_false, List.getElem?_cons_zero, List.getElem?_cons_succ, List.set_cons_zero, List.set_cons_succ, Option.map_some, Option.bind_some, Option.bind_none, ↓fin_next, ↓fin_ret, forQ_next, forQ_ret, retQ_next, retQ_ret, ite_decide, Bool.not_true, Bool.not_false, if_true, if_false, Bool.true_or, Bool.or_true, Bool.and_true, Bool.true_and, Bool.false_eq_true, reduceCtorEq, ↓reduceIte, ↓cond_true, ↓cond_false, List.length_nil, List.length_cons, Nat.zero_add, Nat.reduceAdd, Int.reduceNeg, Int.reduceToNat, Int.reducePow, List.map_cons, List.map_nil, wipeL, backL, Option.getD_some, cmp_ne_non, at_zero, compBody_0, compBody_1, List.set_set, List.getElem?_set_self, at_row0, at_row1, at_row2, at_row3, ix_row0, ix_row1, ix_row2, ix_row3, h]; with_reducible exact rfl)
    apply wp_ret; focus (simp (disch := omega) only [↓eb_glob, ↓eb_cst, ↓eb_bin, ↓eb_neg, ↓eb_not, ↓eb_and, ↓eb_or, ↓eb_cmp, ↓eb_chain, ↓eb_ite, ↓eb_tup, ↓eb_lst, ↓eb_call, ↓eb_prim, ↓eb_isi, ↓eb_app, ↓eb_idx, ↓eb_comp, ↓et_glob, ↓et_cst, ↓et_bin, ↓et_neg, ↓et_tup, ↓et_lst, ↓et_call, ↓et_prim, ↓et_isi, ↓et_app, ↓et_idx, ↓et_comp, ↓eb_var, ↓ev_var, ↓et_var, ↓ev_glob, ↓ev_cst, ↓ev_bin, ↓ev_neg, ↓ev_not, ↓et_not, ↓ev_and, ↓ev_or, ↓et_and, ↓et_or, ↓ev_cmp, ↓et_cmp, ↓et_chain, ↓ev_chain, ↓ev_ite, ↓et_ite, ↓ev_tup, ↓ev_lst, ↓ev_call, ↓ev_prim, ↓ev_isi, ↓ev_app, ↓ev_idx, ↓ev_comp, ↓ebs_nil, ↓ebs_t, ↓ebs_f, ↓der1_v, ↓der2_v, ↓der1_s, ↓der2_vs, ↓der2_sv, ↓der2_ss, ↓ders_nil, ↓ders_v, ↓ders_s, ↓andK_t, ↓andK_f, ↓orK_t, ↓orK_f, ↓andK_b, ↓orK_b, chnK_b, wp_cal, ↓cal_ok, ↓cmpK_some, ↓dst_expr, ↓dst_asg, ↓asg_var, ↓dst_row, ↓dst_par, ↓dst_set, ↓augK_some, ↓dst_aug, ↓dst_if, ↓forK_some, ↓dst_for, ↓dst_ret_var, ↓dst_ret_glob, ↓dst_ret_cst, ↓dst_ret_bin, ↓dst_ret_neg, ↓dst_ret_not, ↓dst_ret_and, ↓dst_ret_or, ↓dst_ret_cmp, ↓dst_ret_chain, ↓dst_ret_ite, ↓dst_ret_tup, ↓dst_ret_lst, ↓dst_ret_call, ↓dst_ret_prim, ↓dst_ret_isi, ↓dst_ret_idx, ↓dst_ret_comp, negP_int, cond_d, appP, isOwn, ↓bind_ok, wp_bind, ↓wp_ok, wpC_ok, ↓lift_some, setP, filled, forBody, asgT, asgTs, itemsP, seqP, rng1, bin_add, bin_sub, bin_mul, bin_fdiv, bin_mod, bin_pow, aug_add, aug_sub, cmp_lt, cmp_le, cmp_gt, cmp_ge, cmp_eq, cmp_ne, isi_int, isi_bool, isi_str_int, isi_str, isi_tup, isi_lst, prim_len_l, prim_len_t, prim_len_n, prim_int, prim_max, prim_min, prim_sum, idx_l, idx_t, idx_n, idx_r, rowAt_some, pv_val, pv_own, tru_bl, tru_int, tru_lst, tru_tup, tru_non, decide_true, decide_false, List.getElem?_cons_zero, List.getElem?_cons_succ, List.set_cons_zero, List.set_cons_succ, Option.map_some, Option.bind_some, Option.bind_none, ↓fin_next, ↓fin_ret, forQ_next, forQ_ret, retQ_next, retQ_ret, ite_decide, Bool.not_true, Bool.not_false, if_true, if_false, Bool.true_or, Bool.or_true, Bool.and_true, Bool.true_and, Bool.false_eq_true, reduceCtorEq, ↓reduceIte, ↓cond_true, ↓cond_false, List.length_nil, List.length_cons, Nat.zero_add, Nat.reduceAdd, Int.reduceNeg, Int.reduceToNat, Int.reducePow, List.map_cons, List.map_nil, wipeL, backL, Option.getD_some, cmp_ne_non, at_zero, compBody_0, compBody_1, List.set_set, List.getElem?_set_self, at_row0, at_row1, at_row2, at_row3, ix_row0, ix_row1, ix_row2, ix_row3, h]; with_reducible exact rfl)
    exact q _ _ (Int.emod_nonneg _ (by omega)) (Int.emod_lt_of_pos _ hm) ⟨i + 1, _, t, rfl, by omega⟩
  apply wp_if (b := false); focus (simp (disch := omega) only [↓eb_glob, ↓eb_cst, ↓eb_bin, ↓eb_neg, ↓eb_not, ↓eb_and, ↓eb_or, ↓eb_cmp, ↓eb_chain, ↓eb_ite, ↓eb_tup, ↓eb_lst, ↓eb_call, ↓eb_prim, ↓eb_isi, ↓eb_app, ↓eb_idx, ↓eb_comp, ↓et_glob, ↓et_cst, ↓et_bin, ↓et_neg, ↓et_tup, ↓et_lst, ↓et_call, ↓et_prim, ↓et_isi, ↓et_app, ↓et_idx, ↓et_comp, ↓eb_var, ↓ev_var, ↓et_var, ↓ev_glob, ↓ev_cst, ↓ev_bin, ↓ev_neg, ↓ev_not, ↓et_not, ↓ev_and, ↓ev_or, ↓et_and, ↓et_or, ↓ev_cmp, ↓et_cmp, ↓et_chain, ↓ev_chain, ↓ev_ite, ↓et_ite, ↓ev_tup, ↓ev_lst, ↓ev_call, ↓ev_prim, ↓ev_isi, ↓ev_app, ↓ev_idx, ↓ev_comp, ↓ebs_nil, ↓ebs_t, ↓ebs_f, ↓der1_v, ↓der2_v, ↓der1_s, ↓der2_vs, ↓der2_sv, ↓der2_ss, ↓ders_nil, ↓ders_v, ↓ders_s, ↓andK_t, ↓andK_f, ↓orK_t, ↓orK_f, ↓andK_b, ↓orK_b, chnK_b, wp_cal, ↓cal_ok, ↓cmpK_some, ↓dst_expr, ↓dst_asg, ↓asg_var, ↓dst_row, ↓dst_par, ↓dst_set, ↓augK_some, ↓dst_aug, ↓dst_if, ↓forK_some, ↓dst_for, ↓dst_ret_var, ↓dst_ret_glob, ↓dst_ret_cst, ↓dst_ret_bin, ↓dst_ret_neg, ↓dst_ret_not, ↓dst_ret_and, ↓dst_ret_or, ↓dst_ret_cmp, ↓dst_ret_chain, ↓dst_ret_ite, ↓dst_ret_tup, ↓dst_ret_lst, ↓dst_ret_call, ↓dst_ret_prim, ↓dst_ret_isi, ↓dst_ret_idx, ↓dst_ret_comp, negP_int, cond_d, appP, isOwn, ↓bind_ok, wp_bind, ↓wp_ok, wpC_ok, ↓lift_some, setP, filled, forBody, asgT, asgTs, itemsP, seqP, rng1, bin_add, bin_sub, bin_mul, bin_fdiv, bin_mod, bin_pow, aug_add, aug_sub, cmp_lt, cmp_le, cmp_gt, cmp_ge, cmp_eq, cmp_ne, isi_int, isi_bool, isi_str_int, isi_str, isi_tup, isi_lst, prim_len_l, prim_len_t, prim_len_n, prim_int, prim_max, prim_min, prim_sum, idx_l, idx_t, idx_n, idx_r, rowAt_some, pv_val, pv_own, tru_bl, tru_int, tru_lst, tru_tup, tru_non, decide_true, decide_false, List.getElem?_cons_zero, List.getElem?_cons_succ, List.set_cons_zero, List.set_cons_succ, Option.map_some, Option.bind_some, Option.bind_none, ↓fin_next, ↓fin_ret, forQ_next, forQ_ret, retQ_next, retQ_ret, ite_decide, Bool.not_true, Bool.not_false, if_true, if_false, Bool.true_or, Bool.or_true, Bool.and_true, Bool.true_and, Bool.false_eq_true, reduceCtorEq, ↓reduceIte, ↓cond_true, ↓cond_false, List.length_nil, List.length_cons, Nat.zero_add, Nat.reduceAdd, Int.reduceNeg, Int.reduceToNat, Int.reducePow, List.map_cons, List.map_nil, wipeL, backL, Option.getD_some, cmp_ne_non, at_zero, compBody_0, compBody_1, List.set_set, List.getElem?_set_self, at_row0, at_row1, at_row2, at_row3, ix_row0, ix_row1, ix_row2, ix_row3, h, h2]; with_reducible exact rfl)
  refine wp_nil _ _ _ ?_
  have e : L2.atI ns (i + 1 - 1) = some (ns[i.toNat]'(by omega)) := by
    rw [show i + 1 - 1 = i by omega, at_pos _ _ (by omega)]
    simp
  apply wp_next; focus (simp (disch := omega) only [↓eb_glob, ↓eb_cst, ↓eb_bin, ↓eb_neg, ↓eb_not, ↓eb_and, ↓eb_or, ↓eb_cmp, ↓eb_chain, ↓eb_ite, ↓eb_tup, ↓eb_lst, ↓eb_call, ↓eb_prim, ↓eb_isi, ↓eb_app, ↓eb_idx, ↓eb_comp, ↓et_glob, ↓et_cst, ↓et_bin, ↓et_neg, ↓et_tup, ↓et_lst, ↓et_call, ↓et_prim, ↓et_isi, ↓et_app, ↓et_idx, ↓et_comp, ↓eb_var, ↓ev_var, ↓et_var, ↓ev_glob, ↓ev_cst, ↓ev_bin, ↓ev_neg, ↓ev_not, ↓et_not, ↓ev_and, ↓ev_or, ↓et_and, ↓et_or, ↓ev_cmp, ↓et_cmp, ↓et_chain, ↓ev_chain, ↓ev_ite, ↓et_ite, ↓ev_tup, ↓ev_lst, ↓ev_call, ↓ev_prim, ↓ev_isi, ↓ev_app, ↓ev_idx, ↓ev_comp, ↓ebs_nil, ↓ebs_t, ↓ebs_f, ↓der1_v, ↓der2_v, ↓der1_s, ↓der2_vs, ↓der2_sv, ↓der2_ss, ↓ders_nil, ↓ders_v, ↓ders_s, ↓andK_t, ↓andK_f, ↓orK_t, ↓orK_f, ↓andK_b, ↓orK_b, chnK_b, wp_cal, ↓cal_ok, ↓cmpK_some, ↓dst_expr, ↓dst_asg, ↓asg_var, ↓dst_row, ↓dst_par, ↓dst_set, ↓augK_some, ↓dst_aug, ↓dst_if, ↓forK_some, ↓dst_for, ↓dst_ret_var, ↓dst_ret_glob, ↓dst_ret_cst, ↓dst_ret_bin, ↓dst_ret_neg, ↓dst_ret_not, ↓dst_ret_and, ↓dst_ret_or, ↓dst_ret_cmp, ↓dst_ret_chain, ↓dst_ret_ite, ↓dst_ret_tup, ↓dst_ret_lst, ↓dst_ret_call, ↓dst_ret_prim, ↓dst_ret_isi, ↓dst_ret_idx, ↓dst_ret_comp, negP_int, cond_d, appP, isOwn, ↓bind_ok, wp_bind, ↓wp_ok, wpC_ok, ↓lift_some, setP, filled, forBody, asgT, asgTs, itemsP, seqP, rng1, bin_add, bin_sub, bin_mul, bin_fdiv, bin_mod, bin_pow, aug_add, aug_sub, cmp_lt, cmp_le, cmp_gt, cmp_ge, cmp_eq, cmp_ne, isi_int, isi_bool, isi_str_int, isi_str, isi_tup, isi_lst, prim_len_l, prim_len_t, prim_len_n, prim_int, prim_max, prim_min, prim_sum, idx_l, idx_t, idx_n, idx_r, rowAt_some, pv_val, pv_own, tru_bl, tru_int, tru_lst, tru_tup, tru_non, decide_true, decide_false, List.getElem?_cons_zero, List.getElem?_cons_succ, List.set_cons_zero, List.set_cons_succ, Option.map_some, Option.bind_some, Option.bind_none, ↓fin_next, ↓fin_ret, forQ_next, forQ_ret, retQ_next, retQ_ret, ite_decide, Bool.not_true, Bool.not_false, if_true, if_false, Bool.true_or, Bool.or_true, Bool.and_true, Bool.true_and, Bool.false_eq_true, reduceCtorEq, ↓reduceIte, ↓cond_true, ↓cond_false, List.length_nil, List.length_cons, Nat.zero_add, Nat.reduceAdd, Int.reduceNeg, Int.reduceToNat, Int.reducePow, List.map_cons, List.map_nil, wipeL, backL, Option.getD_some, cmp_ne_non, at_zero, compBody_0, compBody_1, List.set_set, List.getElem?_set_self, at_row0, at_row1, at_row2, at_row3, ix_row0, ix_row1, ix_row2, ix_row3, e]; with_reducible exact rfl)
  apply wp_next; focus (simp (disch := omega) only [↓eb_glob, ↓eb_cst, ↓eb_bin, ↓eb_neg, ↓eb_not, ↓eb_and, ↓eb_or, ↓eb_cmp, ↓eb_chain, ↓eb_ite, ↓eb_tup, ↓eb_lst, ↓eb_call, ↓eb_prim, ↓eb_isi, ↓eb_app, ↓eb_idx, ↓eb_comp, ↓et_glob, ↓et_cst, ↓et_bin, ↓et_neg, ↓et_tup, ↓et_lst, ↓et_call, ↓et_prim, ↓et_isi, ↓et_app, ↓et_idx, ↓et_comp, ↓eb_var, ↓ev_var, ↓et_var, ↓ev_glob, ↓ev_cst, ↓ev_bin, ↓ev_neg, ↓ev_not, ↓et_not, ↓ev_and, ↓ev_or, ↓et_and, ↓et_or, ↓ev_cmp, ↓et_cmp, ↓et_chain, ↓ev_chain, ↓ev_ite, ↓et_ite, ↓ev_tup, ↓ev_lst, ↓ev_call, ↓ev_prim, ↓ev_isi, ↓ev_app, ↓ev_idx, ↓ev_comp, ↓ebs_nil, ↓ebs_t, ↓ebs_f, ↓der1_v, ↓der2_v, ↓der1_s, ↓der2_vs, ↓der2_sv, ↓der2_ss, ↓ders_nil, ↓ders_v, ↓ders_s, ↓andK_t, ↓andK_f, ↓orK_t, ↓orK_f, ↓andK_b, ↓orK_b, chnK_b, wp_cal, ↓cal_ok, ↓cmpK_some, ↓dst_expr, ↓dst_asg, ↓asg_var, ↓dst_row, ↓dst_par, ↓dst_set, ↓augK_some, ↓dst_aug, ↓dst_if, ↓forK_some, ↓dst_for, ↓dst_ret_var, ↓dst_ret_glob, ↓dst_ret_cst, ↓dst_ret_bin, ↓dst_ret_neg, ↓dst_ret_not, ↓dst_ret_and, ↓dst_ret_or, ↓dst_ret_cmp, ↓dst_ret_chain, ↓dst_ret_ite, ↓dst_ret_tup, ↓dst_ret_lst, ↓dst_ret_call, ↓dst_ret_prim, ↓dst_ret_isi, ↓dst_ret_idx, ↓dst_ret_comp, negP_int, cond_d, appP, isOwn, ↓bind_ok, wp_bind, ↓wp_ok, wpC_ok, ↓lift_some, setP, filled, forBody, asgT, asgTs, itemsP, seqP, rng1, bin_add, bin_sub, bin_mul, bin_fdiv, bin_mod, bin_pow, aug_add, aug_sub, cmp_lt, cmp_le, cmp_gt, cmp_ge, cmp_eq, cmp_ne, isi_int, isi_bool, isi_str_int, isi_str, isi_tup, isi_lst, prim_len_l, prim_len_t, prim_len_n, prim_int, prim_max, prim_min, prim_sum, idx_l, idx_t, idx_n, idx_r, rowAt_some, pv_val, pv_own, tru_bl, tru_int, tru_lst, tru_tup, tru_non, decide_true, decide_false, List.getElem?_cons_zero, List.getElem?_cons_succ, List.set_cons_zero, List.set_cons_succ, Option.map_some, Option.bind_some, Option.bind_none, ↓fin_next, ↓fin_ret, forQ_next, forQ_ret, retQ_next, retQ_ret, ite_decide, Bool.not_true, Bool.not_false, if_true, if_false, Bool.true_or, Bool.or_true, Bool.and_true, Bool.true_and, Bool.false_eq_true, reduceCtorEq, ↓reduceIte, ↓cond_true, ↓cond_false, List.length_nil, List.length_cons, Nat.zero_add, Nat.reduceAdd, Int.reduceNeg, Int.reduceToNat, Int.reducePow, List.map_cons, List.map_nil, wipeL, backL, Option.getD_some, cmp_ne_non, at_zero, compBody_0, compBody_1, List.set_set, List.getElem?_set_self, at_row0, at_row1, at_row2, at_row3, ix_row0, ix_row1, ix_row2, ix_row3]; with_reducible exact rfl)
  by_cases h3 : (1000000000000000000 : Int) ≤ (ns[i.toNat]'(by omega))
  · apply wp_next; focus (simp (disch := omega) only [↓eb_glob, ↓eb_cst, ↓eb_bin, ↓eb_neg, ↓eb_not, ↓eb_and, ↓eb_or, ↓eb_cmp, ↓eb_chain, ↓eb_ite, ↓eb_tup, ↓eb_lst, ↓eb_call, ↓eb_prim, ↓eb_isi, ↓eb_app, ↓eb_idx, ↓eb_comp, ↓et_glob, ↓et_cst, ↓et_bin, ↓et_neg, ↓et_tup, ↓et_lst, ↓et_call, ↓et_prim, ↓et_isi, ↓et_app, ↓et_idx, ↓et_comp, ↓eb_var, ↓ev_var, ↓et_var, ↓ev_glob, ↓ev_cst, ↓ev_bin, ↓ev_neg, ↓ev_not, ↓et_not, ↓ev_and, ↓ev_or, ↓et_and, ↓et_or, ↓ev_cmp, ↓et_cmp, ↓et_chain, ↓ev_chain, ↓ev_ite, ↓et_ite, ↓ev_tup, ↓ev_lst, ↓ev_call, ↓ev_prim, ↓ev_isi, ↓ev_app, ↓ev_idx, ↓ev_comp, ↓ebs_nil, ↓ebs_t, ↓ebs_f, ↓der1_v, ↓der2_v, ↓der1_s, ↓der2_vs, ↓der2_sv, ↓der2_ss, ↓ders_nil, ↓ders_v, ↓ders_s, ↓andK_t, ↓andK_f, ↓orK_t, ↓orK_f, ↓andK_b, ↓orK_b, chnK_b, wp_cal, ↓cal_ok, ↓cmpK_some, ↓dst_expr, ↓dst_asg, ↓asg_var, ↓dst_row, ↓dst_par, ↓dst_set, ↓augK_some, ↓dst_aug, ↓dst_if, ↓forK_some, ↓dst_for, ↓dst_ret_var, ↓dst_ret_glob, ↓dst_ret_cst, ↓dst_ret_bin, ↓dst_ret_neg, ↓dst_ret_not, ↓dst_ret_and, ↓dst_ret_or, ↓dst_ret_cmp, ↓dst_ret_chain, ↓dst_ret_ite, ↓dst_ret_tup, ↓dst_ret_lst, ↓dst_ret_call, ↓dst_ret_prim, ↓dst_ret_isi, ↓dst_ret_idx, ↓dst_ret_comp, negP_int, cond_d, appP, isOwn, ↓bind_ok, wp_bind, ↓wp_ok, wpC_ok, ↓lift_some, setP, filled, forBody, asgT, asgTs, itemsP, seqP, rng1, bin_add, bin_sub, bin_mul, bin_fdiv, bin_mod, bin_pow, aug_add, aug_sub, cmp_lt, cmp_le, cmp_gt, cmp_ge, cmp_eq, cmp_ne, isi_int, isi_bool, isi_str_int, isi_str, isi_tup, isi_lst, prim_len_l, prim_len_t, prim_len_n, prim_int, prim_max, prim_min, prim_sum, idx_l, idx_t, idx_n, idx_r, rowAt_some, pv_val, pv_own, tru_bl, tru_int, tru_lst, tru_tup, tru_non, decide_true, decide_false, List.getElem?_cons_zero, List.getElem?_cons_succ, List.set_cons_zero, List.set_cons_succ, Option.map_some, Option.bind_some, Option.bind_none, ↓fin_next, ↓fin_ret, forQ_next, forQ_ret, retQ_next, retQ_ret, ite_decide, Bool.not_true, Bool.not_false, if_true, if_false, Bool.true_or, Bool.or_true, Bool.and_true, Bool.true_and, Bool.false_eq_true, reduceCtorEq, ↓reduceIte, ↓cond_true, ↓cond_false, List.length_nil, List.length_cons, Nat.zero_add, Nat.reduceAdd, Int.reduceNeg, Int.reduceToNat, Int.reducePow, List.map_cons, List.map_nil, wipeL, backL, Option.getD_some, cmp_ne_non, at_zero, compBody_0, compBody_1, List.set_set, List.getElem?_set_self, at_row0, at_row1, at_row2, at_row3, ix_row0, ix_row1, ix_row2, ix_row3, h3]; with_reducible exact rfl)
    apply wp_ret; focus (simp (disch := omega) only [↓eb_glob, ↓eb_cst, ↓eb_bin, ↓eb_neg, ↓eb_not, ↓eb_and, ↓eb_or, ↓eb_cmp, ↓eb_chain, ↓eb_ite, ↓eb_tup, ↓eb_lst, ↓eb_call, ↓eb_prim, ↓eb_isi, ↓eb_app, ↓eb_idx, ↓eb_comp, ↓et_glob, ↓et_cst, ↓et_bin, ↓et_neg, ↓et_tup, ↓et_lst, ↓et_call, ↓et_prim, ↓et_isi, ↓et_app, ↓et_idx, ↓et_comp, ↓eb_var, ↓ev_var, ↓et_var, ↓ev_glob, ↓ev_cst, ↓ev_bin, ↓ev_neg, ↓ev_not, ↓et_not, ↓ev_and, ↓ev_or, ↓et_and, ↓et_or, ↓ev_cmp, ↓et_cmp, ↓et_chain, ↓ev_chain, ↓ev_ite, ↓et_ite, ↓ev_tup, ↓ev_lst, ↓ev_call, ↓ev_prim, ↓ev_isi, ↓ev_app, ↓ev_idx, ↓ev_comp, ↓ebs_nil, ↓ebs_t, ↓ebs_f, ↓der1_v, ↓der2_v, ↓der1_s, ↓der2_vs, ↓der2_sv, ↓der2_ss, ↓ders_nil, ↓ders_v, ↓ders_s, ↓andK_t, ↓andK_f, ↓orK_t, ↓orK_f, ↓andK_b, ↓orK_b, chnK_b, wp_cal, ↓cal_ok, ↓cmpK_some, ↓dst_expr, ↓dst_asg, ↓asg_var, ↓dst_row, ↓dst_par, ↓dst_set, ↓augK_some, ↓dst_aug, ↓dst_if, ↓forK_some, ↓dst_for, ↓dst_ret_var, ↓dst_ret_glob, ↓dst_ret_cst, ↓dst_ret_bin, ↓dst_ret_neg, ↓dst_ret_not, ↓dst_ret_and, ↓dst_ret_or, ↓dst_ret_cmp, ↓dst_ret_chain, ↓dst_ret_ite, ↓dst_ret_tup, ↓dst_ret_lst, ↓dst_ret_call, ↓dst_ret_prim, ↓dst_ret_isi, ↓dst_ret_idx, ↓dst_ret_comp, negP_int, cond_d, appP, isOwn, ↓bind_ok, wp_bind, ↓wp_ok, wpC_ok, ↓lift_some, setP, filled, forBody, asgT, asgTs, itemsP, seqP, rng1, bin_add, bin_sub, bin_mul, bin_fdiv, bin_mod, bin_pow, aug_add, aug_sub, cmp_lt, cmp_le, cmp_gt, cmp_ge, cmp_eq, cmp_ne, isi_int, isi_bool, isi_str_int, isi_str, isi_tup, isi_lst, prim_len_l, prim_len_t, prim_len_n, prim_int, prim_max, prim_min, prim_sum, idx_l, idx_t, idx_n, idx_r, rowAt_some, pv_val, pv_own, tru_bl, tru_int, tru_lst, tru_tup, tru_non, decide_true, decide_false, List.getElem?_cons_zero, List.getElem?_cons_succ, List.set_cons_zero, List.set_cons_succ, Option.map_some, Option.bind_some, Option.bind_none, ↓fin_next, ↓fin_ret, forQ_next, forQ_ret, retQ_next, retQ_ret, ite_decide, Bool.not_true, Bool.not_false, if_true, if_false, Bool.true_or, Bool.or_true, Bool.and_true, Bool.true_and, Bool.false_eq_true, reduceCtorEq, ↓reduceIte, ↓cond_true, ↓cond_false, List.length_nil, List.length_cons, Nat.zero_add, Nat.reduceAdd, Int.reduceNeg, Int.reduceToNat, Int.reducePow, List.map_cons, List.map_nil, wipeL, backL, Option.getD_some, cmp_ne_non, at_zero, compBody_0, compBody_1, List.set_set, List.getElem?_set_self, at_row0, at_row1, at_row2, at_row3, ix_row0, ix_row1, ix_row2, ix_row3]; with_reducible exact rfl)
    exact q _ _ (Int.emod_nonneg _ (by omega)) (Int.emod_lt_of_pos _ hm) ⟨i + 1, _, _, rfl, by omega⟩
  · apply wp_next; focus (simp (disch := omega) only [↓eb_glob, ↓eb_cst, ↓eb_bin, ↓eb_neg, ↓eb_not, ↓eb_and, ↓eb_or, ↓eb_cmp, ↓eb_chain, ↓eb_ite, ↓eb_tup, ↓eb_lst, ↓eb_call, ↓eb_prim, ↓eb_isi, ↓eb_app, ↓eb_idx, ↓eb_comp, ↓et_glob, ↓et_cst, ↓et_bin, ↓et_neg, ↓et_tup, ↓et_lst, ↓et_call, ↓et_prim, ↓et_isi, ↓et_app, ↓et_idx, ↓et_comp, ↓eb_var, ↓ev_var, ↓et_var, ↓ev_glob, ↓ev_cst, ↓ev_bin, ↓ev_neg, ↓ev_not, ↓et_not, ↓ev_and, ↓ev_or, ↓et_and, ↓et_or, ↓ev_cmp, ↓et_cmp, ↓et_chain, ↓ev_chain, ↓ev_ite, ↓et_ite, ↓ev_tup, ↓ev_lst, ↓ev_call, ↓ev_prim, ↓ev_isi, ↓ev_app, ↓ev_idx, ↓ev_comp, ↓ebs_nil, ↓ebs_t, ↓ebs_f, ↓der1_v, ↓der2_v, ↓der1_s, ↓der2_vs, ↓der2_sv, ↓der2_ss, ↓ders_nil, ↓ders_v, ↓ders_s, ↓andK_t, ↓andK_f, ↓orK_t, ↓orK_f, ↓andK_b, ↓orK_b, chnK_b, wp_cal, ↓cal_ok, ↓cmpK_some, ↓dst_expr, ↓dst_asg, ↓asg_var, ↓dst_row, ↓dst_par, ↓dst_set, ↓augK_some, ↓dst_aug, ↓dst_if, ↓forK_some, ↓dst_for, ↓dst_ret_var, ↓dst_ret_glob, ↓dst_ret_cst, ↓dst_ret_bin, ↓dst_ret_neg, ↓dst_ret_not, ↓dst_ret_and, ↓dst_ret_or, ↓dst_ret_cmp, ↓dst_ret_chain, ↓dst_ret_ite, ↓dst_ret_tup, ↓dst_ret_lst, ↓dst_ret_call, ↓dst_ret_prim, ↓dst_ret_isi, ↓dst_ret_idx, ↓dst_ret_comp, negP_int, cond_d, appP, isOwn, ↓bind_ok, wp_bind, ↓wp_ok, wpC_ok, ↓lift_some, setP, filled, forBody, asgT, asgTs, itemsP, seqP, rng1, bin_add, bin_sub, bin_mul, bin_fdiv, bin_mod, bin_pow, aug_add, aug_sub, cmp_lt, cmp_le, cmp_gt, cmp_ge, cmp_eq, cmp_ne, isi_int, isi_bool, isi_str_int, isi_str, isi_tup, isi_lst, prim_len_l, prim_len_t, prim_len_n, prim_int, prim_max, prim_min, prim_sum, idx_l, idx_t, idx_n, idx_r, rowAt_some, pv_val, pv_own, tru_bl, tru_int, tru_lst, tru_tup, tru_non, decide_true, decide_false, List.getElem?_cons_zero, List.getElem?_cons_succ, List.set_cons_zero, List.set_cons_succ, Option.map_some, Option.bind_some, Option.bind_none, ↓fin_next, ↓fin_ret, forQ_next, forQ_ret, retQ_next, retQ_ret, ite_decide, Bool.not_true, Bool.not_false, if_true, if_false, Bool.true_or, Bool.or_true, Bool.and_true, Bool.true_and, Bool.false_eq_true, reduceCtorEq, ↓reduceIte, ↓cond_true, ↓cond_false, List.length_nil, List.length_cons, Nat.zero_add, Nat.reduceAdd, Int.reduceNeg, Int.reduceToNat, Int.reducePow, List.map_cons, List.map_nil, wipeL, backL, Option.getD_some, cmp_ne_non, at_zero, compBody_0, compBody_1, List.set_set, List.getElem?_set_self, at_row0, at_row1, at_row2, at_row3, ix_row0, ix_row1, ix_row2, ix_row3, h3]; with_reducible exact rfl)
    apply wp_ret; focus (simp (disch := omega) only [↓eb_glob, ↓eb_cst, ↓eb_bin, ↓eb_neg, ↓eb_not, ↓eb_and, ↓eb_or, ↓eb_cmp, ↓eb_chain, ↓eb_ite, ↓eb_tup, ↓eb_lst, ↓eb_call, ↓eb_prim, ↓eb_isi, ↓eb_app, ↓eb_idx, ↓eb_comp, ↓et_glob, ↓et_cst, ↓et_bin, ↓et_neg, ↓et_tup, ↓et_lst, ↓et_call, ↓et_prim, ↓et_isi, ↓et_app, ↓et_idx, ↓et_comp, ↓eb_var, ↓ev_var, ↓et_var, ↓ev_glob, ↓ev_cst, ↓ev_bin, ↓ev_neg, ↓ev_not, ↓et_not, ↓ev_and, ↓ev_or, ↓et_and, ↓et_or, ↓ev_cmp, ↓et_cmp, ↓et_chain, ↓ev_chain, ↓ev_ite, ↓et_ite, ↓ev_tup, ↓ev_lst, ↓ev_call, ↓ev_prim, ↓ev_isi, ↓ev_app, ↓ev_idx, ↓ev_comp, ↓ebs_nil, ↓ebs_t, ↓ebs_f, ↓der1_v, ↓der2_v, ↓der1_s, ↓der2_vs, ↓der2_sv, ↓der2_ss, ↓ders_nil, ↓ders_v, ↓ders_s, ↓andK_t, ↓andK_f, ↓orK_t, ↓orK_f, ↓andK_b, ↓orK_b, chnK_b, wp_cal, ↓cal_ok, ↓cmpK_some, ↓dst_expr, ↓dst_asg, ↓asg_var, ↓dst_row, ↓dst_par, ↓dst_set, ↓augK_some, ↓dst_aug, ↓dst_if, ↓forK_some, ↓dst_for, ↓dst_ret_var, ↓dst_ret_glob, ↓dst_ret_cst, ↓dst_ret_bin, ↓dst_ret_neg, ↓dst_ret_not, ↓dst_ret_and, ↓dst_ret_or, ↓dst_ret_cmp, ↓dst_ret_chain, ↓dst_ret_ite, ↓dst_ret_tup, ↓dst_ret_lst, ↓dst_ret_call, ↓dst_ret_prim, ↓dst_ret_isi, ↓dst_ret_idx, ↓dst_ret_comp, negP_int, cond_d, appP, isOwn, ↓bind_ok, wp_bind, ↓wp_ok, wpC_ok, ↓lift_some, setP, filled, forBody, asgT, asgTs, itemsP, seqP, rng1, bin_add, bin_sub, bin_mul, bin_fdiv, bin_mod, bin_pow, aug_add, aug_sub, cmp_lt, cmp_le, cmp_gt, cmp_ge, cmp_eq, cmp_ne, isi_int, isi_bool, isi_str_int, isi_str, isi_tup, isi_lst, prim_len_l, prim_len_t, prim_len_n, prim_int, prim_max, prim_min, prim_sum, idx_l, idx_t, idx_n, idx_r, rowAt_some, pv_val, pv_own, tru_bl, tru_int, tru_lst, tru_tup, tru_non, decide_true, decide_false, List.getElem?_cons_zero, List.getElem?_cons_succ, List.set_cons_zero, List.set_cons_succ, Option.map_some, Option.bind_some, Option.bind_none, ↓fin_next, ↓fin_ret, forQ_next, forQ_ret, retQ_next, retQ_ret, ite_decide, Bool.not_true, Bool.not_false, if_true, if_false, Bool.true_or, Bool.or_true, Bool.and_true, Bool.true_and, Bool.false_eq_true, reduceCtorEq, ↓reduceIte, ↓cond_true, ↓cond_false, List.length_nil, List.length_cons, Nat.zero_add, Nat.reduceAdd, Int.reduceNeg, Int.reduceToNat, Int.reducePow, List.map_cons, List.map_nil, wipeL, backL, Option.getD_some, cmp_ne_non, at_zero, compBody_0, compBody_1, List.set_set, List.getElem?_set_self, at_row0, at_row1, at_row2, at_row3, ix_row0, ix_row1, ix_row2, ix_row3]; with_reducible exact rfl)
    exact q _ _ (Int.emod_nonneg _ (by omega)) (Int.emod_lt_of_pos _ hm) ⟨i + 1, _, _, rfl, by omega⟩
theorem taken1 {fs : Str → Option Fn} {gl : Str → Option PV} (hf : fs "_law_taken" = some ⟨2, 4, tkBody⟩) {ns : List Int} {o : SO} (n : Nat) (ho : IsRow ns o) (m : Int) (hm : 0 < m) (hm' : m < 18446744073709551616) :
    ∃ (r : Int) (o' : SO), 0 ≤ r ∧ r < m ∧ IsRow ns o' ∧ callP fs gl (n + 1) "_law_taken" [.ref 0, .int m] [o] = .ok (.val (.int r)) [o'] := by
  have h := taken_ok (gl := gl) hf (n := n) (st := [o]) (k := 0) (o := o) rfl ho hm hm' (Q := fun v s => ∃ (r : Int) (o' : SO), 0 ≤ r ∧ r < m ∧ IsRow ns o' ∧ v = .val (.int r) ∧ s = [o']) fun r o' h1 h2 h3 => ⟨r, o', h1, h2, h3, rfl, rfl⟩
  obtain ⟨v, s, e, r, o', h1, h2, h3, rfl, rfl⟩ := h.get
  exact ⟨r, o', h1, h2, h3, e⟩
end PI

set_option linter.all false
set_option maxRecDepth 100000
set_option maxHeartbeats 4000000
namespace PI.Law
open PySem L2 PI
def top (i : Nat) : Stmt := PySem.Challenge.pw_maskedprints_k14_whole_lamps_that_fade.main.body.getD i (.Pass ⟨0, 0, 0, 0⟩)
def b_is_number : List S := [
    (.ret (.and (.isi (.var 0) "int") (.and (.not (.isi (.var 0) "bool")) (.chain .LtE .LtE (.var 1) (.var 0) (.var 2)))))]
def d_is_number : DefC := ⟨"is_number", top 5, ["value", "smallest", "largest"], ["value", "smallest", "largest"], ⟨3, 3, b_is_number⟩⟩
def b_check_number : List S := [
    (.if_ (.not (.call "is_number" [(.var 0), (.var 1), (.var 2)])) [.never] [])]
def d_check_number : DefC := ⟨"check_number", top 6, ["value", "smallest", "largest"], ["value", "smallest", "largest"], ⟨3, 3, b_check_number⟩⟩
def b_check_lamp : List S := [
    (.expr (.call "check_number" [(.var 0), (.cst (.int 1)), (.glob "MAX_LIFE")])),
    (.expr (.call "check_number" [(.var 1), (.cst (.int 0)), (.glob "MAX_TICKS")])),
    (.expr (.call "check_number" [(.var 2), (.cst (.int 0)), (.glob "DENSEST")]))]
def d_check_lamp : DefC := ⟨"check_lamp", top 12, ["life", "value", "density"], ["life", "value", "density"], ⟨3, 3, b_check_lamp⟩⟩
def b_light_in : List S := [
    (.asg (.var 2) (.cst (.int 0))),
    (.for_ (.var 3) .rng [(.glob "FULL")] [(.aug 2 .Add (.bin .Mult (.bin .Sub (.glob "FULL") (.var 3)) (.prim .min2 [(.var 0), (.prim .max2 [(.cst (.int 0)), (.bin .Sub (.var 1) (.bin .Mult (.var 3) (.var 0)))])])))]),
    (.ret (.var 2))]
def d_light_in : DefC := ⟨"light_in", top 13, ["life", "ticks", "found", "turn"], ["life", "ticks"], ⟨2, 4, b_light_in⟩⟩
def b_faded : List S := [
    (.expr (.call "check_lamp" [(.var 0), (.var 1), (.var 2)])),
    (.ret (.bin .Mult (.call "light_in" [(.var 0), (.var 1)]) (.idx (.glob "WEIGHTS") (.var 2))))]
def d_faded : DefC := ⟨"faded", top 14, ["life", "ticks", "density"], ["life", "ticks", "density"], ⟨3, 3, b_faded⟩⟩
def b_ticks_until : List S := [
    (.expr (.call "check_lamp" [(.var 0), (.var 1), (.var 2)])),
    (.asg (.var 3) (.bin .FloorDiv (.bin .Sub (.bin .Add (.var 1) (.idx (.glob "WEIGHTS") (.var 2))) (.cst (.int 1))) (.idx (.glob "WEIGHTS") (.var 2)))),
    (.asg (.var 4) (.cst (.int 0))),
    (.for_ (.var 5) .rng [(.glob "FULL")] [(.asg (.var 6) (.bin .Sub (.glob "FULL") (.var 5))), (.if_ (.cmp .LtE (.var 3) (.bin .Mult (.var 6) (.var 0))) [(.ret (.bin .Add (.var 4) (.bin .FloorDiv (.bin .Sub (.bin .Add (.var 3) (.var 6)) (.cst (.int 1))) (.var 6))))] []), (.aug 3 .Sub (.bin .Mult (.var 6) (.var 0))), (.aug 4 .Add (.var 0))]),
    (.ret (.cst .non))]
def d_ticks_until : DefC := ⟨"ticks_until", top 15, ["life", "light", "density", "left", "found", "turn", "level"], ["life", "light", "density"], ⟨3, 7, b_ticks_until⟩⟩
def b_law_taken : List S := [
    (.if_ (.cmp .Gt (.idx (.var 0) (.cst (.int 3))) (.cst (.int 0))) [(.asg (.var 3) (.bin .Mod (.prim .int [(.idx (.var 0) (.cst (.int 3)))]) (.var 1))), (.setIdx 0 (.cst (.int 3)) (.bin .FloorDiv (.idx (.var 0) (.cst (.int 3))) (.var 1))), (.ret (.var 3))] []),
    (.setIdx 0 (.cst (.int 1)) (.bin .Add (.idx (.var 0) (.cst (.int 1))) (.cst (.int 1)))),
    (.if_ (.cmp .Gt (.idx (.var 0) (.cst (.int 1))) (.prim .len [(.idx (.var 0) (.cst (.int 0)))])) [(.setIdx 0 (.cst (.int 2)) (.bin .Mod (.prim .int [(.bin .Add (.bin .Mult (.idx (.var 0) (.cst (.int 2))) (.cst (.int 48271))) (.cst (.int 11)))]) (.cst (.int 2147483647)))), (.ret (.bin .Mod (.prim .int [(.bin .FloorDiv (.idx (.var 0) (.cst (.int 2))) (.cst (.int 7)))]) (.var 1)))] []),
    (.asg (.var 2) (.idx (.idx (.var 0) (.cst (.int 0))) (.bin .Sub (.idx (.var 0) (.cst (.int 1))) (.cst (.int 1))))),
    (.setIdx 0 (.cst (.int 2)) (.bin .Mod (.prim .int [(.bin .Add (.bin .Add (.bin .Mult (.idx (.var 0) (.cst (.int 2))) (.cst (.int 48271))) (.var 2)) (.cst (.int 11)))]) (.cst (.int 2147483647)))),
    (.setIdx 0 (.cst (.int 3)) (.ite (.cmp .GtE (.var 2) (.bin .Pow (.cst (.int 10)) (.cst (.int 18)))) (.bin .FloorDiv (.var 2) (.var 1)) (.cst (.int 0)))),
    (.ret (.bin .Mod (.prim .int [(.var 2)]) (.var 1)))]
def d_law_taken : DefC := ⟨"_law_taken", top 17, ["_law_row", "_law_many", "_law_cell", "_law_found"], ["_law_row", "_law_many"], ⟨2, 4, b_law_taken⟩⟩
def b_law_weight : List S := [
    (.ret (.idx (.lst [(.cst (.int 16)), (.cst (.int 8)), (.cst (.int 4)), (.cst (.int 2)), (.cst (.int 1))]) (.prim .int [(.var 0)])))]
def d_law_weight : DefC := ⟨"_law_weight", top 18, ["_law_figure"], ["_law_figure"], ⟨1, 1, b_law_weight⟩⟩
def b_law : List S := [
    (.newRow 1 [(.var 0), (.cst (.int 0)), (.cst (.int 0)), (.cst (.int 0))]),
    (.par 9 10 (.bin .Add (.cst (.int 1)) (.call "_law_taken" [(.var 1), (.cst (.int 9))])) (.call "_law_taken" [(.var 1), (.cst (.int 5))])),
    (.asg (.var 2) (.lst [(.cst (.int 0))])),
    (.for_ (.var 3) .rng [(.bin .Add (.bin .Mult (.cst (.int 16)) (.var 9)) (.cst (.int 5)))] [(.expr (.app 2 (.bin .Add (.idx (.var 2) (.neg (.cst (.int 1)))) (.bin .Mult (.prim .max2 [(.cst (.int 0)), (.bin .Sub (.cst (.int 16)) (.bin .FloorDiv (.var 3) (.var 9)))]) (.call "_law_weight" [(.var 10)])))))]),
    (.for_ (.var 4) .seq [(.tup [(.cst (.int 0)), (.call "_law_taken" [(.var 1), (.prim .len [(.var 2)])]), (.bin .Sub (.prim .len [(.var 2)]) (.cst (.int 1)))])] [(.if_ (.cmp .NotEq (.call "faded" [(.var 9), (.var 4), (.var 10)]) (.idx (.var 2) (.var 4))) [(.ret (.cst (.bl false)))] [])]),
    (.for_ (.var 5) .seq [(.tup [(.cst (.int 0)), (.cst (.int 1)), (.call "_law_taken" [(.var 1), (.bin .Add (.idx (.var 2) (.neg (.cst (.int 1)))) (.cst (.int 1)))]), (.idx (.var 2) (.neg (.cst (.int 1)))), (.bin .Add (.idx (.var 2) (.neg (.cst (.int 1)))) (.cst (.int 1)))])] [(.asg (.var 11) (.comp [("_law_k", 14)] (.var 14) (.var 14) .rng [(.prim .len [(.var 2)])] [(.cmp .GtE (.idx (.var 2) (.var 14)) (.var 5))])), (.if_ (.cmp .NotEq (.call "ticks_until" [(.var 9), (.var 5), (.var 10)]) (.ite (.cmp .NotEq (.var 11) (.lst [])) (.idx (.var 11) (.cst (.int 0))) (.cst .non))) [(.ret (.cst (.bl false)))] [])]),
    (.asg (.var 6) (.bin .Add (.bin .Pow (.cst (.int 10)) (.cst (.int 12))) (.call "_law_taken" [(.var 1), (.bin .Pow (.cst (.int 10)) (.cst (.int 9)))]))),
    (.par 12 13 (.call "_law_taken" [(.var 1), (.cst (.int 16))]) (.call "_law_taken" [(.var 1), (.var 6)])),
    (.asg (.var 7) (.bin .Add (.bin .Mult (.var 6) (.prim .sum [(.comp [("_law_k", 14)] (.bin .Sub (.cst (.int 16)) (.var 14)) (.var 14) .rng [(.var 12)] [])])) (.bin .Mult (.var 13) (.bin .Sub (.cst (.int 16)) (.var 12))))),
    (.if_ (.cmp .NotEq (.call "faded" [(.var 6), (.bin .Add (.bin .Mult (.var 12) (.var 6)) (.var 13)), (.var 10)]) (.bin .Mult (.var 7) (.call "_law_weight" [(.var 10)]))) [(.ret (.cst (.bl false)))] []),
    (.asg (.var 8) (.call "ticks_until" [(.var 6), (.bin .Mult (.var 7) (.call "_law_weight" [(.var 10)])), (.var 10)])),
    (.if_ (.and (.cmp .NotEq (.var 8) (.bin .Add (.bin .Mult (.var 12) (.var 6)) (.var 13))) (.or (.cmp .Gt (.var 13) (.cst (.int 0))) (.cmp .Gt (.var 12) (.cst (.int 0))))) [(.ret (.cst (.bl false)))] []),
    (.ret (.and (.cmp .Eq (.call "faded" [(.var 6), (.bin .Pow (.cst (.int 10)) (.cst (.int 18))), (.var 10)]) (.bin .Mult (.bin .Mult (.cst (.int 136)) (.var 6)) (.call "_law_weight" [(.var 10)]))) (.cmp .Eq (.call "faded" [(.var 6), (.bin .Mult (.cst (.int 16)) (.var 6)), (.cst (.int 4))]) (.bin .Mult (.cst (.int 136)) (.var 6)))))]
def d_law : DefC := ⟨"law", top 19, ["_law_script", "_law_row", "_law_rows", "_law_tick", "_law_ticks", "_law_light", "_law_far", "_law_due", "_law_found", "_law_life", "_law_density", "_law_good", "_law_lives", "_law_rest", "_law_k"], ["_law_script"], ⟨1, 15, b_law⟩⟩
def defs : List DefC := [d_is_number, d_check_number, d_check_lamp, d_light_in, d_faded, d_ticks_until, d_law_taken, d_law_weight, d_law]
def gs : List (Str × PV) := [("DENSEST", (.int 4)), ("FULL", (.int 16)), ("MAX_LIFE", (.int 1000000000000000)), ("MAX_TICKS", (.int 1000000000000000000)), ("WEIGHTS", (.tup [(.int 16), (.int 8), (.int 4), (.int 2), (.int 1)]))]
def bi : List Str := ["bool", "int", "isinstance", "len", "max", "min", "range", "sum"]
theorem checked : defs.all (ckDef (ckOf defs gs bi)) = true := by decide +kernel
theorem found : defs.find? (fun e => decide (e.nm = ("law" : Str))) = some d_law := rfl
theorem head {K : PySem.W.Frag} {h : Heap} {mg : Str → Option Value} (X : K.In h) (G : h.Ns mainGlobals mg)
    {f0 : Addr} {od0 an0 : Option Addr} {sl0 : Array (Option Value)} {oc0 kV0 dc0 pm0 cd0 ct0 : Value} (a0 : PySem.W.nsIn K mainGlobals "is_number" = some (some (.ref f0)))
    (l0 : K.lookup f0 = some ⟨oc0, od0, .func (PySem.W.fnOf "is_number" "is_number" (defArgs (top 5)) (defBody (top 5)) (defScope (top 5)) .none kV0 dc0 pm0 an0 cd0 ct0), sl0⟩) (c0 : PySem.W.codeIn K cd0 "is_number" = true) (k0 : PySem.W.keepIn K (.ref f0) = true)
    {f1 : Addr} {od1 an1 : Option Addr} {sl1 : Array (Option Value)} {oc1 kV1 dc1 pm1 cd1 ct1 : Value} (a1 : PySem.W.nsIn K mainGlobals "check_number" = some (some (.ref f1)))
    (l1 : K.lookup f1 = some ⟨oc1, od1, .func (PySem.W.fnOf "check_number" "check_number" (defArgs (top 6)) (defBody (top 6)) (defScope (top 6)) .none kV1 dc1 pm1 an1 cd1 ct1), sl1⟩) (c1 : PySem.W.codeIn K cd1 "check_number" = true) (k1 : PySem.W.keepIn K (.ref f1) = true)
    {f2 : Addr} {od2 an2 : Option Addr} {sl2 : Array (Option Value)} {oc2 kV2 dc2 pm2 cd2 ct2 : Value} (a2 : PySem.W.nsIn K mainGlobals "check_lamp" = some (some (.ref f2)))
    (l2 : K.lookup f2 = some ⟨oc2, od2, .func (PySem.W.fnOf "check_lamp" "check_lamp" (defArgs (top 12)) (defBody (top 12)) (defScope (top 12)) .none kV2 dc2 pm2 an2 cd2 ct2), sl2⟩) (c2 : PySem.W.codeIn K cd2 "check_lamp" = true) (k2 : PySem.W.keepIn K (.ref f2) = true)
    {f3 : Addr} {od3 an3 : Option Addr} {sl3 : Array (Option Value)} {oc3 kV3 dc3 pm3 cd3 ct3 : Value} (a3 : PySem.W.nsIn K mainGlobals "light_in" = some (some (.ref f3)))
    (l3 : K.lookup f3 = some ⟨oc3, od3, .func (PySem.W.fnOf "light_in" "light_in" (defArgs (top 13)) (defBody (top 13)) (defScope (top 13)) .none kV3 dc3 pm3 an3 cd3 ct3), sl3⟩) (c3 : PySem.W.codeIn K cd3 "light_in" = true) (k3 : PySem.W.keepIn K (.ref f3) = true)
    {f4 : Addr} {od4 an4 : Option Addr} {sl4 : Array (Option Value)} {oc4 kV4 dc4 pm4 cd4 ct4 : Value} (a4 : PySem.W.nsIn K mainGlobals "faded" = some (some (.ref f4)))
    (l4 : K.lookup f4 = some ⟨oc4, od4, .func (PySem.W.fnOf "faded" "faded" (defArgs (top 14)) (defBody (top 14)) (defScope (top 14)) .none kV4 dc4 pm4 an4 cd4 ct4), sl4⟩) (c4 : PySem.W.codeIn K cd4 "faded" = true) (k4 : PySem.W.keepIn K (.ref f4) = true)
    {f5 : Addr} {od5 an5 : Option Addr} {sl5 : Array (Option Value)} {oc5 kV5 dc5 pm5 cd5 ct5 : Value} (a5 : PySem.W.nsIn K mainGlobals "ticks_until" = some (some (.ref f5)))
    (l5 : K.lookup f5 = some ⟨oc5, od5, .func (PySem.W.fnOf "ticks_until" "ticks_until" (defArgs (top 15)) (defBody (top 15)) (defScope (top 15)) .none kV5 dc5 pm5 an5 cd5 ct5), sl5⟩) (c5 : PySem.W.codeIn K cd5 "ticks_until" = true) (k5 : PySem.W.keepIn K (.ref f5) = true)
    {f6 : Addr} {od6 an6 : Option Addr} {sl6 : Array (Option Value)} {oc6 kV6 dc6 pm6 cd6 ct6 : Value} (a6 : PySem.W.nsIn K mainGlobals "_law_taken" = some (some (.ref f6)))
    (l6 : K.lookup f6 = some ⟨oc6, od6, .func (PySem.W.fnOf "_law_taken" "_law_taken" (defArgs (top 17)) (defBody (top 17)) (defScope (top 17)) .none kV6 dc6 pm6 an6 cd6 ct6), sl6⟩) (c6 : PySem.W.codeIn K cd6 "_law_taken" = true) (k6 : PySem.W.keepIn K (.ref f6) = true)
    {f7 : Addr} {od7 an7 : Option Addr} {sl7 : Array (Option Value)} {oc7 kV7 dc7 pm7 cd7 ct7 : Value} (a7 : PySem.W.nsIn K mainGlobals "_law_weight" = some (some (.ref f7)))
    (l7 : K.lookup f7 = some ⟨oc7, od7, .func (PySem.W.fnOf "_law_weight" "_law_weight" (defArgs (top 18)) (defBody (top 18)) (defScope (top 18)) .none kV7 dc7 pm7 an7 cd7 ct7), sl7⟩) (c7 : PySem.W.codeIn K cd7 "_law_weight" = true) (k7 : PySem.W.keepIn K (.ref f7) = true)
    {f8 : Addr} {od8 an8 : Option Addr} {sl8 : Array (Option Value)} {oc8 kV8 dc8 pm8 cd8 ct8 : Value} (a8 : PySem.W.nsIn K mainGlobals "law" = some (some (.ref f8)))
    (l8 : K.lookup f8 = some ⟨oc8, od8, .func (PySem.W.fnOf "law" "law" (defArgs (top 19)) (defBody (top 19)) (defScope (top 19)) .none kV8 dc8 pm8 an8 cd8 ct8), sl8⟩) (c8 : PySem.W.codeIn K cd8 "law" = true) (k8 : PySem.W.keepIn K (.ref f8) = true)
    (g0 : HeadGK K "DENSEST" (.int 4))
    (g1 : HeadGK K "FULL" (.int 16))
    (g2 : HeadGK K "MAX_LIFE" (.int 1000000000000000))
    (g3 : HeadGK K "MAX_TICKS" (.int 1000000000000000000))
    (g4 : HeadGK K "WEIGHTS" (.tup [(.int 16), (.int 8), (.int 4), (.int 2), (.int 1)]))
    (z0 : PySem.W.nsIn K mainGlobals "bool" = some none)
    (z1 : PySem.W.nsIn K mainGlobals "int" = some none)
    (z2 : PySem.W.nsIn K mainGlobals "isinstance" = some none)
    (z3 : PySem.W.nsIn K mainGlobals "len" = some none)
    (z4 : PySem.W.nsIn K mainGlobals "max" = some none)
    (z5 : PySem.W.nsIn K mainGlobals "min" = some none)
    (z6 : PySem.W.nsIn K mainGlobals "range" = some none)
    (z7 : PySem.W.nsIn K mainGlobals "sum" = some none) : (∀ e ∈ defs, HeadF K mg e) ∧ (∀ p ∈ gs, HeadG K mg p.1 p.2) ∧ ∀ x ∈ bi, mg x = none := by
  refine ⟨?_, ?_, ?_⟩
  · exact (List.forall_mem_cons.mpr ⟨⟨f0, _, fun_mk (st := top 5) l0 c0 k0, PySem.W.mg_of X G a0, (fun_mk (st := top 5) l0 c0 k0).binds (ps := ["value", "smallest", "largest"]) fun _ _ _ _ _ _ us hl => match us, hl with | [_, _, _], _ => rfl⟩, (List.forall_mem_cons.mpr ⟨⟨f1, _, fun_mk (st := top 6) l1 c1 k1, PySem.W.mg_of X G a1, (fun_mk (st := top 6) l1 c1 k1).binds (ps := ["value", "smallest", "largest"]) fun _ _ _ _ _ _ us hl => match us, hl with | [_, _, _], _ => rfl⟩, (List.forall_mem_cons.mpr ⟨⟨f2, _, fun_mk (st := top 12) l2 c2 k2, PySem.W.mg_of X G a2, (fun_mk (st := top 12) l2 c2 k2).binds (ps := ["life", "value", "density"]) fun _ _ _ _ _ _ us hl => match us, hl with | [_, _, _], _ => rfl⟩, (List.forall_mem_cons.mpr ⟨⟨f3, _, fun_mk (st := top 13) l3 c3 k3, PySem.W.mg_of X G a3, (fun_mk (st := top 13) l3 c3 k3).binds (ps := ["life", "ticks"]) fun _ _ _ _ _ _ us hl => match us, hl with | [_, _], _ => rfl⟩, (List.forall_mem_cons.mpr ⟨⟨f4, _, fun_mk (st := top 14) l4 c4 k4, PySem.W.mg_of X G a4, (fun_mk (st := top 14) l4 c4 k4).binds (ps := ["life", "ticks", "density"]) fun _ _ _ _ _ _ us hl => match us, hl with | [_, _, _], _ => rfl⟩, (List.forall_mem_cons.mpr ⟨⟨f5, _, fun_mk (st := top 15) l5 c5 k5, PySem.W.mg_of X G a5, (fun_mk (st := top 15) l5 c5 k5).binds (ps := ["life", "light", "density"]) fun _ _ _ _ _ _ us hl => match us, hl with | [_, _, _], _ => rfl⟩, (List.forall_mem_cons.mpr ⟨⟨f6, _, fun_mk (st := top 17) l6 c6 k6, PySem.W.mg_of X G a6, (fun_mk (st := top 17) l6 c6 k6).binds (ps := ["_law_row", "_law_many"]) fun _ _ _ _ _ _ us hl => match us, hl with | [_, _], _ => rfl⟩, (List.forall_mem_cons.mpr ⟨⟨f7, _, fun_mk (st := top 18) l7 c7 k7, PySem.W.mg_of X G a7, (fun_mk (st := top 18) l7 c7 k7).binds (ps := ["_law_figure"]) fun _ _ _ _ _ _ us hl => match us, hl with | [_], _ => rfl⟩, (List.forall_mem_cons.mpr ⟨⟨f8, _, fun_mk (st := top 19) l8 c8 k8, PySem.W.mg_of X G a8, (fun_mk (st := top 19) l8 c8 k8).binds (ps := ["_law_script"]) fun _ _ _ _ _ _ us hl => match us, hl with | [_], _ => rfl⟩, List.forall_mem_nil _⟩)⟩)⟩)⟩)⟩)⟩)⟩)⟩)⟩)
  · exact (List.forall_mem_cons.mpr ⟨g0.to X G, (List.forall_mem_cons.mpr ⟨g1.to X G, (List.forall_mem_cons.mpr ⟨g2.to X G, (List.forall_mem_cons.mpr ⟨g3.to X G, (List.forall_mem_cons.mpr ⟨g4.to X G, List.forall_mem_nil _⟩)⟩)⟩)⟩)⟩)
  · exact (List.forall_mem_cons.mpr ⟨PySem.W.mg_none_of X G z0, (List.forall_mem_cons.mpr ⟨PySem.W.mg_none_of X G z1, (List.forall_mem_cons.mpr ⟨PySem.W.mg_none_of X G z2, (List.forall_mem_cons.mpr ⟨PySem.W.mg_none_of X G z3, (List.forall_mem_cons.mpr ⟨PySem.W.mg_none_of X G z4, (List.forall_mem_cons.mpr ⟨PySem.W.mg_none_of X G z5, (List.forall_mem_cons.mpr ⟨PySem.W.mg_none_of X G z6, (List.forall_mem_cons.mpr ⟨PySem.W.mg_none_of X G z7, List.forall_mem_nil _⟩)⟩)⟩)⟩)⟩)⟩)⟩)⟩)
end PI.Law

/-! plain law of k14 -/
namespace PI.Law
def trm (life t j : Int) : Int := if (if t - j * life > 0 then t - j * life else 0) < life then (if t - j * life > 0 then t - j * life else 0) else life
def lgt (life t : Int) : Nat → Int
  | 0 => 0
  | k + 1 => lgt life t k + (16 - (k : Int)) * trm life t k
theorem trm_step {life t : Int} (h : 0 < life) (ht : 0 ≤ t) (j : Int) : trm life (t + 1) j = trm life t j + if t / life = j then 1 else 0 := by
  have h1 := Int.mul_ediv_add_emod t life
  have h2 := Int.emod_nonneg t (show life ≠ 0 by omega)
  have h3 := Int.emod_lt_of_pos t h
  unfold trm
  by_cases e : t / life = j
  · rw [if_pos e]
    rw [e, Int.mul_comm] at h1
    generalize j * life = P at *
    (repeat' split) <;> omega
  · rw [if_neg e]
    rcases Int.lt_or_gt_of_ne e with g | g
    · have : life * (t / life) ≤ life * (j - 1) := Int.mul_le_mul_of_nonneg_left (by omega) (by omega)
      rw [Int.mul_sub, Int.mul_one, Int.mul_comm life j] at this
      generalize j * life = P at *
      (repeat' split) <;> omega
    · have : life * (j + 1) ≤ life * (t / life) := Int.mul_le_mul_of_nonneg_left (by omega) (by omega)
      rw [Int.mul_add, Int.mul_one, Int.mul_comm life j] at this
      generalize j * life = P at *
      (repeat' split) <;> omega
theorem trm_zero {life : Int} (h : 0 < life) {j : Int} (hj : 0 ≤ j) : trm life 0 j = 0 := by
  unfold trm
  have : 0 ≤ j * life := Int.mul_nonneg hj (by omega)
  generalize j * life = P at *
  (repeat' split) <;> omega
theorem lgt_zero {life : Int} (h : 0 < life) : ∀ k : Nat, lgt life 0 k = 0
  | 0 => rfl
  | k + 1 => by
    show lgt life 0 k + _ * trm life 0 k = 0
    rw [lgt_zero h k, trm_zero h (by omega)]; simp
theorem lgt_step {life t : Int} (h : 0 < life) (ht : 0 ≤ t) : ∀ k : Nat, lgt life (t + 1) k = lgt life t k + if t / life < k then 16 - t / life else 0
  | 0 => by
    have : 0 ≤ t / life := Int.ediv_nonneg ht (by omega)
    show (0 : Int) = 0 + _
    rw [if_neg (by omega)]; rfl
  | k + 1 => by
    show lgt life (t + 1) k + (16 - (k : Int)) * trm life (t + 1) k = lgt life t k + (16 - (k : Int)) * trm life t k + _
    rw [lgt_step h ht k, trm_step h ht]
    by_cases e : t / life = k
    · rw [if_pos e, e, if_neg (by omega), if_pos (by omega), Int.mul_add]; omega
    · rw [if_neg e]
      by_cases g : t / life < k
      · rw [if_pos g, if_pos (by omega)]; simp; omega
      · rw [if_neg g, if_neg (by omega)]; simp
@[irreducible] def L (life t : Int) : Int := lgt life t 16
theorem L_zero {life : Int} (h : 0 < life) : L life 0 = 0 := by unfold L; exact lgt_zero h 16
theorem L_step {life t : Int} (h : 0 < life) (ht : 0 ≤ t) : L life (t + 1) = L life t + (if 16 - t / life > 0 then 16 - t / life else 0) := by
  unfold L
  rw [lgt_step h ht 16]
  by_cases g : t / life < 16
  · rw [if_pos (by exact g), if_pos (by omega)]
  · rw [if_neg (by exact g), if_neg (by omega)]
theorem L_mono1 {life t : Int} (h : 0 < life) (ht : 0 ≤ t) : L life t ≤ L life (t + 1) := by
  rw [L_step h ht]; split <;> omega
theorem L_mono {life : Int} (h : 0 < life) {t : Int} (ht : 0 ≤ t) : ∀ n : Nat, L life t ≤ L life (t + n)
  | 0 => by simp
  | n + 1 => by
    have := L_mono1 h (show 0 ≤ t + n by omega)
    have e : t + (n : Int) + 1 = t + ((n + 1 : Nat) : Int) := by omega
    rw [e] at this
    exact Int.le_trans (L_mono h ht n) this
theorem L_le {life s t : Int} (h : 0 < life) (hs : 0 ≤ s) (hst : s ≤ t) : L life s ≤ L life t := by
  have := L_mono h hs (t - s).toNat
  rw [show s + ((t - s).toNat : Int) = t by omega] at this
  exact this
theorem div_lt {life t : Int} (h : 0 < life) (g : t < 16 * life) : t / life < 16 := Int.ediv_lt_of_lt_mul h g
theorem L_lt {life t : Int} (h : 0 < life) (ht : 0 ≤ t) (g : t < 16 * life) : L life t < L life (t + 1) := by
  have := div_lt h g
  rw [L_step h ht, if_pos (by omega)]; omega
/-- least place -/
def Least (life left k : Int) : Prop := 0 ≤ k ∧ left ≤ L life k ∧ (0 < k → L life (k - 1) < left)
theorem Least.uniq {life left a b : Int} (h : 0 < life) (x : Least life left a) (y : Least life left b) : a = b := by
  have go : ∀ a b, Least life left a → Least life left b → ¬ a < b := fun a b x y g => by
    have h1 := L_le h x.1 (show a ≤ b - 1 by have := x.1; omega)
    have h2 := y.2.2 (by have := x.1; omega)
    have h3 := x.2.1
    omega
  have h1 := go a b x y
  have h2 := go b a y x
  omega
/-- within one turn -/
theorem trm_at {life x : Int} (hx : 0 ≤ x) (hx' : x ≤ life) (h : 0 < life) (m j : Int) : trm life (m * life + x) j = if j < m then life else if j = m then x else 0 := by
  have e : m * life + x - j * life = (m - j) * life + x := by rw [Int.sub_mul]; omega
  unfold trm
  rw [e]
  by_cases h1 : j < m
  · have : 1 * life ≤ (m - j) * life := Int.mul_le_mul_of_nonneg_right (by omega) (by omega)
    rw [if_pos h1]
    generalize (m - j) * life = P at *
    (repeat' split) <;> omega
  · rw [if_neg h1]
    by_cases h2 : j = m
    · subst h2
      rw [if_pos rfl, Int.sub_self, Int.zero_mul]
      (repeat' split) <;> omega
    · have : (m - j) * life ≤ (-1) * life := Int.mul_le_mul_of_nonneg_right (by omega) (by omega)
      rw [if_neg h2]
      generalize (m - j) * life = P at *
      (repeat' split) <;> omega
/-- 16 + 15 + … , m of them -/
def sm : Nat → Int
  | 0 => 0
  | k + 1 => sm k + (16 - (k : Int))
theorem lgt_at {life x : Int} (hx : 0 ≤ x) (hx' : x ≤ life) (h : 0 < life) (m : Nat) : ∀ k : Nat, lgt life (m * life + x) k = if k ≤ m then sm k * life else sm m * life + (16 - (m : Int)) * x
  | 0 => by simp [lgt, sm]
  | k + 1 => by
    show lgt life (m * life + x) k + (16 - (k : Int)) * trm life (m * life + x) k = _
    rw [lgt_at hx hx' h m k, trm_at hx hx' h]
    by_cases h1 : k < m
    · rw [if_pos (by omega), if_pos (by omega), if_pos (by omega)]
      show _ = (sm k + (16 - (k : Int))) * life
      rw [Int.add_mul]
    · rw [if_neg (show ¬ ((k : Int) < (m : Int)) by omega), if_neg (show ¬ (k + 1 ≤ m) by omega)]
      by_cases h2 : k = m
      · subst h2; rw [if_pos (by omega), if_pos rfl]
      · rw [if_neg (by omega), if_neg (by omega)]; simp
theorem L_at {life x : Int} (hx : 0 ≤ x) (hx' : x ≤ life) (h : 0 < life) {m : Nat} (hm : m < 16) : L life (m * life + x) = sm m * life + (16 - (m : Int)) * x := by
  unfold L
  rw [lgt_at hx hx' h m 16, if_neg (by omega)]
theorem L_end {life t : Int} (h : 0 < life) (ht : 16 * life ≤ t) : L life t = 136 * life := by
  have e : ∀ k : Nat, k ≤ 16 → lgt life t k = sm k * life := fun k => by
    induction k with
    | zero => intro _; simp [lgt, sm]
    | succ k ih =>
      intro hk
      show lgt life t k + (16 - (k : Int)) * trm life t k = (sm k + (16 - (k : Int))) * life
      have : trm life t k = life := by
        unfold trm
        have : ((k : Int) + 1) * life ≤ 16 * life := Int.mul_le_mul_of_nonneg_right (by omega) (by omega)
        rw [Int.add_mul, Int.one_mul] at this
        generalize (k : Int) * life = P at *
        (repeat' split) <;> omega
      rw [ih (by omega), this, Int.add_mul]
  unfold L
  exact e 16 (by omega)
/-- the turns of ticks_until -/
def tu (life : Int) : Nat → Nat → Int → Int → Option Int
  | 0, _, _, _ => none
  | n + 1, k, left, found => if left ≤ (16 - (k : Int)) * life then some (found + (left + (16 - (k : Int)) - 1) / (16 - (k : Int))) else tu life n (k + 1) (left - (16 - (k : Int)) * life) (found + life)
@[irreducible] def TU (life left : Int) : Option Int := tu life 16 0 left 0
theorem tu_ok {life : Int} (h : 0 < life) (left : Int) (h0 : 0 ≤ left) : ∀ (n k : Nat), n + k = 16 → (k = 0 ∨ sm k * life < left) → match tu life n k (left - sm k * life) (k * life) with
    | some r => Least life left r
    | none => 136 * life < left
  | 0, k, hk, hl => by
    have : k = 16 := by omega
    subst this
    show 136 * life < left
    have : sm 16 = 136 := by decide
    rw [this] at hl
    omega
  | n + 1, k, hk, hl => by
    unfold tu
    by_cases g : left - sm k * life ≤ (16 - (k : Int)) * life
    · rw [if_pos g]
      show Least life left _
      have hlev : 0 < 16 - (k : Int) := by omega
      generalize hv : (16 - (k : Int)) = lv at *
      generalize hd : left - sm k * life = d at *
      have hd0 : 0 ≤ d := by
        rcases hl with hl | hl
        · subst hl; simp [sm] at hd; omega
        · omega
      have h1 := Int.mul_ediv_add_emod (d + lv - 1) lv
      have h2 := Int.emod_nonneg (d + lv - 1) (show lv ≠ 0 by omega)
      have h3 := Int.emod_lt_of_pos (d + lv - 1) hlev
      have hx0 : 0 ≤ (d + lv - 1) / lv := Int.ediv_nonneg (by omega) (by omega)
      generalize hx : (d + lv - 1) / lv = x at *
      have hxl : x ≤ life := by
        have : lv * x < lv * (life + 1) := by rw [Int.mul_add]; omega
        have := Int.lt_of_mul_lt_mul_left this (by omega)
        omega
      refine ⟨?_, ?_, fun hp => ?_⟩
      · have : 0 ≤ (k : Int) * life := Int.mul_nonneg (by omega) (by omega)
        omega
      · rw [L_at hx0 hxl h (by omega), hv]
        omega
      · by_cases hx1 : 1 ≤ x
        · rw [show (k : Int) * life + x - 1 = (k : Int) * life + (x - 1) by omega, L_at (by omega) (by omega) h (by omega), hv, Int.mul_sub]
          omega
        · have hx2 : x = 0 := by omega
          have hd2 : d = 0 := by
            subst hx2
            simp at h1
            omega
          rcases hl with hl | hl
          · subst hl; subst hx2; simp at hp
          · omega
    · rw [if_neg g]
      have e1 : left - sm k * life - (16 - (k : Int)) * life = left - sm (k + 1) * life := by
        show _ = left - (sm k + (16 - (k : Int))) * life
        rw [Int.add_mul]; omega
      have e2 : (k : Int) * life + life = ((k + 1 : Nat) : Int) * life := by
        rw [Int.natCast_add, Int.add_mul]; simp
      rw [e1, e2]
      refine tu_ok h left h0 n (k + 1) (by omega) (.inr ?_)
      omega
end PI.Law

set_option linter.all false
set_option autoImplicit false
set_option maxRecDepth 100000
set_option maxHeartbeats 100000
namespace PI.Law
open PySem PI
abbrev fs := fsOf defs
abbrev gl := glOf gs
theorem f_is_number : fs "is_number" = some d_is_number.fn := fs_at (i := 0) (by decide +kernel) rfl
theorem f_check_number : fs "check_number" = some d_check_number.fn := fs_at (i := 1) (by decide +kernel) rfl
theorem f_check_lamp : fs "check_lamp" = some d_check_lamp.fn := fs_at (i := 2) (by decide +kernel) rfl
theorem f_light_in : fs "light_in" = some d_light_in.fn := fs_at (i := 3) (by decide +kernel) rfl
theorem f_faded : fs "faded" = some d_faded.fn := fs_at (i := 4) (by decide +kernel) rfl
theorem f_ticks_until : fs "ticks_until" = some d_ticks_until.fn := fs_at (i := 5) (by decide +kernel) rfl
theorem f_law_taken : fs "_law_taken" = some d_law_taken.fn := fs_at (i := 6) (by decide +kernel) rfl
theorem f_law_weight : fs "_law_weight" = some d_law_weight.fn := fs_at (i := 7) (by decide +kernel) rfl
theorem f_law : fs "law" = some d_law.fn := fs_at (i := 8) (by decide +kernel) rfl
theorem g_full : gl "FULL" = some (.int 16) := (rfl)
theorem g_dens : gl "DENSEST" = some (.int 4) := (rfl)
theorem g_life : gl "MAX_LIFE" = some (.int 1000000000000000) := (rfl)
theorem g_tick : gl "MAX_TICKS" = some (.int 1000000000000000000) := (rfl)
theorem g_wgt : gl "WEIGHTS" = some (.tup [(.int 16), (.int 8), (.int 4), (.int 2), (.int 1)]) := (rfl)
theorem is_number_ok {n : Nat} {st : Sto} {v a b : Int} (h1 : a ≤ v) (h2 : v ≤ b) : callP fs gl (n + 1) "is_number" [.int v, .int a, .int b] st = .ok (.val (.bl true)) st := by
  refine WpC.eq (wp_fn f_is_number rfl ?_)
  show Wp (dsts _ b_is_number ⟨[some (.val (.int v)), some (.val (.int a)), some (.val (.int b))], st⟩) _
  unfold b_is_number
  apply wp_ret
  · simp (disch := omega) only [↓eb_glob, ↓eb_cst, ↓eb_bin, ↓eb_neg, ↓eb_not, ↓eb_and, ↓eb_or, ↓eb_cmp, ↓eb_chain, ↓eb_ite, ↓eb_tup, ↓eb_lst, ↓eb_call, ↓eb_prim, ↓eb_isi, ↓eb_app, ↓eb_idx, ↓eb_comp, ↓et_glob, ↓et_cst, ↓et_bin, ↓et_neg, ↓et_tup, ↓et_lst, ↓et_call, ↓et_prim, ↓et_isi, ↓et_app, ↓et_idx, ↓et_comp, ↓eb_var, ↓ev_var, ↓et_var, ↓ev_glob, ↓ev_cst, ↓ev_bin, ↓ev_neg, ↓ev_not, ↓et_not, ↓ev_and, ↓ev_or, ↓et_and, ↓et_or, ↓ev_cmp, ↓et_cmp, ↓et_chain, ↓ev_chain, ↓ev_ite, ↓et_ite, ↓ev_tup, ↓ev_lst, ↓ev_call, ↓ev_prim, ↓ev_isi, ↓ev_app, ↓ev_idx, ↓ev_comp, ↓ebs_nil, ↓ebs_t, ↓ebs_f, ↓der1_v, ↓der2_v, ↓der1_s, ↓der2_vs, ↓der2_sv, ↓der2_ss, ↓ders_nil, ↓ders_v, ↓ders_s, ↓andK_t, ↓andK_f, ↓orK_t, ↓orK_f, ↓andK_b, ↓orK_b, chnK_b, wp_cal, ↓cal_ok, ↓cmpK_some, ↓dst_expr, ↓dst_asg, ↓asg_var, ↓dst_row, ↓dst_par, ↓dst_set, ↓augK_some, ↓dst_aug, ↓dst_if, ↓forK_some, ↓dst_for, ↓dst_ret_var, ↓dst_ret_glob, ↓dst_ret_cst, ↓dst_ret_bin, ↓dst_ret_neg, ↓dst_ret_not, ↓dst_ret_and, ↓dst_ret_or, ↓dst_ret_cmp, ↓dst_ret_chain, ↓dst_ret_ite, ↓dst_ret_tup, ↓dst_ret_lst, ↓dst_ret_call, ↓dst_ret_prim, ↓dst_ret_isi, ↓dst_ret_idx, ↓dst_ret_comp, negP_int, cond_d, appP, isOwn, ↓bind_ok, wp_bind, ↓wp_ok, wpC_ok, ↓lift_some, setP, filled, forBody, asgT, asgTs, itemsP, seqP, rng1, bin_add, bin_sub, bin_mul, bin_fdiv, bin_mod, bin_pow, aug_add, aug_sub, cmp_lt, cmp_le, cmp_gt, cmp_ge, cmp_eq, cmp_ne, isi_int, isi_bool, isi_str_int, isi_str, isi_tup, isi_lst, prim_len_l, prim_len_t, prim_len_n, prim_int, prim_max, prim_min, prim_sum, idx_l, idx_t, idx_n, idx_r, rowAt_some, pv_val, pv_own, tru_bl, tru_int, tru_lst, tru_tup, tru_non, decide_true, decide_false, List.getElem?_cons_zero, List.getElem?_cons_succ, List.set_cons_zero, List.set_cons_succ, Option.map_some, Option.bind_some, Option.bind_none, ↓fin_next, ↓fin_ret, forQ_next, forQ_ret, retQ_next, retQ_ret, ite_decide, Bool.not_true, Bool.not_false, if_true, if_false, Bool.true_or, Bool.or_true, Bool.and_true, Bool.true_and, Bool.false_eq_true, reduceCtorEq, ↓reduceIte, ↓cond_true, ↓cond_false, List.length_nil, List.length_cons, Nat.zero_add, Nat.reduceAdd, Int.reduceNeg, Int.reduceToNat, Int.reducePow, List.map_cons, List.map_nil, wipeL, backL, Option.getD_some, cmp_ne_non, at_zero, compBody_0, compBody_1, List.set_set, List.getElem?_set_self, at_row0, at_row1, at_row2, at_row3, ix_row0, ix_row1, ix_row2, ix_row3, h1, h2]
    exact rfl
  exact ⟨rfl, rfl⟩
theorem check_number_ok {n : Nat} {st : Sto} {v a b : Int} (h1 : a ≤ v) (h2 : v ≤ b) : callP fs gl (n + 2) "check_number" [.int v, .int a, .int b] st = .ok (.val .non) st := by
  refine WpC.eq (wp_fn f_check_number rfl ?_)
  show Wp (dsts _ b_check_number ⟨[some (.val (.int v)), some (.val (.int a)), some (.val (.int b))], st⟩) _
  unfold b_check_number
  apply wp_if (b := false); focus (simp (disch := omega) only [↓eb_glob, ↓eb_cst, ↓eb_bin, ↓eb_neg, ↓eb_not, ↓eb_and, ↓eb_or, ↓eb_cmp, ↓eb_chain, ↓eb_ite, ↓eb_tup, ↓eb_lst, ↓eb_call, ↓eb_prim, ↓eb_isi, ↓eb_app, ↓eb_idx, ↓eb_comp, ↓et_glob, ↓et_cst, ↓et_bin, ↓et_neg, ↓et_tup, ↓et_lst, ↓et_call, ↓et_prim, ↓et_isi, ↓et_app, ↓et_idx, ↓et_comp, ↓eb_var, ↓ev_var, ↓et_var, ↓ev_glob, ↓ev_cst, ↓ev_bin, ↓ev_neg, ↓ev_not, ↓et_not, ↓ev_and, ↓ev_or, ↓et_and, ↓et_or, ↓ev_cmp, ↓et_cmp, ↓et_chain, ↓ev_chain, ↓ev_ite, ↓et_ite, ↓ev_tup, ↓ev_lst, ↓ev_call, ↓ev_prim, ↓ev_isi, ↓ev_app, ↓ev_idx, ↓ev_comp, ↓ebs_nil, ↓ebs_t, ↓ebs_f, ↓der1_v, ↓der2_v, ↓der1_s, ↓der2_vs, ↓der2_sv, ↓der2_ss, ↓ders_nil, ↓ders_v, ↓ders_s, ↓andK_t, ↓andK_f, ↓orK_t, ↓orK_f, ↓andK_b, ↓orK_b, chnK_b, wp_cal, ↓cal_ok, ↓cmpK_some, ↓dst_expr, ↓dst_asg, ↓asg_var, ↓dst_row, ↓dst_par, ↓dst_set, ↓augK_some, ↓dst_aug, ↓dst_if, ↓forK_some, ↓dst_for, ↓dst_ret_var, ↓dst_ret_glob, ↓dst_ret_cst, ↓dst_ret_bin, ↓dst_ret_neg, ↓dst_ret_not, ↓dst_ret_and, ↓dst_ret_or, ↓dst_ret_cmp, ↓dst_ret_chain, ↓dst_ret_ite, ↓dst_ret_tup, ↓dst_ret_lst, ↓dst_ret_call, ↓dst_ret_prim, ↓dst_ret_isi, ↓dst_ret_idx, ↓dst_ret_comp, negP_int, cond_d, appP, isOwn, ↓bind_ok, wp_bind, ↓wp_ok, wpC_ok, ↓lift_some, setP, filled, forBody, asgT, asgTs, itemsP, seqP, rng1, bin_add, bin_sub, bin_mul, bin_fdiv, bin_mod, bin_pow, aug_add, aug_sub, cmp_lt, cmp_le, cmp_gt, cmp_ge, cmp_eq, cmp_ne, isi_int, isi_bool, isi_str_int, isi_str, isi_tup, isi_lst, prim_len_l, prim_len_t, prim_len_n, prim_int, prim_max, prim_min, prim_sum, idx_l, idx_t, idx_n, idx_r, rowAt_some, pv_val, pv_own, tru_bl, tru_int, tru_lst, tru_tup, tru_non, decide_true, decide_false, List.getElem?_cons_zero, List.getElem?_cons_succ, List.set_cons_zero, List.set_cons_succ, Option.map_some, Option.bind_some, Option.bind_none, ↓fin_next, ↓fin_ret, forQ_next, forQ_ret, retQ_next, retQ_ret, ite_decide, Bool.not_true, Bool.not_false, if_true, if_false, Bool.true_or, Bool.or_true, Bool.and_true, Bool.true_and, Bool.false_eq_true, reduceCtorEq, ↓reduceIte, ↓cond_true, ↓cond_false, List.length_nil, List.length_cons, Nat.zero_add, Nat.reduceAdd, Int.reduceNeg, Int.reduceToNat, Int.reducePow, List.map_cons, List.map_nil, wipeL, backL, Option.getD_some, cmp_ne_non, at_zero, compBody_0, compBody_1, List.set_set, List.getElem?_set_self, at_row0, at_row1, at_row2, at_row3, ix_row0, ix_row1, ix_row2, ix_row3, is_number_ok h1 h2]; with_reducible exact rfl)
  exact wp_nilF (wp_nil _ _ _ ⟨rfl, rfl⟩)
theorem check_lamp_ok {n : Nat} {st : Sto} {l v d : Int} (h1 : 1 ≤ l) (h2 : l ≤ 1000000000000000) (h3 : 0 ≤ v) (h4 : v ≤ 1000000000000000000) (h5 : 0 ≤ d) (h6 : d ≤ 4) : callP fs gl (n + 3) "check_lamp" [.int l, .int v, .int d] st = .ok (.val .non) st := by
  refine WpC.eq (wp_fn f_check_lamp rfl ?_)
  show Wp (dsts _ b_check_lamp ⟨[some (.val (.int l)), some (.val (.int v)), some (.val (.int d))], st⟩) _
  unfold b_check_lamp
  apply wp_next; focus (simp (disch := omega) only [↓eb_glob, ↓eb_cst, ↓eb_bin, ↓eb_neg, ↓eb_not, ↓eb_and, ↓eb_or, ↓eb_cmp, ↓eb_chain, ↓eb_ite, ↓eb_tup, ↓eb_lst, ↓eb_call, ↓eb_prim, ↓eb_isi, ↓eb_app, ↓eb_idx, ↓eb_comp, ↓et_glob, ↓et_cst, ↓et_bin, ↓et_neg, ↓et_tup, ↓et_lst, ↓et_call, ↓et_prim, ↓et_isi, ↓et_app, ↓et_idx, ↓et_comp, ↓eb_var, ↓ev_var, ↓et_var, ↓ev_glob, ↓ev_cst, ↓ev_bin, ↓ev_neg, ↓ev_not, ↓et_not, ↓ev_and, ↓ev_or, ↓et_and, ↓et_or, ↓ev_cmp, ↓et_cmp, ↓et_chain, ↓ev_chain, ↓ev_ite, ↓et_ite, ↓ev_tup, ↓ev_lst, ↓ev_call, ↓ev_prim, ↓ev_isi, ↓ev_app, ↓ev_idx, ↓ev_comp, ↓ebs_nil, ↓ebs_t, ↓ebs_f, ↓der1_v, ↓der2_v, ↓der1_s, ↓der2_vs, ↓der2_sv, ↓der2_ss, ↓ders_nil, ↓ders_v, ↓ders_s, ↓andK_t, ↓andK_f, ↓orK_t, ↓orK_f, ↓andK_b, ↓orK_b, chnK_b, wp_cal, ↓cal_ok, ↓cmpK_some, ↓dst_expr, ↓dst_asg, ↓asg_var, ↓dst_row, ↓dst_par, ↓dst_set, ↓augK_some, ↓dst_aug, ↓dst_if, ↓forK_some, ↓dst_for, ↓dst_ret_var, ↓dst_ret_glob, ↓dst_ret_cst, ↓dst_ret_bin, ↓dst_ret_neg, ↓dst_ret_not, ↓dst_ret_and, ↓dst_ret_or, ↓dst_ret_cmp, ↓dst_ret_chain, ↓dst_ret_ite, ↓dst_ret_tup, ↓dst_ret_lst, ↓dst_ret_call, ↓dst_ret_prim, ↓dst_ret_isi, ↓dst_ret_idx, ↓dst_ret_comp, negP_int, cond_d, appP, isOwn, ↓bind_ok, wp_bind, ↓wp_ok, wpC_ok, ↓lift_some, setP, filled, forBody, asgT, asgTs, itemsP, seqP, rng1, bin_add, bin_sub, bin_mul, bin_fdiv, bin_mod, bin_pow, aug_add, aug_sub, cmp_lt, cmp_le, cmp_gt, cmp_ge, cmp_eq, cmp_ne, isi_int, isi_bool, isi_str_int, isi_str, isi_tup, isi_lst, prim_len_l, prim_len_t, prim_len_n, prim_int, prim_max, prim_min, prim_sum, idx_l, idx_t, idx_n, idx_r, rowAt_some, pv_val, pv_own, tru_bl, tru_int, tru_lst, tru_tup, tru_non, decide_true, decide_false, List.getElem?_cons_zero, List.getElem?_cons_succ, List.set_cons_zero, List.set_cons_succ, Option.map_some, Option.bind_some, Option.bind_none, ↓fin_next, ↓fin_ret, forQ_next, forQ_ret, retQ_next, retQ_ret, ite_decide, Bool.not_true, Bool.not_false, if_true, if_false, Bool.true_or, Bool.or_true, Bool.and_true, Bool.true_and, Bool.false_eq_true, reduceCtorEq, ↓reduceIte, ↓cond_true, ↓cond_false, List.length_nil, List.length_cons, Nat.zero_add, Nat.reduceAdd, Int.reduceNeg, Int.reduceToNat, Int.reducePow, List.map_cons, List.map_nil, wipeL, backL, Option.getD_some, cmp_ne_non, at_zero, compBody_0, compBody_1, List.set_set, List.getElem?_set_self, at_row0, at_row1, at_row2, at_row3, ix_row0, ix_row1, ix_row2, ix_row3, g_life, check_number_ok h1 h2]; with_reducible exact rfl)
  apply wp_next; focus (simp (disch := omega) only [↓eb_glob, ↓eb_cst, ↓eb_bin, ↓eb_neg, ↓eb_not, ↓eb_and, ↓eb_or, ↓eb_cmp, ↓eb_chain, ↓eb_ite, ↓eb_tup, ↓eb_lst, ↓eb_call, ↓eb_prim, ↓eb_isi, ↓eb_app, ↓eb_idx, ↓eb_comp, ↓et_glob, ↓et_cst, ↓et_bin, ↓et_neg, ↓et_tup, ↓et_lst, ↓et_call, ↓et_prim, ↓et_isi, ↓et_app, ↓et_idx, ↓et_comp, ↓eb_var, ↓ev_var, ↓et_var, ↓ev_glob, ↓ev_cst, ↓ev_bin, ↓ev_neg, ↓ev_not, ↓et_not, ↓ev_and, ↓ev_or, ↓et_and, ↓et_or, ↓ev_cmp, ↓et_cmp, ↓et_chain, ↓ev_chain, ↓ev_ite, ↓et_ite, ↓ev_tup, ↓ev_lst, ↓ev_call, ↓ev_prim, ↓ev_isi, ↓ev_app, ↓ev_idx, ↓ev_comp, ↓ebs_nil, ↓ebs_t, ↓ebs_f, ↓der1_v, ↓der2_v, ↓der1_s, ↓der2_vs, ↓der2_sv, ↓der2_ss, ↓ders_nil, ↓ders_v, ↓ders_s, ↓andK_t, ↓andK_f, ↓orK_t, ↓orK_f, ↓andK_b, ↓orK_b, chnK_b, wp_cal, ↓cal_ok, ↓cmpK_some, ↓dst_expr, ↓dst_asg, ↓asg_var, ↓dst_row, ↓dst_par, ↓dst_set, ↓augK_some, ↓dst_aug, ↓dst_if, ↓forK_some, ↓dst_for, ↓dst_ret_var, ↓dst_ret_glob, ↓dst_ret_cst, ↓dst_ret_bin, ↓dst_ret_neg, ↓dst_ret_not, ↓dst_ret_and, ↓dst_ret_or, ↓dst_ret_cmp, ↓dst_ret_chain, ↓dst_ret_ite, ↓dst_ret_tup, ↓dst_ret_lst, ↓dst_ret_call, ↓dst_ret_prim, ↓dst_ret_isi, ↓dst_ret_idx, ↓dst_ret_comp, negP_int, cond_d, appP, isOwn, ↓bind_ok, wp_bind, ↓wp_ok, wpC_ok, ↓lift_some, setP, filled, forBody, asgT, asgTs, itemsP, seqP, rng1, bin_add, bin_sub, bin_mul, bin_fdiv, bin_mod, bin_pow, aug_add, aug_sub, cmp_lt, cmp_le, cmp_gt, cmp_ge, cmp_eq, cmp_ne, isi_int, isi_bool, isi_str_int, isi_str, isi_tup, isi_lst, prim_len_l, prim_len_t, prim_len_n, prim_int, prim_max, prim_min, prim_sum, idx_l, idx_t, idx_n, idx_r, rowAt_some, pv_val, pv_own, tru_bl, tru_int, tru_lst, tru_tup, tru_non, decide_true, decide_false, List.getElem?_cons_zero, List.getElem?_cons_succ, List.set_cons_zero, List.set_cons_succ, Option.map_some, Option.bind_some, Option.bind_none, ↓fin_next, ↓fin_ret, forQ_next, forQ_ret, retQ_next, retQ_ret, ite_decide, Bool.not_true, Bool.not_false, if_true, if_false, Bool.true_or, Bool.or_true, Bool.and_true, Bool.true_and, Bool.false_eq_true, reduceCtorEq, ↓reduceIte, ↓cond_true, ↓cond_false, List.length_nil, List.length_cons, Nat.zero_add, Nat.reduceAdd, Int.reduceNeg, Int.reduceToNat, Int.reducePow, List.map_cons, List.map_nil, wipeL, backL, Option.getD_some, cmp_ne_non, at_zero, compBody_0, compBody_1, List.set_set, List.getElem?_set_self, at_row0, at_row1, at_row2, at_row3, ix_row0, ix_row1, ix_row2, ix_row3, g_tick, check_number_ok h3 h4]; with_reducible exact rfl)
  apply wp_next; focus (simp (disch := omega) only [↓eb_glob, ↓eb_cst, ↓eb_bin, ↓eb_neg, ↓eb_not, ↓eb_and, ↓eb_or, ↓eb_cmp, ↓eb_chain, ↓eb_ite, ↓eb_tup, ↓eb_lst, ↓eb_call, ↓eb_prim, ↓eb_isi, ↓eb_app, ↓eb_idx, ↓eb_comp, ↓et_glob, ↓et_cst, ↓et_bin, ↓et_neg, ↓et_tup, ↓et_lst, ↓et_call, ↓et_prim, ↓et_isi, ↓et_app, ↓et_idx, ↓et_comp, ↓eb_var, ↓ev_var, ↓et_var, ↓ev_glob, ↓ev_cst, ↓ev_bin, ↓ev_neg, ↓ev_not, ↓et_not, ↓ev_and, ↓ev_or, ↓et_and, ↓et_or, ↓ev_cmp, ↓et_cmp, ↓et_chain, ↓ev_chain, ↓ev_ite, ↓et_ite, ↓ev_tup, ↓ev_lst, ↓ev_call, ↓ev_prim, ↓ev_isi, ↓ev_app, ↓ev_idx, ↓ev_comp, ↓ebs_nil, ↓ebs_t, ↓ebs_f, ↓der1_v, ↓der2_v, ↓der1_s, ↓der2_vs, ↓der2_sv, ↓der2_ss, ↓ders_nil, ↓ders_v, ↓ders_s, ↓andK_t, ↓andK_f, ↓orK_t, ↓orK_f, ↓andK_b, ↓orK_b, chnK_b, wp_cal, ↓cal_ok, ↓cmpK_some, ↓dst_expr, ↓dst_asg, ↓asg_var, ↓dst_row, ↓dst_par, ↓dst_set, ↓augK_some, ↓dst_aug, ↓dst_if, ↓forK_some, ↓dst_for, ↓dst_ret_var, ↓dst_ret_glob, ↓dst_ret_cst, ↓dst_ret_bin, ↓dst_ret_neg, ↓dst_ret_not, ↓dst_ret_and, ↓dst_ret_or, ↓dst_ret_cmp, ↓dst_ret_chain, ↓dst_ret_ite, ↓dst_ret_tup, ↓dst_ret_lst, ↓dst_ret_call, ↓dst_ret_prim, ↓dst_ret_isi, ↓dst_ret_idx, ↓dst_ret_comp, negP_int, cond_d, appP, isOwn, ↓bind_ok, wp_bind, ↓wp_ok, wpC_ok, ↓lift_some, setP, filled, forBody, asgT, asgTs, itemsP, seqP, rng1, bin_add, bin_sub, bin_mul, bin_fdiv, bin_mod, bin_pow, aug_add, aug_sub, cmp_lt, cmp_le, cmp_gt, cmp_ge, cmp_eq, cmp_ne, isi_int, isi_bool, isi_str_int, isi_str, isi_tup, isi_lst, prim_len_l, prim_len_t, prim_len_n, prim_int, prim_max, prim_min, prim_sum, idx_l, idx_t, idx_n, idx_r, rowAt_some, pv_val, pv_own, tru_bl, tru_int, tru_lst, tru_tup, tru_non, decide_true, decide_false, List.getElem?_cons_zero, List.getElem?_cons_succ, List.set_cons_zero, List.set_cons_succ, Option.map_some, Option.bind_some, Option.bind_none, ↓fin_next, ↓fin_ret, forQ_next, forQ_ret, retQ_next, retQ_ret, ite_decide, Bool.not_true, Bool.not_false, if_true, if_false, Bool.true_or, Bool.or_true, Bool.and_true, Bool.true_and, Bool.false_eq_true, reduceCtorEq, ↓reduceIte, ↓cond_true, ↓cond_false, List.length_nil, List.length_cons, Nat.zero_add, Nat.reduceAdd, Int.reduceNeg, Int.reduceToNat, Int.reducePow, List.map_cons, List.map_nil, wipeL, backL, Option.getD_some, cmp_ne_non, at_zero, compBody_0, compBody_1, List.set_set, List.getElem?_set_self, at_row0, at_row1, at_row2, at_row3, ix_row0, ix_row1, ix_row2, ix_row3, g_dens, check_number_ok h5 h6]; with_reducible exact rfl)
  exact wp_nil _ _ _ ⟨rfl, rfl⟩
theorem lgt_succ (life t : Int) (k : Nat) : lgt life t (k + 1) = lgt life t k + (16 - (k : Int)) * trm life t k := rfl
theorem light_in_ok {n : Nat} {st : Sto} {l v : Int} : callP fs gl (n + 1) "light_in" [.int l, .int v] st = .ok (.val (.int (L l v))) st := by
  refine WpC.eq (wp_fn f_light_in rfl ?_)
  show Wp (dsts _ b_light_in ⟨[some (.val (.int l)), some (.val (.int v)), none, none], st⟩) _
  unfold b_light_in
  apply wp_next; focus (simp (disch := omega) only [↓eb_glob, ↓eb_cst, ↓eb_bin, ↓eb_neg, ↓eb_not, ↓eb_and, ↓eb_or, ↓eb_cmp, ↓eb_chain, ↓eb_ite, ↓eb_tup, ↓eb_lst, ↓eb_call, ↓eb_prim, ↓eb_isi, ↓eb_app, ↓eb_idx, ↓eb_comp, ↓et_glob, ↓et_cst, ↓et_bin, ↓et_neg, ↓et_tup, ↓et_lst, ↓et_call, ↓et_prim, ↓et_isi, ↓et_app, ↓et_idx, ↓et_comp, ↓eb_var, ↓ev_var, ↓et_var, ↓ev_glob, ↓ev_cst, ↓ev_bin, ↓ev_neg, ↓ev_not, ↓et_not, ↓ev_and, ↓ev_or, ↓et_and, ↓et_or, ↓ev_cmp, ↓et_cmp, ↓et_chain, ↓ev_chain, ↓ev_ite, ↓et_ite, ↓ev_tup, ↓ev_lst, ↓ev_call, ↓ev_prim, ↓ev_isi, ↓ev_app, ↓ev_idx, ↓ev_comp, ↓ebs_nil, ↓ebs_t, ↓ebs_f, ↓der1_v, ↓der2_v, ↓der1_s, ↓der2_vs, ↓der2_sv, ↓der2_ss, ↓ders_nil, ↓ders_v, ↓ders_s, ↓andK_t, ↓andK_f, ↓orK_t, ↓orK_f, ↓andK_b, ↓orK_b, chnK_b, wp_cal, ↓cal_ok, ↓cmpK_some, ↓dst_expr, ↓dst_asg, ↓asg_var, ↓dst_row, ↓dst_par, ↓dst_set, ↓augK_some, ↓dst_aug, ↓dst_if, ↓forK_some, ↓dst_for, ↓dst_ret_var, ↓dst_ret_glob, ↓dst_ret_cst, ↓dst_ret_bin, ↓dst_ret_neg, ↓dst_ret_not, ↓dst_ret_and, ↓dst_ret_or, ↓dst_ret_cmp, ↓dst_ret_chain, ↓dst_ret_ite, ↓dst_ret_tup, ↓dst_ret_lst, ↓dst_ret_call, ↓dst_ret_prim, ↓dst_ret_isi, ↓dst_ret_idx, ↓dst_ret_comp, negP_int, cond_d, appP, isOwn, ↓bind_ok, wp_bind, ↓wp_ok, wpC_ok, ↓lift_some, setP, filled, forBody, asgT, asgTs, itemsP, seqP, rng1, bin_add, bin_sub, bin_mul, bin_fdiv, bin_mod, bin_pow, aug_add, aug_sub, cmp_lt, cmp_le, cmp_gt, cmp_ge, cmp_eq, cmp_ne, isi_int, isi_bool, isi_str_int, isi_str, isi_tup, isi_lst, prim_len_l, prim_len_t, prim_len_n, prim_int, prim_max, prim_min, prim_sum, idx_l, idx_t, idx_n, idx_r, rowAt_some, pv_val, pv_own, tru_bl, tru_int, tru_lst, tru_tup, tru_non, decide_true, decide_false, List.getElem?_cons_zero, List.getElem?_cons_succ, List.set_cons_zero, List.set_cons_succ, Option.map_some, Option.bind_some, Option.bind_none, ↓fin_next, ↓fin_ret, forQ_next, forQ_ret, retQ_next, retQ_ret, ite_decide, Bool.not_true, Bool.not_false, if_true, if_false, Bool.true_or, Bool.or_true, Bool.and_true, Bool.true_and, Bool.false_eq_true, reduceCtorEq, ↓reduceIte, ↓cond_true, ↓cond_false, List.length_nil, List.length_cons, Nat.zero_add, Nat.reduceAdd, Int.reduceNeg, Int.reduceToNat, Int.reducePow, List.map_cons, List.map_nil, wipeL, backL, Option.getD_some, cmp_ne_non, at_zero, compBody_0, compBody_1, List.set_set, List.getElem?_set_self, at_row0, at_row1, at_row2, at_row3, ix_row0, ix_row1, ix_row2, ix_row3]; with_reducible exact rfl)
  apply wp_for
  · simp (disch := omega) only [↓eb_glob, ↓eb_cst, ↓eb_bin, ↓eb_neg, ↓eb_not, ↓eb_and, ↓eb_or, ↓eb_cmp, ↓eb_chain, ↓eb_ite, ↓eb_tup, ↓eb_lst, ↓eb_call, ↓eb_prim, ↓eb_isi, ↓eb_app, ↓eb_idx, ↓eb_comp, ↓et_glob, ↓et_cst, ↓et_bin, ↓et_neg, ↓et_tup, ↓et_lst, ↓et_call, ↓et_prim, ↓et_isi, ↓et_app, ↓et_idx, ↓et_comp, ↓eb_var, ↓ev_var, ↓et_var, ↓ev_glob, ↓ev_cst, ↓ev_bin, ↓ev_neg, ↓ev_not, ↓et_not, ↓ev_and, ↓ev_or, ↓et_and, ↓et_or, ↓ev_cmp, ↓et_cmp, ↓et_chain, ↓ev_chain, ↓ev_ite, ↓et_ite, ↓ev_tup, ↓ev_lst, ↓ev_call, ↓ev_prim, ↓ev_isi, ↓ev_app, ↓ev_idx, ↓ev_comp, ↓ebs_nil, ↓ebs_t, ↓ebs_f, ↓der1_v, ↓der2_v, ↓der1_s, ↓der2_vs, ↓der2_sv, ↓der2_ss, ↓ders_nil, ↓ders_v, ↓ders_s, ↓andK_t, ↓andK_f, ↓orK_t, ↓orK_f, ↓andK_b, ↓orK_b, chnK_b, wp_cal, ↓cal_ok, ↓cmpK_some, ↓dst_expr, ↓dst_asg, ↓asg_var, ↓dst_row, ↓dst_par, ↓dst_set, ↓augK_some, ↓dst_aug, ↓dst_if, ↓forK_some, ↓dst_for, ↓dst_ret_var, ↓dst_ret_glob, ↓dst_ret_cst, ↓dst_ret_bin, ↓dst_ret_neg, ↓dst_ret_not, ↓dst_ret_and, ↓dst_ret_or, ↓dst_ret_cmp, ↓dst_ret_chain, ↓dst_ret_ite, ↓dst_ret_tup, ↓dst_ret_lst, ↓dst_ret_call, ↓dst_ret_prim, ↓dst_ret_isi, ↓dst_ret_idx, ↓dst_ret_comp, negP_int, cond_d, appP, isOwn, ↓bind_ok, wp_bind, ↓wp_ok, wpC_ok, ↓lift_some, setP, filled, forBody, asgT, asgTs, itemsP, seqP, rng1, bin_add, bin_sub, bin_mul, bin_fdiv, bin_mod, bin_pow, aug_add, aug_sub, cmp_lt, cmp_le, cmp_gt, cmp_ge, cmp_eq, cmp_ne, isi_int, isi_bool, isi_str_int, isi_str, isi_tup, isi_lst, prim_len_l, prim_len_t, prim_len_n, prim_int, prim_max, prim_min, prim_sum, idx_l, idx_t, idx_n, idx_r, rowAt_some, pv_val, pv_own, tru_bl, tru_int, tru_lst, tru_tup, tru_non, decide_true, decide_false, List.getElem?_cons_zero, List.getElem?_cons_succ, List.set_cons_zero, List.set_cons_succ, Option.map_some, Option.bind_some, Option.bind_none, ↓fin_next, ↓fin_ret, forQ_next, forQ_ret, retQ_next, retQ_ret, ite_decide, Bool.not_true, Bool.not_false, if_true, if_false, Bool.true_or, Bool.or_true, Bool.and_true, Bool.true_and, Bool.false_eq_true, reduceCtorEq, ↓reduceIte, ↓cond_true, ↓cond_false, List.length_nil, List.length_cons, Nat.zero_add, Nat.reduceAdd, Int.reduceNeg, Int.reduceToNat, Int.reducePow, List.map_cons, List.map_nil, wipeL, backL, Option.getD_some, cmp_ne_non, at_zero, compBody_0, compBody_1, List.set_set, List.getElem?_set_self, at_row0, at_row1, at_row2, at_row3, ix_row0, ix_row1, ix_row2, ix_row3, g_full]; exact rfl
  · exact rng1 16 (by omega) (by omega)
  refine wp_rng (I := fun k s => ∃ o, s = ⟨[some (.val (.int l)), some (.val (.int v)), some (.val (.int (lgt l v k.toNat))), o], st⟩) 0 16 0 _ (by omega) ⟨none, rfl⟩ (fun k s h1 h2 ⟨o, e⟩ => ?_) fun s ⟨o, e⟩ => ?_
  · subst e
    simp (disch := omega) only [↓eb_glob, ↓eb_cst, ↓eb_bin, ↓eb_neg, ↓eb_not, ↓eb_and, ↓eb_or, ↓eb_cmp, ↓eb_chain, ↓eb_ite, ↓eb_tup, ↓eb_lst, ↓eb_call, ↓eb_prim, ↓eb_isi, ↓eb_app, ↓eb_idx, ↓eb_comp, ↓et_glob, ↓et_cst, ↓et_bin, ↓et_neg, ↓et_tup, ↓et_lst, ↓et_call, ↓et_prim, ↓et_isi, ↓et_app, ↓et_idx, ↓et_comp, ↓eb_var, ↓ev_var, ↓et_var, ↓ev_glob, ↓ev_cst, ↓ev_bin, ↓ev_neg, ↓ev_not, ↓et_not, ↓ev_and, ↓ev_or, ↓et_and, ↓et_or, ↓ev_cmp, ↓et_cmp, ↓et_chain, ↓ev_chain, ↓ev_ite, ↓et_ite, ↓ev_tup, ↓ev_lst, ↓ev_call, ↓ev_prim, ↓ev_isi, ↓ev_app, ↓ev_idx, ↓ev_comp, ↓ebs_nil, ↓ebs_t, ↓ebs_f, ↓der1_v, ↓der2_v, ↓der1_s, ↓der2_vs, ↓der2_sv, ↓der2_ss, ↓ders_nil, ↓ders_v, ↓ders_s, ↓andK_t, ↓andK_f, ↓orK_t, ↓orK_f, ↓andK_b, ↓orK_b, chnK_b, wp_cal, ↓cal_ok, ↓cmpK_some, ↓dst_expr, ↓dst_asg, ↓asg_var, ↓dst_row, ↓dst_par, ↓dst_set, ↓augK_some, ↓dst_aug, ↓dst_if, ↓forK_some, ↓dst_for, ↓dst_ret_var, ↓dst_ret_glob, ↓dst_ret_cst, ↓dst_ret_bin, ↓dst_ret_neg, ↓dst_ret_not, ↓dst_ret_and, ↓dst_ret_or, ↓dst_ret_cmp, ↓dst_ret_chain, ↓dst_ret_ite, ↓dst_ret_tup, ↓dst_ret_lst, ↓dst_ret_call, ↓dst_ret_prim, ↓dst_ret_isi, ↓dst_ret_idx, ↓dst_ret_comp, negP_int, cond_d, appP, isOwn, ↓bind_ok, wp_bind, ↓wp_ok, wpC_ok, ↓lift_some, setP, filled, forBody, asgT, asgTs, itemsP, seqP, rng1, bin_add, bin_sub, bin_mul, bin_fdiv, bin_mod, bin_pow, aug_add, aug_sub, cmp_lt, cmp_le, cmp_gt, cmp_ge, cmp_eq, cmp_ne, isi_int, isi_bool, isi_str_int, isi_str, isi_tup, isi_lst, prim_len_l, prim_len_t, prim_len_n, prim_int, prim_max, prim_min, prim_sum, idx_l, idx_t, idx_n, idx_r, rowAt_some, pv_val, pv_own, tru_bl, tru_int, tru_lst, tru_tup, tru_non, decide_true, decide_false, List.getElem?_cons_zero, List.getElem?_cons_succ, List.set_cons_zero, List.set_cons_succ, Option.map_some, Option.bind_some, Option.bind_none, ↓fin_next, ↓fin_ret, forQ_next, forQ_ret, retQ_next, retQ_ret, ite_decide, Bool.not_true, Bool.not_false, if_true, if_false, Bool.true_or, Bool.or_true, Bool.and_true, Bool.true_and, Bool.false_eq_true, reduceCtorEq, ↓reduceIte, ↓cond_true, ↓cond_false, List.length_nil, List.length_cons, Nat.zero_add, Nat.reduceAdd, Int.reduceNeg, Int.reduceToNat, Int.reducePow, List.map_cons, List.map_nil, wipeL, backL, Option.getD_some, cmp_ne_non, at_zero, compBody_0, compBody_1, List.set_set, List.getElem?_set_self, at_row0, at_row1, at_row2, at_row3, ix_row0, ix_row1, ix_row2, ix_row3]
    apply wp_next; focus (simp (disch := omega) only [↓eb_glob, ↓eb_cst, ↓eb_bin, ↓eb_neg, ↓eb_not, ↓eb_and, ↓eb_or, ↓eb_cmp, ↓eb_chain, ↓eb_ite, ↓eb_tup, ↓eb_lst, ↓eb_call, ↓eb_prim, ↓eb_isi, ↓eb_app, ↓eb_idx, ↓eb_comp, ↓et_glob, ↓et_cst, ↓et_bin, ↓et_neg, ↓et_tup, ↓et_lst, ↓et_call, ↓et_prim, ↓et_isi, ↓et_app, ↓et_idx, ↓et_comp, ↓eb_var, ↓ev_var, ↓et_var, ↓ev_glob, ↓ev_cst, ↓ev_bin, ↓ev_neg, ↓ev_not, ↓et_not, ↓ev_and, ↓ev_or, ↓et_and, ↓et_or, ↓ev_cmp, ↓et_cmp, ↓et_chain, ↓ev_chain, ↓ev_ite, ↓et_ite, ↓ev_tup, ↓ev_lst, ↓ev_call, ↓ev_prim, ↓ev_isi, ↓ev_app, ↓ev_idx, ↓ev_comp, ↓ebs_nil, ↓ebs_t, ↓ebs_f, ↓der1_v, ↓der2_v, ↓der1_s, ↓der2_vs, ↓der2_sv, ↓der2_ss, ↓ders_nil, ↓ders_v, ↓ders_s, ↓andK_t, ↓andK_f, ↓orK_t, ↓orK_f, ↓andK_b, ↓orK_b, chnK_b, wp_cal, ↓cal_ok, ↓cmpK_some, ↓dst_expr, ↓dst_asg, ↓asg_var, ↓dst_row, ↓dst_par, ↓dst_set, ↓augK_some, ↓dst_aug, ↓dst_if, ↓forK_some, ↓dst_for, ↓dst_ret_var, ↓dst_ret_glob, ↓dst_ret_cst, ↓dst_ret_bin, ↓dst_ret_neg, ↓dst_ret_not, ↓dst_ret_and, ↓dst_ret_or, ↓dst_ret_cmp, ↓dst_ret_chain, ↓dst_ret_ite, ↓dst_ret_tup, ↓dst_ret_lst, ↓dst_ret_call, ↓dst_ret_prim, ↓dst_ret_isi, ↓dst_ret_idx, ↓dst_ret_comp, negP_int, cond_d, appP, isOwn, ↓bind_ok, wp_bind, ↓wp_ok, wpC_ok, ↓lift_some, setP, filled, forBody, asgT, asgTs, itemsP, seqP, rng1, bin_add, bin_sub, bin_mul, bin_fdiv, bin_mod, bin_pow, aug_add, aug_sub, cmp_lt, cmp_le, cmp_gt, cmp_ge, cmp_eq, cmp_ne, isi_int, isi_bool, isi_str_int, isi_str, isi_tup, isi_lst, prim_len_l, prim_len_t, prim_len_n, prim_int, prim_max, prim_min, prim_sum, idx_l, idx_t, idx_n, idx_r, rowAt_some, pv_val, pv_own, tru_bl, tru_int, tru_lst, tru_tup, tru_non, decide_true, decide_false, List.getElem?_cons_zero, List.getElem?_cons_succ, List.set_cons_zero, List.set_cons_succ, Option.map_some, Option.bind_some, Option.bind_none, ↓fin_next, ↓fin_ret, forQ_next, forQ_ret, retQ_next, retQ_ret, ite_decide, Bool.not_true, Bool.not_false, if_true, if_false, Bool.true_or, Bool.or_true, Bool.and_true, Bool.true_and, Bool.false_eq_true, reduceCtorEq, ↓reduceIte, ↓cond_true, ↓cond_false, List.length_nil, List.length_cons, Nat.zero_add, Nat.reduceAdd, Int.reduceNeg, Int.reduceToNat, Int.reducePow, List.map_cons, List.map_nil, wipeL, backL, Option.getD_some, cmp_ne_non, at_zero, compBody_0, compBody_1, List.set_set, List.getElem?_set_self, at_row0, at_row1, at_row2, at_row3, ix_row0, ix_row1, ix_row2, ix_row3, g_full]; with_reducible exact rfl)
    refine wp_nil _ _ _ ⟨some (.val (.int k)), ?_⟩
    have e : (k + 1).toNat = k.toNat + 1 := by omega
    rw [e]
    rw [lgt_succ]
    unfold trm
    rw [show ((k.toNat : Nat) : Int) = k by omega]
  · subst e
    rw [fin_next]
    apply wp_ret; focus (simp (disch := omega) only [↓eb_glob, ↓eb_cst, ↓eb_bin, ↓eb_neg, ↓eb_not, ↓eb_and, ↓eb_or, ↓eb_cmp, ↓eb_chain, ↓eb_ite, ↓eb_tup, ↓eb_lst, ↓eb_call, ↓eb_prim, ↓eb_isi, ↓eb_app, ↓eb_idx, ↓eb_comp, ↓et_glob, ↓et_cst, ↓et_bin, ↓et_neg, ↓et_tup, ↓et_lst, ↓et_call, ↓et_prim, ↓et_isi, ↓et_app, ↓et_idx, ↓et_comp, ↓eb_var, ↓ev_var, ↓et_var, ↓ev_glob, ↓ev_cst, ↓ev_bin, ↓ev_neg, ↓ev_not, ↓et_not, ↓ev_and, ↓ev_or, ↓et_and, ↓et_or, ↓ev_cmp, ↓et_cmp, ↓et_chain, ↓ev_chain, ↓ev_ite, ↓et_ite, ↓ev_tup, ↓ev_lst, ↓ev_call, ↓ev_prim, ↓ev_isi, ↓ev_app, ↓ev_idx, ↓ev_comp, ↓ebs_nil, ↓ebs_t, ↓ebs_f, ↓der1_v, ↓der2_v, ↓der1_s, ↓der2_vs, ↓der2_sv, ↓der2_ss, ↓ders_nil, ↓ders_v, ↓ders_s, ↓andK_t, ↓andK_f, ↓orK_t, ↓orK_f, ↓andK_b, ↓orK_b, chnK_b, wp_cal, ↓cal_ok, ↓cmpK_some, ↓dst_expr, ↓dst_asg, ↓asg_var, ↓dst_row, ↓dst_par, ↓dst_set, ↓augK_some, ↓dst_aug, ↓dst_if, ↓forK_some, ↓dst_for, ↓dst_ret_var, ↓dst_ret_glob, ↓dst_ret_cst, ↓dst_ret_bin, ↓dst_ret_neg, ↓dst_ret_not, ↓dst_ret_and, ↓dst_ret_or, ↓dst_ret_cmp, ↓dst_ret_chain, ↓dst_ret_ite, ↓dst_ret_tup, ↓dst_ret_lst, ↓dst_ret_call, ↓dst_ret_prim, ↓dst_ret_isi, ↓dst_ret_idx, ↓dst_ret_comp, negP_int, cond_d, appP, isOwn, ↓bind_ok, wp_bind, ↓wp_ok, wpC_ok, ↓lift_some, setP, filled, forBody, asgT, asgTs, itemsP, seqP, rng1, bin_add, bin_sub, bin_mul, bin_fdiv, bin_mod, bin_pow, aug_add, aug_sub, cmp_lt, cmp_le, cmp_gt, cmp_ge, cmp_eq, cmp_ne, isi_int, isi_bool, isi_str_int, isi_str, isi_tup, isi_lst, prim_len_l, prim_len_t, prim_len_n, prim_int, prim_max, prim_min, prim_sum, idx_l, idx_t, idx_n, idx_r, rowAt_some, pv_val, pv_own, tru_bl, tru_int, tru_lst, tru_tup, tru_non, decide_true, decide_false, List.getElem?_cons_zero, List.getElem?_cons_succ, List.set_cons_zero, List.set_cons_succ, Option.map_some, Option.bind_some, Option.bind_none, ↓fin_next, ↓fin_ret, forQ_next, forQ_ret, retQ_next, retQ_ret, ite_decide, Bool.not_true, Bool.not_false, if_true, if_false, Bool.true_or, Bool.or_true, Bool.and_true, Bool.true_and, Bool.false_eq_true, reduceCtorEq, ↓reduceIte, ↓cond_true, ↓cond_false, List.length_nil, List.length_cons, Nat.zero_add, Nat.reduceAdd, Int.reduceNeg, Int.reduceToNat, Int.reducePow, List.map_cons, List.map_nil, wipeL, backL, Option.getD_some, cmp_ne_non, at_zero, compBody_0, compBody_1, List.set_set, List.getElem?_set_self, at_row0, at_row1, at_row2, at_row3, ix_row0, ix_row1, ix_row2, ix_row3]; with_reducible exact rfl)
    refine ⟨?_, rfl⟩
    unfold L
    rfl
def wt (d : Int) : Int := if d = 0 then 16 else if d = 1 then 8 else if d = 2 then 4 else if d = 3 then 2 else 1
theorem wt_pos (d : Int) : 1 ≤ wt d ∧ wt d ≤ 16 := by unfold wt; (repeat' split) <;> omega
theorem wt_at {d : Int} (h5 : 0 ≤ d) (h6 : d ≤ 4) : L2.atI [PV.int 16, PV.int 8, PV.int 4, PV.int 2, PV.int 1] d = some (.int (wt d)) := by
  have : d = 0 ∨ d = 1 ∨ d = 2 ∨ d = 3 ∨ d = 4 := by omega
  rcases this with rfl | rfl | rfl | rfl | rfl <;> rfl
theorem faded_ok {n : Nat} {st : Sto} {l v d : Int} (h1 : 1 ≤ l) (h2 : l ≤ 1000000000000000) (h3 : 0 ≤ v) (h4 : v ≤ 1000000000000000000) (h5 : 0 ≤ d) (h6 : d ≤ 4) : callP fs gl (n + 4) "faded" [.int l, .int v, .int d] st = .ok (.val (.int (L l v * wt d))) st := by
  refine WpC.eq (wp_fn f_faded rfl ?_)
  show Wp (dsts _ b_faded ⟨[some (.val (.int l)), some (.val (.int v)), some (.val (.int d))], st⟩) _
  unfold b_faded
  apply wp_next; focus (simp (disch := omega) only [↓eb_glob, ↓eb_cst, ↓eb_bin, ↓eb_neg, ↓eb_not, ↓eb_and, ↓eb_or, ↓eb_cmp, ↓eb_chain, ↓eb_ite, ↓eb_tup, ↓eb_lst, ↓eb_call, ↓eb_prim, ↓eb_isi, ↓eb_app, ↓eb_idx, ↓eb_comp, ↓et_glob, ↓et_cst, ↓et_bin, ↓et_neg, ↓et_tup, ↓et_lst, ↓et_call, ↓et_prim, ↓et_isi, ↓et_app, ↓et_idx, ↓et_comp, ↓eb_var, ↓ev_var, ↓et_var, ↓ev_glob, ↓ev_cst, ↓ev_bin, ↓ev_neg, ↓ev_not, ↓et_not, ↓ev_and, ↓ev_or, ↓et_and, ↓et_or, ↓ev_cmp, ↓et_cmp, ↓et_chain, ↓ev_chain, ↓ev_ite, ↓et_ite, ↓ev_tup, ↓ev_lst, ↓ev_call, ↓ev_prim, ↓ev_isi, ↓ev_app, ↓ev_idx, ↓ev_comp, ↓ebs_nil, ↓ebs_t, ↓ebs_f, ↓der1_v, ↓der2_v, ↓der1_s, ↓der2_vs, ↓der2_sv, ↓der2_ss, ↓ders_nil, ↓ders_v, ↓ders_s, ↓andK_t, ↓andK_f, ↓orK_t, ↓orK_f, ↓andK_b, ↓orK_b, chnK_b, wp_cal, ↓cal_ok, ↓cmpK_some, ↓dst_expr, ↓dst_asg, ↓asg_var, ↓dst_row, ↓dst_par, ↓dst_set, ↓augK_some, ↓dst_aug, ↓dst_if, ↓forK_some, ↓dst_for, ↓dst_ret_var, ↓dst_ret_glob, ↓dst_ret_cst, ↓dst_ret_bin, ↓dst_ret_neg, ↓dst_ret_not, ↓dst_ret_and, ↓dst_ret_or, ↓dst_ret_cmp, ↓dst_ret_chain, ↓dst_ret_ite, ↓dst_ret_tup, ↓dst_ret_lst, ↓dst_ret_call, ↓dst_ret_prim, ↓dst_ret_isi, ↓dst_ret_idx, ↓dst_ret_comp, negP_int, cond_d, appP, isOwn, ↓bind_ok, wp_bind, ↓wp_ok, wpC_ok, ↓lift_some, setP, filled, forBody, asgT, asgTs, itemsP, seqP, rng1, bin_add, bin_sub, bin_mul, bin_fdiv, bin_mod, bin_pow, aug_add, aug_sub, cmp_lt, cmp_le, cmp_gt, cmp_ge, cmp_eq, cmp_ne, isi_int, isi_bool, isi_str_int, isi_str, isi_tup, isi_lst, prim_len_l, prim_len_t, prim_len_n, prim_int, prim_max, prim_min, prim_sum, idx_l, idx_t, idx_n, idx_r, rowAt_some, pv_val, pv_own, tru_bl, tru_int, tru_lst, tru_tup, tru_non, decide_true, decide_false, List.getElem?_cons_zero, List.getElem?_cons_succ, List.set_cons_zero, List.set_cons_succ, Option.map_some, Option.bind_some, Option.bind_none, ↓fin_next, ↓fin_ret, forQ_next, forQ_ret, retQ_next, retQ_ret, ite_decide, Bool.not_true, Bool.not_false, if_true, if_false, Bool.true_or, Bool.or_true, Bool.and_true, Bool.true_and, Bool.false_eq_true, reduceCtorEq, ↓reduceIte, ↓cond_true, ↓cond_false, List.length_nil, List.length_cons, Nat.zero_add, Nat.reduceAdd, Int.reduceNeg, Int.reduceToNat, Int.reducePow, List.map_cons, List.map_nil, wipeL, backL, Option.getD_some, cmp_ne_non, at_zero, compBody_0, compBody_1, List.set_set, List.getElem?_set_self, at_row0, at_row1, at_row2, at_row3, ix_row0, ix_row1, ix_row2, ix_row3, check_lamp_ok h1 h2 h3 h4 h5 h6]; with_reducible exact rfl)
  have hw := wt_pos d
  apply wp_ret; focus (simp (disch := omega) only [↓eb_glob, ↓eb_cst, ↓eb_bin, ↓eb_neg, ↓eb_not, ↓eb_and, ↓eb_or, ↓eb_cmp, ↓eb_chain, ↓eb_ite, ↓eb_tup, ↓eb_lst, ↓eb_call, ↓eb_prim, ↓eb_isi, ↓eb_app, ↓eb_idx, ↓eb_comp, ↓et_glob, ↓et_cst, ↓et_bin, ↓et_neg, ↓et_tup, ↓et_lst, ↓et_call, ↓et_prim, ↓et_isi, ↓et_app, ↓et_idx, ↓et_comp, ↓eb_var, ↓ev_var, ↓et_var, ↓ev_glob, ↓ev_cst, ↓ev_bin, ↓ev_neg, ↓ev_not, ↓et_not, ↓ev_and, ↓ev_or, ↓et_and, ↓et_or, ↓ev_cmp, ↓et_cmp, ↓et_chain, ↓ev_chain, ↓ev_ite, ↓et_ite, ↓ev_tup, ↓ev_lst, ↓ev_call, ↓ev_prim, ↓ev_isi, ↓ev_app, ↓ev_idx, ↓ev_comp, ↓ebs_nil, ↓ebs_t, ↓ebs_f, ↓der1_v, ↓der2_v, ↓der1_s, ↓der2_vs, ↓der2_sv, ↓der2_ss, ↓ders_nil, ↓ders_v, ↓ders_s, ↓andK_t, ↓andK_f, ↓orK_t, ↓orK_f, ↓andK_b, ↓orK_b, chnK_b, wp_cal, ↓cal_ok, ↓cmpK_some, ↓dst_expr, ↓dst_asg, ↓asg_var, ↓dst_row, ↓dst_par, ↓dst_set, ↓augK_some, ↓dst_aug, ↓dst_if, ↓forK_some, ↓dst_for, ↓dst_ret_var, ↓dst_ret_glob, ↓dst_ret_cst, ↓dst_ret_bin, ↓dst_ret_neg, ↓dst_ret_not, ↓dst_ret_and, ↓dst_ret_or, ↓dst_ret_cmp, ↓dst_ret_chain, ↓dst_ret_ite, ↓dst_ret_tup, ↓dst_ret_lst, ↓dst_ret_call, ↓dst_ret_prim, ↓dst_ret_isi, ↓dst_ret_idx, ↓dst_ret_comp, negP_int, cond_d, appP, isOwn, ↓bind_ok, wp_bind, ↓wp_ok, wpC_ok, ↓lift_some, setP, filled, forBody, asgT, asgTs, itemsP, seqP, rng1, bin_add, bin_sub, bin_mul, bin_fdiv, bin_mod, bin_pow, aug_add, aug_sub, cmp_lt, cmp_le, cmp_gt, cmp_ge, cmp_eq, cmp_ne, isi_int, isi_bool, isi_str_int, isi_str, isi_tup, isi_lst, prim_len_l, prim_len_t, prim_len_n, prim_int, prim_max, prim_min, prim_sum, idx_l, idx_t, idx_n, idx_r, rowAt_some, pv_val, pv_own, tru_bl, tru_int, tru_lst, tru_tup, tru_non, decide_true, decide_false, List.getElem?_cons_zero, List.getElem?_cons_succ, List.set_cons_zero, List.set_cons_succ, Option.map_some, Option.bind_some, Option.bind_none, ↓fin_next, ↓fin_ret, forQ_next, forQ_ret, retQ_next, retQ_ret, ite_decide, Bool.not_true, Bool.not_false, if_true, if_false, Bool.true_or, Bool.or_true, Bool.and_true, Bool.true_and, Bool.false_eq_true, reduceCtorEq, ↓reduceIte, ↓cond_true, ↓cond_false, List.length_nil, List.length_cons, Nat.zero_add, Nat.reduceAdd, Int.reduceNeg, Int.reduceToNat, Int.reducePow, List.map_cons, List.map_nil, wipeL, backL, Option.getD_some, cmp_ne_non, at_zero, compBody_0, compBody_1, List.set_set, List.getElem?_set_self, at_row0, at_row1, at_row2, at_row3, ix_row0, ix_row1, ix_row2, ix_row3, light_in_ok, g_wgt, wt_at h5 h6]; with_reducible exact rfl)
  exact ⟨rfl, rfl⟩
def tuV (o : Option Int) : SV := match o with
  | some r => .val (.int r)
  | none => .val .non
theorem tu_succ (life : Int) (n k : Nat) (left found : Int) : tu life (n + 1) k left found = if left ≤ (16 - (k : Int)) * life then some (found + (left + (16 - (k : Int)) - 1) / (16 - (k : Int))) else tu life n (k + 1) (left - (16 - (k : Int)) * life) (found + life) := rfl
theorem ticks_until_ok {n : Nat} {st : Sto} {l v d : Int} (h1 : 1 ≤ l) (h2 : l ≤ 1000000000000000) (h3 : 0 ≤ v) (h4 : v ≤ 1000000000000000000) (h5 : 0 ≤ d) (h6 : d ≤ 4) : callP fs gl (n + 4) "ticks_until" [.int l, .int v, .int d] st = .ok (tuV (TU l ((v + wt d - 1) / wt d))) st := by
  refine WpC.eq (wp_fn f_ticks_until rfl ?_)
  show Wp (dsts _ b_ticks_until ⟨[some (.val (.int l)), some (.val (.int v)), some (.val (.int d)), none, none, none, none], st⟩) _
  unfold b_ticks_until
  have hw := wt_pos d
  apply wp_next; focus (simp (disch := omega) only [↓eb_glob, ↓eb_cst, ↓eb_bin, ↓eb_neg, ↓eb_not, ↓eb_and, ↓eb_or, ↓eb_cmp, ↓eb_chain, ↓eb_ite, ↓eb_tup, ↓eb_lst, ↓eb_call, ↓eb_prim, ↓eb_isi, ↓eb_app, ↓eb_idx, ↓eb_comp, ↓et_glob, ↓et_cst, ↓et_bin, ↓et_neg, ↓et_tup, ↓et_lst, ↓et_call, ↓et_prim, ↓et_isi, ↓et_app, ↓et_idx, ↓et_comp, ↓eb_var, ↓ev_var, ↓et_var, ↓ev_glob, ↓ev_cst, ↓ev_bin, ↓ev_neg, ↓ev_not, ↓et_not, ↓ev_and, ↓ev_or, ↓et_and, ↓et_or, ↓ev_cmp, ↓et_cmp, ↓et_chain, ↓ev_chain, ↓ev_ite, ↓et_ite, ↓ev_tup, ↓ev_lst, ↓ev_call, ↓ev_prim, ↓ev_isi, ↓ev_app, ↓ev_idx, ↓ev_comp, ↓ebs_nil, ↓ebs_t, ↓ebs_f, ↓der1_v, ↓der2_v, ↓der1_s, ↓der2_vs, ↓der2_sv, ↓der2_ss, ↓ders_nil, ↓ders_v, ↓ders_s, ↓andK_t, ↓andK_f, ↓orK_t, ↓orK_f, ↓andK_b, ↓orK_b, chnK_b, wp_cal, ↓cal_ok, ↓cmpK_some, ↓dst_expr, ↓dst_asg, ↓asg_var, ↓dst_row, ↓dst_par, ↓dst_set, ↓augK_some, ↓dst_aug, ↓dst_if, ↓forK_some, ↓dst_for, ↓dst_ret_var, ↓dst_ret_glob, ↓dst_ret_cst, ↓dst_ret_bin, ↓dst_ret_neg, ↓dst_ret_not, ↓dst_ret_and, ↓dst_ret_or, ↓dst_ret_cmp, ↓dst_ret_chain, ↓dst_ret_ite, ↓dst_ret_tup, ↓dst_ret_lst, ↓dst_ret_call, ↓dst_ret_prim, ↓dst_ret_isi, ↓dst_ret_idx, ↓dst_ret_comp, negP_int, cond_d, appP, isOwn, ↓bind_ok, wp_bind, ↓wp_ok, wpC_ok, ↓lift_some, setP, filled, forBody, asgT, asgTs, itemsP, seqP, rng1, bin_add, bin_sub, bin_mul, bin_fdiv, bin_mod, bin_pow, aug_add, aug_sub, cmp_lt, cmp_le, cmp_gt, cmp_ge, cmp_eq, cmp_ne, isi_int, isi_bool, isi_str_int, isi_str, isi_tup, isi_lst, prim_len_l, prim_len_t, prim_len_n, prim_int, prim_max, prim_min, prim_sum, idx_l, idx_t, idx_n, idx_r, rowAt_some, pv_val, pv_own, tru_bl, tru_int, tru_lst, tru_tup, tru_non, decide_true, decide_false, List.getElem?_cons_zero, List.getElem?_cons_succ, List.set_cons_zero, List.set_cons_succ, Option.map_some, Option.bind_some, Option.bind_none, ↓fin_next, ↓fin_ret, forQ_next, forQ_ret, retQ_next, retQ_ret, ite_decide, Bool.not_true, Bool.not_false, if_true, if_false, Bool.true_or, Bool.or_true, Bool.and_true, Bool.true_and, Bool.false_eq_true, reduceCtorEq, ↓reduceIte, ↓cond_true, ↓cond_false, List.length_nil, List.length_cons, Nat.zero_add, Nat.reduceAdd, Int.reduceNeg, Int.reduceToNat, Int.reducePow, List.map_cons, List.map_nil, wipeL, backL, Option.getD_some, cmp_ne_non, at_zero, compBody_0, compBody_1, List.set_set, List.getElem?_set_self, at_row0, at_row1, at_row2, at_row3, ix_row0, ix_row1, ix_row2, ix_row3, check_lamp_ok h1 h2 h3 h4 h5 h6]; with_reducible exact rfl)
  apply wp_next; focus (simp (disch := omega) only [↓eb_glob, ↓eb_cst, ↓eb_bin, ↓eb_neg, ↓eb_not, ↓eb_and, ↓eb_or, ↓eb_cmp, ↓eb_chain, ↓eb_ite, ↓eb_tup, ↓eb_lst, ↓eb_call, ↓eb_prim, ↓eb_isi, ↓eb_app, ↓eb_idx, ↓eb_comp, ↓et_glob, ↓et_cst, ↓et_bin, ↓et_neg, ↓et_tup, ↓et_lst, ↓et_call, ↓et_prim, ↓et_isi, ↓et_app, ↓et_idx, ↓et_comp, ↓eb_var, ↓ev_var, ↓et_var, ↓ev_glob, ↓ev_cst, ↓ev_bin, ↓ev_neg, ↓ev_not, ↓et_not, ↓ev_and, ↓ev_or, ↓et_and, ↓et_or, ↓ev_cmp, ↓et_cmp, ↓et_chain, ↓ev_chain, ↓ev_ite, ↓et_ite, ↓ev_tup, ↓ev_lst, ↓ev_call, ↓ev_prim, ↓ev_isi, ↓ev_app, ↓ev_idx, ↓ev_comp, ↓ebs_nil, ↓ebs_t, ↓ebs_f, ↓der1_v, ↓der2_v, ↓der1_s, ↓der2_vs, ↓der2_sv, ↓der2_ss, ↓ders_nil, ↓ders_v, ↓ders_s, ↓andK_t, ↓andK_f, ↓orK_t, ↓orK_f, ↓andK_b, ↓orK_b, chnK_b, wp_cal, ↓cal_ok, ↓cmpK_some, ↓dst_expr, ↓dst_asg, ↓asg_var, ↓dst_row, ↓dst_par, ↓dst_set, ↓augK_some, ↓dst_aug, ↓dst_if, ↓forK_some, ↓dst_for, ↓dst_ret_var, ↓dst_ret_glob, ↓dst_ret_cst, ↓dst_ret_bin, ↓dst_ret_neg, ↓dst_ret_not, ↓dst_ret_and, ↓dst_ret_or, ↓dst_ret_cmp, ↓dst_ret_chain, ↓dst_ret_ite, ↓dst_ret_tup, ↓dst_ret_lst, ↓dst_ret_call, ↓dst_ret_prim, ↓dst_ret_isi, ↓dst_ret_idx, ↓dst_ret_comp, negP_int, cond_d, appP, isOwn, ↓bind_ok, wp_bind, ↓wp_ok, wpC_ok, ↓lift_some, setP, filled, forBody, asgT, asgTs, itemsP, seqP, rng1, bin_add, bin_sub, bin_mul, bin_fdiv, bin_mod, bin_pow, aug_add, aug_sub, cmp_lt, cmp_le, cmp_gt, cmp_ge, cmp_eq, cmp_ne, isi_int, isi_bool, isi_str_int, isi_str, isi_tup, isi_lst, prim_len_l, prim_len_t, prim_len_n, prim_int, prim_max, prim_min, prim_sum, idx_l, idx_t, idx_n, idx_r, rowAt_some, pv_val, pv_own, tru_bl, tru_int, tru_lst, tru_tup, tru_non, decide_true, decide_false, List.getElem?_cons_zero, List.getElem?_cons_succ, List.set_cons_zero, List.set_cons_succ, Option.map_some, Option.bind_some, Option.bind_none, ↓fin_next, ↓fin_ret, forQ_next, forQ_ret, retQ_next, retQ_ret, ite_decide, Bool.not_true, Bool.not_false, if_true, if_false, Bool.true_or, Bool.or_true, Bool.and_true, Bool.true_and, Bool.false_eq_true, reduceCtorEq, ↓reduceIte, ↓cond_true, ↓cond_false, List.length_nil, List.length_cons, Nat.zero_add, Nat.reduceAdd, Int.reduceNeg, Int.reduceToNat, Int.reducePow, List.map_cons, List.map_nil, wipeL, backL, Option.getD_some, cmp_ne_non, at_zero, compBody_0, compBody_1, List.set_set, List.getElem?_set_self, at_row0, at_row1, at_row2, at_row3, ix_row0, ix_row1, ix_row2, ix_row3, g_wgt, wt_at h5 h6]; with_reducible exact rfl)
  apply wp_next; focus (simp (disch := omega) only [↓eb_glob, ↓eb_cst, ↓eb_bin, ↓eb_neg, ↓eb_not, ↓eb_and, ↓eb_or, ↓eb_cmp, ↓eb_chain, ↓eb_ite, ↓eb_tup, ↓eb_lst, ↓eb_call, ↓eb_prim, ↓eb_isi, ↓eb_app, ↓eb_idx, ↓eb_comp, ↓et_glob, ↓et_cst, ↓et_bin, ↓et_neg, ↓et_tup, ↓et_lst, ↓et_call, ↓et_prim, ↓et_isi, ↓et_app, ↓et_idx, ↓et_comp, ↓eb_var, ↓ev_var, ↓et_var, ↓ev_glob, ↓ev_cst, ↓ev_bin, ↓ev_neg, ↓ev_not, ↓et_not, ↓ev_and, ↓ev_or, ↓et_and, ↓et_or, ↓ev_cmp, ↓et_cmp, ↓et_chain, ↓ev_chain, ↓ev_ite, ↓et_ite, ↓ev_tup, ↓ev_lst, ↓ev_call, ↓ev_prim, ↓ev_isi, ↓ev_app, ↓ev_idx, ↓ev_comp, ↓ebs_nil, ↓ebs_t, ↓ebs_f, ↓der1_v, ↓der2_v, ↓der1_s, ↓der2_vs, ↓der2_sv, ↓der2_ss, ↓ders_nil, ↓ders_v, ↓ders_s, ↓andK_t, ↓andK_f, ↓orK_t, ↓orK_f, ↓andK_b, ↓orK_b, chnK_b, wp_cal, ↓cal_ok, ↓cmpK_some, ↓dst_expr, ↓dst_asg, ↓asg_var, ↓dst_row, ↓dst_par, ↓dst_set, ↓augK_some, ↓dst_aug, ↓dst_if, ↓forK_some, ↓dst_for, ↓dst_ret_var, ↓dst_ret_glob, ↓dst_ret_cst, ↓dst_ret_bin, ↓dst_ret_neg, ↓dst_ret_not, ↓dst_ret_and, ↓dst_ret_or, ↓dst_ret_cmp, ↓dst_ret_chain, ↓dst_ret_ite, ↓dst_ret_tup, ↓dst_ret_lst, ↓dst_ret_call, ↓dst_ret_prim, ↓dst_ret_isi, ↓dst_ret_idx, ↓dst_ret_comp, negP_int, cond_d, appP, isOwn, ↓bind_ok, wp_bind, ↓wp_ok, wpC_ok, ↓lift_some, setP, filled, forBody, asgT, asgTs, itemsP, seqP, rng1, bin_add, bin_sub, bin_mul, bin_fdiv, bin_mod, bin_pow, aug_add, aug_sub, cmp_lt, cmp_le, cmp_gt, cmp_ge, cmp_eq, cmp_ne, isi_int, isi_bool, isi_str_int, isi_str, isi_tup, isi_lst, prim_len_l, prim_len_t, prim_len_n, prim_int, prim_max, prim_min, prim_sum, idx_l, idx_t, idx_n, idx_r, rowAt_some, pv_val, pv_own, tru_bl, tru_int, tru_lst, tru_tup, tru_non, decide_true, decide_false, List.getElem?_cons_zero, List.getElem?_cons_succ, List.set_cons_zero, List.set_cons_succ, Option.map_some, Option.bind_some, Option.bind_none, ↓fin_next, ↓fin_ret, forQ_next, forQ_ret, retQ_next, retQ_ret, ite_decide, Bool.not_true, Bool.not_false, if_true, if_false, Bool.true_or, Bool.or_true, Bool.and_true, Bool.true_and, Bool.false_eq_true, reduceCtorEq, ↓reduceIte, ↓cond_true, ↓cond_false, List.length_nil, List.length_cons, Nat.zero_add, Nat.reduceAdd, Int.reduceNeg, Int.reduceToNat, Int.reducePow, List.map_cons, List.map_nil, wipeL, backL, Option.getD_some, cmp_ne_non, at_zero, compBody_0, compBody_1, List.set_set, List.getElem?_set_self, at_row0, at_row1, at_row2, at_row3, ix_row0, ix_row1, ix_row2, ix_row3]; with_reducible exact rfl)
  apply wp_for
  · simp (disch := omega) only [↓eb_glob, ↓eb_cst, ↓eb_bin, ↓eb_neg, ↓eb_not, ↓eb_and, ↓eb_or, ↓eb_cmp, ↓eb_chain, ↓eb_ite, ↓eb_tup, ↓eb_lst, ↓eb_call, ↓eb_prim, ↓eb_isi, ↓eb_app, ↓eb_idx, ↓eb_comp, ↓et_glob, ↓et_cst, ↓et_bin, ↓et_neg, ↓et_tup, ↓et_lst, ↓et_call, ↓et_prim, ↓et_isi, ↓et_app, ↓et_idx, ↓et_comp, ↓eb_var, ↓ev_var, ↓et_var, ↓ev_glob, ↓ev_cst, ↓ev_bin, ↓ev_neg, ↓ev_not, ↓et_not, ↓ev_and, ↓ev_or, ↓et_and, ↓et_or, ↓ev_cmp, ↓et_cmp, ↓et_chain, ↓ev_chain, ↓ev_ite, ↓et_ite, ↓ev_tup, ↓ev_lst, ↓ev_call, ↓ev_prim, ↓ev_isi, ↓ev_app, ↓ev_idx, ↓ev_comp, ↓ebs_nil, ↓ebs_t, ↓ebs_f, ↓der1_v, ↓der2_v, ↓der1_s, ↓der2_vs, ↓der2_sv, ↓der2_ss, ↓ders_nil, ↓ders_v, ↓ders_s, ↓andK_t, ↓andK_f, ↓orK_t, ↓orK_f, ↓andK_b, ↓orK_b, chnK_b, wp_cal, ↓cal_ok, ↓cmpK_some, ↓dst_expr, ↓dst_asg, ↓asg_var, ↓dst_row, ↓dst_par, ↓dst_set, ↓augK_some, ↓dst_aug, ↓dst_if, ↓forK_some, ↓dst_for, ↓dst_ret_var, ↓dst_ret_glob, ↓dst_ret_cst, ↓dst_ret_bin, ↓dst_ret_neg, ↓dst_ret_not, ↓dst_ret_and, ↓dst_ret_or, ↓dst_ret_cmp, ↓dst_ret_chain, ↓dst_ret_ite, ↓dst_ret_tup, ↓dst_ret_lst, ↓dst_ret_call, ↓dst_ret_prim, ↓dst_ret_isi, ↓dst_ret_idx, ↓dst_ret_comp, negP_int, cond_d, appP, isOwn, ↓bind_ok, wp_bind, ↓wp_ok, wpC_ok, ↓lift_some, setP, filled, forBody, asgT, asgTs, itemsP, seqP, rng1, bin_add, bin_sub, bin_mul, bin_fdiv, bin_mod, bin_pow, aug_add, aug_sub, cmp_lt, cmp_le, cmp_gt, cmp_ge, cmp_eq, cmp_ne, isi_int, isi_bool, isi_str_int, isi_str, isi_tup, isi_lst, prim_len_l, prim_len_t, prim_len_n, prim_int, prim_max, prim_min, prim_sum, idx_l, idx_t, idx_n, idx_r, rowAt_some, pv_val, pv_own, tru_bl, tru_int, tru_lst, tru_tup, tru_non, decide_true, decide_false, List.getElem?_cons_zero, List.getElem?_cons_succ, List.set_cons_zero, List.set_cons_succ, Option.map_some, Option.bind_some, Option.bind_none, ↓fin_next, ↓fin_ret, forQ_next, forQ_ret, retQ_next, retQ_ret, ite_decide, Bool.not_true, Bool.not_false, if_true, if_false, Bool.true_or, Bool.or_true, Bool.and_true, Bool.true_and, Bool.false_eq_true, reduceCtorEq, ↓reduceIte, ↓cond_true, ↓cond_false, List.length_nil, List.length_cons, Nat.zero_add, Nat.reduceAdd, Int.reduceNeg, Int.reduceToNat, Int.reducePow, List.map_cons, List.map_nil, wipeL, backL, Option.getD_some, cmp_ne_non, at_zero, compBody_0, compBody_1, List.set_set, List.getElem?_set_self, at_row0, at_row1, at_row2, at_row3, ix_row0, ix_row1, ix_row2, ix_row3, g_full]; exact rfl
  · exact rng1 16 (by omega) (by omega)
  refine wp_rng (I := fun k s => ∃ left found o o', s = ⟨[some (.val (.int l)), some (.val (.int v)), some (.val (.int d)), some (.val (.int left)), some (.val (.int found)), o, o'], st⟩ ∧ TU l ((v + wt d - 1) / wt d) = tu l (16 - k).toNat k.toNat left found) 0 16 0 _ (by omega) ⟨_, _, none, none, rfl, by unfold TU; rfl⟩ (fun k s k1 k2 ⟨left, found, o, o', e, e2⟩ => ?_) fun s ⟨left, found, o, o', e, e2⟩ => ?_
  · subst e
    rw [e2]
    have ek : (16 - k).toNat = (16 - (k + 1)).toNat + 1 := by omega
    simp (disch := omega) only [↓eb_glob, ↓eb_cst, ↓eb_bin, ↓eb_neg, ↓eb_not, ↓eb_and, ↓eb_or, ↓eb_cmp, ↓eb_chain, ↓eb_ite, ↓eb_tup, ↓eb_lst, ↓eb_call, ↓eb_prim, ↓eb_isi, ↓eb_app, ↓eb_idx, ↓eb_comp, ↓et_glob, ↓et_cst, ↓et_bin, ↓et_neg, ↓et_tup, ↓et_lst, ↓et_call, ↓et_prim, ↓et_isi, ↓et_app, ↓et_idx, ↓et_comp, ↓eb_var, ↓ev_var, ↓et_var, ↓ev_glob, ↓ev_cst, ↓ev_bin, ↓ev_neg, ↓ev_not, ↓et_not, ↓ev_and, ↓ev_or, ↓et_and, ↓et_or, ↓ev_cmp, ↓et_cmp, ↓et_chain, ↓ev_chain, ↓ev_ite, ↓et_ite, ↓ev_tup, ↓ev_lst, ↓ev_call, ↓ev_prim, ↓ev_isi, ↓ev_app, ↓ev_idx, ↓ev_comp, ↓ebs_nil, ↓ebs_t, ↓ebs_f, ↓der1_v, ↓der2_v, ↓der1_s, ↓der2_vs, ↓der2_sv, ↓der2_ss, ↓ders_nil, ↓ders_v, ↓ders_s, ↓andK_t, ↓andK_f, ↓orK_t, ↓orK_f, ↓andK_b, ↓orK_b, chnK_b, wp_cal, ↓cal_ok, ↓cmpK_some, ↓dst_expr, ↓dst_asg, ↓asg_var, ↓dst_row, ↓dst_par, ↓dst_set, ↓augK_some, ↓dst_aug, ↓dst_if, ↓forK_some, ↓dst_for, ↓dst_ret_var, ↓dst_ret_glob, ↓dst_ret_cst, ↓dst_ret_bin, ↓dst_ret_neg, ↓dst_ret_not, ↓dst_ret_and, ↓dst_ret_or, ↓dst_ret_cmp, ↓dst_ret_chain, ↓dst_ret_ite, ↓dst_ret_tup, ↓dst_ret_lst, ↓dst_ret_call, ↓dst_ret_prim, ↓dst_ret_isi, ↓dst_ret_idx, ↓dst_ret_comp, negP_int, cond_d, appP, isOwn, ↓bind_ok, wp_bind, ↓wp_ok, wpC_ok, ↓lift_some, setP, filled, forBody, asgT, asgTs, itemsP, seqP, rng1, bin_add, bin_sub, bin_mul, bin_fdiv, bin_mod, bin_pow, aug_add, aug_sub, cmp_lt, cmp_le, cmp_gt, cmp_ge, cmp_eq, cmp_ne, isi_int, isi_bool, isi_str_int, isi_str, isi_tup, isi_lst, prim_len_l, prim_len_t, prim_len_n, prim_int, prim_max, prim_min, prim_sum, idx_l, idx_t, idx_n, idx_r, rowAt_some, pv_val, pv_own, tru_bl, tru_int, tru_lst, tru_tup, tru_non, decide_true, decide_false, List.getElem?_cons_zero, List.getElem?_cons_succ, List.set_cons_zero, List.set_cons_succ, Option.map_some, Option.bind_some, Option.bind_none, ↓fin_next, ↓fin_ret, forQ_next, forQ_ret, retQ_next, retQ_ret, ite_decide, Bool.not_true, Bool.not_false, if_true, if_false, Bool.true_or, Bool.or_true, Bool.and_true, Bool.true_and, Bool.false_eq_true, reduceCtorEq, ↓reduceIte, ↓cond_true, ↓cond_false, List.length_nil, List.length_cons, Nat.zero_add, Nat.reduceAdd, Int.reduceNeg, Int.reduceToNat, Int.reducePow, List.map_cons, List.map_nil, wipeL, backL, Option.getD_some, cmp_ne_non, at_zero, compBody_0, compBody_1, List.set_set, List.getElem?_set_self, at_row0, at_row1, at_row2, at_row3, ix_row0, ix_row1, ix_row2, ix_row3]
    apply wp_next; focus (simp (disch := omega) only [↓eb_glob, ↓eb_cst, ↓eb_bin, ↓eb_neg, ↓eb_not, ↓eb_and, ↓eb_or, ↓eb_cmp, ↓eb_chain, ↓eb_ite, ↓eb_tup, ↓eb_lst, ↓eb_call, ↓eb_prim, ↓eb_isi, ↓eb_app, ↓eb_idx, ↓eb_comp, ↓et_glob, ↓et_cst, ↓et_bin, ↓et_neg, ↓et_tup, ↓et_lst, ↓et_call, ↓et_prim, ↓et_isi, ↓et_app, ↓et_idx, ↓et_comp, ↓eb_var, ↓ev_var, ↓et_var, ↓ev_glob, ↓ev_cst, ↓ev_bin, ↓ev_neg, ↓ev_not, ↓et_not, ↓ev_and, ↓ev_or, ↓et_and, ↓et_or, ↓ev_cmp, ↓et_cmp, ↓et_chain, ↓ev_chain, ↓ev_ite, ↓et_ite, ↓ev_tup, ↓ev_lst, ↓ev_call, ↓ev_prim, ↓ev_isi, ↓ev_app, ↓ev_idx, ↓ev_comp, ↓ebs_nil, ↓ebs_t, ↓ebs_f, ↓der1_v, ↓der2_v, ↓der1_s, ↓der2_vs, ↓der2_sv, ↓der2_ss, ↓ders_nil, ↓ders_v, ↓ders_s, ↓andK_t, ↓andK_f, ↓orK_t, ↓orK_f, ↓andK_b, ↓orK_b, chnK_b, wp_cal, ↓cal_ok, ↓cmpK_some, ↓dst_expr, ↓dst_asg, ↓asg_var, ↓dst_row, ↓dst_par, ↓dst_set, ↓augK_some, ↓dst_aug, ↓dst_if, ↓forK_some, ↓dst_for, ↓dst_ret_var, ↓dst_ret_glob, ↓dst_ret_cst, ↓dst_ret_bin, ↓dst_ret_neg, ↓dst_ret_not, ↓dst_ret_and, ↓dst_ret_or, ↓dst_ret_cmp, ↓dst_ret_chain, ↓dst_ret_ite, ↓dst_ret_tup, ↓dst_ret_lst, ↓dst_ret_call, ↓dst_ret_prim, ↓dst_ret_isi, ↓dst_ret_idx, ↓dst_ret_comp, negP_int, cond_d, appP, isOwn, ↓bind_ok, wp_bind, ↓wp_ok, wpC_ok, ↓lift_some, setP, filled, forBody, asgT, asgTs, itemsP, seqP, rng1, bin_add, bin_sub, bin_mul, bin_fdiv, bin_mod, bin_pow, aug_add, aug_sub, cmp_lt, cmp_le, cmp_gt, cmp_ge, cmp_eq, cmp_ne, isi_int, isi_bool, isi_str_int, isi_str, isi_tup, isi_lst, prim_len_l, prim_len_t, prim_len_n, prim_int, prim_max, prim_min, prim_sum, idx_l, idx_t, idx_n, idx_r, rowAt_some, pv_val, pv_own, tru_bl, tru_int, tru_lst, tru_tup, tru_non, decide_true, decide_false, List.getElem?_cons_zero, List.getElem?_cons_succ, List.set_cons_zero, List.set_cons_succ, Option.map_some, Option.bind_some, Option.bind_none, ↓fin_next, ↓fin_ret, forQ_next, forQ_ret, retQ_next, retQ_ret, ite_decide, Bool.not_true, Bool.not_false, if_true, if_false, Bool.true_or, Bool.or_true, Bool.and_true, Bool.true_and, Bool.false_eq_true, reduceCtorEq, ↓reduceIte, ↓cond_true, ↓cond_false, List.length_nil, List.length_cons, Nat.zero_add, Nat.reduceAdd, Int.reduceNeg, Int.reduceToNat, Int.reducePow, List.map_cons, List.map_nil, wipeL, backL, Option.getD_some, cmp_ne_non, at_zero, compBody_0, compBody_1, List.set_set, List.getElem?_set_self, at_row0, at_row1, at_row2, at_row3, ix_row0, ix_row1, ix_row2, ix_row3, g_full]; with_reducible exact rfl)
    rw [ek]
    rw [tu_succ, show ((k.toNat : Nat) : Int) = k by omega]
    by_cases g : left ≤ (16 - k) * l
    · rw [if_pos g]
      apply wp_if (b := true); focus (simp (disch := omega) only [↓eb_glob, ↓eb_cst, ↓eb_bin, ↓eb_neg, ↓eb_not, ↓eb_and, ↓eb_or, ↓eb_cmp, ↓eb_chain, ↓eb_ite, ↓eb_tup, ↓eb_lst, ↓eb_call, ↓eb_prim, ↓eb_isi, ↓eb_app, ↓eb_idx, ↓eb_comp, ↓et_glob, ↓et_cst, ↓et_bin, ↓et_neg, ↓et_tup, ↓et_lst, ↓et_call, ↓et_prim, ↓et_isi, ↓et_app, ↓et_idx, ↓et_comp, ↓eb_var, ↓ev_var, ↓et_var, ↓ev_glob, ↓ev_cst, ↓ev_bin, ↓ev_neg, ↓ev_not, ↓et_not, ↓ev_and, ↓ev_or, ↓et_and, ↓et_or, ↓ev_cmp, ↓et_cmp, ↓et_chain, ↓ev_chain, ↓ev_ite, ↓et_ite, ↓ev_tup, ↓ev_lst, ↓ev_call, ↓ev_prim, ↓ev_isi, ↓ev_app, ↓ev_idx, ↓ev_comp, ↓ebs_nil, ↓ebs_t, ↓ebs_f, ↓der1_v, ↓der2_v, ↓der1_s, ↓der2_vs, ↓der2_sv, ↓der2_ss, ↓ders_nil, ↓ders_v, ↓ders_s, ↓andK_t, ↓andK_f, ↓orK_t, ↓orK_f, ↓andK_b, ↓orK_b, chnK_b, wp_cal, ↓cal_ok, ↓cmpK_some, ↓dst_expr, ↓dst_asg, ↓asg_var, ↓dst_row, ↓dst_par, ↓dst_set, ↓augK_some, ↓dst_aug, ↓dst_if, ↓forK_some, ↓dst_for, ↓dst_ret_var, ↓dst_ret_glob, ↓dst_ret_cst, ↓dst_ret_bin, ↓dst_ret_neg, ↓dst_ret_not, ↓dst_ret_and, ↓dst_ret_or, ↓dst_ret_cmp, ↓dst_ret_chain, ↓dst_ret_ite, ↓dst_ret_tup, ↓dst_ret_lst, ↓dst_ret_call, ↓dst_ret_prim, ↓dst_ret_isi, ↓dst_ret_idx, ↓dst_ret_comp, negP_int, cond_d, appP, isOwn, ↓bind_ok, wp_bind, ↓wp_ok, wpC_ok, ↓lift_some, setP, filled, forBody, asgT, asgTs, itemsP, seqP, rng1, bin_add, bin_sub, bin_mul, bin_fdiv, bin_mod, bin_pow, aug_add, aug_sub, cmp_lt, cmp_le, cmp_gt, cmp_ge, cmp_eq, cmp_ne, isi_int, isi_bool, isi_str_int, isi_str, isi_tup, isi_lst, prim_len_l, prim_len_t, prim_len_n, prim_int, prim_max, prim_min, prim_sum, idx_l, idx_t, idx_n, idx_r, rowAt_some, pv_val, pv_own, tru_bl, tru_int, tru_lst, tru_tup, tru_non, decide_true, decide_false, List.getElem?_cons_zero, List.getElem?_cons_succ, List.set_cons_zero, List.set_cons_succ, Option.map_some, Option.bind_some, Option.bind_none, ↓fin_next, ↓fin_ret, forQ_next, forQ_ret, retQ_next, retQ_ret, ite_decide, Bool.not_true, Bool.not_false, if_true, if_false, Bool.true_or, Bool.or_true, Bool.and_true, Bool.true_and, Bool.false_eq_true, reduceCtorEq, ↓reduceIte, ↓cond_true, ↓cond_false, List.length_nil, List.length_cons, Nat.zero_add, Nat.reduceAdd, Int.reduceNeg, Int.reduceToNat, Int.reducePow, List.map_cons, List.map_nil, wipeL, backL, Option.getD_some, cmp_ne_non, at_zero, compBody_0, compBody_1, List.set_set, List.getElem?_set_self, at_row0, at_row1, at_row2, at_row3, ix_row0, ix_row1, ix_row2, ix_row3, g]; with_reducible exact rfl)
      apply wp_ret; focus (simp (disch := omega) only [↓eb_glob, ↓eb_cst, ↓eb_bin, ↓eb_neg, ↓eb_not, ↓eb_and, ↓eb_or, ↓eb_cmp, ↓eb_chain, ↓eb_ite, ↓eb_tup, ↓eb_lst, ↓eb_call, ↓eb_prim, ↓eb_isi, ↓eb_app, ↓eb_idx, ↓eb_comp, ↓et_glob, ↓et_cst, ↓et_bin, ↓et_neg, ↓et_tup, ↓et_lst, ↓et_call, ↓et_prim, ↓et_isi, ↓et_app, ↓et_idx, ↓et_comp, ↓eb_var, ↓ev_var, ↓et_var, ↓ev_glob, ↓ev_cst, ↓ev_bin, ↓ev_neg, ↓ev_not, ↓et_not, ↓ev_and, ↓ev_or, ↓et_and, ↓et_or, ↓ev_cmp, ↓et_cmp, ↓et_chain, ↓ev_chain, ↓ev_ite, ↓et_ite, ↓ev_tup, ↓ev_lst, ↓ev_call, ↓ev_prim, ↓ev_isi, ↓ev_app, ↓ev_idx, ↓ev_comp, ↓ebs_nil, ↓ebs_t, ↓ebs_f, ↓der1_v, ↓der2_v, ↓der1_s, ↓der2_vs, ↓der2_sv, ↓der2_ss, ↓ders_nil, ↓ders_v, ↓ders_s, ↓andK_t, ↓andK_f, ↓orK_t, ↓orK_f, ↓andK_b, ↓orK_b, chnK_b, wp_cal, ↓cal_ok, ↓cmpK_some, ↓dst_expr, ↓dst_asg, ↓asg_var, ↓dst_row, ↓dst_par, ↓dst_set, ↓augK_some, ↓dst_aug, ↓dst_if, ↓forK_some, ↓dst_for, ↓dst_ret_var, ↓dst_ret_glob, ↓dst_ret_cst, ↓dst_ret_bin, ↓dst_ret_neg, ↓dst_ret_not, ↓dst_ret_and, ↓dst_ret_or, ↓dst_ret_cmp, ↓dst_ret_chain, ↓dst_ret_ite, ↓dst_ret_tup, ↓dst_ret_lst, ↓dst_ret_call, ↓dst_ret_prim, ↓dst_ret_isi, ↓dst_ret_idx, ↓dst_ret_comp, negP_int, cond_d, appP, isOwn, ↓bind_ok, wp_bind, ↓wp_ok, wpC_ok, ↓lift_some, setP, filled, forBody, asgT, asgTs, itemsP, seqP, rng1, bin_add, bin_sub, bin_mul, bin_fdiv, bin_mod, bin_pow, aug_add, aug_sub, cmp_lt, cmp_le, cmp_gt, cmp_ge, cmp_eq, cmp_ne, isi_int, isi_bool, isi_str_int, isi_str, isi_tup, isi_lst, prim_len_l, prim_len_t, prim_len_n, prim_int, prim_max, prim_min, prim_sum, idx_l, idx_t, idx_n, idx_r, rowAt_some, pv_val, pv_own, tru_bl, tru_int, tru_lst, tru_tup, tru_non, decide_true, decide_false, List.getElem?_cons_zero, List.getElem?_cons_succ, List.set_cons_zero, List.set_cons_succ, Option.map_some, Option.bind_some, Option.bind_none, ↓fin_next, ↓fin_ret, forQ_next, forQ_ret, retQ_next, retQ_ret, ite_decide, Bool.not_true, Bool.not_false, if_true, if_false, Bool.true_or, Bool.or_true, Bool.and_true, Bool.true_and, Bool.false_eq_true, reduceCtorEq, ↓reduceIte, ↓cond_true, ↓cond_false, List.length_nil, List.length_cons, Nat.zero_add, Nat.reduceAdd, Int.reduceNeg, Int.reduceToNat, Int.reducePow, List.map_cons, List.map_nil, wipeL, backL, Option.getD_some, cmp_ne_non, at_zero, compBody_0, compBody_1, List.set_set, List.getElem?_set_self, at_row0, at_row1, at_row2, at_row3, ix_row0, ix_row1, ix_row2, ix_row3]; with_reducible exact rfl)
      exact ⟨rfl, rfl⟩
    · rw [if_neg g]
      apply wp_if (b := false); focus (simp (disch := omega) only [↓eb_glob, ↓eb_cst, ↓eb_bin, ↓eb_neg, ↓eb_not, ↓eb_and, ↓eb_or, ↓eb_cmp, ↓eb_chain, ↓eb_ite, ↓eb_tup, ↓eb_lst, ↓eb_call, ↓eb_prim, ↓eb_isi, ↓eb_app, ↓eb_idx, ↓eb_comp, ↓et_glob, ↓et_cst, ↓et_bin, ↓et_neg, ↓et_tup, ↓et_lst, ↓et_call, ↓et_prim, ↓et_isi, ↓et_app, ↓et_idx, ↓et_comp, ↓eb_var, ↓ev_var, ↓et_var, ↓ev_glob, ↓ev_cst, ↓ev_bin, ↓ev_neg, ↓ev_not, ↓et_not, ↓ev_and, ↓ev_or, ↓et_and, ↓et_or, ↓ev_cmp, ↓et_cmp, ↓et_chain, ↓ev_chain, ↓ev_ite, ↓et_ite, ↓ev_tup, ↓ev_lst, ↓ev_call, ↓ev_prim, ↓ev_isi, ↓ev_app, ↓ev_idx, ↓ev_comp, ↓ebs_nil, ↓ebs_t, ↓ebs_f, ↓der1_v, ↓der2_v, ↓der1_s, ↓der2_vs, ↓der2_sv, ↓der2_ss, ↓ders_nil, ↓ders_v, ↓ders_s, ↓andK_t, ↓andK_f, ↓orK_t, ↓orK_f, ↓andK_b, ↓orK_b, chnK_b, wp_cal, ↓cal_ok, ↓cmpK_some, ↓dst_expr, ↓dst_asg, ↓asg_var, ↓dst_row, ↓dst_par, ↓dst_set, ↓augK_some, ↓dst_aug, ↓dst_if, ↓forK_some, ↓dst_for, ↓dst_ret_var, ↓dst_ret_glob, ↓dst_ret_cst, ↓dst_ret_bin, ↓dst_ret_neg, ↓dst_ret_not, ↓dst_ret_and, ↓dst_ret_or, ↓dst_ret_cmp, ↓dst_ret_chain, ↓dst_ret_ite, ↓dst_ret_tup, ↓dst_ret_lst, ↓dst_ret_call, ↓dst_ret_prim, ↓dst_ret_isi, ↓dst_ret_idx, ↓dst_ret_comp, negP_int, cond_d, appP, isOwn, ↓bind_ok, wp_bind, ↓wp_ok, wpC_ok, ↓lift_some, setP, filled, forBody, asgT, asgTs, itemsP, seqP, rng1, bin_add, bin_sub, bin_mul, bin_fdiv, bin_mod, bin_pow, aug_add, aug_sub, cmp_lt, cmp_le, cmp_gt, cmp_ge, cmp_eq, cmp_ne, isi_int, isi_bool, isi_str_int, isi_str, isi_tup, isi_lst, prim_len_l, prim_len_t, prim_len_n, prim_int, prim_max, prim_min, prim_sum, idx_l, idx_t, idx_n, idx_r, rowAt_some, pv_val, pv_own, tru_bl, tru_int, tru_lst, tru_tup, tru_non, decide_true, decide_false, List.getElem?_cons_zero, List.getElem?_cons_succ, List.set_cons_zero, List.set_cons_succ, Option.map_some, Option.bind_some, Option.bind_none, ↓fin_next, ↓fin_ret, forQ_next, forQ_ret, retQ_next, retQ_ret, ite_decide, Bool.not_true, Bool.not_false, if_true, if_false, Bool.true_or, Bool.or_true, Bool.and_true, Bool.true_and, Bool.false_eq_true, reduceCtorEq, ↓reduceIte, ↓cond_true, ↓cond_false, List.length_nil, List.length_cons, Nat.zero_add, Nat.reduceAdd, Int.reduceNeg, Int.reduceToNat, Int.reducePow, List.map_cons, List.map_nil, wipeL, backL, Option.getD_some, cmp_ne_non, at_zero, compBody_0, compBody_1, List.set_set, List.getElem?_set_self, at_row0, at_row1, at_row2, at_row3, ix_row0, ix_row1, ix_row2, ix_row3, g]; with_reducible exact rfl)
      refine wp_nilF ?_
      apply wp_next; focus (simp (disch := omega) only [↓eb_glob, ↓eb_cst, ↓eb_bin, ↓eb_neg, ↓eb_not, ↓eb_and, ↓eb_or, ↓eb_cmp, ↓eb_chain, ↓eb_ite, ↓eb_tup, ↓eb_lst, ↓eb_call, ↓eb_prim, ↓eb_isi, ↓eb_app, ↓eb_idx, ↓eb_comp, ↓et_glob, ↓et_cst, ↓et_bin, ↓et_neg, ↓et_tup, ↓et_lst, ↓et_call, ↓et_prim, ↓et_isi, ↓et_app, ↓et_idx, ↓et_comp, ↓eb_var, ↓ev_var, ↓et_var, ↓ev_glob, ↓ev_cst, ↓ev_bin, ↓ev_neg, ↓ev_not, ↓et_not, ↓ev_and, ↓ev_or, ↓et_and, ↓et_or, ↓ev_cmp, ↓et_cmp, ↓et_chain, ↓ev_chain, ↓ev_ite, ↓et_ite, ↓ev_tup, ↓ev_lst, ↓ev_call, ↓ev_prim, ↓ev_isi, ↓ev_app, ↓ev_idx, ↓ev_comp, ↓ebs_nil, ↓ebs_t, ↓ebs_f, ↓der1_v, ↓der2_v, ↓der1_s, ↓der2_vs, ↓der2_sv, ↓der2_ss, ↓ders_nil, ↓ders_v, ↓ders_s, ↓andK_t, ↓andK_f, ↓orK_t, ↓orK_f, ↓andK_b, ↓orK_b, chnK_b, wp_cal, ↓cal_ok, ↓cmpK_some, ↓dst_expr, ↓dst_asg, ↓asg_var, ↓dst_row, ↓dst_par, ↓dst_set, ↓augK_some, ↓dst_aug, ↓dst_if, ↓forK_some, ↓dst_for, ↓dst_ret_var, ↓dst_ret_glob, ↓dst_ret_cst, ↓dst_ret_bin, ↓dst_ret_neg, ↓dst_ret_not, ↓dst_ret_and, ↓dst_ret_or, ↓dst_ret_cmp, ↓dst_ret_chain, ↓dst_ret_ite, ↓dst_ret_tup, ↓dst_ret_lst, ↓dst_ret_call, ↓dst_ret_prim, ↓dst_ret_isi, ↓dst_ret_idx, ↓dst_ret_comp, negP_int, cond_d, appP, isOwn, ↓bind_ok, wp_bind, ↓wp_ok, wpC_ok, ↓lift_some, setP, filled, forBody, asgT, asgTs, itemsP, seqP, rng1, bin_add, bin_sub, bin_mul, bin_fdiv, bin_mod, bin_pow, aug_add, aug_sub, cmp_lt, cmp_le, cmp_gt, cmp_ge, cmp_eq, cmp_ne, isi_int, isi_bool, isi_str_int, isi_str, isi_tup, isi_lst, prim_len_l, prim_len_t, prim_len_n, prim_int, prim_max, prim_min, prim_sum, idx_l, idx_t, idx_n, idx_r, rowAt_some, pv_val, pv_own, tru_bl, tru_int, tru_lst, tru_tup, tru_non, decide_true, decide_false, List.getElem?_cons_zero, List.getElem?_cons_succ, List.set_cons_zero, List.set_cons_succ, Option.map_some, Option.bind_some, Option.bind_none, ↓fin_next, ↓fin_ret, forQ_next, forQ_ret, retQ_next, retQ_ret, ite_decide, Bool.not_true, Bool.not_false, if_true, if_false, Bool.true_or, Bool.or_true, Bool.and_true, Bool.true_and, Bool.false_eq_true, reduceCtorEq, ↓reduceIte, ↓cond_true, ↓cond_false, List.length_nil, List.length_cons, Nat.zero_add, Nat.reduceAdd, Int.reduceNeg, Int.reduceToNat, Int.reducePow, List.map_cons, List.map_nil, wipeL, backL, Option.getD_some, cmp_ne_non, at_zero, compBody_0, compBody_1, List.set_set, List.getElem?_set_self, at_row0, at_row1, at_row2, at_row3, ix_row0, ix_row1, ix_row2, ix_row3]; with_reducible exact rfl)
      apply wp_next; focus (simp (disch := omega) only [↓eb_glob, ↓eb_cst, ↓eb_bin, ↓eb_neg, ↓eb_not, ↓eb_and, ↓eb_or, ↓eb_cmp, ↓eb_chain, ↓eb_ite, ↓eb_tup, ↓eb_lst, ↓eb_call, ↓eb_prim, ↓eb_isi, ↓eb_app, ↓eb_idx, ↓eb_comp, ↓et_glob, ↓et_cst, ↓et_bin, ↓et_neg, ↓et_tup, ↓et_lst, ↓et_call, ↓et_prim, ↓et_isi, ↓et_app, ↓et_idx, ↓et_comp, ↓eb_var, ↓ev_var, ↓et_var, ↓ev_glob, ↓ev_cst, ↓ev_bin, ↓ev_neg, ↓ev_not, ↓et_not, ↓ev_and, ↓ev_or, ↓et_and, ↓et_or, ↓ev_cmp, ↓et_cmp, ↓et_chain, ↓ev_chain, ↓ev_ite, ↓et_ite, ↓ev_tup, ↓ev_lst, ↓ev_call, ↓ev_prim, ↓ev_isi, ↓ev_app, ↓ev_idx, ↓ev_comp, ↓ebs_nil, ↓ebs_t, ↓ebs_f, ↓der1_v, ↓der2_v, ↓der1_s, ↓der2_vs, ↓der2_sv, ↓der2_ss, ↓ders_nil, ↓ders_v, ↓ders_s, ↓andK_t, ↓andK_f, ↓orK_t, ↓orK_f, ↓andK_b, ↓orK_b, chnK_b, wp_cal, ↓cal_ok, ↓cmpK_some, ↓dst_expr, ↓dst_asg, ↓asg_var, ↓dst_row, ↓dst_par, ↓dst_set, ↓augK_some, ↓dst_aug, ↓dst_if, ↓forK_some, ↓dst_for, ↓dst_ret_var, ↓dst_ret_glob, ↓dst_ret_cst, ↓dst_ret_bin, ↓dst_ret_neg, ↓dst_ret_not, ↓dst_ret_and, ↓dst_ret_or, ↓dst_ret_cmp, ↓dst_ret_chain, ↓dst_ret_ite, ↓dst_ret_tup, ↓dst_ret_lst, ↓dst_ret_call, ↓dst_ret_prim, ↓dst_ret_isi, ↓dst_ret_idx, ↓dst_ret_comp, negP_int, cond_d, appP, isOwn, ↓bind_ok, wp_bind, ↓wp_ok, wpC_ok, ↓lift_some, setP, filled, forBody, asgT, asgTs, itemsP, seqP, rng1, bin_add, bin_sub, bin_mul, bin_fdiv, bin_mod, bin_pow, aug_add, aug_sub, cmp_lt, cmp_le, cmp_gt, cmp_ge, cmp_eq, cmp_ne, isi_int, isi_bool, isi_str_int, isi_str, isi_tup, isi_lst, prim_len_l, prim_len_t, prim_len_n, prim_int, prim_max, prim_min, prim_sum, idx_l, idx_t, idx_n, idx_r, rowAt_some, pv_val, pv_own, tru_bl, tru_int, tru_lst, tru_tup, tru_non, decide_true, decide_false, List.getElem?_cons_zero, List.getElem?_cons_succ, List.set_cons_zero, List.set_cons_succ, Option.map_some, Option.bind_some, Option.bind_none, ↓fin_next, ↓fin_ret, forQ_next, forQ_ret, retQ_next, retQ_ret, ite_decide, Bool.not_true, Bool.not_false, if_true, if_false, Bool.true_or, Bool.or_true, Bool.and_true, Bool.true_and, Bool.false_eq_true, reduceCtorEq, ↓reduceIte, ↓cond_true, ↓cond_false, List.length_nil, List.length_cons, Nat.zero_add, Nat.reduceAdd, Int.reduceNeg, Int.reduceToNat, Int.reducePow, List.map_cons, List.map_nil, wipeL, backL, Option.getD_some, cmp_ne_non, at_zero, compBody_0, compBody_1, List.set_set, List.getElem?_set_self, at_row0, at_row1, at_row2, at_row3, ix_row0, ix_row1, ix_row2, ix_row3]; with_reducible exact rfl)
      refine wp_nil _ _ _ ⟨_, _, _, _, rfl, ?_⟩
      rw [show (k + 1).toNat = k.toNat + 1 by omega]
  · subst e
    rw [e2, fin_next]
    apply wp_ret; focus (simp (disch := omega) only [↓eb_glob, ↓eb_cst, ↓eb_bin, ↓eb_neg, ↓eb_not, ↓eb_and, ↓eb_or, ↓eb_cmp, ↓eb_chain, ↓eb_ite, ↓eb_tup, ↓eb_lst, ↓eb_call, ↓eb_prim, ↓eb_isi, ↓eb_app, ↓eb_idx, ↓eb_comp, ↓et_glob, ↓et_cst, ↓et_bin, ↓et_neg, ↓et_tup, ↓et_lst, ↓et_call, ↓et_prim, ↓et_isi, ↓et_app, ↓et_idx, ↓et_comp, ↓eb_var, ↓ev_var, ↓et_var, ↓ev_glob, ↓ev_cst, ↓ev_bin, ↓ev_neg, ↓ev_not, ↓et_not, ↓ev_and, ↓ev_or, ↓et_and, ↓et_or, ↓ev_cmp, ↓et_cmp, ↓et_chain, ↓ev_chain, ↓ev_ite, ↓et_ite, ↓ev_tup, ↓ev_lst, ↓ev_call, ↓ev_prim, ↓ev_isi, ↓ev_app, ↓ev_idx, ↓ev_comp, ↓ebs_nil, ↓ebs_t, ↓ebs_f, ↓der1_v, ↓der2_v, ↓der1_s, ↓der2_vs, ↓der2_sv, ↓der2_ss, ↓ders_nil, ↓ders_v, ↓ders_s, ↓andK_t, ↓andK_f, ↓orK_t, ↓orK_f, ↓andK_b, ↓orK_b, chnK_b, wp_cal, ↓cal_ok, ↓cmpK_some, ↓dst_expr, ↓dst_asg, ↓asg_var, ↓dst_row, ↓dst_par, ↓dst_set, ↓augK_some, ↓dst_aug, ↓dst_if, ↓forK_some, ↓dst_for, ↓dst_ret_var, ↓dst_ret_glob, ↓dst_ret_cst, ↓dst_ret_bin, ↓dst_ret_neg, ↓dst_ret_not, ↓dst_ret_and, ↓dst_ret_or, ↓dst_ret_cmp, ↓dst_ret_chain, ↓dst_ret_ite, ↓dst_ret_tup, ↓dst_ret_lst, ↓dst_ret_call, ↓dst_ret_prim, ↓dst_ret_isi, ↓dst_ret_idx, ↓dst_ret_comp, negP_int, cond_d, appP, isOwn, ↓bind_ok, wp_bind, ↓wp_ok, wpC_ok, ↓lift_some, setP, filled, forBody, asgT, asgTs, itemsP, seqP, rng1, bin_add, bin_sub, bin_mul, bin_fdiv, bin_mod, bin_pow, aug_add, aug_sub, cmp_lt, cmp_le, cmp_gt, cmp_ge, cmp_eq, cmp_ne, isi_int, isi_bool, isi_str_int, isi_str, isi_tup, isi_lst, prim_len_l, prim_len_t, prim_len_n, prim_int, prim_max, prim_min, prim_sum, idx_l, idx_t, idx_n, idx_r, rowAt_some, pv_val, pv_own, tru_bl, tru_int, tru_lst, tru_tup, tru_non, decide_true, decide_false, List.getElem?_cons_zero, List.getElem?_cons_succ, List.set_cons_zero, List.set_cons_succ, Option.map_some, Option.bind_some, Option.bind_none, ↓fin_next, ↓fin_ret, forQ_next, forQ_ret, retQ_next, retQ_ret, ite_decide, Bool.not_true, Bool.not_false, if_true, if_false, Bool.true_or, Bool.or_true, Bool.and_true, Bool.true_and, Bool.false_eq_true, reduceCtorEq, ↓reduceIte, ↓cond_true, ↓cond_false, List.length_nil, List.length_cons, Nat.zero_add, Nat.reduceAdd, Int.reduceNeg, Int.reduceToNat, Int.reducePow, List.map_cons, List.map_nil, wipeL, backL, Option.getD_some, cmp_ne_non, at_zero, compBody_0, compBody_1, List.set_set, List.getElem?_set_self, at_row0, at_row1, at_row2, at_row3, ix_row0, ix_row1, ix_row2, ix_row3]; with_reducible exact rfl)
    exact ⟨rfl, rfl⟩
theorem weight_ok {n : Nat} {st : Sto} {d : Int} (h5 : 0 ≤ d) (h6 : d ≤ 4) : callP fs gl (n + 1) "_law_weight" [.int d] st = .ok (.val (.int (wt d))) st := by
  refine WpC.eq (wp_fn f_law_weight rfl ?_)
  show Wp (dsts _ b_law_weight ⟨[some (.val (.int d))], st⟩) _
  unfold b_law_weight
  apply wp_ret; focus (simp (disch := omega) only [↓eb_glob, ↓eb_cst, ↓eb_bin, ↓eb_neg, ↓eb_not, ↓eb_and, ↓eb_or, ↓eb_cmp, ↓eb_chain, ↓eb_ite, ↓eb_tup, ↓eb_lst, ↓eb_call, ↓eb_prim, ↓eb_isi, ↓eb_app, ↓eb_idx, ↓eb_comp, ↓et_glob, ↓et_cst, ↓et_bin, ↓et_neg, ↓et_tup, ↓et_lst, ↓et_call, ↓et_prim, ↓et_isi, ↓et_app, ↓et_idx, ↓et_comp, ↓eb_var, ↓ev_var, ↓et_var, ↓ev_glob, ↓ev_cst, ↓ev_bin, ↓ev_neg, ↓ev_not, ↓et_not, ↓ev_and, ↓ev_or, ↓et_and, ↓et_or, ↓ev_cmp, ↓et_cmp, ↓et_chain, ↓ev_chain, ↓ev_ite, ↓et_ite, ↓ev_tup, ↓ev_lst, ↓ev_call, ↓ev_prim, ↓ev_isi, ↓ev_app, ↓ev_idx, ↓ev_comp, ↓ebs_nil, ↓ebs_t, ↓ebs_f, ↓der1_v, ↓der2_v, ↓der1_s, ↓der2_vs, ↓der2_sv, ↓der2_ss, ↓ders_nil, ↓ders_v, ↓ders_s, ↓andK_t, ↓andK_f, ↓orK_t, ↓orK_f, ↓andK_b, ↓orK_b, chnK_b, wp_cal, ↓cal_ok, ↓cmpK_some, ↓dst_expr, ↓dst_asg, ↓asg_var, ↓dst_row, ↓dst_par, ↓dst_set, ↓augK_some, ↓dst_aug, ↓dst_if, ↓forK_some, ↓dst_for, ↓dst_ret_var, ↓dst_ret_glob, ↓dst_ret_cst, ↓dst_ret_bin, ↓dst_ret_neg, ↓dst_ret_not, ↓dst_ret_and, ↓dst_ret_or, ↓dst_ret_cmp, ↓dst_ret_chain, ↓dst_ret_ite, ↓dst_ret_tup, ↓dst_ret_lst, ↓dst_ret_call, ↓dst_ret_prim, ↓dst_ret_isi, ↓dst_ret_idx, ↓dst_ret_comp, negP_int, cond_d, appP, isOwn, ↓bind_ok, wp_bind, ↓wp_ok, wpC_ok, ↓lift_some, setP, filled, forBody, asgT, asgTs, itemsP, seqP, rng1, bin_add, bin_sub, bin_mul, bin_fdiv, bin_mod, bin_pow, aug_add, aug_sub, cmp_lt, cmp_le, cmp_gt, cmp_ge, cmp_eq, cmp_ne, isi_int, isi_bool, isi_str_int, isi_str, isi_tup, isi_lst, prim_len_l, prim_len_t, prim_len_n, prim_int, prim_max, prim_min, prim_sum, idx_l, idx_t, idx_n, idx_r, rowAt_some, pv_val, pv_own, tru_bl, tru_int, tru_lst, tru_tup, tru_non, decide_true, decide_false, List.getElem?_cons_zero, List.getElem?_cons_succ, List.set_cons_zero, List.set_cons_succ, Option.map_some, Option.bind_some, Option.bind_none, ↓fin_next, ↓fin_ret, forQ_next, forQ_ret, retQ_next, retQ_ret, ite_decide, Bool.not_true, Bool.not_false, if_true, if_false, Bool.true_or, Bool.or_true, Bool.and_true, Bool.true_and, Bool.false_eq_true, reduceCtorEq, ↓reduceIte, ↓cond_true, ↓cond_false, List.length_nil, List.length_cons, Nat.zero_add, Nat.reduceAdd, Int.reduceNeg, Int.reduceToNat, Int.reducePow, List.map_cons, List.map_nil, wipeL, backL, Option.getD_some, cmp_ne_non, at_zero, compBody_0, compBody_1, List.set_set, List.getElem?_set_self, at_row0, at_row1, at_row2, at_row3, ix_row0, ix_row1, ix_row2, ix_row3, wt_at h5 h6]; with_reducible exact rfl)
  exact ⟨rfl, rfl⟩
end PI.Law

set_option linter.all false
set_option autoImplicit false
set_option maxRecDepth 100000
set_option maxHeartbeats 400000
namespace PI.Law
open PySem PI
theorem f_tk : fs "_law_taken" = some ⟨2, 4, tkBody⟩ := f_law_taken
def rowsL (l w : Int) (n : Nat) : List PV := (List.range (n + 1)).map fun (j : Nat) => PV.int (L l (j : Int) * w)
theorem rowsL_len (l w : Int) (n : Nat) : (rowsL l w n).length = n + 1 := by simp [rowsL]
theorem rowsL_succ (l w : Int) (n : Nat) : rowsL l w (n + 1) = rowsL l w n ++ [.int (L l ((n : Int) + 1) * w)] := by
  unfold rowsL
  rw [List.range_succ, List.map_append]
  rfl
theorem rowsL_at (l w : Int) (n : Nat) {i : Int} (h0 : 0 ≤ i) (h1 : i ≤ n) : L2.atI (rowsL l w n) i = some (.int (L l i * w)) := by
  rw [at_pos _ _ ⟨h0, by rw [rowsL_len]; omega⟩]
  unfold rowsL
  rw [List.getElem?_map, List.getElem?_range (by omega)]
  show some (PV.int (L l (i.toNat : Int) * w)) = _
  rw [show ((i.toNat : Nat) : Int) = i by omega]
theorem rowsL_last (l w : Int) (n : Nat) : L2.atI (rowsL l w n) (-1) = some (.int (L l (n : Int) * w)) := by
  have hl := rowsL_len l w n
  rw [at_last _ (by intro e; rw [e] at hl; cases hl), List.getLast?_eq_getElem?, hl]
  unfold rowsL
  rw [List.getElem?_map, List.getElem?_range (by omega)]
  rfl
theorem sm_ok : ∀ m : Nat, ∃ zs, unInts ((List.range (m : Int).toNat).filterMap fun (j : Nat) => some (PV.int (16 - (j : Int)))) = some zs ∧ zs.sum = sm m
  | 0 => ⟨[], rfl, rfl⟩
  | m + 1 => by
    obtain ⟨zs, h1, h2⟩ := sm_ok m
    rw [Int.toNat_natCast] at h1 ⊢
    rw [List.range_succ, List.filterMap_append]
    refine ⟨zs ++ [16 - (m : Int)], unInts_app _ _ _ _ h1 rfl, ?_⟩
    rw [List.sum_append, h2]
    show sm m + (16 - (m : Int) + 0) = sm m + (16 - (m : Int))
    omega
theorem sm_bd : ∀ m : Nat, m ≤ 16 → 0 ≤ sm m ∧ sm m ≤ 136 := by decide
/-- state of the law's def -/
def stL (ns : List Int) (x2 x3 x4 x5 x6 x7 x8 x9 x10 x11 x12 x13 x14 : Option SV) (o : SO) : Ps := ⟨[some (.val (.scr ns)), some (.val (.ref 0)), x2, x3, x4, x5, x6, x7, x8, x9, x10, x11, x12, x13, x14], [o]⟩
theorem law_ok (ns : List Int) : WpC (callP fs gl 41 "law" [.scr ns] []) fun v _ => v = .val (.bl true) := by
  refine wp_fn f_law rfl ?_
  show Wp (dsts _ b_law ⟨[some (.val (.scr ns)), none, none, none, none, none, none, none, none, none, none, none, none, none, none], []⟩) _
  unfold b_law
  apply wp_next; focus (simp (disch := omega) only [↓eb_glob, ↓eb_cst, ↓eb_bin, ↓eb_neg, ↓eb_not, ↓eb_and, ↓eb_or, ↓eb_cmp, ↓eb_chain, ↓eb_ite, ↓eb_tup, ↓eb_lst, ↓eb_call, ↓eb_prim, ↓eb_isi, ↓eb_app, ↓eb_idx, ↓eb_comp, ↓et_glob, ↓et_cst, ↓et_bin, ↓et_neg, ↓et_tup, ↓et_lst, ↓et_call, ↓et_prim, ↓et_isi, ↓et_app, ↓et_idx, ↓et_comp, ↓eb_var, ↓ev_var, ↓et_var, ↓ev_glob, ↓ev_cst, ↓ev_bin, ↓ev_neg, ↓ev_not, ↓et_not, ↓ev_and, ↓ev_or, ↓et_and, ↓et_or, ↓ev_cmp, ↓et_cmp, ↓et_chain, ↓ev_chain, ↓ev_ite, ↓et_ite, ↓ev_tup, ↓ev_lst, ↓ev_call, ↓ev_prim, ↓ev_isi, ↓ev_app, ↓ev_idx, ↓ev_comp, ↓ebs_nil, ↓ebs_t, ↓ebs_f, ↓der1_v, ↓der2_v, ↓der1_s, ↓der2_vs, ↓der2_sv, ↓der2_ss, ↓ders_nil, ↓ders_v, ↓ders_s, ↓andK_t, ↓andK_f, ↓orK_t, ↓orK_f, ↓andK_b, ↓orK_b, chnK_b, wp_cal, ↓cal_ok, ↓cmpK_some, ↓dst_expr, ↓dst_asg, ↓asg_var, ↓dst_row, ↓dst_par, ↓dst_set, ↓augK_some, ↓dst_aug, ↓dst_if, ↓forK_some, ↓dst_for, ↓dst_ret_var, ↓dst_ret_glob, ↓dst_ret_cst, ↓dst_ret_bin, ↓dst_ret_neg, ↓dst_ret_not, ↓dst_ret_and, ↓dst_ret_or, ↓dst_ret_cmp, ↓dst_ret_chain, ↓dst_ret_ite, ↓dst_ret_tup, ↓dst_ret_lst, ↓dst_ret_call, ↓dst_ret_prim, ↓dst_ret_isi, ↓dst_ret_idx, ↓dst_ret_comp, negP_int, cond_d, appP, isOwn, ↓bind_ok, wp_bind, ↓wp_ok, wpC_ok, ↓lift_some, setP, filled, forBody, asgT, asgTs, itemsP, seqP, rng1, bin_add, bin_sub, bin_mul, bin_fdiv, bin_mod, bin_pow, aug_add, aug_sub, cmp_lt, cmp_le, cmp_gt, cmp_ge, cmp_eq, cmp_ne, isi_int, isi_bool, isi_str_int, isi_str, isi_tup, isi_lst, prim_len_l, prim_len_t, prim_len_n, prim_int, prim_max, prim_min, prim_sum, idx_l, idx_t, idx_n, idx_r, rowAt_some, pv_val, pv_own, tru_bl, tru_int, tru_lst, tru_tup, tru_non, decide_true, decide_false, List.getElem?_cons_zero, List.getElem?_cons_succ, List.set_cons_zero, List.set_cons_succ, Option.map_some, Option.bind_some, Option.bind_none, ↓fin_next, ↓fin_ret, forQ_next, forQ_ret, retQ_next, retQ_ret, ite_decide, Bool.not_true, Bool.not_false, if_true, if_false, Bool.true_or, Bool.or_true, Bool.and_true, Bool.true_and, Bool.false_eq_true, reduceCtorEq, ↓reduceIte, ↓cond_true, ↓cond_false, List.length_nil, List.length_cons, Nat.zero_add, Nat.reduceAdd, Int.reduceNeg, Int.reduceToNat, Int.reducePow, List.map_cons, List.map_nil, wipeL, backL, Option.getD_some, cmp_ne_non, at_zero, compBody_0, compBody_1, List.set_set, List.getElem?_set_self, at_row0, at_row1, at_row2, at_row3, ix_row0, ix_row1, ix_row2, ix_row3]; with_reducible exact rfl)
  have ho : IsRow ns (.row [.scr ns, .int 0, .int 0, .int 0]) := ⟨0, 0, 0, rfl, by omega⟩
  simp only [List.nil_append, List.length_nil]
  generalize (SO.row [.scr ns, .int 0, .int 0, .int 0]) = o at *
  obtain ⟨r1, o1, h1, h1', ho, e1⟩ := taken1 (gl := gl) f_tk 39 ho 9 (by omega) (by omega)
  obtain ⟨d, o2, hd, hd', ho, e2⟩ := taken1 (gl := gl) f_tk 39 ho 5 (by omega) (by omega)
  apply wp_next; focus (simp (disch := omega) only [↓eb_glob, ↓eb_cst, ↓eb_bin, ↓eb_neg, ↓eb_not, ↓eb_and, ↓eb_or, ↓eb_cmp, ↓eb_chain, ↓eb_ite, ↓eb_tup, ↓eb_lst, ↓eb_call, ↓eb_prim, ↓eb_isi, ↓eb_app, ↓eb_idx, ↓eb_comp, ↓et_glob, ↓et_cst, ↓et_bin, ↓et_neg, ↓et_tup, ↓et_lst, ↓et_call, ↓et_prim, ↓et_isi, ↓et_app, ↓et_idx, ↓et_comp, ↓eb_var, ↓ev_var, ↓et_var, ↓ev_glob, ↓ev_cst, ↓ev_bin, ↓ev_neg, ↓ev_not, ↓et_not, ↓ev_and, ↓ev_or, ↓et_and, ↓et_or, ↓ev_cmp, ↓et_cmp, ↓et_chain, ↓ev_chain, ↓ev_ite, ↓et_ite, ↓ev_tup, ↓ev_lst, ↓ev_call, ↓ev_prim, ↓ev_isi, ↓ev_app, ↓ev_idx, ↓ev_comp, ↓ebs_nil, ↓ebs_t, ↓ebs_f, ↓der1_v, ↓der2_v, ↓der1_s, ↓der2_vs, ↓der2_sv, ↓der2_ss, ↓ders_nil, ↓ders_v, ↓ders_s, ↓andK_t, ↓andK_f, ↓orK_t, ↓orK_f, ↓andK_b, ↓orK_b, chnK_b, wp_cal, ↓cal_ok, ↓cmpK_some, ↓dst_expr, ↓dst_asg, ↓asg_var, ↓dst_row, ↓dst_par, ↓dst_set, ↓augK_some, ↓dst_aug, ↓dst_if, ↓forK_some, ↓dst_for, ↓dst_ret_var, ↓dst_ret_glob, ↓dst_ret_cst, ↓dst_ret_bin, ↓dst_ret_neg, ↓dst_ret_not, ↓dst_ret_and, ↓dst_ret_or, ↓dst_ret_cmp, ↓dst_ret_chain, ↓dst_ret_ite, ↓dst_ret_tup, ↓dst_ret_lst, ↓dst_ret_call, ↓dst_ret_prim, ↓dst_ret_isi, ↓dst_ret_idx, ↓dst_ret_comp, negP_int, cond_d, appP, isOwn, ↓bind_ok, wp_bind, ↓wp_ok, wpC_ok, ↓lift_some, setP, filled, forBody, asgT, asgTs, itemsP, seqP, rng1, bin_add, bin_sub, bin_mul, bin_fdiv, bin_mod, bin_pow, aug_add, aug_sub, cmp_lt, cmp_le, cmp_gt, cmp_ge, cmp_eq, cmp_ne, isi_int, isi_bool, isi_str_int, isi_str, isi_tup, isi_lst, prim_len_l, prim_len_t, prim_len_n, prim_int, prim_max, prim_min, prim_sum, idx_l, idx_t, idx_n, idx_r, rowAt_some, pv_val, pv_own, tru_bl, tru_int, tru_lst, tru_tup, tru_non, decide_true, decide_false, List.getElem?_cons_zero, List.getElem?_cons_succ, List.set_cons_zero, List.set_cons_succ, Option.map_some, Option.bind_some, Option.bind_none, ↓fin_next, ↓fin_ret, forQ_next, forQ_ret, retQ_next, retQ_ret, ite_decide, Bool.not_true, Bool.not_false, if_true, if_false, Bool.true_or, Bool.or_true, Bool.and_true, Bool.true_and, Bool.false_eq_true, reduceCtorEq, ↓reduceIte, ↓cond_true, ↓cond_false, List.length_nil, List.length_cons, Nat.zero_add, Nat.reduceAdd, Int.reduceNeg, Int.reduceToNat, Int.reducePow, List.map_cons, List.map_nil, wipeL, backL, Option.getD_some, cmp_ne_non, at_zero, compBody_0, compBody_1, List.set_set, List.getElem?_set_self, at_row0, at_row1, at_row2, at_row3, ix_row0, ix_row1, ix_row2, ix_row3, e1, e2]; with_reducible exact rfl)
  generalize hl : 1 + r1 = l
  have hl1 : 1 ≤ l := by omega
  have hl9 : l ≤ 9 := by omega
  apply wp_next; focus (simp (disch := omega) only [↓eb_glob, ↓eb_cst, ↓eb_bin, ↓eb_neg, ↓eb_not, ↓eb_and, ↓eb_or, ↓eb_cmp, ↓eb_chain, ↓eb_ite, ↓eb_tup, ↓eb_lst, ↓eb_call, ↓eb_prim, ↓eb_isi, ↓eb_app, ↓eb_idx, ↓eb_comp, ↓et_glob, ↓et_cst, ↓et_bin, ↓et_neg, ↓et_tup, ↓et_lst, ↓et_call, ↓et_prim, ↓et_isi, ↓et_app, ↓et_idx, ↓et_comp, ↓eb_var, ↓ev_var, ↓et_var, ↓ev_glob, ↓ev_cst, ↓ev_bin, ↓ev_neg, ↓ev_not, ↓et_not, ↓ev_and, ↓ev_or, ↓et_and, ↓et_or, ↓ev_cmp, ↓et_cmp, ↓et_chain, ↓ev_chain, ↓ev_ite, ↓et_ite, ↓ev_tup, ↓ev_lst, ↓ev_call, ↓ev_prim, ↓ev_isi, ↓ev_app, ↓ev_idx, ↓ev_comp, ↓ebs_nil, ↓ebs_t, ↓ebs_f, ↓der1_v, ↓der2_v, ↓der1_s, ↓der2_vs, ↓der2_sv, ↓der2_ss, ↓ders_nil, ↓ders_v, ↓ders_s, ↓andK_t, ↓andK_f, ↓orK_t, ↓orK_f, ↓andK_b, ↓orK_b, chnK_b, wp_cal, ↓cal_ok, ↓cmpK_some, ↓dst_expr, ↓dst_asg, ↓asg_var, ↓dst_row, ↓dst_par, ↓dst_set, ↓augK_some, ↓dst_aug, ↓dst_if, ↓forK_some, ↓dst_for, ↓dst_ret_var, ↓dst_ret_glob, ↓dst_ret_cst, ↓dst_ret_bin, ↓dst_ret_neg, ↓dst_ret_not, ↓dst_ret_and, ↓dst_ret_or, ↓dst_ret_cmp, ↓dst_ret_chain, ↓dst_ret_ite, ↓dst_ret_tup, ↓dst_ret_lst, ↓dst_ret_call, ↓dst_ret_prim, ↓dst_ret_isi, ↓dst_ret_idx, ↓dst_ret_comp, negP_int, cond_d, appP, isOwn, ↓bind_ok, wp_bind, ↓wp_ok, wpC_ok, ↓lift_some, setP, filled, forBody, asgT, asgTs, itemsP, seqP, rng1, bin_add, bin_sub, bin_mul, bin_fdiv, bin_mod, bin_pow, aug_add, aug_sub, cmp_lt, cmp_le, cmp_gt, cmp_ge, cmp_eq, cmp_ne, isi_int, isi_bool, isi_str_int, isi_str, isi_tup, isi_lst, prim_len_l, prim_len_t, prim_len_n, prim_int, prim_max, prim_min, prim_sum, idx_l, idx_t, idx_n, idx_r, rowAt_some, pv_val, pv_own, tru_bl, tru_int, tru_lst, tru_tup, tru_non, decide_true, decide_false, List.getElem?_cons_zero, List.getElem?_cons_succ, List.set_cons_zero, List.set_cons_succ, Option.map_some, Option.bind_some, Option.bind_none, ↓fin_next, ↓fin_ret, forQ_next, forQ_ret, retQ_next, retQ_ret, ite_decide, Bool.not_true, Bool.not_false, if_true, if_false, Bool.true_or, Bool.or_true, Bool.and_true, Bool.true_and, Bool.false_eq_true, reduceCtorEq, ↓reduceIte, ↓cond_true, ↓cond_false, List.length_nil, List.length_cons, Nat.zero_add, Nat.reduceAdd, Int.reduceNeg, Int.reduceToNat, Int.reducePow, List.map_cons, List.map_nil, wipeL, backL, Option.getD_some, cmp_ne_non, at_zero, compBody_0, compBody_1, List.set_set, List.getElem?_set_self, at_row0, at_row1, at_row2, at_row3, ix_row0, ix_row1, ix_row2, ix_row3]; with_reducible exact rfl)
  have hw := wt_pos d
  have hwt := weight_ok (n := 39) (st := [o2]) hd (show d ≤ 4 by omega)
  generalize hwd : wt d = w at *
  apply wp_for
  · simp (disch := omega) only [↓eb_glob, ↓eb_cst, ↓eb_bin, ↓eb_neg, ↓eb_not, ↓eb_and, ↓eb_or, ↓eb_cmp, ↓eb_chain, ↓eb_ite, ↓eb_tup, ↓eb_lst, ↓eb_call, ↓eb_prim, ↓eb_isi, ↓eb_app, ↓eb_idx, ↓eb_comp, ↓et_glob, ↓et_cst, ↓et_bin, ↓et_neg, ↓et_tup, ↓et_lst, ↓et_call, ↓et_prim, ↓et_isi, ↓et_app, ↓et_idx, ↓et_comp, ↓eb_var, ↓ev_var, ↓et_var, ↓ev_glob, ↓ev_cst, ↓ev_bin, ↓ev_neg, ↓ev_not, ↓et_not, ↓ev_and, ↓ev_or, ↓et_and, ↓et_or, ↓ev_cmp, ↓et_cmp, ↓et_chain, ↓ev_chain, ↓ev_ite, ↓et_ite, ↓ev_tup, ↓ev_lst, ↓ev_call, ↓ev_prim, ↓ev_isi, ↓ev_app, ↓ev_idx, ↓ev_comp, ↓ebs_nil, ↓ebs_t, ↓ebs_f, ↓der1_v, ↓der2_v, ↓der1_s, ↓der2_vs, ↓der2_sv, ↓der2_ss, ↓ders_nil, ↓ders_v, ↓ders_s, ↓andK_t, ↓andK_f, ↓orK_t, ↓orK_f, ↓andK_b, ↓orK_b, chnK_b, wp_cal, ↓cal_ok, ↓cmpK_some, ↓dst_expr, ↓dst_asg, ↓asg_var, ↓dst_row, ↓dst_par, ↓dst_set, ↓augK_some, ↓dst_aug, ↓dst_if, ↓forK_some, ↓dst_for, ↓dst_ret_var, ↓dst_ret_glob, ↓dst_ret_cst, ↓dst_ret_bin, ↓dst_ret_neg, ↓dst_ret_not, ↓dst_ret_and, ↓dst_ret_or, ↓dst_ret_cmp, ↓dst_ret_chain, ↓dst_ret_ite, ↓dst_ret_tup, ↓dst_ret_lst, ↓dst_ret_call, ↓dst_ret_prim, ↓dst_ret_isi, ↓dst_ret_idx, ↓dst_ret_comp, negP_int, cond_d, appP, isOwn, ↓bind_ok, wp_bind, ↓wp_ok, wpC_ok, ↓lift_some, setP, filled, forBody, asgT, asgTs, itemsP, seqP, rng1, bin_add, bin_sub, bin_mul, bin_fdiv, bin_mod, bin_pow, aug_add, aug_sub, cmp_lt, cmp_le, cmp_gt, cmp_ge, cmp_eq, cmp_ne, isi_int, isi_bool, isi_str_int, isi_str, isi_tup, isi_lst, prim_len_l, prim_len_t, prim_len_n, prim_int, prim_max, prim_min, prim_sum, idx_l, idx_t, idx_n, idx_r, rowAt_some, pv_val, pv_own, tru_bl, tru_int, tru_lst, tru_tup, tru_non, decide_true, decide_false, List.getElem?_cons_zero, List.getElem?_cons_succ, List.set_cons_zero, List.set_cons_succ, Option.map_some, Option.bind_some, Option.bind_none, ↓fin_next, ↓fin_ret, forQ_next, forQ_ret, retQ_next, retQ_ret, ite_decide, Bool.not_true, Bool.not_false, if_true, if_false, Bool.true_or, Bool.or_true, Bool.and_true, Bool.true_and, Bool.false_eq_true, reduceCtorEq, ↓reduceIte, ↓cond_true, ↓cond_false, List.length_nil, List.length_cons, Nat.zero_add, Nat.reduceAdd, Int.reduceNeg, Int.reduceToNat, Int.reducePow, List.map_cons, List.map_nil, wipeL, backL, Option.getD_some, cmp_ne_non, at_zero, compBody_0, compBody_1, List.set_set, List.getElem?_set_self, at_row0, at_row1, at_row2, at_row3, ix_row0, ix_row1, ix_row2, ix_row3]; with_reducible exact rfl
  · exact rng1 _ (by omega) (by omega)
  refine wp_rng (I := fun k s => ∃ x3, s = stL ns (some (.own (rowsL l w k.toNat))) x3 none none none none none (some (.val (.int l))) (some (.val (.int d))) none none none none o2) 0 _ 0 _ (by omega) ⟨none, by simp [rowsL, L_zero (show 0 < l by omega), stL]⟩ (fun k s k1 k2 ⟨x3, e⟩ => ?_) fun s ⟨x3, e⟩ => ?_
  · subst e
    unfold stL
    have hlen : (rowsL l w k.toNat).length < lim := by rw [rowsL_len]; show _ < 16777216; omega
    simp (disch := omega) only [↓eb_glob, ↓eb_cst, ↓eb_bin, ↓eb_neg, ↓eb_not, ↓eb_and, ↓eb_or, ↓eb_cmp, ↓eb_chain, ↓eb_ite, ↓eb_tup, ↓eb_lst, ↓eb_call, ↓eb_prim, ↓eb_isi, ↓eb_app, ↓eb_idx, ↓eb_comp, ↓et_glob, ↓et_cst, ↓et_bin, ↓et_neg, ↓et_tup, ↓et_lst, ↓et_call, ↓et_prim, ↓et_isi, ↓et_app, ↓et_idx, ↓et_comp, ↓eb_var, ↓ev_var, ↓et_var, ↓ev_glob, ↓ev_cst, ↓ev_bin, ↓ev_neg, ↓ev_not, ↓et_not, ↓ev_and, ↓ev_or, ↓et_and, ↓et_or, ↓ev_cmp, ↓et_cmp, ↓et_chain, ↓ev_chain, ↓ev_ite, ↓et_ite, ↓ev_tup, ↓ev_lst, ↓ev_call, ↓ev_prim, ↓ev_isi, ↓ev_app, ↓ev_idx, ↓ev_comp, ↓ebs_nil, ↓ebs_t, ↓ebs_f, ↓der1_v, ↓der2_v, ↓der1_s, ↓der2_vs, ↓der2_sv, ↓der2_ss, ↓ders_nil, ↓ders_v, ↓ders_s, ↓andK_t, ↓andK_f, ↓orK_t, ↓orK_f, ↓andK_b, ↓orK_b, chnK_b, wp_cal, ↓cal_ok, ↓cmpK_some, ↓dst_expr, ↓dst_asg, ↓asg_var, ↓dst_row, ↓dst_par, ↓dst_set, ↓augK_some, ↓dst_aug, ↓dst_if, ↓forK_some, ↓dst_for, ↓dst_ret_var, ↓dst_ret_glob, ↓dst_ret_cst, ↓dst_ret_bin, ↓dst_ret_neg, ↓dst_ret_not, ↓dst_ret_and, ↓dst_ret_or, ↓dst_ret_cmp, ↓dst_ret_chain, ↓dst_ret_ite, ↓dst_ret_tup, ↓dst_ret_lst, ↓dst_ret_call, ↓dst_ret_prim, ↓dst_ret_isi, ↓dst_ret_idx, ↓dst_ret_comp, negP_int, cond_d, appP, isOwn, ↓bind_ok, wp_bind, ↓wp_ok, wpC_ok, ↓lift_some, setP, filled, forBody, asgT, asgTs, itemsP, seqP, rng1, bin_add, bin_sub, bin_mul, bin_fdiv, bin_mod, bin_pow, aug_add, aug_sub, cmp_lt, cmp_le, cmp_gt, cmp_ge, cmp_eq, cmp_ne, isi_int, isi_bool, isi_str_int, isi_str, isi_tup, isi_lst, prim_len_l, prim_len_t, prim_len_n, prim_int, prim_max, prim_min, prim_sum, idx_l, idx_t, idx_n, idx_r, rowAt_some, pv_val, pv_own, tru_bl, tru_int, tru_lst, tru_tup, tru_non, decide_true, decide_false, List.getElem?_cons_zero, List.getElem?_cons_succ, List.set_cons_zero, List.set_cons_succ, Option.map_some, Option.bind_some, Option.bind_none, ↓fin_next, ↓fin_ret, forQ_next, forQ_ret, retQ_next, retQ_ret, ite_decide, Bool.not_true, Bool.not_false, if_true, if_false, Bool.true_or, Bool.or_true, Bool.and_true, Bool.true_and, Bool.false_eq_true, reduceCtorEq, ↓reduceIte, ↓cond_true, ↓cond_false, List.length_nil, List.length_cons, Nat.zero_add, Nat.reduceAdd, Int.reduceNeg, Int.reduceToNat, Int.reducePow, List.map_cons, List.map_nil, wipeL, backL, Option.getD_some, cmp_ne_non, at_zero, compBody_0, compBody_1, List.set_set, List.getElem?_set_self, at_row0, at_row1, at_row2, at_row3, ix_row0, ix_row1, ix_row2, ix_row3]
    apply wp_next; focus (simp (disch := omega) only [↓eb_glob, ↓eb_cst, ↓eb_bin, ↓eb_neg, ↓eb_not, ↓eb_and, ↓eb_or, ↓eb_cmp, ↓eb_chain, ↓eb_ite, ↓eb_tup, ↓eb_lst, ↓eb_call, ↓eb_prim, ↓eb_isi, ↓eb_app, ↓eb_idx, ↓eb_comp, ↓et_glob, ↓et_cst, ↓et_bin, ↓et_neg, ↓et_tup, ↓et_lst, ↓et_call, ↓et_prim, ↓et_isi, ↓et_app, ↓et_idx, ↓et_comp, ↓eb_var, ↓ev_var, ↓et_var, ↓ev_glob, ↓ev_cst, ↓ev_bin, ↓ev_neg, ↓ev_not, ↓et_not, ↓ev_and, ↓ev_or, ↓et_and, ↓et_or, ↓ev_cmp, ↓et_cmp, ↓et_chain, ↓ev_chain, ↓ev_ite, ↓et_ite, ↓ev_tup, ↓ev_lst, ↓ev_call, ↓ev_prim, ↓ev_isi, ↓ev_app, ↓ev_idx, ↓ev_comp, ↓ebs_nil, ↓ebs_t, ↓ebs_f, ↓der1_v, ↓der2_v, ↓der1_s, ↓der2_vs, ↓der2_sv, ↓der2_ss, ↓ders_nil, ↓ders_v, ↓ders_s, ↓andK_t, ↓andK_f, ↓orK_t, ↓orK_f, ↓andK_b, ↓orK_b, chnK_b, wp_cal, ↓cal_ok, ↓cmpK_some, ↓dst_expr, ↓dst_asg, ↓asg_var, ↓dst_row, ↓dst_par, ↓dst_set, ↓augK_some, ↓dst_aug, ↓dst_if, ↓forK_some, ↓dst_for, ↓dst_ret_var, ↓dst_ret_glob, ↓dst_ret_cst, ↓dst_ret_bin, ↓dst_ret_neg, ↓dst_ret_not, ↓dst_ret_and, ↓dst_ret_or, ↓dst_ret_cmp, ↓dst_ret_chain, ↓dst_ret_ite, ↓dst_ret_tup, ↓dst_ret_lst, ↓dst_ret_call, ↓dst_ret_prim, ↓dst_ret_isi, ↓dst_ret_idx, ↓dst_ret_comp, negP_int, cond_d, appP, isOwn, ↓bind_ok, wp_bind, ↓wp_ok, wpC_ok, ↓lift_some, setP, filled, forBody, asgT, asgTs, itemsP, seqP, rng1, bin_add, bin_sub, bin_mul, bin_fdiv, bin_mod, bin_pow, aug_add, aug_sub, cmp_lt, cmp_le, cmp_gt, cmp_ge, cmp_eq, cmp_ne, isi_int, isi_bool, isi_str_int, isi_str, isi_tup, isi_lst, prim_len_l, prim_len_t, prim_len_n, prim_int, prim_max, prim_min, prim_sum, idx_l, idx_t, idx_n, idx_r, rowAt_some, pv_val, pv_own, tru_bl, tru_int, tru_lst, tru_tup, tru_non, decide_true, decide_false, List.getElem?_cons_zero, List.getElem?_cons_succ, List.set_cons_zero, List.set_cons_succ, Option.map_some, Option.bind_some, Option.bind_none, ↓fin_next, ↓fin_ret, forQ_next, forQ_ret, retQ_next, retQ_ret, ite_decide, Bool.not_true, Bool.not_false, if_true, if_false, Bool.true_or, Bool.or_true, Bool.and_true, Bool.true_and, Bool.false_eq_true, reduceCtorEq, ↓reduceIte, ↓cond_true, ↓cond_false, List.length_nil, List.length_cons, Nat.zero_add, Nat.reduceAdd, Int.reduceNeg, Int.reduceToNat, Int.reducePow, List.map_cons, List.map_nil, wipeL, backL, Option.getD_some, cmp_ne_non, at_zero, compBody_0, compBody_1, List.set_set, List.getElem?_set_self, at_row0, at_row1, at_row2, at_row3, ix_row0, ix_row1, ix_row2, ix_row3, rowsL_last, hwt, hlen]; with_reducible exact rfl)
    refine wp_nil _ _ _ ⟨some (.val (.int k)), ?_⟩
    rw [show (k + 1).toNat = k.toNat + 1 by omega, rowsL_succ, show ((k.toNat : Nat) : Int) = k by omega, L_step (by omega) k1, Int.add_mul]
  subst e
  rw [fin_next]
  have hT : (0 + ((16 * l + 5).toNat : Int)).toNat = (16 * l + 5).toNat := by omega
  rw [hT]
  generalize hN : (16 * l + 5).toNat = N at *
  have hrl := rowsL_len l w N
  have hlen : ((rowsL l w N).length : Int) = 16 * l + 6 := by omega
  unfold stL
  obtain ⟨r3, o3, h3, h3', ho, e3⟩ := taken1 (gl := gl) f_tk 39 ho (16 * l + 6) (by omega) (by omega)
  apply wp_for
  · simp (disch := omega) only [↓eb_glob, ↓eb_cst, ↓eb_bin, ↓eb_neg, ↓eb_not, ↓eb_and, ↓eb_or, ↓eb_cmp, ↓eb_chain, ↓eb_ite, ↓eb_tup, ↓eb_lst, ↓eb_call, ↓eb_prim, ↓eb_isi, ↓eb_app, ↓eb_idx, ↓eb_comp, ↓et_glob, ↓et_cst, ↓et_bin, ↓et_neg, ↓et_tup, ↓et_lst, ↓et_call, ↓et_prim, ↓et_isi, ↓et_app, ↓et_idx, ↓et_comp, ↓eb_var, ↓ev_var, ↓et_var, ↓ev_glob, ↓ev_cst, ↓ev_bin, ↓ev_neg, ↓ev_not, ↓et_not, ↓ev_and, ↓ev_or, ↓et_and, ↓et_or, ↓ev_cmp, ↓et_cmp, ↓et_chain, ↓ev_chain, ↓ev_ite, ↓et_ite, ↓ev_tup, ↓ev_lst, ↓ev_call, ↓ev_prim, ↓ev_isi, ↓ev_app, ↓ev_idx, ↓ev_comp, ↓ebs_nil, ↓ebs_t, ↓ebs_f, ↓der1_v, ↓der2_v, ↓der1_s, ↓der2_vs, ↓der2_sv, ↓der2_ss, ↓ders_nil, ↓ders_v, ↓ders_s, ↓andK_t, ↓andK_f, ↓orK_t, ↓orK_f, ↓andK_b, ↓orK_b, chnK_b, wp_cal, ↓cal_ok, ↓cmpK_some, ↓dst_expr, ↓dst_asg, ↓asg_var, ↓dst_row, ↓dst_par, ↓dst_set, ↓augK_some, ↓dst_aug, ↓dst_if, ↓forK_some, ↓dst_for, ↓dst_ret_var, ↓dst_ret_glob, ↓dst_ret_cst, ↓dst_ret_bin, ↓dst_ret_neg, ↓dst_ret_not, ↓dst_ret_and, ↓dst_ret_or, ↓dst_ret_cmp, ↓dst_ret_chain, ↓dst_ret_ite, ↓dst_ret_tup, ↓dst_ret_lst, ↓dst_ret_call, ↓dst_ret_prim, ↓dst_ret_isi, ↓dst_ret_idx, ↓dst_ret_comp, negP_int, cond_d, appP, isOwn, ↓bind_ok, wp_bind, ↓wp_ok, wpC_ok, ↓lift_some, setP, filled, forBody, asgT, asgTs, itemsP, seqP, rng1, bin_add, bin_sub, bin_mul, bin_fdiv, bin_mod, bin_pow, aug_add, aug_sub, cmp_lt, cmp_le, cmp_gt, cmp_ge, cmp_eq, cmp_ne, isi_int, isi_bool, isi_str_int, isi_str, isi_tup, isi_lst, prim_len_l, prim_len_t, prim_len_n, prim_int, prim_max, prim_min, prim_sum, idx_l, idx_t, idx_n, idx_r, rowAt_some, pv_val, pv_own, tru_bl, tru_int, tru_lst, tru_tup, tru_non, decide_true, decide_false, List.getElem?_cons_zero, List.getElem?_cons_succ, List.set_cons_zero, List.set_cons_succ, Option.map_some, Option.bind_some, Option.bind_none, ↓fin_next, ↓fin_ret, forQ_next, forQ_ret, retQ_next, retQ_ret, ite_decide, Bool.not_true, Bool.not_false, if_true, if_false, Bool.true_or, Bool.or_true, Bool.and_true, Bool.true_and, Bool.false_eq_true, reduceCtorEq, ↓reduceIte, ↓cond_true, ↓cond_false, List.length_nil, List.length_cons, Nat.zero_add, Nat.reduceAdd, Int.reduceNeg, Int.reduceToNat, Int.reducePow, List.map_cons, List.map_nil, wipeL, backL, Option.getD_some, cmp_ne_non, at_zero, compBody_0, compBody_1, List.set_set, List.getElem?_set_self, at_row0, at_row1, at_row2, at_row3, ix_row0, ix_row1, ix_row2, ix_row3, hlen, e3]; with_reducible exact rfl
  · exact rfl
  refine wp_seqI (I := fun s => ∃ x4, s = stL ns (some (.own (rowsL l w N))) x3 x4 none none none none (some (.val (.int l))) (some (.val (.int d))) none none none none o3) _ _ ⟨none, rfl⟩ (fun x hx s ⟨x4, e⟩ => ?_) fun s ⟨x4, e⟩ => ?_
  · subst e
    have : ∃ t : Int, x = .int t ∧ 0 ≤ t ∧ t ≤ N := by
      simp only [List.mem_cons, List.not_mem_nil, or_false] at hx
      rcases hx with rfl | rfl | rfl
      · exact ⟨_, rfl, by omega, by omega⟩
      · exact ⟨_, rfl, by omega, by omega⟩
      · exact ⟨_, rfl, by omega, by omega⟩
    obtain ⟨t, rfl, ht, ht'⟩ := this
    unfold stL
    simp (disch := omega) only [↓eb_glob, ↓eb_cst, ↓eb_bin, ↓eb_neg, ↓eb_not, ↓eb_and, ↓eb_or, ↓eb_cmp, ↓eb_chain, ↓eb_ite, ↓eb_tup, ↓eb_lst, ↓eb_call, ↓eb_prim, ↓eb_isi, ↓eb_app, ↓eb_idx, ↓eb_comp, ↓et_glob, ↓et_cst, ↓et_bin, ↓et_neg, ↓et_tup, ↓et_lst, ↓et_call, ↓et_prim, ↓et_isi, ↓et_app, ↓et_idx, ↓et_comp, ↓eb_var, ↓ev_var, ↓et_var, ↓ev_glob, ↓ev_cst, ↓ev_bin, ↓ev_neg, ↓ev_not, ↓et_not, ↓ev_and, ↓ev_or, ↓et_and, ↓et_or, ↓ev_cmp, ↓et_cmp, ↓et_chain, ↓ev_chain, ↓ev_ite, ↓et_ite, ↓ev_tup, ↓ev_lst, ↓ev_call, ↓ev_prim, ↓ev_isi, ↓ev_app, ↓ev_idx, ↓ev_comp, ↓ebs_nil, ↓ebs_t, ↓ebs_f, ↓der1_v, ↓der2_v, ↓der1_s, ↓der2_vs, ↓der2_sv, ↓der2_ss, ↓ders_nil, ↓ders_v, ↓ders_s, ↓andK_t, ↓andK_f, ↓orK_t, ↓orK_f, ↓andK_b, ↓orK_b, chnK_b, wp_cal, ↓cal_ok, ↓cmpK_some, ↓dst_expr, ↓dst_asg, ↓asg_var, ↓dst_row, ↓dst_par, ↓dst_set, ↓augK_some, ↓dst_aug, ↓dst_if, ↓forK_some, ↓dst_for, ↓dst_ret_var, ↓dst_ret_glob, ↓dst_ret_cst, ↓dst_ret_bin, ↓dst_ret_neg, ↓dst_ret_not, ↓dst_ret_and, ↓dst_ret_or, ↓dst_ret_cmp, ↓dst_ret_chain, ↓dst_ret_ite, ↓dst_ret_tup, ↓dst_ret_lst, ↓dst_ret_call, ↓dst_ret_prim, ↓dst_ret_isi, ↓dst_ret_idx, ↓dst_ret_comp, negP_int, cond_d, appP, isOwn, ↓bind_ok, wp_bind, ↓wp_ok, wpC_ok, ↓lift_some, setP, filled, forBody, asgT, asgTs, itemsP, seqP, rng1, bin_add, bin_sub, bin_mul, bin_fdiv, bin_mod, bin_pow, aug_add, aug_sub, cmp_lt, cmp_le, cmp_gt, cmp_ge, cmp_eq, cmp_ne, isi_int, isi_bool, isi_str_int, isi_str, isi_tup, isi_lst, prim_len_l, prim_len_t, prim_len_n, prim_int, prim_max, prim_min, prim_sum, idx_l, idx_t, idx_n, idx_r, rowAt_some, pv_val, pv_own, tru_bl, tru_int, tru_lst, tru_tup, tru_non, decide_true, decide_false, List.getElem?_cons_zero, List.getElem?_cons_succ, List.set_cons_zero, List.set_cons_succ, Option.map_some, Option.bind_some, Option.bind_none, ↓fin_next, ↓fin_ret, forQ_next, forQ_ret, retQ_next, retQ_ret, ite_decide, Bool.not_true, Bool.not_false, if_true, if_false, Bool.true_or, Bool.or_true, Bool.and_true, Bool.true_and, Bool.false_eq_true, reduceCtorEq, ↓reduceIte, ↓cond_true, ↓cond_false, List.length_nil, List.length_cons, Nat.zero_add, Nat.reduceAdd, Int.reduceNeg, Int.reduceToNat, Int.reducePow, List.map_cons, List.map_nil, wipeL, backL, Option.getD_some, cmp_ne_non, at_zero, compBody_0, compBody_1, List.set_set, List.getElem?_set_self, at_row0, at_row1, at_row2, at_row3, ix_row0, ix_row1, ix_row2, ix_row3]
    have ef := faded_ok (n := 36) (st := [o3]) hl1 (show l ≤ 1000000000000000 by omega) ht (by omega) hd (show d ≤ 4 by omega)
    rw [hwd] at ef
    apply wp_if (b := false); focus (simp (disch := omega) only [↓eb_glob, ↓eb_cst, ↓eb_bin, ↓eb_neg, ↓eb_not, ↓eb_and, ↓eb_or, ↓eb_cmp, ↓eb_chain, ↓eb_ite, ↓eb_tup, ↓eb_lst, ↓eb_call, ↓eb_prim, ↓eb_isi, ↓eb_app, ↓eb_idx, ↓eb_comp, ↓et_glob, ↓et_cst, ↓et_bin, ↓et_neg, ↓et_tup, ↓et_lst, ↓et_call, ↓et_prim, ↓et_isi, ↓et_app, ↓et_idx, ↓et_comp, ↓eb_var, ↓ev_var, ↓et_var, ↓ev_glob, ↓ev_cst, ↓ev_bin, ↓ev_neg, ↓ev_not, ↓et_not, ↓ev_and, ↓ev_or, ↓et_and, ↓et_or, ↓ev_cmp, ↓et_cmp, ↓et_chain, ↓ev_chain, ↓ev_ite, ↓et_ite, ↓ev_tup, ↓ev_lst, ↓ev_call, ↓ev_prim, ↓ev_isi, ↓ev_app, ↓ev_idx, ↓ev_comp, ↓ebs_nil, ↓ebs_t, ↓ebs_f, ↓der1_v, ↓der2_v, ↓der1_s, ↓der2_vs, ↓der2_sv, ↓der2_ss, ↓ders_nil, ↓ders_v, ↓ders_s, ↓andK_t, ↓andK_f, ↓orK_t, ↓orK_f, ↓andK_b, ↓orK_b, chnK_b, wp_cal, ↓cal_ok, ↓cmpK_some, ↓dst_expr, ↓dst_asg, ↓asg_var, ↓dst_row, ↓dst_par, ↓dst_set, ↓augK_some, ↓dst_aug, ↓dst_if, ↓forK_some, ↓dst_for, ↓dst_ret_var, ↓dst_ret_glob, ↓dst_ret_cst, ↓dst_ret_bin, ↓dst_ret_neg, ↓dst_ret_not, ↓dst_ret_and, ↓dst_ret_or, ↓dst_ret_cmp, ↓dst_ret_chain, ↓dst_ret_ite, ↓dst_ret_tup, ↓dst_ret_lst, ↓dst_ret_call, ↓dst_ret_prim, ↓dst_ret_isi, ↓dst_ret_idx, ↓dst_ret_comp, negP_int, cond_d, appP, isOwn, ↓bind_ok, wp_bind, ↓wp_ok, wpC_ok, ↓lift_some, setP, filled, forBody, asgT, asgTs, itemsP, seqP, rng1, bin_add, bin_sub, bin_mul, bin_fdiv, bin_mod, bin_pow, aug_add, aug_sub, cmp_lt, cmp_le, cmp_gt, cmp_ge, cmp_eq, cmp_ne, isi_int, isi_bool, isi_str_int, isi_str, isi_tup, isi_lst, prim_len_l, prim_len_t, prim_len_n, prim_int, prim_max, prim_min, prim_sum, idx_l, idx_t, idx_n, idx_r, rowAt_some, pv_val, pv_own, tru_bl, tru_int, tru_lst, tru_tup, tru_non, decide_true, decide_false, List.getElem?_cons_zero, List.getElem?_cons_succ, List.set_cons_zero, List.set_cons_succ, Option.map_some, Option.bind_some, Option.bind_none, ↓fin_next, ↓fin_ret, forQ_next, forQ_ret, retQ_next, retQ_ret, ite_decide, Bool.not_true, Bool.not_false, if_true, if_false, Bool.true_or, Bool.or_true, Bool.and_true, Bool.true_and, Bool.false_eq_true, reduceCtorEq, ↓reduceIte, ↓cond_true, ↓cond_false, List.length_nil, List.length_cons, Nat.zero_add, Nat.reduceAdd, Int.reduceNeg, Int.reduceToNat, Int.reducePow, List.map_cons, List.map_nil, wipeL, backL, Option.getD_some, cmp_ne_non, at_zero, compBody_0, compBody_1, List.set_set, List.getElem?_set_self, at_row0, at_row1, at_row2, at_row3, ix_row0, ix_row1, ix_row2, ix_row3, ef, rowsL_at l w N ht ht', beq_self_eq_true]; with_reducible exact rfl)
    exact wp_nilF (wp_nil _ _ _ ⟨_, rfl⟩)
  subst e
  rw [fin_next]
  unfold stL
  have hLN : L l (N : Int) = 136 * l := L_end (by omega) (by omega)
  have hlast : 0 ≤ L l (N : Int) * w ∧ L l (N : Int) * w ≤ 19584 := by
    rw [hLN]
    exact ⟨Int.mul_nonneg (by omega) (by omega), Int.le_trans (Int.mul_le_mul (show 136 * l ≤ 1224 by omega) hw.2 (by omega) (by omega)) (by omega)⟩
  obtain ⟨r4, o4, h4, h4', ho, e4⟩ := taken1 (gl := gl) f_tk 39 ho (L l (N : Int) * w + 1) (by omega) (by omega)
  apply wp_for
  · simp (disch := omega) only [↓eb_glob, ↓eb_cst, ↓eb_bin, ↓eb_neg, ↓eb_not, ↓eb_and, ↓eb_or, ↓eb_cmp, ↓eb_chain, ↓eb_ite, ↓eb_tup, ↓eb_lst, ↓eb_call, ↓eb_prim, ↓eb_isi, ↓eb_app, ↓eb_idx, ↓eb_comp, ↓et_glob, ↓et_cst, ↓et_bin, ↓et_neg, ↓et_tup, ↓et_lst, ↓et_call, ↓et_prim, ↓et_isi, ↓et_app, ↓et_idx, ↓et_comp, ↓eb_var, ↓ev_var, ↓et_var, ↓ev_glob, ↓ev_cst, ↓ev_bin, ↓ev_neg, ↓ev_not, ↓et_not, ↓ev_and, ↓ev_or, ↓et_and, ↓et_or, ↓ev_cmp, ↓et_cmp, ↓et_chain, ↓ev_chain, ↓ev_ite, ↓et_ite, ↓ev_tup, ↓ev_lst, ↓ev_call, ↓ev_prim, ↓ev_isi, ↓ev_app, ↓ev_idx, ↓ev_comp, ↓ebs_nil, ↓ebs_t, ↓ebs_f, ↓der1_v, ↓der2_v, ↓der1_s, ↓der2_vs, ↓der2_sv, ↓der2_ss, ↓ders_nil, ↓ders_v, ↓ders_s, ↓andK_t, ↓andK_f, ↓orK_t, ↓orK_f, ↓andK_b, ↓orK_b, chnK_b, wp_cal, ↓cal_ok, ↓cmpK_some, ↓dst_expr, ↓dst_asg, ↓asg_var, ↓dst_row, ↓dst_par, ↓dst_set, ↓augK_some, ↓dst_aug, ↓dst_if, ↓forK_some, ↓dst_for, ↓dst_ret_var, ↓dst_ret_glob, ↓dst_ret_cst, ↓dst_ret_bin, ↓dst_ret_neg, ↓dst_ret_not, ↓dst_ret_and, ↓dst_ret_or, ↓dst_ret_cmp, ↓dst_ret_chain, ↓dst_ret_ite, ↓dst_ret_tup, ↓dst_ret_lst, ↓dst_ret_call, ↓dst_ret_prim, ↓dst_ret_isi, ↓dst_ret_idx, ↓dst_ret_comp, negP_int, cond_d, appP, isOwn, ↓bind_ok, wp_bind, ↓wp_ok, wpC_ok, ↓lift_some, setP, filled, forBody, asgT, asgTs, itemsP, seqP, rng1, bin_add, bin_sub, bin_mul, bin_fdiv, bin_mod, bin_pow, aug_add, aug_sub, cmp_lt, cmp_le, cmp_gt, cmp_ge, cmp_eq, cmp_ne, isi_int, isi_bool, isi_str_int, isi_str, isi_tup, isi_lst, prim_len_l, prim_len_t, prim_len_n, prim_int, prim_max, prim_min, prim_sum, idx_l, idx_t, idx_n, idx_r, rowAt_some, pv_val, pv_own, tru_bl, tru_int, tru_lst, tru_tup, tru_non, decide_true, decide_false, List.getElem?_cons_zero, List.getElem?_cons_succ, List.set_cons_zero, List.set_cons_succ, Option.map_some, Option.bind_some, Option.bind_none, ↓fin_next, ↓fin_ret, forQ_next, forQ_ret, retQ_next, retQ_ret, ite_decide, Bool.not_true, Bool.not_false, if_true, if_false, Bool.true_or, Bool.or_true, Bool.and_true, Bool.true_and, Bool.false_eq_true, reduceCtorEq, ↓reduceIte, ↓cond_true, ↓cond_false, List.length_nil, List.length_cons, Nat.zero_add, Nat.reduceAdd, Int.reduceNeg, Int.reduceToNat, Int.reducePow, List.map_cons, List.map_nil, wipeL, backL, Option.getD_some, cmp_ne_non, at_zero, compBody_0, compBody_1, List.set_set, List.getElem?_set_self, at_row0, at_row1, at_row2, at_row3, ix_row0, ix_row1, ix_row2, ix_row3, rowsL_last, e4]; with_reducible exact rfl
  · exact rfl
  refine wp_seqI (I := fun s => ∃ x5 x11, s = stL ns (some (.own (rowsL l w N))) x3 x4 x5 none none none (some (.val (.int l))) (some (.val (.int d))) x11 none none none o4) _ _ ⟨none, none, rfl⟩ (fun x hx s ⟨x5, x11, e⟩ => ?_) fun s ⟨x5, x11, e⟩ => ?_
  · subst e
    have : ∃ t : Int, x = .int t ∧ 0 ≤ t ∧ t ≤ L l (N : Int) * w + 1 := by
      simp only [List.mem_cons, List.not_mem_nil, or_false] at hx
      rcases hx with rfl | rfl | rfl | rfl | rfl
      all_goals exact ⟨_, rfl, by omega, by omega⟩
    obtain ⟨v, rfl, hv, hv'⟩ := this
    clear hx
    unfold stL
    simp (disch := omega) only [↓eb_glob, ↓eb_cst, ↓eb_bin, ↓eb_neg, ↓eb_not, ↓eb_and, ↓eb_or, ↓eb_cmp, ↓eb_chain, ↓eb_ite, ↓eb_tup, ↓eb_lst, ↓eb_call, ↓eb_prim, ↓eb_isi, ↓eb_app, ↓eb_idx, ↓eb_comp, ↓et_glob, ↓et_cst, ↓et_bin, ↓et_neg, ↓et_tup, ↓et_lst, ↓et_call, ↓et_prim, ↓et_isi, ↓et_app, ↓et_idx, ↓et_comp, ↓eb_var, ↓ev_var, ↓et_var, ↓ev_glob, ↓ev_cst, ↓ev_bin, ↓ev_neg, ↓ev_not, ↓et_not, ↓ev_and, ↓ev_or, ↓et_and, ↓et_or, ↓ev_cmp, ↓et_cmp, ↓et_chain, ↓ev_chain, ↓ev_ite, ↓et_ite, ↓ev_tup, ↓ev_lst, ↓ev_call, ↓ev_prim, ↓ev_isi, ↓ev_app, ↓ev_idx, ↓ev_comp, ↓ebs_nil, ↓ebs_t, ↓ebs_f, ↓der1_v, ↓der2_v, ↓der1_s, ↓der2_vs, ↓der2_sv, ↓der2_ss, ↓ders_nil, ↓ders_v, ↓ders_s, ↓andK_t, ↓andK_f, ↓orK_t, ↓orK_f, ↓andK_b, ↓orK_b, chnK_b, wp_cal, ↓cal_ok, ↓cmpK_some, ↓dst_expr, ↓dst_asg, ↓asg_var, ↓dst_row, ↓dst_par, ↓dst_set, ↓augK_some, ↓dst_aug, ↓dst_if, ↓forK_some, ↓dst_for, ↓dst_ret_var, ↓dst_ret_glob, ↓dst_ret_cst, ↓dst_ret_bin, ↓dst_ret_neg, ↓dst_ret_not, ↓dst_ret_and, ↓dst_ret_or, ↓dst_ret_cmp, ↓dst_ret_chain, ↓dst_ret_ite, ↓dst_ret_tup, ↓dst_ret_lst, ↓dst_ret_call, ↓dst_ret_prim, ↓dst_ret_isi, ↓dst_ret_idx, ↓dst_ret_comp, negP_int, cond_d, appP, isOwn, ↓bind_ok, wp_bind, ↓wp_ok, wpC_ok, ↓lift_some, setP, filled, forBody, asgT, asgTs, itemsP, seqP, rng1, bin_add, bin_sub, bin_mul, bin_fdiv, bin_mod, bin_pow, aug_add, aug_sub, cmp_lt, cmp_le, cmp_gt, cmp_ge, cmp_eq, cmp_ne, isi_int, isi_bool, isi_str_int, isi_str, isi_tup, isi_lst, prim_len_l, prim_len_t, prim_len_n, prim_int, prim_max, prim_min, prim_sum, idx_l, idx_t, idx_n, idx_r, rowAt_some, pv_val, pv_own, tru_bl, tru_int, tru_lst, tru_tup, tru_non, decide_true, decide_false, List.getElem?_cons_zero, List.getElem?_cons_succ, List.set_cons_zero, List.set_cons_succ, Option.map_some, Option.bind_some, Option.bind_none, ↓fin_next, ↓fin_ret, forQ_next, forQ_ret, retQ_next, retQ_ret, ite_decide, Bool.not_true, Bool.not_false, if_true, if_false, Bool.true_or, Bool.or_true, Bool.and_true, Bool.true_and, Bool.false_eq_true, reduceCtorEq, ↓reduceIte, ↓cond_true, ↓cond_false, List.length_nil, List.length_cons, Nat.zero_add, Nat.reduceAdd, Int.reduceNeg, Int.reduceToNat, Int.reducePow, List.map_cons, List.map_nil, wipeL, backL, Option.getD_some, cmp_ne_non, at_zero, compBody_0, compBody_1, List.set_set, List.getElem?_set_self, at_row0, at_row1, at_row2, at_row3, ix_row0, ix_row1, ix_row2, ix_row3]
    have ef := ticks_until_ok (n := 36) (st := [o4]) hl1 (show l ≤ 1000000000000000 by omega) hv (by omega) hd (show d ≤ 4 by omega)
    rw [hwd] at ef
    have hc := compR_rng (own := [14]) (elt := den ⟨callP fs gl 40, gl⟩ (.var 14)) (tg := .var 14) (ifs := dens ⟨callP fs gl 40, gl⟩ [(.cmp .GtE (.idx (.var 2) (.var 14)) (.var 5))]) (n := (16 * l + 6).toNat) (s := ⟨[some (.val (.scr ns)), some (.val (.ref 0)), some (.own (rowsL l w N)), x3, x4, some (.val (.int v)), none, none, none, some (.val (.int l)), some (.val (.int d)), x11, none, none, none], [o4]⟩)
      (fun k => if v ≤ L l k * w then some (.int k) else none) (by show _ ≤ 16777216; omega) (fun k k1 k2 => by
        have hk := rowsL_at l w N k1 (by omega)
        by_cases g : v ≤ L l k * w
        · simp (disch := omega) only [↓eb_glob, ↓eb_cst, ↓eb_bin, ↓eb_neg, ↓eb_not, ↓eb_and, ↓eb_or, ↓eb_cmp, ↓eb_chain, ↓eb_ite, ↓eb_tup, ↓eb_lst, ↓eb_call, ↓eb_prim, ↓eb_isi, ↓eb_app, ↓eb_idx, ↓eb_comp, ↓et_glob, ↓et_cst, ↓et_bin, ↓et_neg, ↓et_tup, ↓et_lst, ↓et_call, ↓et_prim, ↓et_isi, ↓et_app, ↓et_idx, ↓et_comp, ↓eb_var, ↓ev_var, ↓et_var, ↓ev_glob, ↓ev_cst, ↓ev_bin, ↓ev_neg, ↓ev_not, ↓et_not, ↓ev_and, ↓ev_or, ↓et_and, ↓et_or, ↓ev_cmp, ↓et_cmp, ↓et_chain, ↓ev_chain, ↓ev_ite, ↓et_ite, ↓ev_tup, ↓ev_lst, ↓ev_call, ↓ev_prim, ↓ev_isi, ↓ev_app, ↓ev_idx, ↓ev_comp, ↓ebs_nil, ↓ebs_t, ↓ebs_f, ↓der1_v, ↓der2_v, ↓der1_s, ↓der2_vs, ↓der2_sv, ↓der2_ss, ↓ders_nil, ↓ders_v, ↓ders_s, ↓andK_t, ↓andK_f, ↓orK_t, ↓orK_f, ↓andK_b, ↓orK_b, chnK_b, wp_cal, ↓cal_ok, ↓cmpK_some, ↓dst_expr, ↓dst_asg, ↓asg_var, ↓dst_row, ↓dst_par, ↓dst_set, ↓augK_some, ↓dst_aug, ↓dst_if, ↓forK_some, ↓dst_for, ↓dst_ret_var, ↓dst_ret_glob, ↓dst_ret_cst, ↓dst_ret_bin, ↓dst_ret_neg, ↓dst_ret_not, ↓dst_ret_and, ↓dst_ret_or, ↓dst_ret_cmp, ↓dst_ret_chain, ↓dst_ret_ite, ↓dst_ret_tup, ↓dst_ret_lst, ↓dst_ret_call, ↓dst_ret_prim, ↓dst_ret_isi, ↓dst_ret_idx, ↓dst_ret_comp, negP_int, cond_d, appP, isOwn, ↓bind_ok, wp_bind, ↓wp_ok, wpC_ok, ↓lift_some, setP, filled, forBody, asgT, asgTs, itemsP, seqP, rng1, bin_add, bin_sub, bin_mul, bin_fdiv, bin_mod, bin_pow, aug_add, aug_sub, cmp_lt, cmp_le, cmp_gt, cmp_ge, cmp_eq, cmp_ne, isi_int, isi_bool, isi_str_int, isi_str, isi_tup, isi_lst, prim_len_l, prim_len_t, prim_len_n, prim_int, prim_max, prim_min, prim_sum, idx_l, idx_t, idx_n, idx_r, rowAt_some, pv_val, pv_own, tru_bl, tru_int, tru_lst, tru_tup, tru_non, decide_true, decide_false, List.getElem?_cons_zero, List.getElem?_cons_succ, List.set_cons_zero, List.set_cons_succ, Option.map_some, Option.bind_some, Option.bind_none, ↓fin_next, ↓fin_ret, forQ_next, forQ_ret, retQ_next, retQ_ret, ite_decide, Bool.not_true, Bool.not_false, if_true, if_false, Bool.true_or, Bool.or_true, Bool.and_true, Bool.true_and, Bool.false_eq_true, reduceCtorEq, ↓reduceIte, ↓cond_true, ↓cond_false, List.length_nil, List.length_cons, Nat.zero_add, Nat.reduceAdd, Int.reduceNeg, Int.reduceToNat, Int.reducePow, List.map_cons, List.map_nil, wipeL, backL, Option.getD_some, cmp_ne_non, at_zero, compBody_0, compBody_1, List.set_set, List.getElem?_set_self, at_row0, at_row1, at_row2, at_row3, ix_row0, ix_row1, ix_row2, ix_row3, hk, g]
        · simp (disch := omega) only [↓eb_glob, ↓eb_cst, ↓eb_bin, ↓eb_neg, ↓eb_not, ↓eb_and, ↓eb_or, ↓eb_cmp, ↓eb_chain, ↓eb_ite, ↓eb_tup, ↓eb_lst, ↓eb_call, ↓eb_prim, ↓eb_isi, ↓eb_app, ↓eb_idx, ↓eb_comp, ↓et_glob, ↓et_cst, ↓et_bin, ↓et_neg, ↓et_tup, ↓et_lst, ↓et_call, ↓et_prim, ↓et_isi, ↓et_app, ↓et_idx, ↓et_comp, ↓eb_var, ↓ev_var, ↓et_var, ↓ev_glob, ↓ev_cst, ↓ev_bin, ↓ev_neg, ↓ev_not, ↓et_not, ↓ev_and, ↓ev_or, ↓et_and, ↓et_or, ↓ev_cmp, ↓et_cmp, ↓et_chain, ↓ev_chain, ↓ev_ite, ↓et_ite, ↓ev_tup, ↓ev_lst, ↓ev_call, ↓ev_prim, ↓ev_isi, ↓ev_app, ↓ev_idx, ↓ev_comp, ↓ebs_nil, ↓ebs_t, ↓ebs_f, ↓der1_v, ↓der2_v, ↓der1_s, ↓der2_vs, ↓der2_sv, ↓der2_ss, ↓ders_nil, ↓ders_v, ↓ders_s, ↓andK_t, ↓andK_f, ↓orK_t, ↓orK_f, ↓andK_b, ↓orK_b, chnK_b, wp_cal, ↓cal_ok, ↓cmpK_some, ↓dst_expr, ↓dst_asg, ↓asg_var, ↓dst_row, ↓dst_par, ↓dst_set, ↓augK_some, ↓dst_aug, ↓dst_if, ↓forK_some, ↓dst_for, ↓dst_ret_var, ↓dst_ret_glob, ↓dst_ret_cst, ↓dst_ret_bin, ↓dst_ret_neg, ↓dst_ret_not, ↓dst_ret_and, ↓dst_ret_or, ↓dst_ret_cmp, ↓dst_ret_chain, ↓dst_ret_ite, ↓dst_ret_tup, ↓dst_ret_lst, ↓dst_ret_call, ↓dst_ret_prim, ↓dst_ret_isi, ↓dst_ret_idx, ↓dst_ret_comp, negP_int, cond_d, appP, isOwn, ↓bind_ok, wp_bind, ↓wp_ok, wpC_ok, ↓lift_some, setP, filled, forBody, asgT, asgTs, itemsP, seqP, rng1, bin_add, bin_sub, bin_mul, bin_fdiv, bin_mod, bin_pow, aug_add, aug_sub, cmp_lt, cmp_le, cmp_gt, cmp_ge, cmp_eq, cmp_ne, isi_int, isi_bool, isi_str_int, isi_str, isi_tup, isi_lst, prim_len_l, prim_len_t, prim_len_n, prim_int, prim_max, prim_min, prim_sum, idx_l, idx_t, idx_n, idx_r, rowAt_some, pv_val, pv_own, tru_bl, tru_int, tru_lst, tru_tup, tru_non, decide_true, decide_false, List.getElem?_cons_zero, List.getElem?_cons_succ, List.set_cons_zero, List.set_cons_succ, Option.map_some, Option.bind_some, Option.bind_none, ↓fin_next, ↓fin_ret, forQ_next, forQ_ret, retQ_next, retQ_ret, ite_decide, Bool.not_true, Bool.not_false, if_true, if_false, Bool.true_or, Bool.or_true, Bool.and_true, Bool.true_and, Bool.false_eq_true, reduceCtorEq, ↓reduceIte, ↓cond_true, ↓cond_false, List.length_nil, List.length_cons, Nat.zero_add, Nat.reduceAdd, Int.reduceNeg, Int.reduceToNat, Int.reducePow, List.map_cons, List.map_nil, wipeL, backL, Option.getD_some, cmp_ne_non, at_zero, compBody_0, compBody_1, List.set_set, List.getElem?_set_self, at_row0, at_row1, at_row2, at_row3, ix_row0, ix_row1, ix_row2, ix_row3, hk, g])
    have hleft : ∀ X : Int, (v + w - 1) / w ≤ X ↔ v ≤ X * w := fun X => by
      have := @Int.ediv_lt_iff_lt_mul (v + w - 1) (X + 1) w (by omega)
      rw [Int.add_mul] at this
      omega
    have hl0 : 0 ≤ (v + w - 1) / w := Int.ediv_nonneg (by omega) (by omega)
    have tk := tu_ok (life := l) (by omega) ((v + w - 1) / w) hl0 16 0 rfl (.inl rfl)
    have tk' : match TU l ((v + w - 1) / w) with
      | some r => Least l ((v + w - 1) / w) r
      | none => 136 * l < (v + w - 1) / w := by
      have e : TU l ((v + w - 1) / w) = tu l 16 0 ((v + w - 1) / w - sm 0 * l) ((0 : Nat) * l) := by unfold TU; simp [sm]
      rw [e]; exact tk
    clear tk
    cases hT : TU l ((v + w - 1) / w) with
    | some r =>
      rw [hT] at tk' ef
      have tk' : Least l ((v + w - 1) / w) r := tk'
      have hr : r ≤ 16 * l := by
        by_cases g : r ≤ 16 * l
        · exact g
        · have h1 := tk'.2.2 (by omega)
          have h2 := tk'.2.1
          rw [L_end (by omega) (by omega)] at h1
          rw [L_end (by omega) (by omega)] at h2
          omega
      obtain ⟨rest, hg⟩ := keep_head (p := fun k => v ≤ L l k * w) (16 * l + 6).toNat r tk'.1 (by omega) ((hleft _).mp tk'.2.1) (fun j j0 j1 c => by
        have h1 := tk'.2.2 (by omega)
        have h2 := L_le (show 0 < l by omega) j0 (show j ≤ r - 1 by omega)
        have h3 := (hleft _).mpr c
        omega)
      have hk := keep_int (p := fun k => v ≤ L l k * w) (16 * l + 6).toNat
      rw [hg] at hk hc
      apply wp_next; focus (simp (disch := omega) only [↓eb_glob, ↓eb_cst, ↓eb_bin, ↓eb_neg, ↓eb_not, ↓eb_and, ↓eb_or, ↓eb_cmp, ↓eb_chain, ↓eb_ite, ↓eb_tup, ↓eb_lst, ↓eb_call, ↓eb_prim, ↓eb_isi, ↓eb_app, ↓eb_idx, ↓eb_comp, ↓et_glob, ↓et_cst, ↓et_bin, ↓et_neg, ↓et_tup, ↓et_lst, ↓et_call, ↓et_prim, ↓et_isi, ↓et_app, ↓et_idx, ↓et_comp, ↓eb_var, ↓ev_var, ↓et_var, ↓ev_glob, ↓ev_cst, ↓ev_bin, ↓ev_neg, ↓ev_not, ↓et_not, ↓ev_and, ↓ev_or, ↓et_and, ↓et_or, ↓ev_cmp, ↓et_cmp, ↓et_chain, ↓ev_chain, ↓ev_ite, ↓et_ite, ↓ev_tup, ↓ev_lst, ↓ev_call, ↓ev_prim, ↓ev_isi, ↓ev_app, ↓ev_idx, ↓ev_comp, ↓ebs_nil, ↓ebs_t, ↓ebs_f, ↓der1_v, ↓der2_v, ↓der1_s, ↓der2_vs, ↓der2_sv, ↓der2_ss, ↓ders_nil, ↓ders_v, ↓ders_s, ↓andK_t, ↓andK_f, ↓orK_t, ↓orK_f, ↓andK_b, ↓orK_b, chnK_b, wp_cal, ↓cal_ok, ↓cmpK_some, ↓dst_expr, ↓dst_asg, ↓asg_var, ↓dst_row, ↓dst_par, ↓dst_set, ↓augK_some, ↓dst_aug, ↓dst_if, ↓forK_some, ↓dst_for, ↓dst_ret_var, ↓dst_ret_glob, ↓dst_ret_cst, ↓dst_ret_bin, ↓dst_ret_neg, ↓dst_ret_not, ↓dst_ret_and, ↓dst_ret_or, ↓dst_ret_cmp, ↓dst_ret_chain, ↓dst_ret_ite, ↓dst_ret_tup, ↓dst_ret_lst, ↓dst_ret_call, ↓dst_ret_prim, ↓dst_ret_isi, ↓dst_ret_idx, ↓dst_ret_comp, negP_int, cond_d, appP, isOwn, ↓bind_ok, wp_bind, ↓wp_ok, wpC_ok, ↓lift_some, setP, filled, forBody, asgT, asgTs, itemsP, seqP, rng1, bin_add, bin_sub, bin_mul, bin_fdiv, bin_mod, bin_pow, aug_add, aug_sub, cmp_lt, cmp_le, cmp_gt, cmp_ge, cmp_eq, cmp_ne, isi_int, isi_bool, isi_str_int, isi_str, isi_tup, isi_lst, prim_len_l, prim_len_t, prim_len_n, prim_int, prim_max, prim_min, prim_sum, idx_l, idx_t, idx_n, idx_r, rowAt_some, pv_val, pv_own, tru_bl, tru_int, tru_lst, tru_tup, tru_non, decide_true, decide_false, List.getElem?_cons_zero, List.getElem?_cons_succ, List.set_cons_zero, List.set_cons_succ, Option.map_some, Option.bind_some, Option.bind_none, ↓fin_next, ↓fin_ret, forQ_next, forQ_ret, retQ_next, retQ_ret, ite_decide, Bool.not_true, Bool.not_false, if_true, if_false, Bool.true_or, Bool.or_true, Bool.and_true, Bool.true_and, Bool.false_eq_true, reduceCtorEq, ↓reduceIte, ↓cond_true, ↓cond_false, List.length_nil, List.length_cons, Nat.zero_add, Nat.reduceAdd, Int.reduceNeg, Int.reduceToNat, Int.reducePow, List.map_cons, List.map_nil, wipeL, backL, Option.getD_some, cmp_ne_non, at_zero, compBody_0, compBody_1, List.set_set, List.getElem?_set_self, at_row0, at_row1, at_row2, at_row3, ix_row0, ix_row1, ix_row2, ix_row3, hlen, hc]; with_reducible exact rfl)
      apply wp_if (b := false); focus (simp (disch := omega) only [↓eb_glob, ↓eb_cst, ↓eb_bin, ↓eb_neg, ↓eb_not, ↓eb_and, ↓eb_or, ↓eb_cmp, ↓eb_chain, ↓eb_ite, ↓eb_tup, ↓eb_lst, ↓eb_call, ↓eb_prim, ↓eb_isi, ↓eb_app, ↓eb_idx, ↓eb_comp, ↓et_glob, ↓et_cst, ↓et_bin, ↓et_neg, ↓et_tup, ↓et_lst, ↓et_call, ↓et_prim, ↓et_isi, ↓et_app, ↓et_idx, ↓et_comp, ↓eb_var, ↓ev_var, ↓et_var, ↓ev_glob, ↓ev_cst, ↓ev_bin, ↓ev_neg, ↓ev_not, ↓et_not, ↓ev_and, ↓ev_or, ↓et_and, ↓et_or, ↓ev_cmp, ↓et_cmp, ↓et_chain, ↓ev_chain, ↓ev_ite, ↓et_ite, ↓ev_tup, ↓ev_lst, ↓ev_call, ↓ev_prim, ↓ev_isi, ↓ev_app, ↓ev_idx, ↓ev_comp, ↓ebs_nil, ↓ebs_t, ↓ebs_f, ↓der1_v, ↓der2_v, ↓der1_s, ↓der2_vs, ↓der2_sv, ↓der2_ss, ↓ders_nil, ↓ders_v, ↓ders_s, ↓andK_t, ↓andK_f, ↓orK_t, ↓orK_f, ↓andK_b, ↓orK_b, chnK_b, wp_cal, ↓cal_ok, ↓cmpK_some, ↓dst_expr, ↓dst_asg, ↓asg_var, ↓dst_row, ↓dst_par, ↓dst_set, ↓augK_some, ↓dst_aug, ↓dst_if, ↓forK_some, ↓dst_for, ↓dst_ret_var, ↓dst_ret_glob, ↓dst_ret_cst, ↓dst_ret_bin, ↓dst_ret_neg, ↓dst_ret_not, ↓dst_ret_and, ↓dst_ret_or, ↓dst_ret_cmp, ↓dst_ret_chain, ↓dst_ret_ite, ↓dst_ret_tup, ↓dst_ret_lst, ↓dst_ret_call, ↓dst_ret_prim, ↓dst_ret_isi, ↓dst_ret_idx, ↓dst_ret_comp, negP_int, cond_d, appP, isOwn, ↓bind_ok, wp_bind, ↓wp_ok, wpC_ok, ↓lift_some, setP, filled, forBody, asgT, asgTs, itemsP, seqP, rng1, bin_add, bin_sub, bin_mul, bin_fdiv, bin_mod, bin_pow, aug_add, aug_sub, cmp_lt, cmp_le, cmp_gt, cmp_ge, cmp_eq, cmp_ne, isi_int, isi_bool, isi_str_int, isi_str, isi_tup, isi_lst, prim_len_l, prim_len_t, prim_len_n, prim_int, prim_max, prim_min, prim_sum, idx_l, idx_t, idx_n, idx_r, rowAt_some, pv_val, pv_own, tru_bl, tru_int, tru_lst, tru_tup, tru_non, decide_true, decide_false, List.getElem?_cons_zero, List.getElem?_cons_succ, List.set_cons_zero, List.set_cons_succ, Option.map_some, Option.bind_some, Option.bind_none, ↓fin_next, ↓fin_ret, forQ_next, forQ_ret, retQ_next, retQ_ret, ite_decide, Bool.not_true, Bool.not_false, if_true, if_false, Bool.true_or, Bool.or_true, Bool.and_true, Bool.true_and, Bool.false_eq_true, reduceCtorEq, ↓reduceIte, ↓cond_true, ↓cond_false, List.length_nil, List.length_cons, Nat.zero_add, Nat.reduceAdd, Int.reduceNeg, Int.reduceToNat, Int.reducePow, List.map_cons, List.map_nil, wipeL, backL, Option.getD_some, cmp_ne_non, at_zero, compBody_0, compBody_1, List.set_set, List.getElem?_set_self, at_row0, at_row1, at_row2, at_row3, ix_row0, ix_row1, ix_row2, ix_row3, ef, tuV, cmp_ne_cons _ _ hk, beq_self_eq_true]; with_reducible exact rfl)
      exact wp_nilF (wp_nil _ _ _ ⟨_, _, rfl⟩)
    | none =>
      rw [hT] at tk' ef
      have tk' : 136 * l < (v + w - 1) / w := tk'
      have hg := keep_nil (p := fun k => v ≤ L l k * w) (16 * l + 6).toNat (fun j j0 j1 c => by
        have h1 := (hleft _).mpr c
        have h2 := L_le (show 0 < l by omega) j0 (show j ≤ N by omega)
        omega)
      rw [hg] at hc
      apply wp_next; focus (simp (disch := omega) only [↓eb_glob, ↓eb_cst, ↓eb_bin, ↓eb_neg, ↓eb_not, ↓eb_and, ↓eb_or, ↓eb_cmp, ↓eb_chain, ↓eb_ite, ↓eb_tup, ↓eb_lst, ↓eb_call, ↓eb_prim, ↓eb_isi, ↓eb_app, ↓eb_idx, ↓eb_comp, ↓et_glob, ↓et_cst, ↓et_bin, ↓et_neg, ↓et_tup, ↓et_lst, ↓et_call, ↓et_prim, ↓et_isi, ↓et_app, ↓et_idx, ↓et_comp, ↓eb_var, ↓ev_var, ↓et_var, ↓ev_glob, ↓ev_cst, ↓ev_bin, ↓ev_neg, ↓ev_not, ↓et_not, ↓ev_and, ↓ev_or, ↓et_and, ↓et_or, ↓ev_cmp, ↓et_cmp, ↓et_chain, ↓ev_chain, ↓ev_ite, ↓et_ite, ↓ev_tup, ↓ev_lst, ↓ev_call, ↓ev_prim, ↓ev_isi, ↓ev_app, ↓ev_idx, ↓ev_comp, ↓ebs_nil, ↓ebs_t, ↓ebs_f, ↓der1_v, ↓der2_v, ↓der1_s, ↓der2_vs, ↓der2_sv, ↓der2_ss, ↓ders_nil, ↓ders_v, ↓ders_s, ↓andK_t, ↓andK_f, ↓orK_t, ↓orK_f, ↓andK_b, ↓orK_b, chnK_b, wp_cal, ↓cal_ok, ↓cmpK_some, ↓dst_expr, ↓dst_asg, ↓asg_var, ↓dst_row, ↓dst_par, ↓dst_set, ↓augK_some, ↓dst_aug, ↓dst_if, ↓forK_some, ↓dst_for, ↓dst_ret_var, ↓dst_ret_glob, ↓dst_ret_cst, ↓dst_ret_bin, ↓dst_ret_neg, ↓dst_ret_not, ↓dst_ret_and, ↓dst_ret_or, ↓dst_ret_cmp, ↓dst_ret_chain, ↓dst_ret_ite, ↓dst_ret_tup, ↓dst_ret_lst, ↓dst_ret_call, ↓dst_ret_prim, ↓dst_ret_isi, ↓dst_ret_idx, ↓dst_ret_comp, negP_int, cond_d, appP, isOwn, ↓bind_ok, wp_bind, ↓wp_ok, wpC_ok, ↓lift_some, setP, filled, forBody, asgT, asgTs, itemsP, seqP, rng1, bin_add, bin_sub, bin_mul, bin_fdiv, bin_mod, bin_pow, aug_add, aug_sub, cmp_lt, cmp_le, cmp_gt, cmp_ge, cmp_eq, cmp_ne, isi_int, isi_bool, isi_str_int, isi_str, isi_tup, isi_lst, prim_len_l, prim_len_t, prim_len_n, prim_int, prim_max, prim_min, prim_sum, idx_l, idx_t, idx_n, idx_r, rowAt_some, pv_val, pv_own, tru_bl, tru_int, tru_lst, tru_tup, tru_non, decide_true, decide_false, List.getElem?_cons_zero, List.getElem?_cons_succ, List.set_cons_zero, List.set_cons_succ, Option.map_some, Option.bind_some, Option.bind_none, ↓fin_next, ↓fin_ret, forQ_next, forQ_ret, retQ_next, retQ_ret, ite_decide, Bool.not_true, Bool.not_false, if_true, if_false, Bool.true_or, Bool.or_true, Bool.and_true, Bool.true_and, Bool.false_eq_true, reduceCtorEq, ↓reduceIte, ↓cond_true, ↓cond_false, List.length_nil, List.length_cons, Nat.zero_add, Nat.reduceAdd, Int.reduceNeg, Int.reduceToNat, Int.reducePow, List.map_cons, List.map_nil, wipeL, backL, Option.getD_some, cmp_ne_non, at_zero, compBody_0, compBody_1, List.set_set, List.getElem?_set_self, at_row0, at_row1, at_row2, at_row3, ix_row0, ix_row1, ix_row2, ix_row3, hlen, hc]; with_reducible exact rfl)
      apply wp_if (b := false); focus (simp (disch := omega) only [↓eb_glob, ↓eb_cst, ↓eb_bin, ↓eb_neg, ↓eb_not, ↓eb_and, ↓eb_or, ↓eb_cmp, ↓eb_chain, ↓eb_ite, ↓eb_tup, ↓eb_lst, ↓eb_call, ↓eb_prim, ↓eb_isi, ↓eb_app, ↓eb_idx, ↓eb_comp, ↓et_glob, ↓et_cst, ↓et_bin, ↓et_neg, ↓et_tup, ↓et_lst, ↓et_call, ↓et_prim, ↓et_isi, ↓et_app, ↓et_idx, ↓et_comp, ↓eb_var, ↓ev_var, ↓et_var, ↓ev_glob, ↓ev_cst, ↓ev_bin, ↓ev_neg, ↓ev_not, ↓et_not, ↓ev_and, ↓ev_or, ↓et_and, ↓et_or, ↓ev_cmp, ↓et_cmp, ↓et_chain, ↓ev_chain, ↓ev_ite, ↓et_ite, ↓ev_tup, ↓ev_lst, ↓ev_call, ↓ev_prim, ↓ev_isi, ↓ev_app, ↓ev_idx, ↓ev_comp, ↓ebs_nil, ↓ebs_t, ↓ebs_f, ↓der1_v, ↓der2_v, ↓der1_s, ↓der2_vs, ↓der2_sv, ↓der2_ss, ↓ders_nil, ↓ders_v, ↓ders_s, ↓andK_t, ↓andK_f, ↓orK_t, ↓orK_f, ↓andK_b, ↓orK_b, chnK_b, wp_cal, ↓cal_ok, ↓cmpK_some, ↓dst_expr, ↓dst_asg, ↓asg_var, ↓dst_row, ↓dst_par, ↓dst_set, ↓augK_some, ↓dst_aug, ↓dst_if, ↓forK_some, ↓dst_for, ↓dst_ret_var, ↓dst_ret_glob, ↓dst_ret_cst, ↓dst_ret_bin, ↓dst_ret_neg, ↓dst_ret_not, ↓dst_ret_and, ↓dst_ret_or, ↓dst_ret_cmp, ↓dst_ret_chain, ↓dst_ret_ite, ↓dst_ret_tup, ↓dst_ret_lst, ↓dst_ret_call, ↓dst_ret_prim, ↓dst_ret_isi, ↓dst_ret_idx, ↓dst_ret_comp, negP_int, cond_d, appP, isOwn, ↓bind_ok, wp_bind, ↓wp_ok, wpC_ok, ↓lift_some, setP, filled, forBody, asgT, asgTs, itemsP, seqP, rng1, bin_add, bin_sub, bin_mul, bin_fdiv, bin_mod, bin_pow, aug_add, aug_sub, cmp_lt, cmp_le, cmp_gt, cmp_ge, cmp_eq, cmp_ne, isi_int, isi_bool, isi_str_int, isi_str, isi_tup, isi_lst, prim_len_l, prim_len_t, prim_len_n, prim_int, prim_max, prim_min, prim_sum, idx_l, idx_t, idx_n, idx_r, rowAt_some, pv_val, pv_own, tru_bl, tru_int, tru_lst, tru_tup, tru_non, decide_true, decide_false, List.getElem?_cons_zero, List.getElem?_cons_succ, List.set_cons_zero, List.set_cons_succ, Option.map_some, Option.bind_some, Option.bind_none, ↓fin_next, ↓fin_ret, forQ_next, forQ_ret, retQ_next, retQ_ret, ite_decide, Bool.not_true, Bool.not_false, if_true, if_false, Bool.true_or, Bool.or_true, Bool.and_true, Bool.true_and, Bool.false_eq_true, reduceCtorEq, ↓reduceIte, ↓cond_true, ↓cond_false, List.length_nil, List.length_cons, Nat.zero_add, Nat.reduceAdd, Int.reduceNeg, Int.reduceToNat, Int.reducePow, List.map_cons, List.map_nil, wipeL, backL, Option.getD_some, cmp_ne_non, at_zero, compBody_0, compBody_1, List.set_set, List.getElem?_set_self, at_row0, at_row1, at_row2, at_row3, ix_row0, ix_row1, ix_row2, ix_row3, ef, tuV, cmp_ne_nil]; with_reducible exact rfl)
      exact wp_nilF (wp_nil _ _ _ ⟨_, _, rfl⟩)
  subst e
  rw [fin_next]
  unfold stL
  clear e1 e2 e3 e4
  obtain ⟨r5, o5, h5, h5', ho, e5⟩ := taken1 (gl := gl) f_tk 39 ho 1000000000 (by omega) (by omega)
  apply wp_next; focus (simp (disch := omega) only [↓eb_glob, ↓eb_cst, ↓eb_bin, ↓eb_neg, ↓eb_not, ↓eb_and, ↓eb_or, ↓eb_cmp, ↓eb_chain, ↓eb_ite, ↓eb_tup, ↓eb_lst, ↓eb_call, ↓eb_prim, ↓eb_isi, ↓eb_app, ↓eb_idx, ↓eb_comp, ↓et_glob, ↓et_cst, ↓et_bin, ↓et_neg, ↓et_tup, ↓et_lst, ↓et_call, ↓et_prim, ↓et_isi, ↓et_app, ↓et_idx, ↓et_comp, ↓eb_var, ↓ev_var, ↓et_var, ↓ev_glob, ↓ev_cst, ↓ev_bin, ↓ev_neg, ↓ev_not, ↓et_not, ↓ev_and, ↓ev_or, ↓et_and, ↓et_or, ↓ev_cmp, ↓et_cmp, ↓et_chain, ↓ev_chain, ↓ev_ite, ↓et_ite, ↓ev_tup, ↓ev_lst, ↓ev_call, ↓ev_prim, ↓ev_isi, ↓ev_app, ↓ev_idx, ↓ev_comp, ↓ebs_nil, ↓ebs_t, ↓ebs_f, ↓der1_v, ↓der2_v, ↓der1_s, ↓der2_vs, ↓der2_sv, ↓der2_ss, ↓ders_nil, ↓ders_v, ↓ders_s, ↓andK_t, ↓andK_f, ↓orK_t, ↓orK_f, ↓andK_b, ↓orK_b, chnK_b, wp_cal, ↓cal_ok, ↓cmpK_some, ↓dst_expr, ↓dst_asg, ↓asg_var, ↓dst_row, ↓dst_par, ↓dst_set, ↓augK_some, ↓dst_aug, ↓dst_if, ↓forK_some, ↓dst_for, ↓dst_ret_var, ↓dst_ret_glob, ↓dst_ret_cst, ↓dst_ret_bin, ↓dst_ret_neg, ↓dst_ret_not, ↓dst_ret_and, ↓dst_ret_or, ↓dst_ret_cmp, ↓dst_ret_chain, ↓dst_ret_ite, ↓dst_ret_tup, ↓dst_ret_lst, ↓dst_ret_call, ↓dst_ret_prim, ↓dst_ret_isi, ↓dst_ret_idx, ↓dst_ret_comp, negP_int, cond_d, appP, isOwn, ↓bind_ok, wp_bind, ↓wp_ok, wpC_ok, ↓lift_some, setP, filled, forBody, asgT, asgTs, itemsP, seqP, rng1, bin_add, bin_sub, bin_mul, bin_fdiv, bin_mod, bin_pow, aug_add, aug_sub, cmp_lt, cmp_le, cmp_gt, cmp_ge, cmp_eq, cmp_ne, isi_int, isi_bool, isi_str_int, isi_str, isi_tup, isi_lst, prim_len_l, prim_len_t, prim_len_n, prim_int, prim_max, prim_min, prim_sum, idx_l, idx_t, idx_n, idx_r, rowAt_some, pv_val, pv_own, tru_bl, tru_int, tru_lst, tru_tup, tru_non, decide_true, decide_false, List.getElem?_cons_zero, List.getElem?_cons_succ, List.set_cons_zero, List.set_cons_succ, Option.map_some, Option.bind_some, Option.bind_none, ↓fin_next, ↓fin_ret, forQ_next, forQ_ret, retQ_next, retQ_ret, ite_decide, Bool.not_true, Bool.not_false, if_true, if_false, Bool.true_or, Bool.or_true, Bool.and_true, Bool.true_and, Bool.false_eq_true, reduceCtorEq, ↓reduceIte, ↓cond_true, ↓cond_false, List.length_nil, List.length_cons, Nat.zero_add, Nat.reduceAdd, Int.reduceNeg, Int.reduceToNat, Int.reducePow, List.map_cons, List.map_nil, wipeL, backL, Option.getD_some, cmp_ne_non, at_zero, compBody_0, compBody_1, List.set_set, List.getElem?_set_self, at_row0, at_row1, at_row2, at_row3, ix_row0, ix_row1, ix_row2, ix_row3, e5]; with_reducible exact rfl)
  generalize hfar : 1000000000000 + r5 = far
  obtain ⟨r6, o6, h6, h6', ho, e6⟩ := taken1 (gl := gl) f_tk 39 ho 16 (by omega) (by omega)
  obtain ⟨r7, o7, h7, h7', ho, e7⟩ := taken1 (gl := gl) f_tk 39 ho far (by omega) (by omega)
  apply wp_next; focus (simp (disch := omega) only [↓eb_glob, ↓eb_cst, ↓eb_bin, ↓eb_neg, ↓eb_not, ↓eb_and, ↓eb_or, ↓eb_cmp, ↓eb_chain, ↓eb_ite, ↓eb_tup, ↓eb_lst, ↓eb_call, ↓eb_prim, ↓eb_isi, ↓eb_app, ↓eb_idx, ↓eb_comp, ↓et_glob, ↓et_cst, ↓et_bin, ↓et_neg, ↓et_tup, ↓et_lst, ↓et_call, ↓et_prim, ↓et_isi, ↓et_app, ↓et_idx, ↓et_comp, ↓eb_var, ↓ev_var, ↓et_var, ↓ev_glob, ↓ev_cst, ↓ev_bin, ↓ev_neg, ↓ev_not, ↓et_not, ↓ev_and, ↓ev_or, ↓et_and, ↓et_or, ↓ev_cmp, ↓et_cmp, ↓et_chain, ↓ev_chain, ↓ev_ite, ↓et_ite, ↓ev_tup, ↓ev_lst, ↓ev_call, ↓ev_prim, ↓ev_isi, ↓ev_app, ↓ev_idx, ↓ev_comp, ↓ebs_nil, ↓ebs_t, ↓ebs_f, ↓der1_v, ↓der2_v, ↓der1_s, ↓der2_vs, ↓der2_sv, ↓der2_ss, ↓ders_nil, ↓ders_v, ↓ders_s, ↓andK_t, ↓andK_f, ↓orK_t, ↓orK_f, ↓andK_b, ↓orK_b, chnK_b, wp_cal, ↓cal_ok, ↓cmpK_some, ↓dst_expr, ↓dst_asg, ↓asg_var, ↓dst_row, ↓dst_par, ↓dst_set, ↓augK_some, ↓dst_aug, ↓dst_if, ↓forK_some, ↓dst_for, ↓dst_ret_var, ↓dst_ret_glob, ↓dst_ret_cst, ↓dst_ret_bin, ↓dst_ret_neg, ↓dst_ret_not, ↓dst_ret_and, ↓dst_ret_or, ↓dst_ret_cmp, ↓dst_ret_chain, ↓dst_ret_ite, ↓dst_ret_tup, ↓dst_ret_lst, ↓dst_ret_call, ↓dst_ret_prim, ↓dst_ret_isi, ↓dst_ret_idx, ↓dst_ret_comp, negP_int, cond_d, appP, isOwn, ↓bind_ok, wp_bind, ↓wp_ok, wpC_ok, ↓lift_some, setP, filled, forBody, asgT, asgTs, itemsP, seqP, rng1, bin_add, bin_sub, bin_mul, bin_fdiv, bin_mod, bin_pow, aug_add, aug_sub, cmp_lt, cmp_le, cmp_gt, cmp_ge, cmp_eq, cmp_ne, isi_int, isi_bool, isi_str_int, isi_str, isi_tup, isi_lst, prim_len_l, prim_len_t, prim_len_n, prim_int, prim_max, prim_min, prim_sum, idx_l, idx_t, idx_n, idx_r, rowAt_some, pv_val, pv_own, tru_bl, tru_int, tru_lst, tru_tup, tru_non, decide_true, decide_false, List.getElem?_cons_zero, List.getElem?_cons_succ, List.set_cons_zero, List.set_cons_succ, Option.map_some, Option.bind_some, Option.bind_none, ↓fin_next, ↓fin_ret, forQ_next, forQ_ret, retQ_next, retQ_ret, ite_decide, Bool.not_true, Bool.not_false, if_true, if_false, Bool.true_or, Bool.or_true, Bool.and_true, Bool.true_and, Bool.false_eq_true, reduceCtorEq, ↓reduceIte, ↓cond_true, ↓cond_false, List.length_nil, List.length_cons, Nat.zero_add, Nat.reduceAdd, Int.reduceNeg, Int.reduceToNat, Int.reducePow, List.map_cons, List.map_nil, wipeL, backL, Option.getD_some, cmp_ne_non, at_zero, compBody_0, compBody_1, List.set_set, List.getElem?_set_self, at_row0, at_row1, at_row2, at_row3, ix_row0, ix_row1, ix_row2, ix_row3, e6, e7]; with_reducible exact rfl)
  have hwt := weight_ok (n := 39) (st := [o7]) hd (show d ≤ 4 by omega)
  rw [hwd] at hwt
  obtain ⟨m, rfl⟩ : ∃ m : Nat, r6 = m := ⟨r6.toNat, by omega⟩
  have hc := compR_rng (own := [14]) (elt := den ⟨callP fs gl 40, gl⟩ (.bin .Sub (.cst (.int 16)) (.var 14))) (tg := .var 14) (ifs := dens ⟨callP fs gl 40, gl⟩ []) (n := (m : Int).toNat) (s := ⟨[some (.val (.scr ns)), some (.val (.ref 0)), some (.own (rowsL l w N)), x3, x4, x5, some (.val (.int far)), none, none, some (.val (.int l)), some (.val (.int d)), x11, some (.val (.int m)), some (.val (.int r7)), none], [o7]⟩)
      (fun k => some (.int (16 - k))) (by show _ ≤ 16777216; omega) (fun k k1 k2 => by simp (disch := omega) only [↓eb_glob, ↓eb_cst, ↓eb_bin, ↓eb_neg, ↓eb_not, ↓eb_and, ↓eb_or, ↓eb_cmp, ↓eb_chain, ↓eb_ite, ↓eb_tup, ↓eb_lst, ↓eb_call, ↓eb_prim, ↓eb_isi, ↓eb_app, ↓eb_idx, ↓eb_comp, ↓et_glob, ↓et_cst, ↓et_bin, ↓et_neg, ↓et_tup, ↓et_lst, ↓et_call, ↓et_prim, ↓et_isi, ↓et_app, ↓et_idx, ↓et_comp, ↓eb_var, ↓ev_var, ↓et_var, ↓ev_glob, ↓ev_cst, ↓ev_bin, ↓ev_neg, ↓ev_not, ↓et_not, ↓ev_and, ↓ev_or, ↓et_and, ↓et_or, ↓ev_cmp, ↓et_cmp, ↓et_chain, ↓ev_chain, ↓ev_ite, ↓et_ite, ↓ev_tup, ↓ev_lst, ↓ev_call, ↓ev_prim, ↓ev_isi, ↓ev_app, ↓ev_idx, ↓ev_comp, ↓ebs_nil, ↓ebs_t, ↓ebs_f, ↓der1_v, ↓der2_v, ↓der1_s, ↓der2_vs, ↓der2_sv, ↓der2_ss, ↓ders_nil, ↓ders_v, ↓ders_s, ↓andK_t, ↓andK_f, ↓orK_t, ↓orK_f, ↓andK_b, ↓orK_b, chnK_b, wp_cal, ↓cal_ok, ↓cmpK_some, ↓dst_expr, ↓dst_asg, ↓asg_var, ↓dst_row, ↓dst_par, ↓dst_set, ↓augK_some, ↓dst_aug, ↓dst_if, ↓forK_some, ↓dst_for, ↓dst_ret_var, ↓dst_ret_glob, ↓dst_ret_cst, ↓dst_ret_bin, ↓dst_ret_neg, ↓dst_ret_not, ↓dst_ret_and, ↓dst_ret_or, ↓dst_ret_cmp, ↓dst_ret_chain, ↓dst_ret_ite, ↓dst_ret_tup, ↓dst_ret_lst, ↓dst_ret_call, ↓dst_ret_prim, ↓dst_ret_isi, ↓dst_ret_idx, ↓dst_ret_comp, negP_int, cond_d, appP, isOwn, ↓bind_ok, wp_bind, ↓wp_ok, wpC_ok, ↓lift_some, setP, filled, forBody, asgT, asgTs, itemsP, seqP, rng1, bin_add, bin_sub, bin_mul, bin_fdiv, bin_mod, bin_pow, aug_add, aug_sub, cmp_lt, cmp_le, cmp_gt, cmp_ge, cmp_eq, cmp_ne, isi_int, isi_bool, isi_str_int, isi_str, isi_tup, isi_lst, prim_len_l, prim_len_t, prim_len_n, prim_int, prim_max, prim_min, prim_sum, idx_l, idx_t, idx_n, idx_r, rowAt_some, pv_val, pv_own, tru_bl, tru_int, tru_lst, tru_tup, tru_non, decide_true, decide_false, List.getElem?_cons_zero, List.getElem?_cons_succ, List.set_cons_zero, List.set_cons_succ, Option.map_some, Option.bind_some, Option.bind_none, ↓fin_next, ↓fin_ret, forQ_next, forQ_ret, retQ_next, retQ_ret, ite_decide, Bool.not_true, Bool.not_false, if_true, if_false, Bool.true_or, Bool.or_true, Bool.and_true, Bool.true_and, Bool.false_eq_true, reduceCtorEq, ↓reduceIte, ↓cond_true, ↓cond_false, List.length_nil, List.length_cons, Nat.zero_add, Nat.reduceAdd, Int.reduceNeg, Int.reduceToNat, Int.reducePow, List.map_cons, List.map_nil, wipeL, backL, Option.getD_some, cmp_ne_non, at_zero, compBody_0, compBody_1, List.set_set, List.getElem?_set_self, at_row0, at_row1, at_row2, at_row3, ix_row0, ix_row1, ix_row2, ix_row3])
  obtain ⟨zs, hz, hz'⟩ : ∃ zs, unInts ((List.range (m : Int).toNat).filterMap fun (j : Nat) => some (PV.int (16 - (j : Int)))) = some zs ∧ zs.sum = sm m := sm_ok m
  have hsm : 0 ≤ sm m ∧ sm m ≤ 136 := sm_bd m (by omega)
  apply wp_next; focus (simp (disch := omega) only [↓eb_glob, ↓eb_cst, ↓eb_bin, ↓eb_neg, ↓eb_not, ↓eb_and, ↓eb_or, ↓eb_cmp, ↓eb_chain, ↓eb_ite, ↓eb_tup, ↓eb_lst, ↓eb_call, ↓eb_prim, ↓eb_isi, ↓eb_app, ↓eb_idx, ↓eb_comp, ↓et_glob, ↓et_cst, ↓et_bin, ↓et_neg, ↓et_tup, ↓et_lst, ↓et_call, ↓et_prim, ↓et_isi, ↓et_app, ↓et_idx, ↓et_comp, ↓eb_var, ↓ev_var, ↓et_var, ↓ev_glob, ↓ev_cst, ↓ev_bin, ↓ev_neg, ↓ev_not, ↓et_not, ↓ev_and, ↓ev_or, ↓et_and, ↓et_or, ↓ev_cmp, ↓et_cmp, ↓et_chain, ↓ev_chain, ↓ev_ite, ↓et_ite, ↓ev_tup, ↓ev_lst, ↓ev_call, ↓ev_prim, ↓ev_isi, ↓ev_app, ↓ev_idx, ↓ev_comp, ↓ebs_nil, ↓ebs_t, ↓ebs_f, ↓der1_v, ↓der2_v, ↓der1_s, ↓der2_vs, ↓der2_sv, ↓der2_ss, ↓ders_nil, ↓ders_v, ↓ders_s, ↓andK_t, ↓andK_f, ↓orK_t, ↓orK_f, ↓andK_b, ↓orK_b, chnK_b, wp_cal, ↓cal_ok, ↓cmpK_some, ↓dst_expr, ↓dst_asg, ↓asg_var, ↓dst_row, ↓dst_par, ↓dst_set, ↓augK_some, ↓dst_aug, ↓dst_if, ↓forK_some, ↓dst_for, ↓dst_ret_var, ↓dst_ret_glob, ↓dst_ret_cst, ↓dst_ret_bin, ↓dst_ret_neg, ↓dst_ret_not, ↓dst_ret_and, ↓dst_ret_or, ↓dst_ret_cmp, ↓dst_ret_chain, ↓dst_ret_ite, ↓dst_ret_tup, ↓dst_ret_lst, ↓dst_ret_call, ↓dst_ret_prim, ↓dst_ret_isi, ↓dst_ret_idx, ↓dst_ret_comp, negP_int, cond_d, appP, isOwn, ↓bind_ok, wp_bind, ↓wp_ok, wpC_ok, ↓lift_some, setP, filled, forBody, asgT, asgTs, itemsP, seqP, rng1, bin_add, bin_sub, bin_mul, bin_fdiv, bin_mod, bin_pow, aug_add, aug_sub, cmp_lt, cmp_le, cmp_gt, cmp_ge, cmp_eq, cmp_ne, isi_int, isi_bool, isi_str_int, isi_str, isi_tup, isi_lst, prim_len_l, prim_len_t, prim_len_n, prim_int, prim_max, prim_min, prim_sum, idx_l, idx_t, idx_n, idx_r, rowAt_some, pv_val, pv_own, tru_bl, tru_int, tru_lst, tru_tup, tru_non, decide_true, decide_false, List.getElem?_cons_zero, List.getElem?_cons_succ, List.set_cons_zero, List.set_cons_succ, Option.map_some, Option.bind_some, Option.bind_none, ↓fin_next, ↓fin_ret, forQ_next, forQ_ret, retQ_next, retQ_ret, ite_decide, Bool.not_true, Bool.not_false, if_true, if_false, Bool.true_or, Bool.or_true, Bool.and_true, Bool.true_and, Bool.false_eq_true, reduceCtorEq, ↓reduceIte, ↓cond_true, ↓cond_false, List.length_nil, List.length_cons, Nat.zero_add, Nat.reduceAdd, Int.reduceNeg, Int.reduceToNat, Int.reducePow, List.map_cons, List.map_nil, wipeL, backL, Option.getD_some, cmp_ne_non, at_zero, compBody_0, compBody_1, List.set_set, List.getElem?_set_self, at_row0, at_row1, at_row2, at_row3, ix_row0, ix_row1, ix_row2, ix_row3, hc, hz, hz']; with_reducible exact rfl)
  have hL : L far ((m : Int) * far + r7) = far * sm m + r7 * (16 - (m : Int)) := by
    rw [L_at h7 (by omega) (by omega) (by omega), Int.mul_comm (sm m), Int.mul_comm r7]
  have hmf : 0 ≤ (m : Int) * far ∧ (m : Int) * far ≤ 15 * far := ⟨Int.mul_nonneg (by omega) (by omega), Int.mul_le_mul_of_nonneg_right (by omega) (by omega)⟩
  have hdue : 0 ≤ far * sm m + r7 * (16 - (m : Int)) ∧ far * sm m + r7 * (16 - (m : Int)) ≤ 136 * far := by
    rw [← hL]
    refine ⟨?_, ?_⟩
    · have := L_le (life := far) (by omega) (show (0 : Int) ≤ 0 by omega) (show (0 : Int) ≤ (m : Int) * far + r7 by omega)
      rw [L_zero (by omega)] at this
      exact this
    · have := L_le (life := far) (by omega) (show (0 : Int) ≤ (m : Int) * far + r7 by omega) (show (m : Int) * far + r7 ≤ 16 * far by omega)
      rw [L_end (t := 16 * far) (by omega) (by omega)] at this
      exact this
  have ef := faded_ok (n := 36) (st := [o7]) (show 1 ≤ far by omega) (show far ≤ 1000000000000000 by omega) (show 0 ≤ (m : Int) * far + r7 by omega) (by omega) hd (show d ≤ 4 by omega)
  rw [hwd, hL] at ef
  generalize hdu : far * sm m + r7 * (16 - (m : Int)) = due at *
  apply wp_if (b := false); focus (simp (disch := omega) only [↓eb_glob, ↓eb_cst, ↓eb_bin, ↓eb_neg, ↓eb_not, ↓eb_and, ↓eb_or, ↓eb_cmp, ↓eb_chain, ↓eb_ite, ↓eb_tup, ↓eb_lst, ↓eb_call, ↓eb_prim, ↓eb_isi, ↓eb_app, ↓eb_idx, ↓eb_comp, ↓et_glob, ↓et_cst, ↓et_bin, ↓et_neg, ↓et_tup, ↓et_lst, ↓et_call, ↓et_prim, ↓et_isi, ↓et_app, ↓et_idx, ↓et_comp, ↓eb_var, ↓ev_var, ↓et_var, ↓ev_glob, ↓ev_cst, ↓ev_bin, ↓ev_neg, ↓ev_not, ↓et_not, ↓ev_and, ↓ev_or, ↓et_and, ↓et_or, ↓ev_cmp, ↓et_cmp, ↓et_chain, ↓ev_chain, ↓ev_ite, ↓et_ite, ↓ev_tup, ↓ev_lst, ↓ev_call, ↓ev_prim, ↓ev_isi, ↓ev_app, ↓ev_idx, ↓ev_comp, ↓ebs_nil, ↓ebs_t, ↓ebs_f, ↓der1_v, ↓der2_v, ↓der1_s, ↓der2_vs, ↓der2_sv, ↓der2_ss, ↓ders_nil, ↓ders_v, ↓ders_s, ↓andK_t, ↓andK_f, ↓orK_t, ↓orK_f, ↓andK_b, ↓orK_b, chnK_b, wp_cal, ↓cal_ok, ↓cmpK_some, ↓dst_expr, ↓dst_asg, ↓asg_var, ↓dst_row, ↓dst_par, ↓dst_set, ↓augK_some, ↓dst_aug, ↓dst_if, ↓forK_some, ↓dst_for, ↓dst_ret_var, ↓dst_ret_glob, ↓dst_ret_cst, ↓dst_ret_bin, ↓dst_ret_neg, ↓dst_ret_not, ↓dst_ret_and, ↓dst_ret_or, ↓dst_ret_cmp, ↓dst_ret_chain, ↓dst_ret_ite, ↓dst_ret_tup, ↓dst_ret_lst, ↓dst_ret_call, ↓dst_ret_prim, ↓dst_ret_isi, ↓dst_ret_idx, ↓dst_ret_comp, negP_int, cond_d, appP, isOwn, ↓bind_ok, wp_bind, ↓wp_ok, wpC_ok, ↓lift_some, setP, filled, forBody, asgT, asgTs, itemsP, seqP, rng1, bin_add, bin_sub, bin_mul, bin_fdiv, bin_mod, bin_pow, aug_add, aug_sub, cmp_lt, cmp_le, cmp_gt, cmp_ge, cmp_eq, cmp_ne, isi_int, isi_bool, isi_str_int, isi_str, isi_tup, isi_lst, prim_len_l, prim_len_t, prim_len_n, prim_int, prim_max, prim_min, prim_sum, idx_l, idx_t, idx_n, idx_r, rowAt_some, pv_val, pv_own, tru_bl, tru_int, tru_lst, tru_tup, tru_non, decide_true, decide_false, List.getElem?_cons_zero, List.getElem?_cons_succ, List.set_cons_zero, List.set_cons_succ, Option.map_some, Option.bind_some, Option.bind_none, ↓fin_next, ↓fin_ret, forQ_next, forQ_ret, retQ_next, retQ_ret, ite_decide, Bool.not_true, Bool.not_false, if_true, if_false, Bool.true_or, Bool.or_true, Bool.and_true, Bool.true_and, Bool.false_eq_true, reduceCtorEq, ↓reduceIte, ↓cond_true, ↓cond_false, List.length_nil, List.length_cons, Nat.zero_add, Nat.reduceAdd, Int.reduceNeg, Int.reduceToNat, Int.reducePow, List.map_cons, List.map_nil, wipeL, backL, Option.getD_some, cmp_ne_non, at_zero, compBody_0, compBody_1, List.set_set, List.getElem?_set_self, at_row0, at_row1, at_row2, at_row3, ix_row0, ix_row1, ix_row2, ix_row3, ef, hwt, beq_self_eq_true]; with_reducible exact rfl)
  refine wp_nilF ?_
  have hdw : 0 ≤ due * w ∧ due * w ≤ 136 * far * 16 := ⟨Int.mul_nonneg hdue.1 (by omega), Int.mul_le_mul hdue.2 hw.2 (by omega) (by omega)⟩
  have et := ticks_until_ok (n := 36) (st := [o7]) (show 1 ≤ far by omega) (show far ≤ 1000000000000000 by omega) hdw.1 (by omega) hd (show d ≤ 4 by omega)
  have ed : (due * w + w - 1) / w = due := by
    rw [show due * w + w - 1 = (w - 1) + due * w by omega, Int.add_mul_ediv_right _ _ (by omega), Int.ediv_eq_zero_of_lt (by omega) (by omega), Int.zero_add]
  rw [hwd, ed] at et
  have eT : TU far due = some ((m : Int) * far + r7) := by
    have tk := tu_ok (life := far) (by omega) due hdue.1 16 0 rfl (.inl rfl)
    have e : TU far due = tu far 16 0 (due - sm 0 * far) ((0 : Nat) * far) := by unfold TU; simp [sm]
    rw [← e] at tk
    have hme : Least far due ((m : Int) * far + r7) := ⟨by omega, by rw [hL]; omega, fun hp => by
      have := L_lt (life := far) (t := (m : Int) * far + r7 - 1) (by omega) (by omega) (by omega)
      rw [show (m : Int) * far + r7 - 1 + 1 = (m : Int) * far + r7 by omega, hL] at this
      exact this⟩
    cases hT : TU far due with
    | some r =>
      rw [hT] at tk
      have tk : Least far due r := tk
      rw [Least.uniq (by omega) tk hme]
    | none =>
      rw [hT] at tk
      have tk : 136 * far < due := tk
      omega
  rw [eT] at et
  apply wp_next; focus (simp (disch := omega) only [↓eb_glob, ↓eb_cst, ↓eb_bin, ↓eb_neg, ↓eb_not, ↓eb_and, ↓eb_or, ↓eb_cmp, ↓eb_chain, ↓eb_ite, ↓eb_tup, ↓eb_lst, ↓eb_call, ↓eb_prim, ↓eb_isi, ↓eb_app, ↓eb_idx, ↓eb_comp, ↓et_glob, ↓et_cst, ↓et_bin, ↓et_neg, ↓et_tup, ↓et_lst, ↓et_call, ↓et_prim, ↓et_isi, ↓et_app, ↓et_idx, ↓et_comp, ↓eb_var, ↓ev_var, ↓et_var, ↓ev_glob, ↓ev_cst, ↓ev_bin, ↓ev_neg, ↓ev_not, ↓et_not, ↓ev_and, ↓ev_or, ↓et_and, ↓et_or, ↓ev_cmp, ↓et_cmp, ↓et_chain, ↓ev_chain, ↓ev_ite, ↓et_ite, ↓ev_tup, ↓ev_lst, ↓ev_call, ↓ev_prim, ↓ev_isi, ↓ev_app, ↓ev_idx, ↓ev_comp, ↓ebs_nil, ↓ebs_t, ↓ebs_f, ↓der1_v, ↓der2_v, ↓der1_s, ↓der2_vs, ↓der2_sv, ↓der2_ss, ↓ders_nil, ↓ders_v, ↓ders_s, ↓andK_t, ↓andK_f, ↓orK_t, ↓orK_f, ↓andK_b, ↓orK_b, chnK_b, wp_cal, ↓cal_ok, ↓cmpK_some, ↓dst_expr, ↓dst_asg, ↓asg_var, ↓dst_row, ↓dst_par, ↓dst_set, ↓augK_some, ↓dst_aug, ↓dst_if, ↓forK_some, ↓dst_for, ↓dst_ret_var, ↓dst_ret_glob, ↓dst_ret_cst, ↓dst_ret_bin, ↓dst_ret_neg, ↓dst_ret_not, ↓dst_ret_and, ↓dst_ret_or, ↓dst_ret_cmp, ↓dst_ret_chain, ↓dst_ret_ite, ↓dst_ret_tup, ↓dst_ret_lst, ↓dst_ret_call, ↓dst_ret_prim, ↓dst_ret_isi, ↓dst_ret_idx, ↓dst_ret_comp, negP_int, cond_d, appP, isOwn, ↓bind_ok, wp_bind, ↓wp_ok, wpC_ok, ↓lift_some, setP, filled, forBody, asgT, asgTs, itemsP, seqP, rng1, bin_add, bin_sub, bin_mul, bin_fdiv, bin_mod, bin_pow, aug_add, aug_sub, cmp_lt, cmp_le, cmp_gt, cmp_ge, cmp_eq, cmp_ne, isi_int, isi_bool, isi_str_int, isi_str, isi_tup, isi_lst, prim_len_l, prim_len_t, prim_len_n, prim_int, prim_max, prim_min, prim_sum, idx_l, idx_t, idx_n, idx_r, rowAt_some, pv_val, pv_own, tru_bl, tru_int, tru_lst, tru_tup, tru_non, decide_true, decide_false, List.getElem?_cons_zero, List.getElem?_cons_succ, List.set_cons_zero, List.set_cons_succ, Option.map_some, Option.bind_some, Option.bind_none, ↓fin_next, ↓fin_ret, forQ_next, forQ_ret, retQ_next, retQ_ret, ite_decide, Bool.not_true, Bool.not_false, if_true, if_false, Bool.true_or, Bool.or_true, Bool.and_true, Bool.true_and, Bool.false_eq_true, reduceCtorEq, ↓reduceIte, ↓cond_true, ↓cond_false, List.length_nil, List.length_cons, Nat.zero_add, Nat.reduceAdd, Int.reduceNeg, Int.reduceToNat, Int.reducePow, List.map_cons, List.map_nil, wipeL, backL, Option.getD_some, cmp_ne_non, at_zero, compBody_0, compBody_1, List.set_set, List.getElem?_set_self, at_row0, at_row1, at_row2, at_row3, ix_row0, ix_row1, ix_row2, ix_row3, et, hwt, tuV]; with_reducible exact rfl)
  apply wp_if (b := false); focus (simp (disch := omega) only [↓eb_glob, ↓eb_cst, ↓eb_bin, ↓eb_neg, ↓eb_not, ↓eb_and, ↓eb_or, ↓eb_cmp, ↓eb_chain, ↓eb_ite, ↓eb_tup, ↓eb_lst, ↓eb_call, ↓eb_prim, ↓eb_isi, ↓eb_app, ↓eb_idx, ↓eb_comp, ↓et_glob, ↓et_cst, ↓et_bin, ↓et_neg, ↓et_tup, ↓et_lst, ↓et_call, ↓et_prim, ↓et_isi, ↓et_app, ↓et_idx, ↓et_comp, ↓eb_var, ↓ev_var, ↓et_var, ↓ev_glob, ↓ev_cst, ↓ev_bin, ↓ev_neg, ↓ev_not, ↓et_not, ↓ev_and, ↓ev_or, ↓et_and, ↓et_or, ↓ev_cmp, ↓et_cmp, ↓et_chain, ↓ev_chain, ↓ev_ite, ↓et_ite, ↓ev_tup, ↓ev_lst, ↓ev_call, ↓ev_prim, ↓ev_isi, ↓ev_app, ↓ev_idx, ↓ev_comp, ↓ebs_nil, ↓ebs_t, ↓ebs_f, ↓der1_v, ↓der2_v, ↓der1_s, ↓der2_vs, ↓der2_sv, ↓der2_ss, ↓ders_nil, ↓ders_v, ↓ders_s, ↓andK_t, ↓andK_f, ↓orK_t, ↓orK_f, ↓andK_b, ↓orK_b, chnK_b, wp_cal, ↓cal_ok, ↓cmpK_some, ↓dst_expr, ↓dst_asg, ↓asg_var, ↓dst_row, ↓dst_par, ↓dst_set, ↓augK_some, ↓dst_aug, ↓dst_if, ↓forK_some, ↓dst_for, ↓dst_ret_var, ↓dst_ret_glob, ↓dst_ret_cst, ↓dst_ret_bin, ↓dst_ret_neg, ↓dst_ret_not, ↓dst_ret_and, ↓dst_ret_or, ↓dst_ret_cmp, ↓dst_ret_chain, ↓dst_ret_ite, ↓dst_ret_tup, ↓dst_ret_lst, ↓dst_ret_call, ↓dst_ret_prim, ↓dst_ret_isi, ↓dst_ret_idx, ↓dst_ret_comp, negP_int, cond_d, appP, isOwn, ↓bind_ok, wp_bind, ↓wp_ok, wpC_ok, ↓lift_some, setP, filled, forBody, asgT, asgTs, itemsP, seqP, rng1, bin_add, bin_sub, bin_mul, bin_fdiv, bin_mod, bin_pow, aug_add, aug_sub, cmp_lt, cmp_le, cmp_gt, cmp_ge, cmp_eq, cmp_ne, isi_int, isi_bool, isi_str_int, isi_str, isi_tup, isi_lst, prim_len_l, prim_len_t, prim_len_n, prim_int, prim_max, prim_min, prim_sum, idx_l, idx_t, idx_n, idx_r, rowAt_some, pv_val, pv_own, tru_bl, tru_int, tru_lst, tru_tup, tru_non, decide_true, decide_false, List.getElem?_cons_zero, List.getElem?_cons_succ, List.set_cons_zero, List.set_cons_succ, Option.map_some, Option.bind_some, Option.bind_none, ↓fin_next, ↓fin_ret, forQ_next, forQ_ret, retQ_next, retQ_ret, ite_decide, Bool.not_true, Bool.not_false, if_true, if_false, Bool.true_or, Bool.or_true, Bool.and_true, Bool.true_and, Bool.false_eq_true, reduceCtorEq, ↓reduceIte, ↓cond_true, ↓cond_false, List.length_nil, List.length_cons, Nat.zero_add, Nat.reduceAdd, Int.reduceNeg, Int.reduceToNat, Int.reducePow, List.map_cons, List.map_nil, wipeL, backL, Option.getD_some, cmp_ne_non, at_zero, compBody_0, compBody_1, List.set_set, List.getElem?_set_self, at_row0, at_row1, at_row2, at_row3, ix_row0, ix_row1, ix_row2, ix_row3, beq_self_eq_true]; with_reducible exact rfl)
  refine wp_nilF ?_
  have ef1 := faded_ok (n := 36) (st := [o7]) (show 1 ≤ far by omega) (show far ≤ 1000000000000000 by omega) (show (0 : Int) ≤ 1000000000000000000 by omega) (by omega) hd (show d ≤ 4 by omega)
  have ef2 := faded_ok (n := 36) (st := [o7]) (show 1 ≤ far by omega) (show far ≤ 1000000000000000 by omega) (show (0 : Int) ≤ 16 * far by omega) (by omega) (show (0 : Int) ≤ 4 by omega) (show (4 : Int) ≤ 4 by omega)
  rw [hwd, L_end (by omega) (by omega)] at ef1
  rw [L_end (by omega) (by omega), show wt 4 = 1 from rfl, Int.mul_one] at ef2
  apply wp_ret; focus (simp (disch := omega) only [↓eb_glob, ↓eb_cst, ↓eb_bin, ↓eb_neg, ↓eb_not, ↓eb_and, ↓eb_or, ↓eb_cmp, ↓eb_chain, ↓eb_ite, ↓eb_tup, ↓eb_lst, ↓eb_call, ↓eb_prim, ↓eb_isi, ↓eb_app, ↓eb_idx, ↓eb_comp, ↓et_glob, ↓et_cst, ↓et_bin, ↓et_neg, ↓et_tup, ↓et_lst, ↓et_call, ↓et_prim, ↓et_isi, ↓et_app, ↓et_idx, ↓et_comp, ↓eb_var, ↓ev_var, ↓et_var, ↓ev_glob, ↓ev_cst, ↓ev_bin, ↓ev_neg, ↓ev_not, ↓et_not, ↓ev_and, ↓ev_or, ↓et_and, ↓et_or, ↓ev_cmp, ↓et_cmp, ↓et_chain, ↓ev_chain, ↓ev_ite, ↓et_ite, ↓ev_tup, ↓ev_lst, ↓ev_call, ↓ev_prim, ↓ev_isi, ↓ev_app, ↓ev_idx, ↓ev_comp, ↓ebs_nil, ↓ebs_t, ↓ebs_f, ↓der1_v, ↓der2_v, ↓der1_s, ↓der2_vs, ↓der2_sv, ↓der2_ss, ↓ders_nil, ↓ders_v, ↓ders_s, ↓andK_t, ↓andK_f, ↓orK_t, ↓orK_f, ↓andK_b, ↓orK_b, chnK_b, wp_cal, ↓cal_ok, ↓cmpK_some, ↓dst_expr, ↓dst_asg, ↓asg_var, ↓dst_row, ↓dst_par, ↓dst_set, ↓augK_some, ↓dst_aug, ↓dst_if, ↓forK_some, ↓dst_for, ↓dst_ret_var, ↓dst_ret_glob, ↓dst_ret_cst, ↓dst_ret_bin, ↓dst_ret_neg, ↓dst_ret_not, ↓dst_ret_and, ↓dst_ret_or, ↓dst_ret_cmp, ↓dst_ret_chain, ↓dst_ret_ite, ↓dst_ret_tup, ↓dst_ret_lst, ↓dst_ret_call, ↓dst_ret_prim, ↓dst_ret_isi, ↓dst_ret_idx, ↓dst_ret_comp, negP_int, cond_d, appP, isOwn, ↓bind_ok, wp_bind, ↓wp_ok, wpC_ok, ↓lift_some, setP, filled, forBody, asgT, asgTs, itemsP, seqP, rng1, bin_add, bin_sub, bin_mul, bin_fdiv, bin_mod, bin_pow, aug_add, aug_sub, cmp_lt, cmp_le, cmp_gt, cmp_ge, cmp_eq, cmp_ne, isi_int, isi_bool, isi_str_int, isi_str, isi_tup, isi_lst, prim_len_l, prim_len_t, prim_len_n, prim_int, prim_max, prim_min, prim_sum, idx_l, idx_t, idx_n, idx_r, rowAt_some, pv_val, pv_own, tru_bl, tru_int, tru_lst, tru_tup, tru_non, decide_true, decide_false, List.getElem?_cons_zero, List.getElem?_cons_succ, List.set_cons_zero, List.set_cons_succ, Option.map_some, Option.bind_some, Option.bind_none, ↓fin_next, ↓fin_ret, forQ_next, forQ_ret, retQ_next, retQ_ret, ite_decide, Bool.not_true, Bool.not_false, if_true, if_false, Bool.true_or, Bool.or_true, Bool.and_true, Bool.true_and, Bool.false_eq_true, reduceCtorEq, ↓reduceIte, ↓cond_true, ↓cond_false, List.length_nil, List.length_cons, Nat.zero_add, Nat.reduceAdd, Int.reduceNeg, Int.reduceToNat, Int.reducePow, List.map_cons, List.map_nil, wipeL, backL, Option.getD_some, cmp_ne_non, at_zero, compBody_0, compBody_1, List.set_set, List.getElem?_set_self, at_row0, at_row1, at_row2, at_row3, ix_row0, ix_row1, ix_row2, ix_row3, ef1, ef2, hwt, beq_self_eq_true]; with_reducible exact rfl)
  exact rfl
theorem pure_law : ∀ ns : List Int, ns.length ≤ 63 → (∀ z ∈ ns, Builtin.Int.intBits z ≤ 1048576) → ∃ st, callP (fsOf defs) (glOf gs) 41 "law" [.scr ns] [] = .ok (.val (.bl true)) st := fun ns _ _ => by
  obtain ⟨v, st, e, rfl⟩ := (law_ok ns).get
  exact ⟨st, e⟩
end PI.Law


open PySem PySem.W PyProof.Rows in
set_option maxRecDepth 100000 in
set_option maxHeartbeats 0 in
theorem PySem.Challenge.cw_maskedprints_k14_whole_lamps_that_fade_holds : PySem.Challenge.rw_maskedprints_k14_whole_lamps_that_fade.Holds := by
  w_on; o_law; k_head; (case hw => w_witness2)
  k_fill
  refine PI.walk_law (l := PySem.Challenge.rw_maskedprints_k14_whole_lamps_that_fade) (k := 40) (x := "_law_script") (defs := PI.Law.defs) (gs := PI.Law.gs) (bi := PI.Law.bi) (dl := PI.Law.d_law) rfl rfl ⟨rfl, by decide, by decide⟩ (fun w h Y => PySem.W.kIn_of Y) PI.Law.checked PI.Law.found rfl (fun _ _ _ _ _ _ _ => rfl) ?HF PI.Law.pure_law
  case HF =>
    intro w mg h KX G
    refine' PI.Law.head KX G ?a0 ?l0 ?c0 ?k0 ?a1 ?l1 ?c1 ?k1 ?a2 ?l2 ?c2 ?k2 ?a3 ?l3 ?c3 ?k3 ?a4 ?l4 ?c4 ?k4 ?a5 ?l5 ?c5 ?k5 ?a6 ?l6 ?c6 ?k6 ?a7 ?l7 ?c7 ?k7 ?a8 ?l8 ?c8 ?k8 ?gv0 ?gv1 ?gv2 ?gv3 ?gv4 ?z0 ?z1 ?z2 ?z3 ?z4 ?z5 ?z6 ?z7
    (case a0 => k_is)
    (case l0 => k_is)
    (case c0 => k_is)
    (case k0 => k_is)
    (case a1 => k_is)
    (case l1 => k_is)
    (case c1 => k_is)
    (case k1 => k_is)
    (case a2 => k_is)
    (case l2 => k_is)
    (case c2 => k_is)
    (case k2 => k_is)
    (case a3 => k_is)
    (case l3 => k_is)
    (case c3 => k_is)
    (case k3 => k_is)
    (case a4 => k_is)
    (case l4 => k_is)
    (case c4 => k_is)
    (case k4 => k_is)
    (case a5 => k_is)
    (case l5 => k_is)
    (case c5 => k_is)
    (case k5 => k_is)
    (case a6 => k_is)
    (case l6 => k_is)
    (case c6 => k_is)
    (case k6 => k_is)
    (case a7 => k_is)
    (case l7 => k_is)
    (case c7 => k_is)
    (case k7 => k_is)
    (case a8 => k_is)
    (case l8 => k_is)
    (case c8 => k_is)
    (case k8 => k_is)
    (case gv0 => exact PI.hg_int (by k_is))
    (case gv1 => exact PI.hg_int (by k_is))
    (case gv2 => exact PI.hg_int (by k_is))
    (case gv3 => exact PI.hg_int (by k_is))
    (case gv4 => refine' PI.hg_tup ?h1 ?h2 ?h3 ?h4; (case h1 => k_is); (case h2 => k_is); (case h3 => rfl); (case h4 => decide))
    (case z0 => k_is)
    (case z1 => k_is)
    (case z2 => k_is)
    (case z3 => k_is)
    (case z4 => k_is)
    (case z5 => k_is)
    (case z6 => k_is)
    (case z7 => k_is)
